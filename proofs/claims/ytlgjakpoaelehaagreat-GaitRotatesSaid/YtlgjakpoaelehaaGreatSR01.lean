/- Contracts and plain laws, merged: W4 W5 -/
import Derived.Test.YtlgjakpoaelehaaGreatSB15
import Derived.Test.YtlgjakpoaelehaaGreatSB24
namespace Go.Proofs.YtlgjakpoaelehaaGreat
open Go.RowKit
set_option maxRecDepth 100000
set_option maxHeartbeats 16000000
noncomputable def roReg24:Code:=((Tryz.f8.body.bind (regionOf 24)).getD .skip)
noncomputable def roReg25:Code:=((Tryz.f8.body.bind (regionOf 25)).getD .skip)
theorem roReg24_c {W8:World}{B13 L1:Nat}{q1:Rat}{x8:Bool}{a8:Option Addr}{n8:Nat}{c8:Option Addr}{k8:Nat}{Q0:Exit->Act->World->Prop}{ds:List Deferred}
 (u0 u1 u2 u3 u4 u5 u6 u7 u8 u9 u10 u11 u12 u14 u15 u16 u17 u18 u19 u20 u21 u22 u23 u24 u25 u26 u27 u28 u29 u30 u31 u32 u33 u34 u35 u36 u37 u38 u39 u40 u41 u42 u43 u44 u45 u46 u47 u48 u49 u50 u51 u52 u53 u54 u55 u56 u57 u58 u59 u60 u61 u62 u63 u64 u65 u66 u67 u68 u69 u70 u71 u72 u73 u74 u75 u76 u77 u78 u79 u80 u81 u82 u83 u84 u85 u86 u87 u88 u89 u90 u91 u92 u93 u94 u95 u96 u97 u98 u99 u100 u101 u102 u103 u104 u105 u106 u107 u108 u109 u110 u111 u112 u113 u114 u115 u116 u117 u118 u119 u120 u121 u122 u123 u124 u125 u126 u127 u128 u129 u130 u131 u132 u133 u134 u135 u136 u137 u138 u139 u140 u141:Value)
 (HK8:Hid (W8.heap[B13]?=some (.cells #[.bool x8,.slice a8 n8 n8,.slice c8 k8 k8] 39))) (HQ8:Hid (QV W8 (.agg #[.bool x8,.slice a8 n8 n8,.slice c8 k8 k8]) q1)) (HF1:Hid (QF L1 q1)) (HSZ:Hid (L1<=1000000))
 (HFI:Hid (QF 2 ((1:Int):Rat)))
 (hK:∀(v124 v125 v126:Value) (x9:Bool) (a9:Option Addr) (n9:Nat) (c9:Option Addr) (k9:Nat) (wx:World),wx.heap[B13]?=some (.cells #[.bool x9,.slice a9 n9 n9,.slice c9 k9 k9] 39)->QV wx (.agg #[.bool x9,.slice a9 n9 n9,.slice c9 k9 k9]) (q1+((1:Int):Rat))->W8.grownBy wx (some B13)->Q0 .normal {tmps:=#[u0,u1,u2,u3,u4,u5,u6,u7,u8,u9,u10,u11,u12,.pointer (some ⟨B13,0,none⟩),u14,u15,u16,u17,u18,u19,u20,u21,u22,u23,u24,u25,u26,u27,u28,u29,u30,u31,u32,u33,u34,u35,u36,u37,u38,u39,u40,u41,u42,u43,u44,u45,u46,u47,u48,u49,u50,u51,u52,u53,u54,u55,u56,u57,u58,u59,u60,u61,u62,u63,u64,u65,u66,u67,u68,u69,u70,u71,u72,u73,u74,u75,u76,u77,u78,u79,u80,u81,u82,u83,u84,u85,u86,u87,u88,u89,u90,u91,u92,u93,u94,u95,u96,u97,u98,u99,u100,u101,u102,u103,u104,u105,u106,u107,u108,u109,u110,u111,u112,u113,u114,u115,u116,u117,u118,u119,u120,u121,u122,u123,v124,v125,v126,u127,u128,u129,u130,u131,u132,u133,u134,u135,u136,u137,u138,u139,u140,u141],defers:=ds} wx):
 Code.wp Tryz.prog roReg24 Q0 {tmps:=#[u0,u1,u2,u3,u4,u5,u6,u7,u8,u9,u10,u11,u12,.pointer (some ⟨B13,0,none⟩),u14,u15,u16,u17,u18,u19,u20,u21,u22,u23,u24,u25,u26,u27,u28,u29,u30,u31,u32,u33,u34,u35,u36,u37,u38,u39,u40,u41,u42,u43,u44,u45,u46,u47,u48,u49,u50,u51,u52,u53,u54,u55,u56,u57,u58,u59,u60,u61,u62,u63,u64,u65,u66,u67,u68,u69,u70,u71,u72,u73,u74,u75,u76,u77,u78,u79,u80,u81,u82,u83,u84,u85,u86,u87,u88,u89,u90,u91,u92,u93,u94,u95,u96,u97,u98,u99,u100,u101,u102,u103,u104,u105,u106,u107,u108,u109,u110,u111,u112,u113,u114,u115,u116,u117,u118,u119,u120,u121,u122,u123,u124,u125,u126,u127,u128,u129,u130,u131,u132,u133,u134,u135,u136,u137,u138,u139,u140,u141],defers:=ds} W8:=by
 obtain⟨r0,r1,r2,r3,r4,r5⟩:=row3 HK8.out;have l8:=BlkT.lt ⟨_,_,HK8.out⟩;obtain⟨w,hw⟩:∃w:World,w=W8:=⟨_,rfl⟩
 have hst:SHs w W8 W8.heap.size W8:=by rw[hw];exact SHs.start NL NL (Bel.refl _ _)
 clear hw
 conv=>arg 2;whnf
 refine wp_region_noPanic ?_;refine wp_region_K (S:=(fun w'=>(∀(b o:Nat),b<W8.heap.size->w'.cell? ⟨b,o,none⟩=W8.cell? ⟨b,o,none⟩)/\SHs w W8 (W8.heap.size) w')) (k:=3) (by kernel_rfl) ?_ (fun hHeld=>?_)
 . ((try dsimp only);(exact K2s))
 refine TK 0 [] ?_;refine KRs [1] ?_;refine KCs (fun K hK=>?_) ?_
 .go_simp;refine(Int_c (n:=1) (by decide) (by decide)).mono ?_;rintro e w20 ⟨vq1,rfl,hQ1,hb1⟩;have hy1:=hb1.size
  (try simp at hy1)
  obtain⟨xs1,as1,ns1,cs1,ks1,rfl⟩:=hQ1.cells
  (try go_wp2_with fail)
  refine SA hK (hHeld.2.call hb1).hold fun hHeld=>?_;clear hK K
  refine KRs [2] ?_;refine KCs (fun K hK=>?_) ?_
  .go_simp;refine(qadd_c (HQ8.out.pres hHeld.2.near.pb) hQ1 HF1.out HFI.out (by have:=HSZ.out;omega)).mono ?_;rintro e w21 ⟨vq2,rfl,hQ2,hb2⟩;have hy2:=hb2.size
   (try simp at hy2)
   obtain⟨xs2,as2,ns2,cs2,ks2,rfl⟩:=hQ2.cells
   (try go_wp2_with fail)
   refine SA hK (hHeld.2.call hb2).hold fun hHeld=>?_;clear hK K
   refine KRs [3] ?_;refine KCs (fun K hK=>?_) ?_
   .have hk8:w21.heap[B13]?=some (.cells #[.bool x8,.slice a8 n8 n8,.slice c8 k8 k8] 39):=(hHeld.2.near.block _ l8).trans HK8.out;obtain⟨j0,j1,j2,j3,j4,j5⟩:=row3 hk8;have hnear:=hHeld.2.near;go_simp;refine SE hK ?_;clear hK K
    refine wpAnyK_done (by kernel_rfl) ?_ _;refine NoPanic.normal ?_;exact hK _ _ _ _ _ _ _ _ _ (set3_heap hk8) (QV.pres hQ2 (Pres.set3 ⟨_,_,hk8⟩ (by decide) _ _ _ _ _ _)) (grown_set3 hnear)
   exact KNs
  exact KNs
 exact KNs
theorem roReg25_c {W8:World}{B13 L1 n cap:Nat}{q1:Rat}{x8:Bool}{a8:Option Addr}{n8:Nat}{c8:Option Addr}{k8:Nat}{K:Act->World->Prop}{Q0:Exit->Act->World->Prop}{ds:List Deferred}
 (u0 u2 u3 u4 u5 u6 u7 u8 u9 u10 u11 u12 u14 u15 u16 u17 u18 u19 u20 u21 u22 u23 u24 u25 u26 u27 u28 u29 u30 u31 u32 u33 u34 u35 u36 u37 u38 u39 u40 u41 u42 u43 u44 u45 u46 u47 u48 u49 u50 u51 u52 u53 u54 u55 u56 u57 u58 u59 u60 u61 u62 u63 u64 u65 u66 u67 u68 u69 u70 u71 u72 u73 u74 u75 u76 u77 u78 u79 u80 u81 u82 u83 u84 u85 u86 u87 u88 u89 u90 u91 u92 u93 u94 u95 u96 u97 u98 u99 u100 u101 u102 u103 u104 u105 u106 u107 u108 u109 u110 u111 u112 u113 u114 u115 u116 u117 u118 u119 u120 u121 u122 u123 u124 u125 u126 u127 u128 u129 u130 u131 u132 u133 u134 u135 u136 u137 u138 u139 u140 u141:Value)
 {ao:Option Addr} (HK8:Hid (W8.heap[B13]?=some (.cells #[.bool x8,.slice a8 n8 n8,.slice c8 k8 k8] 39))) (HQ8:Hid (QV W8 (.agg #[.bool x8,.slice a8 n8 n8,.slice c8 k8 k8]) q1)) (HF1:Hid (QF L1 q1)) (HSZ:Hid (L1<=1000000))
 (hn:n<1000000) (HFI:Hid (QF 2 (((n:Nat):Int):Rat))) (HN0:Hid ((((n:Nat):Int):Rat).num≠0))
 (hK:∀(v127 v128 v129 v130 v131 v132 v133 v134:Value) (x9:Bool) (a9:Option Addr) (n9:Nat) (c9:Option Addr) (k9:Nat) (wx:World),wx.heap[B13]?=some (.cells #[.bool x9,.slice a9 n9 n9,.slice c9 k9 k9] 39)->QV wx (.agg #[.bool x9,.slice a9 n9 n9,.slice c9 k9 k9]) (q1/(((n:Nat):Int):Rat))->W8.grownBy wx (some B13)->K {tmps:=#[u0,.slice ao n cap,u2,u3,u4,u5,u6,u7,u8,u9,u10,u11,u12,.pointer (some ⟨B13,0,none⟩),u14,u15,u16,u17,u18,u19,u20,u21,u22,u23,u24,u25,u26,u27,u28,u29,u30,u31,u32,u33,u34,u35,u36,u37,u38,u39,u40,u41,u42,u43,u44,u45,u46,u47,u48,u49,u50,u51,u52,u53,u54,u55,u56,u57,u58,u59,u60,u61,u62,u63,u64,u65,u66,u67,u68,u69,u70,u71,u72,u73,u74,u75,u76,u77,u78,u79,u80,u81,u82,u83,u84,u85,u86,u87,u88,u89,u90,u91,u92,u93,u94,u95,u96,u97,u98,u99,u100,u101,u102,u103,u104,u105,u106,u107,u108,u109,u110,u111,u112,u113,u114,u115,u116,u117,u118,u119,u120,u121,u122,u123,u124,u125,u126,v127,v128,v129,v130,v131,v132,v133,v134,u135,u136,u137,u138,u139,u140,u141],defers:=ds} wx):
 Code.wp Tryz.prog roReg25 (Exit.then K Q0) {tmps:=#[u0,.slice ao n cap,u2,u3,u4,u5,u6,u7,u8,u9,u10,u11,u12,.pointer (some ⟨B13,0,none⟩),u14,u15,u16,u17,u18,u19,u20,u21,u22,u23,u24,u25,u26,u27,u28,u29,u30,u31,u32,u33,u34,u35,u36,u37,u38,u39,u40,u41,u42,u43,u44,u45,u46,u47,u48,u49,u50,u51,u52,u53,u54,u55,u56,u57,u58,u59,u60,u61,u62,u63,u64,u65,u66,u67,u68,u69,u70,u71,u72,u73,u74,u75,u76,u77,u78,u79,u80,u81,u82,u83,u84,u85,u86,u87,u88,u89,u90,u91,u92,u93,u94,u95,u96,u97,u98,u99,u100,u101,u102,u103,u104,u105,u106,u107,u108,u109,u110,u111,u112,u113,u114,u115,u116,u117,u118,u119,u120,u121,u122,u123,u124,u125,u126,u127,u128,u129,u130,u131,u132,u133,u134,u135,u136,u137,u138,u139,u140,u141],defers:=ds} W8:=by
 obtain⟨r0,r1,r2,r3,r4,r5⟩:=row3 HK8.out;have l8:=BlkT.lt ⟨_,_,HK8.out⟩;obtain⟨w,hw⟩:∃w:World,w=W8:=⟨_,rfl⟩
 have hst:SHs w W8 W8.heap.size W8:=by rw[hw];exact SHs.start NL NL (Bel.refl _ _)
 clear hw
 conv=>arg 2;whnf
 refine wp_region_noPanic ?_;refine wp_region_K (S:=(fun w'=>(∀(b o:Nat),b<W8.heap.size->w'.cell? ⟨b,o,none⟩=W8.cell? ⟨b,o,none⟩)/\SHs w W8 (W8.heap.size) w')) (k:=8) (by kernel_rfl) ?_ (fun hHeld=>?_)
 . ((try dsimp only);(exact K2s))
 refine TK 0 [] ?_;refine TK 1 [] ?_;refine TK 2 [] ?_;refine KRs [3] ?_;refine KCs (fun K hK=>?_) ?_
 .go_simp;refine(Int_c (n:=(n:Nat)) (by omega) (by omega)).mono ?_;rintro e w20 ⟨vq1,rfl,hQ1,hb1⟩;have hy1:=hb1.size
  (try simp at hy1)
  obtain⟨xs1,as1,ns1,cs1,ks1,rfl⟩:=hQ1.cells
  (try go_wp2_with fail)
  refine SA hK (hHeld.2.call hb1).hold fun hHeld=>?_;clear hK K
  refine KRs [4] ?_;refine KCs (fun K hK=>?_) ?_
  .go_simp;refine(Div_c (HQ8.out.pres hHeld.2.near.pb) hQ1 HF1.out HFI.out HN0.out (by have:=HSZ.out;omega)).mono ?_;rintro e w21 ⟨vq2,rfl,hQ2,hb2⟩;have hy2:=hb2.size
   (try simp at hy2)
   obtain⟨xs2,as2,ns2,cs2,ks2,rfl⟩:=hQ2.cells
   (try go_wp2_with fail)
   refine SA hK (hHeld.2.call hb2).hold fun hHeld=>?_;clear hK K
   refine TK 5 [] ?_;refine TK 6 [] ?_;refine KRs [7,8] ?_;refine KCs (fun K hK=>?_) ?_
   .go_simp;refine SA hK hHeld fun hHeld=>?_;clear hK K
    refine KRs [8] ?_;refine KCs (fun K hK=>?_) ?_
    .have hk8:w21.heap[B13]?=some (.cells #[.bool x8,.slice a8 n8 n8,.slice c8 k8 k8] 39):=(hHeld.2.near.block _ l8).trans HK8.out;obtain⟨j0,j1,j2,j3,j4,j5⟩:=row3 hk8;have hnear:=hHeld.2.near;go_simp;refine SE hK ?_;clear hK K
     refine wpAnyK_done (by kernel_rfl) ?_ _;refine NoPanic.normal ?_;exact hK _ _ _ _ _ _ _ _ _ _ _ _ _ _ (set3_heap hk8) (QV.pres hQ2 (Pres.set3 ⟨_,_,hk8⟩ (by decide) _ _ _ _ _ _)) (grown_set3 hnear)
    exact KNs
   refine KCs (fun K hK=>?_) ?_
   .have hk8:w21.heap[B13]?=some (.cells #[.bool x8,.slice a8 n8 n8,.slice c8 k8 k8] 39):=(hHeld.2.near.block _ l8).trans HK8.out;obtain⟨j0,j1,j2,j3,j4,j5⟩:=row3 hk8;have hnear:=hHeld.2.near;go_simp;refine SE hK ?_;clear hK K
    refine KRs [7] ?_;refine KCs (fun K hK=>?_) ?_
    .go_simp;refine SE hK ?_;clear hK K
     refine wpAnyK_done (by kernel_rfl) ?_ _;refine NoPanic.normal ?_;exact hK _ _ _ _ _ _ _ _ _ _ _ _ _ _ (set3_heap hk8) (QV.pres hQ2 (Pres.set3 ⟨_,_,hk8⟩ (by decide) _ _ _ _ _ _)) (grown_set3 hnear)
    exact KNs
   exact KNs
  exact KNs
 exact KNs
theorem rotation2_c {w:World}{v:Value}{W:List Nat}{by_:Nat}{T8:TypeId}(hv:WordT T8 w v W)(h2:2<=W.length)(h256:by_<256)(h16:W.length<=16):
 Calls Tryz.prog 46 #[v,.int .i64 by_] w (Gives w fun v w'=>OwnS 5 1 w.heap.size w' v W.length (bw (rot W (by_%W.length)))):=by
 obtain⟨hW,ao,cap,rfl,hcap,hc⟩:=hv;obtain⟨b,o,rfl,hbl,hcell⟩:=hc.open (by omega);have HC:=LH hcell;clear hc hcell hW;have hk:=Nat.mod_lt by_ (show 0<W.length by omega);obtain⟨k,hkk⟩:∃k,k=by_%W.length:=⟨_,rfl⟩
 have HKK:=LH hkk;rw[<-hkk]at hk|-;clear hkk;obtain⟨n,hn⟩:∃n,n=W.length:=⟨_,rfl⟩
 have HN:=LH hn;have HS:Hid (RotIn w w (.slice none 0 0) W k 0):=⟨OwnS.nil _ _ _ _ _,Bel.refl _ _⟩
 rw[<-hn]at HC HKK hk h2 h16 hcap|-;clear hn
 go_enter Tryz.func46,Tryz.ntmps46
 go_wp2
 go_loopg [5,6] n (fun g o s wr=>∃i:Nat,g=n-i/\i<=n/\s=.int .i64 i/\RotIn w wr o W k i)
 case atStart=>exact⟨0,rfl,Nat.zero_le _,rfl,HS.out⟩
 case round=>
  clear HS;obtain⟨i,hg,hi,rfl,hp⟩:=hrel;have HP:=LH hp;have HO:=LH hp.own;have hbs:=hp.bel.size;have hlm1:i+1<=maxLen:=by unfold maxLen;omega
  have hlb1:(i+1)*1<=140737488355328:=by omega
  have HBS:Hid (∀o:Obj,w.heap.size<=(wr.alloc o).heap.size):=fun o=>by simp;omega
  clear hp
  by_cases hlt:i<n
  .obtain⟨m,hmm⟩:∃m,m=(i+by_)%n:=⟨_,rfl⟩
   have hmi:((i:Int)+(by_:Int))%(n:Int)=(m:Nat):=by rw[hmm];push_cast;rfl
   have hm:m<n:=by rw[hmm];exact Nat.mod_lt _ (by omega)
   have g1:=(HP.out.bel.cell (p:=⟨b,o+m,none⟩) hbl).trans (HC.out m hm);unfold bw at g1;have HV:Hid (Value.int .u8 (W.getD m 0:Nat)=bw (rot W k) i):=by show _=Value.int .u8 _;rw[rot_mod HN.out.symm (by omega) hlt,HKK.out,Nat.add_mod_mod,<-hmm]
   generalize W.getD m 0=y at g1 HV;clear hmm
   go_wp2_with (at_builtin;go_must (refine wpList_append_fn rfl (.tmp 13) (.tmp 23) 27 rfl w.heap.size Tryz.underlying27 infoU8 rfl (by decide) rfl (HO.out.alloc _) rfl (cells1 _ _ _) (fun _=>rfl) hlm1 hlb1 (HBS.out _) ?_;intro v' w' hown hgrow hdr))
   have HX:=LH (HP.out.step hown hgrow hdr HV.out)
   go_roundg (n-(i+1))
   case rel=>exact⟨i+1,rfl,by omega,by push_cast;rfl,HX.out⟩
   case measure=>omega
  .have HR:Hid (OwnS 5 1 w.heap.size wr u5 n (bw (rot W k))):=by have h:=HO.out;rw[show i=n by omega]at h;exact h
   go_wp2;go_ret;exact⟨_,rfl,HR.out,HP.out.bel⟩
theorem rotates_long (HK:WakesOk){w:World}{ao:Option Addr}{n cap:Nat}{legs:Int}{y:Nat}(h:30<n):
 Calls Tryz.prog 8 #[.int .i64 legs,.slice ao n cap,.int .u8 (y:Int)] w fun e w'=>e=.returned (.bool true)/\Bel w.heap.size w w':=by
 have d1:decide ((n:Int)>30)=true:=by simp;omega
 clear h;have HK:=LH HK
 go_enter Tryz.func8,Tryz.ntmps8
 go_wp2_with fail
 refine(HK.out _).mono ?_;rintro e w9 ⟨rfl,hb⟩;go_wp2;go_ret;exact⟨rfl,hb⟩
theorem rotates_bad (HK:WakesOk){T:TypeId}{w:World}{v:Value}{W:List Nat}{legs:Int}{y:Nat}(hv:WordT T w v W)(h:W.length<=30)(hc:ckWord legs W≠0):
 Calls Tryz.prog 8 #[.int .i64 legs,v,.int .u8 (y:Int)] w fun e w'=>e=.returned (.bool true)/\Bel w.heap.size w w':=by
 have HV:=LH hv;obtain⟨-,ao,cap,rfl,-,-⟩:=hv;have HK:=LH HK;obtain⟨c,hcc⟩:∃c,c=ckWord legs W:=⟨_,rfl⟩
 rw[<-hcc]at hc;have HC:=LH hcc;have hb:(c !=0)=true:=by simpa using hc
 have d1:decide ((W.length:Int)>30)=false:=by simp;omega
 clear hcc hc
 go_enter Tryz.func8,Tryz.ntmps8
 go_wp2_with fail
 refine(refCheck_c HV.out).mono ?_;rintro e w1 ⟨rfl,hb1⟩;rw[<-HC.out];have HB1:=LH hb1;clear hb1
 go_wp2_with fail
 refine(HK.out _).mono ?_;rintro e w9 ⟨rfl,hb⟩;have HB:Hid (Bel w.heap.size w w9):=HB1.out.trans (hb.mono HB1.out.size);go_wp2;go_ret;exact⟨rfl,HB.out⟩
structure RY (T:TypeId) (w wr:World) (W R:List Nat) (n:Nat) (ao:Option Addr) (cap:Nat) (ar:Option Addr) (cr:Nat) (B12 B13:Nat) (s m:Rat):Prop where
 bel:Bel w.heap.size w wr
 hv0:WordT T w (.slice ao n cap) W
 hr:WordV wr (.slice ar n cr) R
 b12:D4.QB wr B12 s
 b13:D4.QB wr B13 m
 low:w.heap.size<=B12/\w.heap.size<=B13/\B12≠B13
theorem RY.hv {T:TypeId}{w wr:World}{W R:List Nat}{n:Nat}{ao:Option Addr}{cap:Nat}{ar:Option Addr}{cr:Nat}{B12 B13:Nat}{s m:Rat}(h:RY T w wr W R n ao cap ar cr B12 B13 s m):WordT T wr (.slice ao n cap) W:=h.hv0.pres h.bel.pb
theorem RY.call {T:TypeId}{w wr wr':World}{W R:List Nat}{n:Nat}{ao:Option Addr}{cap:Nat}{ar:Option Addr}{cr:Nat}{B12 B13:Nat}{s m:Rat}(h:RY T w wr W R n ao cap ar cr B12 B13 s m)(hb:Bel wr.heap.size wr wr'):RY T w wr' W R n ao cap ar cr B12 B13 s m:=
 ⟨h.bel.trans (hb.mono h.bel.size),h.hv0,h.hr.pres hb.pb,h.b12.bel hb,h.b13.bel hb,h.low⟩
theorem RY.set13 {T:TypeId}{w wr wr':World}{W R:List Nat}{n:Nat}{ao:Option Addr}{cap:Nat}{ar:Option Addr}{cr:Nat}{B12 B13:Nat}{s m m':Rat}(h:RY T w wr W R n ao cap ar cr B12 B13 s m)(hg:wr.grownBy wr' (some B13))(hq:D4.QB wr' B13 m'):RY T w wr' W R n ao cap ar cr B12 B13 s m':=by
 obtain⟨x,a,k,c,l,hk,-⟩:=id h.b13;have kp:=KpT.of_grown hg hk;exact⟨h.bel.trans (Bel.of_grown hg h.low.2.1 h.b13.lt),h.hv0,h.hr.pres (kp.pres (by decide)),h.b12.keep (hg.block _ h.b12.lt (fun e=>h.low.2.2 (by cases e;rfl))) (kp.pres (by decide)),hq,h.low⟩
theorem RY.set12 {T:TypeId}{w wr wr':World}{W R:List Nat}{n:Nat}{ao:Option Addr}{cap:Nat}{ar:Option Addr}{cr:Nat}{B12 B13:Nat}{s s' m:Rat}(h:RY T w wr W R n ao cap ar cr B12 B13 s m)(hg:wr.grownBy wr' (some B12))(hq:D4.QB wr' B12 s'):RY T w wr' W R n ao cap ar cr B12 B13 s' m:=by
 obtain⟨x,a,k,c,l,hk,-⟩:=id h.b12;have kp:=KpT.of_grown hg hk;exact⟨h.bel.trans (Bel.of_grown hg h.low.1 h.b12.lt),h.hv0,h.hr.pres (kp.pres (by decide)),hq,h.b13.keep (hg.block _ h.b13.lt (fun e=>h.low.2.2 (by cases e;rfl))) (kp.pres (by decide)),h.low⟩
theorem WordV.rot {w:World}{base k:Nat}{v:Value}{W:List Nat}(h:OwnS 5 1 base w v W.length (bw (rot W k)))(hk:k<W.length)(hW:∀k,W.getD k 0<256):WordV w v (rot W k):=
 WordV.ofOwn h (rot_len (by omega)).symm fun j=>by
  rw[rot_get (by omega)];split
  .exact hW _
  .split
   .exact hW _
   .decide
def dutQ (D n:Nat):Rat:=((D:Int):Rat)/((n:Int):Rat)
theorem dutQ_qf {D n:Nat}(h:D<=1000000)(hn:n<=1000000)(h0:n≠0):QF 2 (dutQ D n):=D4.QF.of (by omega) (by omega) (by omega) (by omega) (by omega)
theorem dutQ_add (D d n:Nat):dutQ D n+dutQ d n=dutQ (D+d) n:=by
 unfold dutQ;rw[Rat.div_def,Rat.div_def,Rat.div_def,<-Rat.add_mul]
 push_cast
 rfl
theorem dutQ_zero (n:Nat):dutQ 0 n=0:=by
 unfold dutQ;rw[Rat.div_def];simp
theorem intQ_qf {M:Nat}(h:M<=1000000):QF 2 (((M:Nat):Int):Rat):=by
 have:=D4.QF.of (n:=(M:Nat)) (d:=1) (by omega) (by omega) (by omega) (by omega) (by omega);have e:((((M:Nat):Int):Rat)/((1:Int):Rat))=(((M:Nat):Int):Rat):=by rw[show((1:Int):Rat)=1 from rfl];grind
 rw[e]at this;exact this
theorem dutiesN_le (W:List Nat)(n:Nat):∀k,dutiesN W n k<=k*n
 |0=>by simp[dutiesN]
 |k+1=>by
  have h1:=dutiesN_le W n k;have h2:=dutyN_le k W n;unfold dutiesN;rw[Nat.succ_mul];omega
def meanP (W:List Nat)(k i l:Nat):Nat:=meanN W k i+meanN.legsN W l i
theorem legsN_le (W:List Nat)(i:Nat):∀l,meanN.legsN W l i<=l
 |0=>Nat.le_refl _
 |l+1=>by
  have:=legsN_le W i l;unfold meanN.legsN;omega
theorem meanN_le (W:List Nat)(k:Nat):∀i,meanN W k i<=k*i
 |0=>Nat.le_refl _
 |i+1=>by
  have h1:=meanN_le W k i;have h2:=legsN_le W i k;unfold meanN;rw[Nat.mul_succ];omega
theorem legsN_step {W:List Nat}{l i x:Nat}{p:Bool}(hx:x=W.getD i 0)(hp:p=bit x l):meanN.legsN W (l+1) i=meanN.legsN W l i+if p then 1 else 0:=by
 show meanN.legsN W l i+W.getD i 0/2^l%2=_
 rw[<-hx,hp];unfold bit;rcases Nat.mod_two_eq_zero_or_one (x/2^l)with h|h<;>rw[h]<;>rfl
theorem rotates_good (HK:WakesOk){T:TypeId}{w:World}{v:Value}{W:List Nat}{legs:Int}{y:Nat}(hv:WordT T w v W)(hc:ckWord legs W=0)(hy:y<256):
 Calls Tryz.prog 8 #[.int .i64 legs,v,.int .u8 (y:Int)] w fun e w'=>e=.returned (.bool true)/\Bel w.heap.size w w':=by
 have HV:=LH hv;obtain⟨h1,h4,h2,h16⟩:=ckWord_zero hc;obtain⟨hW,ao,cap,rfl,hcap,-⟩:=hv;have HW:=LH hW;have HK:=LH HK;have HC0:=LH hc;have hk:=Nat.mod_lt y (show 0<W.length by omega);obtain⟨k,hkk⟩:∃k,k=y%W.length:=⟨_,rfl⟩
 have HKK:=LH hkk;rw[<-hkk]at hk;have HCR:=LH (ckWord_rot hc hk);have HNR:=LH (normal_rot hk);have HRL:=LH (rot_len (W:=W) (i:=k) (by omega));have HDR:Hid (∀l,dutyN l (rot W k) (rot W k).length=dutyN l W W.length):=fun l=>dutyN_rot l W k;obtain⟨n,hn⟩:∃n,n=W.length:=⟨_,rfl⟩
 have HN:=LH hn;have HKW:=LH hk;rw[<-hn]at h2 h16 hcap hk HV|-;have d1:decide ((n:Int)>30)=false:=by simp;omega
 have hwy:IntKind.i64.wrap (y:Int)=(y:Int):=i64_wrap_nat y (by omega);clear hkk hn hW hc
 go_enter Tryz.func8,Tryz.ntmps8
 go_wp2_with fail
 refine(refCheck_c HV.out).mono ?_;rintro e w1 ⟨rfl,hb1⟩;rw[HC0.out];have HB1:=LH hb1;have HV1:Hid (WordT T w1 (.slice ao n cap) W):=HV.out.pres hb1.pb;clear hb1
 go_wp2_with fail
 refine(rotation2_c (by_:=y) HV1.out (by rw[<-HN.out];omega) hy (by rw[<-HN.out];omega)).mono ?_;rintro e w2 ⟨vr,rfl,hor,hb2⟩;rw[<-HKK.out]at hor;have hvr:=WordV.rot hor HKW.out HW.out;obtain⟨-,ar,cr,rfl,hcr,-⟩:=id hvr;rw[HRL.out,<-HN.out]at hvr|-;have HVR:=LH hvr;have HB2:Hid (Bel w.heap.size w w2):=HB1.out.trans (hb2.mono HB1.out.size);have HV2:Hid (WordT T w2 (.slice ao n cap) W):=HV1.out.pres hb2.pb
 clear hor hb2 hvr hcr HV1 HB1
 go_wp2_with fail
 refine(normal_good HV2.out HC0.out).mono ?_;rintro e w3 ⟨va,rfl,hoa,hb3⟩;rw[<-HN.out]at hoa;obtain⟨an,cn,rfl,hcn,hxn⟩:=hoa.cells;rw[Nat.mul_one]at hxn;have HXA:=LH hxn;have HB3:Hid (Bel w.heap.size w w3):=HB2.out.trans (hb3.mono HB2.out.size);have HV3:Hid (WordT T w3 (.slice ao n cap) W):=HV2.out.pres hb3.pb;have HR3:Hid (WordV w3 (.slice ar n cr) (rot W k)):=HVR.out.pres hb3.pb
 clear hoa hxn hb3 HV2 HVR HB2
 go_wp2_with fail
 refine(normal_good HR3.out HCR.out).mono ?_;rintro e w4 ⟨vb,rfl,hob,hb4⟩;rw[HRL.out,<-HN.out,HNR.out]at hob;obtain⟨an2,cn2,rfl,hcn2,hxn2⟩:=hob.cells;rw[Nat.mul_one]at hxn2;have HXB:=LH hxn2;have HXA4:Hid (CellsAt 5 w4 an n (bw (normal W))):=HXA.out.pres hb4.pb;have HB4:Hid (Bel w.heap.size w w4):=HB3.out.trans (hb4.mono HB3.out.size);have HV4:Hid (WordT T w4 (.slice ao n cap) W):=HV3.out.pres hb4.pb
 have HR4:Hid (WordV w4 (.slice ar n cr) (rot W k)):=HR3.out.pres hb4.pb;have hnn:((n:Int) !=n)=false:=by simp
 clear hob hxn2 hb4 HV3 HR3 HB3 HXA
 go_wp2_with fail
 refine(words_c (f:=fun k=>(normal W).getD k 0) HXA4.out HXB.out (by omega) (by omega)).mono ?_;rintro e w5 ⟨rfl,hb5⟩;have HXA5:Hid (CellsAt 5 w5 an n (bw (normal W))):=HXA4.out.pres hb5.pb;have HB5:Hid (Bel w.heap.size w w5):=HB4.out.trans (hb5.mono HB4.out.size);have HV5:Hid (WordT T w5 (.slice ao n cap) W):=HV4.out.pres hb5.pb;have HR5:Hid (WordV w5 (.slice ar n cr) (rot W k)):=HR4.out.pres hb5.pb
 obtain⟨-,ao',cap',e5,-,hxw⟩:=id HV5.out;obtain⟨rfl⟩:ao=ao':=by injection e5
 rw[<-HN.out]at hxw;have HXW:=LH hxw;clear e5 hxw hb5 HXA4 HXB HV4 HR4 HB4
 go_wp2_with fail
 refine(less_c (f:=fun k=>W.getD k 0) (g:=fun k=>(normal W).getD k 0) HXW.out HXA5.out (by omega) (by omega)).mono ?_;rintro e w6 ⟨rfl,hb6⟩
 have hle:decide (cmpW (fun k=>W.getD k 0) (fun k=>(normal W).getD k 0) n n<0)=false:=by
  have h1:=normal_le_self W;have h2:=cmpW_anti (fun k=>W.getD k 0) (fun k=>(normal W).getD k 0) n n;unfold leW at h1;rw[<-HN.out]at h1;exact decide_eq_false (by omega)
 rw[hle];have HB6:Hid (Bel w.heap.size w w6):=HB5.out.trans (hb6.mono HB5.out.size);have HV6:Hid (WordT T w6 (.slice ao n cap) W):=HV5.out.pres hb6.pb;have HR6:Hid (WordV w6 (.slice ar n cr) (rot W k)):=HR5.out.pres hb6.pb;clear hle hb6 HXA5 HXW HV5 HR5 HB5
 go_wp2_with fail
 refine name_world ?_;intro W0 hW0;have hq12:D4.QB W0 w6.heap.size 0:=⟨false,none,0,none,0,at_world hW0 ((heap_old _ _ (by simp)).trans (heap_new _ _ rfl)),QV.zero _⟩
 have hq13:D4.QB W0 (w6.heap.size+1) 0:=⟨false,none,0,none,0,at_world hW0 (heap_new _ _ (by simp)),QV.zero _⟩
 have hbw:Bel w6.heap.size w6 W0:=by rw[hW0];exact Bel.new.alloc (by simp) _
 have HY:Hid (RY T w W0 W (rot W k) n ao cap ar cr w6.heap.size (w6.heap.size+1) (dutQ (dutiesN W n 0) n) 0):=
  ⟨HB6.out.trans (hbw.mono HB6.out.size),HV.out,HR6.out.pres hbw.pb,by rw[show dutiesN W n 0=0 from rfl,dutQ_zero];exact hq12,hq13,HB6.out.size,by have:=HB6.out.size;omega,by omega⟩
 clear hW0 hq12 hq13 hbw HB6 HV6 HR6;generalize hB13:w6.heap.size+1=B13 at *;generalize hB12:w6.heap.size=B12 at *;clear hB13 hB12
 go_loopg [14] legs.toNat (fun g s14 wr=>∃l:Nat,g=legs.toNat-l/\(l:Int)<=legs/\s14=.int .i64 (l:Nat)/\RY T w wr W (rot W k) n ao cap ar cr B12 B13 (dutQ (dutiesN W n l) n) 0)
 case atStart=>exact⟨0,rfl,by omega,rfl,HY.out⟩
 case round=>
  obtain⟨l,hg,hl,rfl,hy0⟩:=hrel;have HS:=LH hy0;clear hy0 HY;have hdl:=dutyN_le l W n;have hdd:=dutiesN_le W n l
  by_cases hlt:(l:Int)<legs
  .have hq1:QF 2 (dutQ (dutyN l W n) n):=dutQ_qf (by omega) (by omega) (by omega);have hl16:l*n<=64:=Nat.le_trans (Nat.mul_le_mul (show l<=4 by omega) h16) (by decide);have hq2:QF 2 (dutQ (dutiesN W n l) n):=dutQ_qf (by omega) (by omega) (by omega);have HQ1:=LH hq1;have HQ2:=LH hq2;clear hq1 hq2
   go_wp2_with fail
   refine(duty_good (l:=l) HS.out.hv HC0.out hlt).mono ?_;rintro e w7 ⟨vd,rfl,hd,hb7⟩;obtain⟨x,am,m,al,q,rfl⟩:=QV.cells hd;have hd':QV w7 (.agg #[.bool x,.slice am m m,.slice al q q]) (dutQ (dutyN l W n) n):=by have h:=hd;rw[<-HN.out]at h;exact h
   have HS7:=LH (HS.out.call hb7);have HD:=LH hd';clear hd hd' hb7 HS
   go_wp2_with fail
   obtain⟨W7,hW7⟩:∃W7,W7=w7.alloc (.cells #[.bool x,.slice am m m,.slice al q q] 39):=⟨_,rfl⟩
   rw[<-hW7];have hB7:Bel w7.heap.size w7 W7:=by rw[hW7];exact(Bel.refl _ _).alloc NL _
   have hk15:W7.heap[w7.heap.size]?=some (.cells #[.bool x,.slice am m m,.slice al q q] 39):=by rw[hW7];exact heap_new _ _ rfl
   have HS8:=LH (HS7.out.call hB7);have HD8:Hid (QV W7 (.agg #[.bool x,.slice am m m,.slice al q q]) (dutQ (dutyN l W n) n)):=HD.out.pres hB7.pb;have HK15:=LH hk15;have hz15:=BlkT.lt ⟨_,_,hk15⟩;clear hW7 hB7 hk15 HS7 HD;generalize w7.heap.size=B15 at *;refine(duty_good (l:=l) HS8.out.hr HCR.out hlt).mono ?_;rintro e w8 ⟨vd2,rfl,hd2,hb8⟩;obtain⟨x2,am2,m2,al2,q2,rfl⟩:=QV.cells hd2
   have hd2':QV w8 (.agg #[.bool x2,.slice am2 m2 m2,.slice al2 q2 q2]) (dutQ (dutyN l W n) n):=by have h:=hd2;rw[HDR.out l,HRL.out,<-HN.out]at h;exact h
   have HS9:=LH (HS8.out.call hb8);have hk15:=(hb8.block _ hz15).trans HK15.out;have HK15':=LH hk15;have HD9:Hid (QV w8 (.agg #[.bool x,.slice am m m,.slice al q q]) (dutQ (dutyN l W n) n)):=HD8.out.pres hb8.pb;have HE9:=LH hd2';have hz15':=BlkT.lt ⟨_,_,hk15⟩;obtain⟨r0,r1,r2,-,-,-⟩:=row3 hk15;clear hd2 hd2' hb8 HS8 HD8 HK15 hk15 hz15
   go_wp2_with fail
   have hB9:Bel w8.heap.size w8 (w8.alloc (.cells #[.bool x2,.slice am2 m2 m2,.slice al2 q2 q2] 39)):=(Bel.refl _ _).alloc NL _;refine(qcmp_c (HE9.out.pres hB9.pb) (HD9.out.pres hB9.pb) HQ1.out HQ1.out (by omega)).mono ?_;rintro e w9 ⟨rfl,hb9⟩;rw[cmpR_eq.2 rfl];have hb9':Bel w8.heap.size w8 w9:=hB9.trans (hb9.mono hB9.size);have HS10:=LH (HS9.out.call hb9')
   have hk15:=(hb9'.block _ hz15').trans HK15'.out;have HD10:Hid (QV w9 (.agg #[.bool x,.slice am m m,.slice al q q]) (dutQ (dutyN l W n) n)):=HD9.out.pres hb9'.pb;obtain⟨x12,a12,m12,c12,q12,hk12,hv12⟩:=HS10.out.b12;have HV12:=LH hv12;have hz12:=BlkT.lt ⟨_,_,hk12⟩;have hz15:=BlkT.lt ⟨_,_,hk15⟩;have HK12:=LH hk12;clear r0 r1 r2 hb9 hb9' hB9 HS9 HD9 HE9 HK15' hv12;obtain⟨r0,r1,r2,-,-,-⟩:=row3 hk15
   obtain⟨s0,s1,s2,-,-,-⟩:=row3 hk12;clear hk12 hk15
   go_wp2_with fail
   refine(qadd_c HV12.out HD10.out HQ2.out HQ1.out (by omega)).mono ?_;rintro e w10 ⟨va,rfl,hqa,hb10⟩;rw[dutQ_add]at hqa;obtain⟨x3,am3,m3,al3,q3,rfl⟩:=QV.cells hqa;have HS11:=LH (HS10.out.call hb10);have hk12:=(hb10.block _ hz12).trans HK12.out;have HK12':=LH hk12;have HQA:=LH hqa;clear r0 r1 r2 s0 s1 s2 HS10 HD10 HV12 HK12 hqa;obtain⟨s0,s1,s2,s3,s4,s5⟩:=row3 hk12;have hz12':=BlkT.lt ⟨_,_,hk12⟩
   clear hk12 hb10;go_wp2
   go_roundg (legs.toNat-(l+1))
   case rel=>exact⟨l+1,rfl,by omega,by push_cast;rfl,HS11.out.set12 (grown_set3 (Bel.refl _ _)) ⟨_,_,_,_,_,set3_heap HK12'.out,HQA.out.pres (Pres.set3 ⟨_,_,HK12'.out⟩ (by decide) _ _ _ _ _ _)⟩⟩
   case measure=>omega
  .obtain rfl:legs=(l:Nat):=by omega
   have hl16:l*n<=64:=Nat.le_trans (Nat.mul_le_mul (show l<=4 by omega) h16) (by decide);have hdl0:decide ((l:Int)<(l:Int))=false:=by simp
   obtain⟨SD,hsd⟩:∃SD,SD=dutQ (dutiesN W n l) n:=⟨_,rfl⟩
   have HSD:=LH hsd;rw[<-hsd]at HS;clear hsd
   go_wp2_with fail
   go_loopg [19] n (fun g s19 wr=>∃i:Nat,g=n-i/\i<=n/\s19=.int .i64 (i:Nat)/\RY T w wr W (rot W k) n ao cap ar cr B12 B13 SD (((meanN W l i:Nat):Int):Rat))
   case atStart=>exact⟨0,rfl,Nat.zero_le _,rfl,HS.out⟩
   case round=>
    obtain⟨i,hg2,hi,rfl,hy1⟩:=hrel;have HT:=LH hy1;clear hy1 HS
    by_cases hlt2:i<n
    .go_wp2_with fail
     go_loopg [20] l (fun g s20 wr=>∃j:Nat,g=l-j/\j<=l/\s20=.int .i64 (j:Nat)/\RY T w wr W (rot W k) n ao cap ar cr B12 B13 SD (((meanP W l i j:Nat):Int):Rat))
     case atStart=>exact⟨0,rfl,Nat.zero_le _,rfl,HT.out⟩
     case round=>
      obtain⟨j,hg3,hj,rfl,hy2⟩:=hrel;have HU:=LH hy2;clear hy2 HT
      by_cases hlt3:j<l
      .obtain⟨x,hx⟩:∃x,x=W.getD i 0:=⟨_,rfl⟩
       have hxl:x<256:=by rw[hx];exact HW.out _
       obtain⟨-,aw,cw,e8,-,hcw⟩:=HU.out.hv;obtain rfl:ao=aw:=by injection e8
       rw[<-HN.out]at hcw;obtain⟨b1,o1,rfl,hl1,hcwl⟩:=hcw.open (by omega);have g1:wr.cell? ⟨b1,o1+i,none⟩=some (.int .u8 (x:Int)):=by rw[hx];exact hcwl i hlt2
       obtain⟨p,hp⟩:∃p,p=bit x j:=⟨_,rfl⟩
       have HPX:=LH hp;have hst:=legsN_step (W:=W) (l:=j) (i:=i) hx hp;have HST:Hid (meanP W l i (j+1)=meanP W l i j+if p then 1 else 0):=by show _=_;unfold meanP;rw[hst];omega
       have hml:meanP W l i j<=1000:=by
        have h1:=meanN_le W l i;have h2:=legsN_le W i j;have h3:l*i<=64:=Nat.le_trans (Nat.mul_le_mul_left l hi) hl16;unfold meanP;omega
       have HML:=LH (intQ_qf (M:=meanP W l i j) (by omega));clear hx hp hst e8 hcw hcwl hml
       go_wp2_with fail
       refine(stands_c (k:=j) hxl (by omega) HPX.out).mono ?_;rintro e w10 ⟨rfl,rfl⟩
       cases p
       .go_wp2
        go_roundg (l-(j+1))
        case rel=>exact⟨j+1,rfl,by omega,by push_cast;rfl,by rw[HST.out];exact HU.out⟩
        case measure=>omega
       .obtain⟨x13,a13,m13,c13,q13,hk13,hv13⟩:=HU.out.b13
        go_upto_region 24 with fail
        refine roReg24_c _ _ _ _ _ _ _ _ _ _ _ _ _ _ _ _ _ _ _ _ _ _ _ _ _ _ _ _ _ _ _ _ _ _ _ _ _ _ _ _ _ _ _ _ _ _ _ _ _ _ _ _ _ _ _ _ _ _ _ _ _ _ _ _ _ _ _ _ _ _ _ _ _ _ _ _ _ _ _ _ _ _ _ _ _ _ _ _ _ _ _ _ _ _ _ _ _ _ _ _ _ _ _ _ _ _ _ _ _ _ _ _ _ _ _ _ _ _ _ _ _ _ _ _ _ _ _ _ _ _ _ _ _ _ _ _ _ _ _ _ _ (LH hk13) (LH hv13) HML (LH (by omega)) (LH (intQ_qf (M:=1) (by omega))) (fun v124 v125 v126 x9 a9 n9 c9 k9 wx hrx hqx hgx=>?_)
        have HU2:=LH (HU.out.set13 hgx ⟨_,_,_,_,_,hrx,hqx⟩);clear hk13 hv13 hrx hqx hgx HU g1;go_wp2
        go_roundg (l-(j+1))
        case rel=>exact⟨j+1,rfl,by omega,by push_cast;rfl,by
         have h:=HU2.out;have e2:meanP W l i (j+1)=meanP W l i j+1:=HST.out.trans (by simp);rw[e2];have e:(((meanP W l i j+1:Nat):Int):Rat)=(((meanP W l i j:Nat):Int):Rat)+((1:Int):Rat):=by push_cast;rfl
         rw[e];exact h⟩
        case measure=>omega
      .obtain rfl:j=l:=by omega
       have hdj0:decide ((j:Int)<(j:Int))=false:=by simp
       go_wp2
       go_roundg (n-(i+1))
       case rel=>exact⟨i+1,rfl,by omega,by push_cast;rfl,HU.out⟩
       case measure=>omega
    .obtain rfl:i=n:=by omega
     have hml:meanN W l i<=1000:=by
      have h1:=meanN_le W l i;omega
     obtain⟨x13,a13,m13,c13,q13,hk13,hv13⟩:=HT.out.b13;have hn0:Hid ((((i:Nat):Int):Rat).num≠0):=by show _≠_;simp;omega
     go_upto_region 25 with fail
     refine roReg25_c _ _ _ _ _ _ _ _ _ _ _ _ _ _ _ _ _ _ _ _ _ _ _ _ _ _ _ _ _ _ _ _ _ _ _ _ _ _ _ _ _ _ _ _ _ _ _ _ _ _ _ _ _ _ _ _ _ _ _ _ _ _ _ _ _ _ _ _ _ _ _ _ _ _ _ _ _ _ _ _ _ _ _ _ _ _ _ _ _ _ _ _ _ _ _ _ _ _ _ _ _ _ _ _ _ _ _ _ _ _ _ _ _ _ _ _ _ _ _ _ _ _ _ _ _ _ _ _ _ _ _ _ _ _ _ _ _ _ _ _ (LH hk13) (LH hv13) (LH (intQ_qf (by omega))) (LH (by omega)) (by omega) (LH (intQ_qf (by omega))) hn0 (fun v127 v128 v129 v130 v131 v132 v133 v134 x9 a9 n9 c9 k9 wx hrx hqx hgx=>?_)
     have HU2:=LH (HT.out.set13 hgx ⟨_,_,_,_,_,hrx,hqx⟩);have HQX:=LH hqx;obtain⟨x12,a12,m12,c12,q12,hk12,hv12⟩:=HU2.out.b12;have HV12:=LH hv12;obtain⟨r0,r1,r2,-,-,-⟩:=row3 hrx;obtain⟨s0,s1,s2,-,-,-⟩:=row3 hk12;have hz12:=BlkT.lt ⟨_,_,hk12⟩;have hz13:=BlkT.lt ⟨_,_,hrx⟩;clear hk13 hv13 hrx hqx hgx hk12 hv12 HT
     go_wp2_with fail
     have he:SD=(((meanN W l i:Nat):Int):Rat)/(((i:Nat):Int):Rat):=by rw[HSD.out,duties_mean];rfl
     have hqf:QF 2 SD:=by rw[he];exact dutQ_qf (by omega) (by omega) (by omega)
     refine(qcmp_c HV12.out HQX.out hqf (by rw[<-he];exact hqf) (by omega)).mono ?_;rintro e w11 ⟨rfl,hb11⟩;rw[cmpR_eq.2 he];have HB11:Hid (Bel w.heap.size w w11):=HU2.out.bel.trans (hb11.mono HU2.out.bel.size);clear r0 r1 r2 s0 s1 s2 hb11 HU2 HQX HV12
     go_wp2_with fail
     refine(HK.out _).mono ?_;rintro e w12 ⟨rfl,hb12⟩;have HB12:Hid (Bel w.heap.size w w12):=HB11.out.trans (hb12.mono HB11.out.size);clear hb12;go_wp2;go_ret;exact⟨rfl,HB12.out⟩
theorem gaitRotates_c (HK:WakesOk){T:TypeId}{w:World}{v:Value}{W:List Nat}{legs:Int}{y:Nat}(hv:WordT T w v W)(hy:y<256):
 Calls Tryz.prog 8 #[.int .i64 legs,v,.int .u8 (y:Int)] w fun e w'=>e=.returned (.bool true)/\Bel w.heap.size w w':=by
 by_cases h:30<W.length
 .obtain⟨a,c,rfl⟩:=hv.len;exact rotates_long HK h
 .by_cases hc:ckWord legs W=0
  .exact rotates_good HK hv hc hy
  .exact rotates_bad HK hv (by omega) hc
end Go.Proofs.YtlgjakpoaelehaaGreat
