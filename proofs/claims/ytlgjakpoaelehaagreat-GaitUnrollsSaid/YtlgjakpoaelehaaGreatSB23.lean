/- Contracts and plain laws, merged: O8 -/
import Derived.Test.YtlgjakpoaelehaaGreatSB18
import Derived.Test.YtlgjakpoaelehaaGreatSB19
import Derived.Test.YtlgjakpoaelehaaGreatSB21
import Derived.Test.YtlgjakpoaelehaaGreatSB22
namespace Go.Proofs.YtlgjakpoaelehaaGreat
open Go.RowKit
set_option maxRecDepth 100000
set_option maxHeartbeats 8000000
section
open Go.Maps (Keyed)
theorem upon_look {ε:Type}{Ok:World->Value->ε->Prop}{ky:ε->StateD}{n b:Nat}{l:List ε}{s:StateD}{w:World}{o:Oper}{a:Act}{Q:Exit->Act->World->Prop}{E t:TypeId}{z key:Value}{next:Act->World->Prop}{f:Value->World->Result Next}
 (hf:∀v w',f v w'=.ok (.value v) w') (h:MapG Ok ky n w b l) (ht:Tryz.prog.underlying t=some (.map 156 E)) (hz:(zeroValue E).run Tryz.prog w=.ok z w) (hs:SOk n s) (hx:key=keyV s)
 (hY:∀v e,e∈l->ky e=s->Ok w v e->next (a.put o.dst v) w) (hN:(∀e∈l,ky e≠s)->next (a.put o.dst z) w):Oper.upon Tryz.prog o a next Q (((Instr.lookup t (.map (some b)) key false).run Tryz.prog w).andThen f):=by
 rcases h.look ht hz hs hx with⟨v,he,hr1,hr⟩|⟨he,hr1,hr⟩
 .obtain⟨e,he,hes,ho⟩:=he;rw[hr,Result.andThen_ok,hf v w];exact hY v e he hes ho
 .rw[hr,Result.andThen_ok,hf z w];exact hN he
theorem run_field_m (W:World)(a b c d e:Value):(Instr.field 158 (.agg #[a,b,c,d,e]) 1).run Tryz.prog W=.ok (.agg #[c,d,e]) W:=by kernel_rfl
theorem wpIn_round_K {P:Program}{ops:Array Oper}{Q:Exit->Act->World->Prop}{n l:Nat}{id:Nat}{a:Act}{w:World}{S:World->Prop}{k:Nat}(hm:P.follows .mixedOrders=true)(hnd:noDefer ops=true)(hL:¬LetsOut Q)(hS:S w.drew)
 (h:S w.drew->wpAnyK P .any ops Q S k ops.size (Array.replicate ops.size false) a w.drew):(Code.region id ops true).wpIn (Fence.wide.inRound l) n P Q a w:=
 wpIn_region_round hm hnd hL (wpAny_of_K _ _ _ _ (h hS))
noncomputable def wyReg9:Code:=((Tryz.f71.body.bind (regionOf 9)).getD .skip)
theorem wayReg9_no {W8:World}{L1 L2 N l n nl B6 bD B11 B12 B13:Nat}{D:List MoveD}{a y:MoveD}{K:Act->World->Prop}{Kp:World->World->Prop}{I:List MoveD->World->Prop}{Ix:Code->List MoveD->World->Prop}{xs:List MoveD}{W:World}{ph:Int}{ho:Option Addr}{hl hc:Nat}{x:Bool}{a1:Option Addr}{q1:Nat}{c1:Option Addr}{k1:Nat}{ph2:Int}{ho2:Option Addr}{hl2 hc2:Nat}{x2:Bool}{a2:Option Addr}{q2:Nat}{c2:Option Addr}{k2:Nat}{z0 z1 z2 z3 z4:Int}
 (u0 u1 u2 u3 u4 u5 u7 u8 u9 u10 u14 u16 u17 u18 u19 u20 u21 u22 u23 u24 u25 u26 u27 u28 u29 u30 u31 u32 u33 u34 u35 u36 u37 u38 u39 u40 u41 u42 u43 u44 u45 u46 u47 u48 u49 u50 u51 u52 u53 u54 u55 u56 u57 u58 u59 u60 u61 u62 u63 u64 u65 u66 u67 u68 u69 u70 u71 u72 u73 u74 u75 u76 u77 u78 u79 u80 u81 u82:Value)
 (HK6:Hid (W8.heap[B6]?=some (.cells #[.map (some bD)] 151)))
 (HK11:Hid (W8.heap[B11]?=some (.cells #[.int .i64 ph,.slice ho hl hc,.bool x,.slice a1 q1 q1,.slice c1 k1 k1] 158)))
 (HK12:Hid (W8.heap[B12]?=some (.cells #[.int .i64 ph2,.slice ho2 hl2 hc2,.bool x2,.slice a2 q2 q2,.slice c2 k2 k2] 93)))
 (HK13:Hid (W8.heap[B13]?=some (.cells #[.int .i64 z0,.int .i64 z1,.int .i64 z2,.int .i64 z3,.int .i64 z4] 156)))
 (HKV:Hid (keyV y.dst=.agg #[.int .i64 z0,.int .i64 z1,.int .i64 z2,.int .i64 z3,.int .i64 z4])) (HD:Hid (MapM nl W8 bD D)) (HSO:Hid (SOk nl y.dst))
 (HAV:Hid (QV W8 (.agg #[.bool x,.slice a1 q1 q1,.slice c1 k1 k1]) a.cost)) (HYQ:Hid (QV W8 (.agg #[.bool x2,.slice a2 q2 q2,.slice c2 k2 k2]) y.cost))
 (HFA:Hid (QF L1 a.cost)) (HFY:Hid (QF L2 y.cost)) (HFS:Hid (QF (L1+L2+1) (a.cost+y.cost))) (HFD:Hid (∀e∈D,QF L1 e.cost)) (HSZ:Hid (L1+L2<=1000000000)) (HSZ2:Hid (L1+L2+1+L1<=1000000000)) (HEX:Hid (∃e∈D,e.dst=y.dst))
 (hK:∀(v39 v40 v41 v42 v43 v44 v45 v46 v47 v48 v49 v50 v51 v52:Value) (wx:World) (b:Bool) (_hb:b=true ↔ a.cost+y.cost=atL y.dst D),Bel W8.heap.size W8 wx->K {tmps:=#[u0,u1,u2,u3,u4,u5,.pointer (some ⟨B6,0,none⟩),u7,u8,u9,u10,.pointer (some ⟨B11,0,none⟩),.pointer (some ⟨B12,0,none⟩),.pointer (some ⟨B13,0,none⟩),u14,.bool false,u16,u17,u18,u19,u20,u21,u22,u23,u24,u25,u26,u27,u28,u29,u30,u31,u32,u33,u34,u35,u36,u37,u38,v39,v40,v41,v42,v43,v44,v45,v46,v47,v48,v49,v50,v51,v52,.bool b,u54,u55,u56,u57,u58,u59,u60,u61,u62,u63,u64,u65,u66,u67,u68,u69,u70,u71,u72,u73,u74,u75,u76,u77,u78,u79,u80,u81,u82],defers:=[]} wx):
 wyReg9.wpIn (Fence.wide.inRound l) n Tryz.prog (Exit.then K (Exit.inBlock 3 (roundQ N Kp I Ix xs W))) {tmps:=#[u0,u1,u2,u3,u4,u5,.pointer (some ⟨B6,0,none⟩),u7,u8,u9,u10,.pointer (some ⟨B11,0,none⟩),.pointer (some ⟨B12,0,none⟩),.pointer (some ⟨B13,0,none⟩),u14,.bool false,u16,u17,u18,u19,u20,u21,u22,u23,u24,u25,u26,u27,u28,u29,u30,u31,u32,u33,u34,u35,u36,u37,u38,u39,u40,u41,u42,u43,u44,u45,u46,u47,u48,u49,u50,u51,u52,u53,u54,u55,u56,u57,u58,u59,u60,u61,u62,u63,u64,u65,u66,u67,u68,u69,u70,u71,u72,u73,u74,u75,u76,u77,u78,u79,u80,u81,u82],defers:=[]} W8:=by
 have hfld:=run_field_m;obtain⟨r60,r61⟩:=row1 HK6.out;obtain⟨r0,r1,r2,r3,r4⟩:=row5 HK11.out;obtain⟨t0,t1,t2,t3,t4⟩:=row5 HK12.out;obtain⟨k0,k1',k2',k3,k4⟩:=row5 HK13.out;have l6:=BlkT.lt ⟨_,_,HK6.out⟩;have l11:=BlkT.lt ⟨_,_,HK11.out⟩;have l12:=BlkT.lt ⟨_,_,HK12.out⟩;have l13:=BlkT.lt ⟨_,_,HK13.out⟩;obtain⟨w,hw⟩:∃w:World,w=W8:=⟨_,rfl⟩
 have hst:SHs w W8 W8.heap.size W8:=by rw[hw];exact SHs.start NL NL (Bel.refl _ _)
 clear hw
 conv=>arg 4;whnf
 refine wpIn_round_K (S:=(fun w'=>(∀(b o:Nat),b<W8.heap.size->w'.cell? ⟨b,o,none⟩=W8.cell? ⟨b,o,none⟩)/\SHs w W8 (W8.heap.size) w')) (k:=14) (by kernel_rfl) (by kernel_rfl) (by rintro⟨_,_,h⟩;exact h) ?_ (fun hHeld=>?_)
 . ((try dsimp only);(exact K2s))
 refine TK 0 [2,1] ?_;refine TK 1 [2] ?_;refine TK 2 [] ?_;refine TK 3 [13,12,7,4] ?_;refine TK 4 [13,12,7] ?_;refine TK 5 [13,12,7,6] ?_;refine TK 6 [13,12,7] ?_;refine TK 8 [13,12,11,10] ?_;refine TK 9 [13,12,11,10] ?_;refine KRs [7,10] ?_;refine KCs (fun K hK=>?_) ?_
 .go_simp;refine(qadd_c (HAV.out.pres hHeld.2.near.pb) (HYQ.out.pres hHeld.2.near.pb) HFA.out HFY.out HSZ.out).mono ?_;rintro e w20 ⟨vq1,rfl,hQ1,hb1⟩;have hy1:=hb1.size
  (try simp at hy1)
  obtain⟨xs1,as1,ns1,cs1,ks1,rfl⟩:=hQ1.cells
  (try go_wp2_with fail)
  refine SA hK (hHeld.2.call hb1).hold fun hHeld=>?_;clear hK K
  refine KRs [10] ?_;refine KCs (fun K hK=>?_) ?_
  .go_simp;refine upon_look (Ok:=MoveV) (ky:=MoveD.dst) (fun _ _=>rfl) (MapM.kp HD.out (T:=158) (KpT.of_bel hHeld.2.near) (by decide)) Tryz.underlying151 (Tryz.zeroValue158 _) HSO.out HKV.out.symm (fun v9 e9 he9 hes9 hm9=>?_) (fun hno=>absurd HEX.out (fun⟨e,he,hes⟩=>hno e he hes));obtain⟨ph9,ho9,hl9,hc9,x9,a9,q9,c9,k9,rfl⟩:=MoveV.cells hm9
   (try go_wp2_with fail)
   refine SA hK hHeld fun hHeld=>?_;clear hK K
   refine TK 11 [13,12] ?_;refine KRs [12] ?_;refine KCs (fun K hK=>?_) ?_
   .go_simp;have hce:atL y.dst D=e9.cost:=by rw[<-hes9];exact atL_of (MapM.ndl HD.out) he9
    have hm9':MoveV w20 (.agg #[.int .i64 ph9,.slice ho9 hl9 hc9,.bool x9,.slice a9 q9 q9,.slice c9 k9 k9]) e9:=by first|exact hm9|exact hm9.bel hb1
    refine(qcmp_c hQ1 hm9'.qv.2.2 HFS.out (HFD.out _ he9) HSZ2.out).mono ?_;rintro e w21 ⟨rfl,hb2⟩;have hy2:=hb2.size
    (try simp at hy2)
    rw[<-hce]
    (try go_wp2_with fail)
    refine SA hK (hHeld.2.call hb2).hold fun hHeld=>?_;clear hK K
    refine TK 13 [] ?_;refine KRs [14] ?_;refine KCs (fun K hK=>?_) ?_
    .go_simp;refine SE hK ?_;clear hK K
     refine wpAnyK_done (by kernel_rfl) ?_ _;exact hK _ _ _ _ _ _ _ _ _ _ _ _ _ _ _ _ (by rw[hce];simp[cmpR_eq]) hHeld.2.near
    exact KNs
   exact KNs
  exact KNs
 refine KCs (fun K hK=>?_) ?_
 .go_simp;refine upon_look (Ok:=MoveV) (ky:=MoveD.dst) (fun _ _=>rfl) (MapM.kp HD.out (T:=158) (KpT.of_bel hHeld.2.near) (by decide)) Tryz.underlying151 (Tryz.zeroValue158 _) HSO.out HKV.out.symm (fun v9 e9 he9 hes9 hm9=>?_) (fun hno=>absurd HEX.out (fun⟨e,he,hes⟩=>hno e he hes));obtain⟨ph9,ho9,hl9,hc9,x9,a9,q9,c9,k9,rfl⟩:=MoveV.cells hm9
  (try go_wp2_with fail)
  refine SA hK hHeld fun hHeld=>?_;clear hK K
  refine TK 11 [13,12] ?_;refine KRs [7] ?_;refine KCs (fun K hK=>?_) ?_
  .go_simp;refine(qadd_c (HAV.out.pres hHeld.2.near.pb) (HYQ.out.pres hHeld.2.near.pb) HFA.out HFY.out HSZ.out).mono ?_;rintro e w20 ⟨vq1,rfl,hQ1,hb1⟩;have hy1:=hb1.size
   (try simp at hy1)
   obtain⟨xs1,as1,ns1,cs1,ks1,rfl⟩:=hQ1.cells
   (try go_wp2_with fail)
   refine SA hK (hHeld.2.call hb1).hold fun hHeld=>?_;clear hK K
   refine KRs [12] ?_;refine KCs (fun K hK=>?_) ?_
   .go_simp;have hce:atL y.dst D=e9.cost:=by rw[<-hes9];exact atL_of (MapM.ndl HD.out) he9
    have hm9':MoveV w20 (.agg #[.int .i64 ph9,.slice ho9 hl9 hc9,.bool x9,.slice a9 q9 q9,.slice c9 k9 k9]) e9:=by first|exact hm9|exact hm9.bel hb1
    refine(qcmp_c hQ1 hm9'.qv.2.2 HFS.out (HFD.out _ he9) HSZ2.out).mono ?_;rintro e w21 ⟨rfl,hb2⟩;have hy2:=hb2.size
    (try simp at hy2)
    rw[<-hce]
    (try go_wp2_with fail)
    refine SA hK (hHeld.2.call hb2).hold fun hHeld=>?_;clear hK K
    refine TK 13 [] ?_;refine KRs [14] ?_;refine KCs (fun K hK=>?_) ?_
    .go_simp;refine SE hK ?_;clear hK K
     refine wpAnyK_done (by kernel_rfl) ?_ _;exact hK _ _ _ _ _ _ _ _ _ _ _ _ _ _ _ _ (by rw[hce];simp[cmpR_eq]) hHeld.2.near
    exact KNs
   exact KNs
  exact KNs
 exact KNs
theorem wayReg9_yes {W8:World}{N l n B6 B11 B12 B13:Nat}{K:Act->World->Prop}{Kp:World->World->Prop}{I:List MoveD->World->Prop}{Ix:Code->List MoveD->World->Prop}{xs:List MoveD}{W:World}
 (u0 u1 u2 u3 u4 u5 u7 u8 u9 u10 u14 u16 u17 u18 u19 u20 u21 u22 u23 u24 u25 u26 u27 u28 u29 u30 u31 u32 u33 u34 u35 u36 u37 u38 u39 u40 u41 u42 u43 u44 u45 u46 u47 u48 u49 u50 u51 u52 u53 u54 u55 u56 u57 u58 u59 u60 u61 u62 u63 u64 u65 u66 u67 u68 u69 u70 u71 u72 u73 u74 u75 u76 u77 u78 u79 u80 u81 u82:Value)
 (hK:∀(v39 v40 v41 v42 v43 v44 v45 v46 v47 v48 v49 v50 v51 v52:Value) (wx:World),Bel W8.heap.size W8 wx->K {tmps:=#[u0,u1,u2,u3,u4,u5,.pointer (some ⟨B6,0,none⟩),u7,u8,u9,u10,.pointer (some ⟨B11,0,none⟩),.pointer (some ⟨B12,0,none⟩),.pointer (some ⟨B13,0,none⟩),u14,.bool true,u16,u17,u18,u19,u20,u21,u22,u23,u24,u25,u26,u27,u28,u29,u30,u31,u32,u33,u34,u35,u36,u37,u38,v39,v40,v41,v42,v43,v44,v45,v46,v47,v48,v49,v50,v51,v52,.bool false,u54,u55,u56,u57,u58,u59,u60,u61,u62,u63,u64,u65,u66,u67,u68,u69,u70,u71,u72,u73,u74,u75,u76,u77,u78,u79,u80,u81,u82],defers:=[]} wx):
 wyReg9.wpIn (Fence.wide.inRound l) n Tryz.prog (Exit.then K (Exit.inBlock 3 (roundQ N Kp I Ix xs W))) {tmps:=#[u0,u1,u2,u3,u4,u5,.pointer (some ⟨B6,0,none⟩),u7,u8,u9,u10,.pointer (some ⟨B11,0,none⟩),.pointer (some ⟨B12,0,none⟩),.pointer (some ⟨B13,0,none⟩),u14,.bool true,u16,u17,u18,u19,u20,u21,u22,u23,u24,u25,u26,u27,u28,u29,u30,u31,u32,u33,u34,u35,u36,u37,u38,u39,u40,u41,u42,u43,u44,u45,u46,u47,u48,u49,u50,u51,u52,u53,u54,u55,u56,u57,u58,u59,u60,u61,u62,u63,u64,u65,u66,u67,u68,u69,u70,u71,u72,u73,u74,u75,u76,u77,u78,u79,u80,u81,u82],defers:=[]} W8:=by
 obtain⟨w,hw⟩:∃w:World,w=W8:=⟨_,rfl⟩
 have hst:SHs w W8 W8.heap.size W8:=by rw[hw];exact SHs.start NL NL (Bel.refl _ _)
 clear hw
 conv=>arg 4;whnf
 refine wpIn_round_K (S:=(fun w'=>(∀(b o:Nat),b<W8.heap.size->w'.cell? ⟨b,o,none⟩=W8.cell? ⟨b,o,none⟩)/\SHs w W8 (W8.heap.size) w')) (k:=14) (by kernel_rfl) (by kernel_rfl) (by rintro⟨_,_,h⟩;exact h) ?_ (fun hHeld=>?_)
 . ((try dsimp only);(exact K2s))
 refine TK 0 [2,1] ?_;refine TK 1 [2] ?_;refine TK 2 [] ?_;refine TX 3 [13,12,7,4] ?_;refine TX 4 [13,12,7] ?_;refine TX 5 [13,12,7,6] ?_;refine TX 6 [13,12,7] ?_;refine TX 7 [13,12] ?_;refine TX 8 [13,12,11,10] ?_;refine TX 9 [13,12,11,10] ?_;refine TX 10 [13,12,11] ?_;refine TX 11 [13,12] ?_;refine TX 12 [13] ?_;refine TX 13 [] ?_;refine KRs [14] ?_;refine KCs (fun K hK=>?_) ?_
 .go_simp;refine SE hK ?_;clear hK K
  refine wpAnyK_done (by kernel_rfl) ?_ _;exact hK _ _ _ _ _ _ _ _ _ _ _ _ _ _ _ hHeld.2.near
 exact KNs
end
end Go.Proofs.YtlgjakpoaelehaaGreat
