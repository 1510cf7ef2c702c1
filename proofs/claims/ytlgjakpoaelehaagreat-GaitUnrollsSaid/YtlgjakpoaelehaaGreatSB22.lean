/- Contracts and plain laws, merged: V6 V3 V5 -/
import Derived.Test.YtlgjakpoaelehaaGreatSB11
import Derived.Test.YtlgjakpoaelehaaGreatSB12
import Derived.Test.YtlgjakpoaelehaaGreatSB18
namespace Go.Proofs.YtlgjakpoaelehaaGreat
open Go.RowKit
set_option maxRecDepth 100000
set_option maxHeartbeats 16000000
def regionOf (k:Nat):Code->Option Code
 | .region id ops b=>if id=k then some (.region id ops b) else none
 | .rangeFunc _ _ a c=>match regionOf k a with
   |some c=>some c
   |none=>regionOf k c
 | .loop c=>regionOf k c
 | .seq a b=>match regionOf k a with
   |some c=>some c
   |none=>regionOf k b
 | .block _ c=>regionOf k c
 | .cond _ a b=>match regionOf k a with
   |some c=>some c
   |none=>regionOf k b
 |_=>none
noncomputable def mvReg14:Code:=((Tryz.f146.body.bind (regionOf 14)).getD .skip)
def mvPd (W8:World)(p:ProbD)(h:HoldD)(dx dz:Rat)(j:Nat)(w:World)(v:Value):Prop:=
 match j with
 |8=>QV w v (ratAbs dx)
 |9=>QV w v (p.walker.perLength*ratAbs dx)
 |16=>∃ao,v=.slice ao 2 2/\QS w ao 2 (q2 dz 0)
 |17=>QV w v (rise dz)
 |18=>QV w v (p.walker.perRise*rise dz)
 |21=>∃ao,v=.slice ao 4 4/\QS w ao 4 (fun j=>[p.walker.perPhase,p.walker.perLength*ratAbs dx,p.walker.perRise*rise dz,h.c].getD j 0)
 |22=>QV w v (sumQ (fun j=>[p.walker.perPhase,p.walker.perLength*ratAbs dx,p.walker.perRise*rise dz,h.c].getD j 0) 4)
 |23=>∃B,v=.pointer (some ⟨B,0,none⟩)/\W8.heap.size<=B/\w.heap[B]?=some (.cells #[.bool false,.slice none 0 0,.slice none 0 0] 39)
 |_=>True
theorem mvPd.bel {W8:World}{p:ProbD}{h:HoldD}{dx dz:Rat}{w w':World}(hb:Bel w.heap.size w w')(j:Nat)(v:Value)(hh:mvPd W8 p h dx dz j w v):mvPd W8 p h dx dz j w' v:=by
 have hp (T:TypeId):Pres T w w':=Pres.below hb.toBelow;unfold mvPd at hh|-;split at hh
 all_goals first
  |exact QV.pres hh (hp _)
  |(obtain⟨ao,e,hq⟩:=hh;exact⟨ao,e,hq.pres (hp _) (hp _)⟩)
  |(obtain⟨B,e,h1,h2⟩:=hh;exact⟨B,e,h1,(hb.block _ (BlkT.lt ⟨_,_,h2⟩)).trans h2⟩)
  |trivial
theorem movesReg14 {W8:World}{p:ProbD}{L Bp B9 B10:Nat}{h:HoldD}{dx dz:Rat}{K:Act->World->Prop}{Q0:Exit->Act->World->Prop}
 {ux:Bool} {ap:Option Addr} {aq:Nat} {ar:Option Addr} {at':Nat} {vx:Bool} {bp:Option Addr} {bq:Nat} {br:Option Addr} {bt:Nat} {h0 h1 h2 h3 h4 h5 h6 h7 h8:Value} {y3:Bool} {b3:Option Addr} {l3:Nat} {e3':Option Addr} {j3:Nat} {g:Nat->Value} {c0 c1 c26 c27 c28 c29 c30 c31:Value}
 (u0 u1 u3 u4 u5 u6 u7 u8 u11 u12 u13 u14 u15 u16 u17 u18 u19 u20 u21 u22 u23 u24 u25 u26 u27 u28 u29 u30 u31 u32 u33 u34 u35 u36 u37 u38 u39 u40 u41 u42 u43 u44 u45 u46 u47 u48 u49 u50 u51 u52 u53 u54 u55 u56 u57 u58 u59 u60 u61 u62 u63 u64 u65 u66 u67 u68 u69 u70 u71 u72 u73 u74 u75 u76 u77 u78 u79 u80 u81 u82 u83 u84 u85 u86 u87 u88 u89 u90 u91 u92 u93 u94 u95 u96 u97 u98 u99 u100 u101 u102 u103 u104 u105 u106 u107 u108 u109 u110 u111 u112 u113 u114 u115 u116 u117 u118 u119 u120 u121 u122 u123 u124 u125 u126 u127 u128 u129 u130 u131 u132 u133 u134 u135 u136 u137:Value)
 (HK108:Hid (W8.heap[B10]?=some (.cells #[.bool ux,.slice ap aq aq,.slice ar at' at',.bool vx,.slice bp bq bq,.slice br bt bt] 95)))
 (HK98:Hid (W8.heap[B9]?=some (.cells #[h0,h1,h2,h3,h4,h5,h6,h7,h8,.bool y3,.slice b3 l3 l3,.slice e3' j3 j3] 97)))
 (HKP8:Hid (W8.heap[Bp]?=some (.cells #[c0,c1,g 2,g 3,g 4,g 5,g 6,g 7,g 8,g 9,g 10,g 11,g 12,g 13,g 14,g 15,g 16,g 17,g 18,g 19,g 20,g 21,g 22,g 23,g 24,g 25,c26,c27,c28,c29,c30,c31] 44)))
 (HDX8:Hid (QV W8 (.agg #[.bool ux,.slice ap aq aq,.slice ar at' at']) dx)) (HDZ8:Hid (QV W8 (.agg #[.bool vx,.slice bp bq bq,.slice br bt bt]) dz))
 (HPL8:Hid (QV W8 (.agg #[g 17,g 18,g 19]) p.walker.perLength)) (HPR8:Hid (QV W8 (.agg #[g 20,g 21,g 22]) p.walker.perRise)) (HPP8:Hid (QV W8 (.agg #[g 23,g 24,g 25]) p.walker.perPhase))
 (HHC8:Hid (QV W8 (.agg #[.bool y3,.slice b3 l3 l3,.slice e3' j3 j3]) h.c)) (HXF:Hid (QF (L+L+1) dx)) (HZF:Hid (QF (L+L+1) dz)) (HWF:Hid (WalkF L p.walker)) (HFRF:Hid (HoldF L h)) (HLS:Hid (L<=100000)) (h1L:1<=L)
 (hK:∀(B12:Nat) (x9:Bool) (a9:Option Addr) (n9:Nat) (c9:Option Addr) (k9:Nat) (v103 v104 v105 v106 v107 v108 v109 v110 v111 v112 v113 v114 v115 v116 v117 v118 v119 v120 v121 v122 v123 v124 v125:Value) (wx:World),wx.heap[B12]?=some (.cells #[.bool x9,.slice a9 n9 n9,.slice c9 k9 k9] 39)->
  QV wx (.agg #[.bool x9,.slice a9 n9 n9,.slice c9 k9 k9]) (sumQ (fun j=>[p.walker.perPhase,p.walker.perLength*ratAbs dx,p.walker.perRise*rise dz,h.c].getD j 0) 4)->Bel W8.heap.size W8 wx->K {tmps:=#[u0,u1,.pointer (some ⟨Bp,0,none⟩),u3,u4,u5,u6,u7,u8,.pointer (some ⟨B9,0,none⟩),.pointer (some ⟨B10,0,none⟩),u11,.pointer (some ⟨B12,0,none⟩),u13,u14,u15,u16,u17,u18,u19,u20,u21,u22,u23,u24,u25,u26,u27,u28,u29,u30,u31,u32,u33,u34,u35,u36,u37,u38,u39,u40,u41,u42,u43,u44,u45,u46,u47,u48,u49,u50,u51,u52,u53,u54,u55,u56,u57,u58,u59,u60,u61,u62,u63,u64,u65,u66,u67,u68,u69,u70,u71,u72,u73,u74,u75,u76,u77,u78,u79,u80,u81,u82,u83,u84,u85,u86,u87,u88,u89,u90,u91,u92,u93,u94,u95,u96,u97,u98,u99,u100,u101,u102,v103,v104,v105,v106,v107,v108,v109,v110,v111,v112,v113,v114,v115,v116,v117,v118,v119,v120,v121,v122,v123,v124,v125,u126,u127,u128,u129,u130,u131,u132,u133,u134,u135,u136,u137],defers:=[]} wx):
 Code.wp Tryz.prog mvReg14 (Exit.then K Q0) {tmps:=#[u0,u1,.pointer (some ⟨Bp,0,none⟩),u3,u4,u5,u6,u7,u8,.pointer (some ⟨B9,0,none⟩),.pointer (some ⟨B10,0,none⟩),u11,u12,u13,u14,u15,u16,u17,u18,u19,u20,u21,u22,u23,u24,u25,u26,u27,u28,u29,u30,u31,u32,u33,u34,u35,u36,u37,u38,u39,u40,u41,u42,u43,u44,u45,u46,u47,u48,u49,u50,u51,u52,u53,u54,u55,u56,u57,u58,u59,u60,u61,u62,u63,u64,u65,u66,u67,u68,u69,u70,u71,u72,u73,u74,u75,u76,u77,u78,u79,u80,u81,u82,u83,u84,u85,u86,u87,u88,u89,u90,u91,u92,u93,u94,u95,u96,u97,u98,u99,u100,u101,u102,u103,u104,u105,u106,u107,u108,u109,u110,u111,u112,u113,u114,u115,u116,u117,u118,u119,u120,u121,u122,u123,u124,u125,u126,u127,u128,u129,u130,u131,u132,u133,u134,u135,u136,u137],defers:=[]} W8:=by
 have hbd8:=BlkT.lt ⟨_,_,HK108.out⟩;have hbh8:=BlkT.lt ⟨_,_,HK98.out⟩;have hbp8:=BlkT.lt ⟨_,_,HKP8.out⟩
 conv=>arg 2;whnf
 obtain⟨r0,r1,r2,r3,r4,r5,-,-,-,-,-,-⟩:=row6 HK108.out;obtain⟨-,-,-,-,-,-,-,-,-,i9,i10,i11⟩:=row12 HK98.out;obtain⟨-,-,-,-,-,-,-,-,-,-,-,-,-,-,-,-,-,e17,e18,e19,e20,e21,e22,e23,e24,e25,-,-,-,-,-,-⟩:=row32 HKP8.out;obtain⟨w,hw⟩:∃w:World,w=W8:=⟨_,rfl⟩
 have hst:SHs w W8 W8.heap.size W8:=by rw[hw];exact SHs.start NL NL (Bel.refl _ _)
 clear hw;refine wp_region_noPanic ?_;refine wp_region_K (S:=(fun w'=>(∀(b o:Nat),b<W8.heap.size->w'.cell? ⟨b,o,none⟩=W8.cell? ⟨b,o,none⟩)/\SHs w W8 (W8.heap.size) w')) (k:=24) (by kernel_rfl) ?_ (fun hHeld=>?_)
 . ((try dsimp only);(exact K2s))
 refine TK 0 [] ?_;refine TK 1 [] ?_;refine TK 2 [] ?_;refine TK 3 [] ?_;refine TK 4 [] ?_;refine TK 5 [] ?_;refine TK 6 [] ?_;refine TK 7 [] ?_;refine TK 10 [] ?_;refine TK 11 [] ?_;refine TK 12 [] ?_;refine TK 13 [] ?_;refine TK 14 [] ?_;refine TK 15 [] ?_;refine TK 19 [] ?_;refine TK 20 [] ?_;have hst0:=hHeld.2.near;clear hHeld r0 r1 r2 r3 r4 r5 i9 i10 i11 e17 e18 e19 e20 e21 e22 e23 e24 e25;refine wpAnyK_inv (rs:=[8,9,16,17,18,21,22,23,24]) (Inv:=InvF 25 24 [0,1,2,3,4,5,6,7,10,11,12,13,14,15,19,20] (fun w=>Bel W8.heap.size W8 w) (fun v=>{tmps:=#[u0,u1,.pointer (some ⟨Bp,0,none⟩),u3,u4,u5,u6,u7,u8,.pointer (some ⟨B9,0,none⟩),.pointer (some ⟨B10,0,none⟩),u11,v 23,u13,u14,u15,u16,u17,u18,u19,u20,u21,u22,u23,u24,u25,u26,u27,u28,u29,u30,u31,u32,u33,u34,u35,u36,u37,u38,u39,u40,u41,u42,u43,u44,u45,u46,u47,u48,u49,u50,u51,u52,u53,u54,u55,u56,u57,u58,u59,u60,u61,u62,u63,u64,u65,u66,u67,u68,u69,u70,u71,u72,u73,u74,u75,u76,u77,u78,u79,u80,u81,u82,u83,u84,u85,u86,u87,u88,u89,u90,u91,u92,u93,u94,u95,u96,u97,u98,u99,u100,u101,u102,.pointer (some ⟨Bp,1,none⟩),.pointer (some ⟨Bp,23,none⟩),.agg #[g 23,g 24,g 25],.pointer (some ⟨Bp,1,none⟩),.pointer (some ⟨Bp,17,none⟩),.agg #[g 17,g 18,g 19],.pointer (some ⟨B10,0,none⟩),.agg #[.bool ux,.slice ap aq aq,.slice ar at' at'],v 8,v 9,.pointer (some ⟨Bp,1,none⟩),.pointer (some ⟨Bp,20,none⟩),.agg #[g 20,g 21,g 22],.pointer (some ⟨B10,3,none⟩),.agg #[.bool vx,.slice bp bq bq,.slice br bt bt],.agg #[.bool false,.slice none 0 0,.slice none 0 0],v 16,v 17,v 18,.pointer (some ⟨B9,9,none⟩),.agg #[.bool y3,.slice b3 l3 l3,.slice e3' j3 j3],v 21,v 22,u126,u127,u128,u129,u130,u131,u132,u133,u134,u135,u136,u137],defers:=[]}) (mvPd W8 p h dx dz) K) ?_ ?_ ?_ ?_ ?_ ?_ _ _ _ _ ?_ ?_
 .kernel_rfl
 .exact fun Ls a w h=>h.1
 .exact fun Ls a w h i hi hl=>h.cov (by kernel_rfl) hi hl
 rotate_left
 .intro Ls a w h hk;have hb:=h.held hk (by decide);exact⟨fun b o hlt=>hb.cell hlt,hst.call hb⟩
 .exact fun Ls a w h hall=>NoPanic.normal (h.stop (hall 24 (by decide)) (by decide))
 .refine⟨rfl,by decide,.inl ⟨fun j=>match j with|8=>u111|9=>u112|16=>u119|17=>u120|18=>u121|21=>u124|22=>u125|23=>u12|_=>undef,rfl,rfl,hst0,fun j hj hl=>?_⟩⟩
  iterate 24 (rcases j with _|j; · first|exact trivial|exact absurd hl (by decide))
  omega
 .exact Nat.le_of_ble_eq_true (by kernel_rfl)
 .refine StepsI.cons rfl rfl (fun Ls a w hI hi hd K' hK'=>?_) ?_
  .obtain⟨hs,hpr,⟨v,rfl,hk,hS,hv⟩|⟨h,-⟩⟩:=hI
   .have hp:Pres 232 W8 w:=Pres.below hS.toBelow;go_simp;refine(abs_c (HDX8.out.pres hp)).mono ?_;rintro e w' ⟨v',rfl,hq,hb⟩;refine hK'.out _ _ ?_;have hN:=InvF.next (Fr:=(fun v=>{tmps:=#[u0,u1,.pointer (some ⟨Bp,0,none⟩),u3,u4,u5,u6,u7,u8,.pointer (some ⟨B9,0,none⟩),.pointer (some ⟨B10,0,none⟩),u11,v 23,u13,u14,u15,u16,u17,u18,u19,u20,u21,u22,u23,u24,u25,u26,u27,u28,u29,u30,u31,u32,u33,u34,u35,u36,u37,u38,u39,u40,u41,u42,u43,u44,u45,u46,u47,u48,u49,u50,u51,u52,u53,u54,u55,u56,u57,u58,u59,u60,u61,u62,u63,u64,u65,u66,u67,u68,u69,u70,u71,u72,u73,u74,u75,u76,u77,u78,u79,u80,u81,u82,u83,u84,u85,u86,u87,u88,u89,u90,u91,u92,u93,u94,u95,u96,u97,u98,u99,u100,u101,u102,.pointer (some ⟨Bp,1,none⟩),.pointer (some ⟨Bp,23,none⟩),.agg #[g 23,g 24,g 25],.pointer (some ⟨Bp,1,none⟩),.pointer (some ⟨Bp,17,none⟩),.agg #[g 17,g 18,g 19],.pointer (some ⟨B10,0,none⟩),.agg #[.bool ux,.slice ap aq aq,.slice ar at' at'],v 8,v 9,.pointer (some ⟨Bp,1,none⟩),.pointer (some ⟨Bp,20,none⟩),.agg #[g 20,g 21,g 22],.pointer (some ⟨B10,3,none⟩),.agg #[.bool vx,.slice bp bq bq,.slice br bt bt],.agg #[.bool false,.slice none 0 0,.slice none 0 0],v 16,v 17,v 18,.pointer (some ⟨B9,9,none⟩),.agg #[.bool y3,.slice b3 l3 l3,.slice e3' j3 j3],v 21,v 22,u126,u127,u128,u129,u130,u131,u132,u133,u134,u135,u136,u137],defers:=[]})) (S:=fun w=>Bel W8.heap.size W8 w) (Fin:=K) (i:=8) v' hs hpr hk hv (by decide) (hS.trans (hb.mono hS.size)) (mvPd.bel hb) hq
    exact hN
   .rw[h]at hi;cases hi
  .refine StepsI.cons rfl rfl (fun Ls a w hI hi hd K' hK'=>?_) ?_
   .obtain⟨hs,hpr,⟨v,rfl,hk,hS,hv⟩|⟨h,-⟩⟩:=hI
    .have hp:Pres 232 W8 w:=Pres.below hS.toBelow;have q8:QV w (v 8) _:=hv 8 (by decide) (hd 8 (by decide));go_simp;refine(qmul_c (HPL8.out.pres hp) q8 HWF.out.perLength HXF.out.abs (by have:=HLS.out;omega)).mono ?_;rintro e w' ⟨v',rfl,hq,hb⟩;refine hK'.out _ _ ?_;have hN:=InvF.next (Fr:=(fun v=>{tmps:=#[u0,u1,.pointer (some ⟨Bp,0,none⟩),u3,u4,u5,u6,u7,u8,.pointer (some ⟨B9,0,none⟩),.pointer (some ⟨B10,0,none⟩),u11,v 23,u13,u14,u15,u16,u17,u18,u19,u20,u21,u22,u23,u24,u25,u26,u27,u28,u29,u30,u31,u32,u33,u34,u35,u36,u37,u38,u39,u40,u41,u42,u43,u44,u45,u46,u47,u48,u49,u50,u51,u52,u53,u54,u55,u56,u57,u58,u59,u60,u61,u62,u63,u64,u65,u66,u67,u68,u69,u70,u71,u72,u73,u74,u75,u76,u77,u78,u79,u80,u81,u82,u83,u84,u85,u86,u87,u88,u89,u90,u91,u92,u93,u94,u95,u96,u97,u98,u99,u100,u101,u102,.pointer (some ⟨Bp,1,none⟩),.pointer (some ⟨Bp,23,none⟩),.agg #[g 23,g 24,g 25],.pointer (some ⟨Bp,1,none⟩),.pointer (some ⟨Bp,17,none⟩),.agg #[g 17,g 18,g 19],.pointer (some ⟨B10,0,none⟩),.agg #[.bool ux,.slice ap aq aq,.slice ar at' at'],v 8,v 9,.pointer (some ⟨Bp,1,none⟩),.pointer (some ⟨Bp,20,none⟩),.agg #[g 20,g 21,g 22],.pointer (some ⟨B10,3,none⟩),.agg #[.bool vx,.slice bp bq bq,.slice br bt bt],.agg #[.bool false,.slice none 0 0,.slice none 0 0],v 16,v 17,v 18,.pointer (some ⟨B9,9,none⟩),.agg #[.bool y3,.slice b3 l3 l3,.slice e3' j3 j3],v 21,v 22,u126,u127,u128,u129,u130,u131,u132,u133,u134,u135,u136,u137],defers:=[]})) (S:=fun w=>Bel W8.heap.size W8 w) (Fin:=K) (i:=9) v' hs hpr hk hv (by decide) (hS.trans (hb.mono hS.size)) (mvPd.bel hb) hq
     exact hN
    .rw[h]at hi;cases hi
   .refine StepsI.cons rfl rfl (fun Ls a w hI hi hd K' hK'=>?_) ?_
    .obtain⟨hs,hpr,⟨v,rfl,hk,hS,hv⟩|⟨h,-⟩⟩:=hI
     .have hp:Pres 232 W8 w:=Pres.below hS.toBelow;go_simp;have hb:Bel w.heap.size w (w.alloc (.cells #[.bool vx,.slice bp bq bq,.slice br bt bt,.bool false,.slice none 0 0,.slice none 0 0] 39)):=(Bel.refl _ _).alloc NL _;refine hK'.out _ _ ?_;have hN:=InvF.next (Fr:=(fun v=>{tmps:=#[u0,u1,.pointer (some ⟨Bp,0,none⟩),u3,u4,u5,u6,u7,u8,.pointer (some ⟨B9,0,none⟩),.pointer (some ⟨B10,0,none⟩),u11,v 23,u13,u14,u15,u16,u17,u18,u19,u20,u21,u22,u23,u24,u25,u26,u27,u28,u29,u30,u31,u32,u33,u34,u35,u36,u37,u38,u39,u40,u41,u42,u43,u44,u45,u46,u47,u48,u49,u50,u51,u52,u53,u54,u55,u56,u57,u58,u59,u60,u61,u62,u63,u64,u65,u66,u67,u68,u69,u70,u71,u72,u73,u74,u75,u76,u77,u78,u79,u80,u81,u82,u83,u84,u85,u86,u87,u88,u89,u90,u91,u92,u93,u94,u95,u96,u97,u98,u99,u100,u101,u102,.pointer (some ⟨Bp,1,none⟩),.pointer (some ⟨Bp,23,none⟩),.agg #[g 23,g 24,g 25],.pointer (some ⟨Bp,1,none⟩),.pointer (some ⟨Bp,17,none⟩),.agg #[g 17,g 18,g 19],.pointer (some ⟨B10,0,none⟩),.agg #[.bool ux,.slice ap aq aq,.slice ar at' at'],v 8,v 9,.pointer (some ⟨Bp,1,none⟩),.pointer (some ⟨Bp,20,none⟩),.agg #[g 20,g 21,g 22],.pointer (some ⟨B10,3,none⟩),.agg #[.bool vx,.slice bp bq bq,.slice br bt bt],.agg #[.bool false,.slice none 0 0,.slice none 0 0],v 16,v 17,v 18,.pointer (some ⟨B9,9,none⟩),.agg #[.bool y3,.slice b3 l3 l3,.slice e3' j3 j3],v 21,v 22,u126,u127,u128,u129,u130,u131,u132,u133,u134,u135,u136,u137],defers:=[]})) (S:=fun w=>Bel W8.heap.size W8 w) (Fin:=K) (i:=16) (.slice (some ⟨w.heap.size,0,none⟩) 2 2) hs hpr hk hv (by decide) (hS.trans (hb.mono hS.size)) (mvPd.bel hb) ⟨_,rfl,QS.two (heap_new _ _ rfl) (HDZ8.out.pres (hp.trans (Pres.alloc _ _))) (QV.zero _)⟩
      exact hN
     .rw[h]at hi;cases hi
    .refine StepsI.cons rfl rfl (fun Ls a w hI hi hd K' hK'=>?_) ?_
     .obtain⟨hs,hpr,⟨v,rfl,hk,hS,hv⟩|⟨h,-⟩⟩:=hI
      .have hp:Pres 232 W8 w:=Pres.below hS.toBelow;obtain⟨ao,e16,q16⟩:=hv 16 (by decide) (hd 16 (by decide));have hc:=Max_c (c:=2) (L:=L+L+1) q16 (QF.q2 HZF.out (QF.zero _ (by omega))) (by omega) (by omega) (by have:=HLS.out;omega);rw[<-e16]at hc;clear e16;go_simp;refine(hc).mono ?_;rintro e w' ⟨v',rfl,hq,hb⟩;refine hK'.out _ _ ?_;have hN:=InvF.next (Fr:=(fun v=>{tmps:=#[u0,u1,.pointer (some ⟨Bp,0,none⟩),u3,u4,u5,u6,u7,u8,.pointer (some ⟨B9,0,none⟩),.pointer (some ⟨B10,0,none⟩),u11,v 23,u13,u14,u15,u16,u17,u18,u19,u20,u21,u22,u23,u24,u25,u26,u27,u28,u29,u30,u31,u32,u33,u34,u35,u36,u37,u38,u39,u40,u41,u42,u43,u44,u45,u46,u47,u48,u49,u50,u51,u52,u53,u54,u55,u56,u57,u58,u59,u60,u61,u62,u63,u64,u65,u66,u67,u68,u69,u70,u71,u72,u73,u74,u75,u76,u77,u78,u79,u80,u81,u82,u83,u84,u85,u86,u87,u88,u89,u90,u91,u92,u93,u94,u95,u96,u97,u98,u99,u100,u101,u102,.pointer (some ⟨Bp,1,none⟩),.pointer (some ⟨Bp,23,none⟩),.agg #[g 23,g 24,g 25],.pointer (some ⟨Bp,1,none⟩),.pointer (some ⟨Bp,17,none⟩),.agg #[g 17,g 18,g 19],.pointer (some ⟨B10,0,none⟩),.agg #[.bool ux,.slice ap aq aq,.slice ar at' at'],v 8,v 9,.pointer (some ⟨Bp,1,none⟩),.pointer (some ⟨Bp,20,none⟩),.agg #[g 20,g 21,g 22],.pointer (some ⟨B10,3,none⟩),.agg #[.bool vx,.slice bp bq bq,.slice br bt bt],.agg #[.bool false,.slice none 0 0,.slice none 0 0],v 16,v 17,v 18,.pointer (some ⟨B9,9,none⟩),.agg #[.bool y3,.slice b3 l3 l3,.slice e3' j3 j3],v 21,v 22,u126,u127,u128,u129,u130,u131,u132,u133,u134,u135,u136,u137],defers:=[]})) (S:=fun w=>Bel W8.heap.size W8 w) (Fin:=K) (i:=17) v' hs hpr hk hv (by decide) (hS.trans (hb.mono hS.size)) (mvPd.bel hb) hq
       exact hN
      .rw[h]at hi;cases hi
     .refine StepsI.cons rfl rfl (fun Ls a w hI hi hd K' hK'=>?_) ?_
      .obtain⟨hs,hpr,⟨v,rfl,hk,hS,hv⟩|⟨h,-⟩⟩:=hI
       .have hp:Pres 232 W8 w:=Pres.below hS.toBelow;have q17:QV w (v 17) _:=hv 17 (by decide) (hd 17 (by decide));go_simp;refine(qmul_c (HPR8.out.pres hp) q17 HWF.out.perRise (show QF (L+L+1) (rise dz)from HZF.out.rise (by omega)) (by have:=HLS.out;omega)).mono ?_;rintro e w' ⟨v',rfl,hq,hb⟩;refine hK'.out _ _ ?_;have hN:=InvF.next (Fr:=(fun v=>{tmps:=#[u0,u1,.pointer (some ⟨Bp,0,none⟩),u3,u4,u5,u6,u7,u8,.pointer (some ⟨B9,0,none⟩),.pointer (some ⟨B10,0,none⟩),u11,v 23,u13,u14,u15,u16,u17,u18,u19,u20,u21,u22,u23,u24,u25,u26,u27,u28,u29,u30,u31,u32,u33,u34,u35,u36,u37,u38,u39,u40,u41,u42,u43,u44,u45,u46,u47,u48,u49,u50,u51,u52,u53,u54,u55,u56,u57,u58,u59,u60,u61,u62,u63,u64,u65,u66,u67,u68,u69,u70,u71,u72,u73,u74,u75,u76,u77,u78,u79,u80,u81,u82,u83,u84,u85,u86,u87,u88,u89,u90,u91,u92,u93,u94,u95,u96,u97,u98,u99,u100,u101,u102,.pointer (some ⟨Bp,1,none⟩),.pointer (some ⟨Bp,23,none⟩),.agg #[g 23,g 24,g 25],.pointer (some ⟨Bp,1,none⟩),.pointer (some ⟨Bp,17,none⟩),.agg #[g 17,g 18,g 19],.pointer (some ⟨B10,0,none⟩),.agg #[.bool ux,.slice ap aq aq,.slice ar at' at'],v 8,v 9,.pointer (some ⟨Bp,1,none⟩),.pointer (some ⟨Bp,20,none⟩),.agg #[g 20,g 21,g 22],.pointer (some ⟨B10,3,none⟩),.agg #[.bool vx,.slice bp bq bq,.slice br bt bt],.agg #[.bool false,.slice none 0 0,.slice none 0 0],v 16,v 17,v 18,.pointer (some ⟨B9,9,none⟩),.agg #[.bool y3,.slice b3 l3 l3,.slice e3' j3 j3],v 21,v 22,u126,u127,u128,u129,u130,u131,u132,u133,u134,u135,u136,u137],defers:=[]})) (S:=fun w=>Bel W8.heap.size W8 w) (Fin:=K) (i:=18) v' hs hpr hk hv (by decide) (hS.trans (hb.mono hS.size)) (mvPd.bel hb) hq
        exact hN
       .rw[h]at hi;cases hi
      .refine StepsI.cons rfl rfl (fun Ls a w hI hi hd K' hK'=>?_) ?_
       .obtain⟨hs,hpr,⟨v,rfl,hk,hS,hv⟩|⟨h,-⟩⟩:=hI
        .have hp:Pres 232 W8 w:=Pres.below hS.toBelow;have q9:QV w (v 9) _:=hv 9 (by decide) (hd 9 (by decide));have q18:QV w (v 18) _:=hv 18 (by decide) (hd 18 (by decide));obtain⟨x9,a9,n9,c9,k9,e9⟩:=QV.cells q9;obtain⟨x8,a8,n8,c8,k8,e18⟩:=QV.cells q18;have q9':=q9;have q18':=q18;rw[e9]at q9';rw[e18]at q18'
         have hV:updV (updV v 9 (.agg #[.bool x9,.slice a9 n9 n9,.slice c9 k9 k9])) 18 (.agg #[.bool x8,.slice a8 n8 n8,.slice c8 k8 k8])=v:=by
          funext j;unfold updV;split
          .next h=>rw[h];exact e18.symm
          .split
           .next h=>rw[h];exact e9.symm
           .rfl
         rw[<-hV]at hv;go_simp;have hb:Bel w.heap.size w (w.alloc (.cells #[g 23,g 24,g 25,.bool x9,.slice a9 n9 n9,.slice c9 k9 k9,.bool x8,.slice a8 n8 n8,.slice c8 k8 k8,.bool y3,.slice b3 l3 l3,.slice e3' j3 j3] 39)):=(Bel.refl _ _).alloc NL _;refine hK'.out _ _ ?_;have hN:=InvF.next (Fr:=(fun v=>{tmps:=#[u0,u1,.pointer (some ⟨Bp,0,none⟩),u3,u4,u5,u6,u7,u8,.pointer (some ⟨B9,0,none⟩),.pointer (some ⟨B10,0,none⟩),u11,v 23,u13,u14,u15,u16,u17,u18,u19,u20,u21,u22,u23,u24,u25,u26,u27,u28,u29,u30,u31,u32,u33,u34,u35,u36,u37,u38,u39,u40,u41,u42,u43,u44,u45,u46,u47,u48,u49,u50,u51,u52,u53,u54,u55,u56,u57,u58,u59,u60,u61,u62,u63,u64,u65,u66,u67,u68,u69,u70,u71,u72,u73,u74,u75,u76,u77,u78,u79,u80,u81,u82,u83,u84,u85,u86,u87,u88,u89,u90,u91,u92,u93,u94,u95,u96,u97,u98,u99,u100,u101,u102,.pointer (some ⟨Bp,1,none⟩),.pointer (some ⟨Bp,23,none⟩),.agg #[g 23,g 24,g 25],.pointer (some ⟨Bp,1,none⟩),.pointer (some ⟨Bp,17,none⟩),.agg #[g 17,g 18,g 19],.pointer (some ⟨B10,0,none⟩),.agg #[.bool ux,.slice ap aq aq,.slice ar at' at'],v 8,v 9,.pointer (some ⟨Bp,1,none⟩),.pointer (some ⟨Bp,20,none⟩),.agg #[g 20,g 21,g 22],.pointer (some ⟨B10,3,none⟩),.agg #[.bool vx,.slice bp bq bq,.slice br bt bt],.agg #[.bool false,.slice none 0 0,.slice none 0 0],v 16,v 17,v 18,.pointer (some ⟨B9,9,none⟩),.agg #[.bool y3,.slice b3 l3 l3,.slice e3' j3 j3],v 21,v 22,u126,u127,u128,u129,u130,u131,u132,u133,u134,u135,u136,u137],defers:=[]})) (S:=fun w=>Bel W8.heap.size W8 w) (Fin:=K) (i:=21) (.slice (some ⟨w.heap.size,0,none⟩) 4 4) hs hpr hk hv (by decide) (hS.trans (hb.mono hS.size)) (mvPd.bel hb) ⟨_,rfl,QS.four (heap_new _ _ rfl) (HPP8.out.pres (hp.trans (Pres.alloc _ _))) (QV.pres q9' (Pres.alloc _ _)) (QV.pres q18' (Pres.alloc _ _)) (HHC8.out.pres (hp.trans (Pres.alloc _ _)))⟩
         exact hN
        .rw[h]at hi;cases hi
       .refine StepsI.cons rfl rfl (fun Ls a w hI hi hd K' hK'=>?_) ?_
        .obtain⟨hs,hpr,⟨v,rfl,hk,hS,hv⟩|⟨h,-⟩⟩:=hI
         .have hp:Pres 232 W8 w:=Pres.below hS.toBelow;obtain⟨ao,e21,q21⟩:=hv 21 (by decide) (hd 21 (by decide));have hc:=Sum_c (c:=4) (L:=L+(L+L+1)) q21 (QF.four (HWF.out.perPhase.mono (by omega)) (HWF.out.perLength.mul HXF.out.abs) (HWF.out.perRise.mul (HZF.out.rise (by omega))) (HFRF.out.c.mono (by omega))) (by omega) (by have:=HLS.out;omega);rw[<-e21]at hc;clear e21;go_simp;refine(hc).mono ?_;rintro e w' ⟨v',rfl,hq,hb⟩
          refine hK'.out _ _ ?_;have hN:=InvF.next (Fr:=(fun v=>{tmps:=#[u0,u1,.pointer (some ⟨Bp,0,none⟩),u3,u4,u5,u6,u7,u8,.pointer (some ⟨B9,0,none⟩),.pointer (some ⟨B10,0,none⟩),u11,v 23,u13,u14,u15,u16,u17,u18,u19,u20,u21,u22,u23,u24,u25,u26,u27,u28,u29,u30,u31,u32,u33,u34,u35,u36,u37,u38,u39,u40,u41,u42,u43,u44,u45,u46,u47,u48,u49,u50,u51,u52,u53,u54,u55,u56,u57,u58,u59,u60,u61,u62,u63,u64,u65,u66,u67,u68,u69,u70,u71,u72,u73,u74,u75,u76,u77,u78,u79,u80,u81,u82,u83,u84,u85,u86,u87,u88,u89,u90,u91,u92,u93,u94,u95,u96,u97,u98,u99,u100,u101,u102,.pointer (some ⟨Bp,1,none⟩),.pointer (some ⟨Bp,23,none⟩),.agg #[g 23,g 24,g 25],.pointer (some ⟨Bp,1,none⟩),.pointer (some ⟨Bp,17,none⟩),.agg #[g 17,g 18,g 19],.pointer (some ⟨B10,0,none⟩),.agg #[.bool ux,.slice ap aq aq,.slice ar at' at'],v 8,v 9,.pointer (some ⟨Bp,1,none⟩),.pointer (some ⟨Bp,20,none⟩),.agg #[g 20,g 21,g 22],.pointer (some ⟨B10,3,none⟩),.agg #[.bool vx,.slice bp bq bq,.slice br bt bt],.agg #[.bool false,.slice none 0 0,.slice none 0 0],v 16,v 17,v 18,.pointer (some ⟨B9,9,none⟩),.agg #[.bool y3,.slice b3 l3 l3,.slice e3' j3 j3],v 21,v 22,u126,u127,u128,u129,u130,u131,u132,u133,u134,u135,u136,u137],defers:=[]})) (S:=fun w=>Bel W8.heap.size W8 w) (Fin:=K) (i:=22) v' hs hpr hk hv (by decide) (hS.trans (hb.mono hS.size)) (mvPd.bel hb) hq
          exact hN
         .rw[h]at hi;cases hi
        .refine StepsI.cons rfl rfl (fun Ls a w hI hi hd K' hK'=>?_) ?_
         .obtain⟨hs,hpr,⟨v,rfl,hk,hS,hv⟩|⟨h,-⟩⟩:=hI
          .have hp:Pres 232 W8 w:=Pres.below hS.toBelow;go_simp;have hb:Bel w.heap.size w (w.alloc (.cells #[.bool false,.slice none 0 0,.slice none 0 0] 39)):=(Bel.refl _ _).alloc NL _;refine hK'.out _ _ ?_;have hN:=InvF.next (Fr:=(fun v=>{tmps:=#[u0,u1,.pointer (some ⟨Bp,0,none⟩),u3,u4,u5,u6,u7,u8,.pointer (some ⟨B9,0,none⟩),.pointer (some ⟨B10,0,none⟩),u11,v 23,u13,u14,u15,u16,u17,u18,u19,u20,u21,u22,u23,u24,u25,u26,u27,u28,u29,u30,u31,u32,u33,u34,u35,u36,u37,u38,u39,u40,u41,u42,u43,u44,u45,u46,u47,u48,u49,u50,u51,u52,u53,u54,u55,u56,u57,u58,u59,u60,u61,u62,u63,u64,u65,u66,u67,u68,u69,u70,u71,u72,u73,u74,u75,u76,u77,u78,u79,u80,u81,u82,u83,u84,u85,u86,u87,u88,u89,u90,u91,u92,u93,u94,u95,u96,u97,u98,u99,u100,u101,u102,.pointer (some ⟨Bp,1,none⟩),.pointer (some ⟨Bp,23,none⟩),.agg #[g 23,g 24,g 25],.pointer (some ⟨Bp,1,none⟩),.pointer (some ⟨Bp,17,none⟩),.agg #[g 17,g 18,g 19],.pointer (some ⟨B10,0,none⟩),.agg #[.bool ux,.slice ap aq aq,.slice ar at' at'],v 8,v 9,.pointer (some ⟨Bp,1,none⟩),.pointer (some ⟨Bp,20,none⟩),.agg #[g 20,g 21,g 22],.pointer (some ⟨B10,3,none⟩),.agg #[.bool vx,.slice bp bq bq,.slice br bt bt],.agg #[.bool false,.slice none 0 0,.slice none 0 0],v 16,v 17,v 18,.pointer (some ⟨B9,9,none⟩),.agg #[.bool y3,.slice b3 l3 l3,.slice e3' j3 j3],v 21,v 22,u126,u127,u128,u129,u130,u131,u132,u133,u134,u135,u136,u137],defers:=[]})) (S:=fun w=>Bel W8.heap.size W8 w) (Fin:=K) (i:=23) (.pointer (some ⟨w.heap.size,0,none⟩)) hs hpr hk hv (by decide) (hS.trans (hb.mono hS.size)) (mvPd.bel hb) ⟨_,rfl,hS.size,heap_new _ _ rfl⟩
           exact hN
          .rw[h]at hi;cases hi
         .refine StepsI.cons rfl rfl (fun Ls a w hI hi hd K' hK'=>?_) ?_
          .obtain⟨hs,hpr,⟨v,rfl,hk,hS,hv⟩|⟨h,-⟩⟩:=hI
           .have hp:Pres 232 W8 w:=Pres.below hS.toBelow;have q22:QV w (v 22) _:=hv 22 (by decide) (hd 22 (by decide));obtain⟨B,e23,hlow,hz⟩:=hv 23 (by decide) (hd 23 (by decide));obtain⟨x,a,n,c,k,e22⟩:=QV.cells q22;rw[e22]at q22;rw[if_pos (by kernel_rfl)];refine wp_store_row 39 (.tmp 12) (.tmp 125) rfl B _ e23 e22 39 _ hz (by kernel_rfl) rfl (by kernel_rfl) ?_;have hF:=hK B x a n c k (.pointer (some ⟨Bp,1,none⟩)) (.pointer (some ⟨Bp,23,none⟩)) (.agg #[g 23,g 24,g 25]) (.pointer (some ⟨Bp,1,none⟩)) (.pointer (some ⟨Bp,17,none⟩)) (.agg #[g 17,g 18,g 19]) (.pointer (some ⟨B10,0,none⟩)) (.agg #[.bool ux,.slice ap aq aq,.slice ar at' at']) (v 8) (v 9) (.pointer (some ⟨Bp,1,none⟩)) (.pointer (some ⟨Bp,20,none⟩)) (.agg #[g 20,g 21,g 22]) (.pointer (some ⟨B10,3,none⟩)) (.agg #[.bool vx,.slice bp bq bq,.slice br bt bt]) (.agg #[.bool false,.slice none 0 0,.slice none 0 0]) (v 16) (v 17) (v 18) (.pointer (some ⟨B9,9,none⟩)) (.agg #[.bool y3,.slice b3 l3 l3,.slice e3' j3 j3]) (v 21) (v 22) (w.setRow B #[.bool x,.slice a n n,.slice c k k]) (setRow_heap _ _ _ _ _ _ hz) (QV.pres q22 (Pres.setRow' ⟨_,_,hz⟩ (by decide) _)) (hS.setRow hlow _)
            rw[<-e23]at hF;refine hK'.out _ _ (InvF.last hs hpr rfl (fun j hj=>hd j (by revert hj;revert j;decide)) hF)
           .rw[h]at hi;cases hi
          .exact StepsI.nil
theorem moves_pos {n l Bs Bp L:Nat}{W:World}{pv hv:Value}{p:ProbD}{s:StateD}{J Jx:List MoveD->World->Prop}(hfi:Fine p s)(hF:ProbF L p)(h1L:1<=L)(hp:PVal W pv p)(hh:IntsV W hv s.holds)
 (hs:W.heap[Bs]?=some (.cells #[.int .i64 s.phase,hv] 88)) (hb:∀cs,pv=.agg cs->W.heap[Bp]?=some (.cells cs 44))
 (hJ:∀s A C,J s A->Bel A.heap.size A C->J s C)
 (hY:∀pre v x W1,J pre W1->MoveV W1 v x->pre++[x]<+:movesL p s->YieldAt Fence.wide (n-1) Tryz.prog l #[v] W1 fun e W'=>(e=.returned (.bool true)/\J (pre++[x]) W'/\KpI W1 W')\/(e=.returned (.bool false)/\Jx (pre++[x]) W'))
 (h0:J [] W) (hpos:¬legOf p s<0):
 CallsIn Fence.wide n Tryz.prog 146 #[.func (.yield l) #[] #[],.pointer (some ⟨Bs,0,none⟩),.pointer (some ⟨Bp,0,none⟩)] W fun e W'=>(∃v,e=.returned v)/\((∃xs,xs=movesL p s/\J xs W')\/(∃pre,pre<+:movesL p s/\Jx pre W')):=by
 have hML:movesL p s=movesK p s p.map.length:=by unfold movesL;rw[if_neg hpos]
 have HP:=LH hp;have HH:=LH hh;have HFI:=LH hfi;have HF:=LH hF;have HJ:=LH hJ;have HY:=LH hY;have HML:=LH hML;obtain⟨hl4,hw2,hw16,hlegs⟩:=hfi.len;obtain⟨ph,hph⟩:∃ph:Nat,s.phase=ph:=⟨s.phase.toNat,by have:=hfi.lo;omega⟩
 have hpl:ph<p.word.length:=by have:=hfi.hi;omega
 have HPL:=LH hpl;have HPH:=LH hph
 obtain⟨lj,hlj,hll⟩:∃lj:Nat,lj<s.holds.length/\legOf p s=(lj:Int)+1:=by
  have hw2:=hfi.world;unfold worldB at hw2;simp only[Bool.and_eq_true,decide_eq_true_eq]at hw2;obtain⟨g,-,hv⟩:=hp;obtain⟨j,hj,e⟩:=evt_leg hw2.2 hv.word.1 hpl;have e2:legOf p s=evt p.word ph:=by unfold legOf;rw[hph];rfl
  rw[e2]at hpos|-;exact⟨j,by omega,by omega⟩
 have HLJ:=LH hlj;have HLL:=LH hll;have hleg:legOf p s=evt p.word ph:=by unfold legOf;rw[hph];rfl
 obtain⟨g,mo,mc,wo,wc_,so,sc,go,gc,rfl,⟨hmc,mg,hm⟩,hwk,hwd,-,-,-⟩:=hp.lit;have HWK:=LH hwk;have HM:=LH hm;have hk:=hb _ rfl;obtain⟨lo,lc,rfl,hlc,-⟩:=id hh;have HWD:=LH hwd;have HL:=LH hleg;obtain⟨nx,hnx⟩:∃nx,nx=(ph+1)%p.word.length:=⟨_,rfl⟩
 have hnxi:((ph:Int)+1).tmod (p.word.length:Int)=(nx:Nat):=by rw[Int.tmod_eq_emod_of_nonneg (by omega),hnx];push_cast;rfl
 have HNX:Hid (nextP p s=(nx:Int)):=by show _=_;unfold nextP;rw[hph,hnx];rfl
 have HNL:Hid (nx<p.word.length):=by show _<_;rw[hnx];exact Nat.mod_lt _ (by omega)
 rw[hph]at hs;have HK:=LH hk;have HS:=LH hs;obtain⟨s0,s1,-,-⟩:=row2 hs;obtain⟨-,-,-,-,-,-,-,-,-,-,-,-,-,-,-,-,-,-,-,-,-,-,-,-,-,-,e26,-,-,-,-,-⟩:=row32 hk;have hbs:=BlkT.lt ⟨_,_,hs⟩;have hbp:=BlkT.lt ⟨_,_,hk⟩
 obtain⟨m0',hm0,hm0n⟩:∃m:Nat,s.holds.getD lj 0=m/\m<p.map.length:=by
  have hh2:=hfi.holds;unfold holdsB at hh2;simp only[Bool.and_eq_true,decide_eq_true_eq,Bool.not_eq_true',List.any_eq_false]at hh2;have:=hh2.2 (s.holds.getD lj 0) (by rw[getD_get hlj];exact List.getElem_mem hlj);unfold outB at this;simp only[Bool.or_eq_true,decide_eq_true_eq,not_or]at this;exact⟨(s.holds.getD lj 0).toNat,by omega,by omega⟩
 have HM0:=LH hm0;have HM0N:=LH hm0n
 have HFR:Hid (fromH p s=p.map.getD m0' hold0):=by
  show _=_
  unfold fromH holdN;rw[hll,show((lj:Int)+1-1).toNat=lj by omega,hm0];rfl
 clear hp hh hfi hF hJ hY hML hpos hb hk hs hph hnx hleg hwd hwk hll hlj hm hm0 hm0n;refine callsIn_wide.2 ?_;generalize HQ:(fun(e:Ending) (W':World)=>(∃v,e=Ending.returned v)/\((∃xs,xs=movesL p s/\J xs W')\/(∃pre,pre<+:movesL p s/\Jx pre W')))=Qp
 go_enter Tryz.func146,Tryz.ntmps146
 go_wp2_with fail
 refine(event_c HWD.out HPL.out hw16).mono ?_;rintro e w9 ⟨rfl,rfl⟩;rw[<-HL.out];rw[HLL.out];have d0:decide ((lj:Int)+1<0)=false:=decide_eq_false (by omega);clear e26
 go_upto_region 6 with fail
 obtain⟨bm,om,rfl,hbm,x0,a0,n0,c0,k0,x1,a1,n1,c1,k1,x2,a2,n2',c2,k2,x3,a3,n3',c3,k3,f0,f1,f2,f3,f4,f5,-,-,-,-,-,-,q0,q1,-,-⟩:=HM.out.el HM0N.out;rw[<-HFR.out]at q0 q1;have Q0:=LH q0;have Q1:=LH q1;have hgl:W.cell? ⟨bm,om+m0'*12,none⟩=some (.bool x0):=f0;obtain⟨lo',lc',el',hlc',hlx'⟩:=HH.out;obtain⟨rfl,rfl⟩:lo=lo'/\lc=lc':=by cases el';exact⟨rfl,rfl⟩
 obtain⟨bl,ol,rfl,hbl,hcl⟩:=hlx'.open (by have:=HLJ.out;omega);have g0:=hcl lj HLJ.out;simp only[HM0.out]at g0;have hlj:=HLJ.out;have hm0n:=HM0N.out;obtain⟨e0,-,-,-,-,-,-,-,-,-,-,-,-,-,-,-,-,-,-,-,-,-,-,-,-,-,-,-,-,-,-,-⟩:=row32 HK.out;clear q0 q1 hlx' hcl el' hlc' hgl
 go_cut [7]from 42 to 52 (fun s7 wx=>∃B7,s7=.pointer (some ⟨B7,0,none⟩)/\W.heap.size<=B7/\wx.heap[B7]?=some (.cells #[.bool x0,.slice a0 n0 n0,.slice c0 k0 k0,.bool x1,.slice a1 n1 n1,.slice c1 k1 k1] 95)/\Bel W.heap.size W wx)
 case first=>
  go_region
  all_goals go_wp2_with fail
  all_goals go_meet
  all_goals(case rel=>exact⟨W.heap.size,rfl,Nat.le_refl _,(by exact heap_new _ _ rfl),Bel.new.drew⟩)
 case rest=>
  obtain⟨B7,rfl,hB7,hk7,hb7⟩:=hcut;have HB7:=LH hb7;have HK7:=LH hk7;have hlt7:=BlkT.lt ⟨_,_,hk7⟩;have HJ0:Hid (J (movesK p s 0) wc):=HJ.out _ _ _ h0 hb7;have HP7:=LH (HP.out.bel hb7);have HM7:=LH (HM.out.bel hb7);have HS7:=LH ((hb7.block _ hbs).trans HS.out);have HKP7:=LH ((hb7.block _ hbp).trans HK.out);have HH7:=LH (HH.out.pres hb7.pb)
  replace HWK:=LH (HWK.out.pres hb7.pb)
  have HQ0:=LH (Q0.out.pres hb7.pb);have HQ1:=LH (Q1.out.pres hb7.pb);have hz7:=hb7.size;clear f0 f1 f2 f3 f4 f5 g0 hm0n e0 hb7 hk7 hbm Q0 Q1 HM HS HK HP HH h0 hbl s0 s1 hbs hbp;generalize wc=W7 at *;obtain⟨nm,hn⟩:∃nm,nm=p.map.length:=⟨_,rfl⟩
  have HNN:=LH hn;rw[<-hn]at hmc
  have hn64:nm<=64:=by
   have hw2:=HFI.out.world;unfold worldB at hw2;simp only[Bool.and_eq_true,decide_eq_true_eq]at hw2;have:=hw2.1.1;unfold ckMap at this;split at this
   .cases this
   .omega
  clear hn;have hbp7:=BlkT.lt ⟨_,_,HKP7.out⟩;obtain⟨e0,-,-,-,-,-,-,-,-,-,-,-,-,-,-,-,-,-,-,-,-,-,-,-,-,-,-,-,-,-,-,-⟩:=row32 HKP7.out;rw[<-HNN.out]at e0;go_wp2
  go_loopg [8,9,10,11,12,56] nm (fun gg _ _ _ _ _ iv wr=>∃i:Nat,gg=nm-i/\i<=nm/\iv=.int .i64 i/\J (movesK p s i) wr/\KpI W7 wr)
  case atStart=>exact⟨0,rfl,Nat.zero_le _,rfl,HJ0.out,Nat.le_refl _,fun T _=>Pres.refl _ _⟩
  case round=>
   clear HJ0;obtain⟨i,hgi,hi,rfl,hj,hkp⟩:=hrel;have HJI:=LH hj;have HKI:=LH hkp;clear hj
   by_cases hlt:i<nm
   .have hhv:HoldsV wr (some ⟨bm,om,none⟩) p.map mg:=HM7.out.keep (hkp.2 _ (by simp)) (hkp.2 _ (by simp));obtain⟨bm',om',em,hbm,y0,b0,l0,d0',j0,y1,b1,l1,d1,j1,y2,b2,l2,d2,j2,y3,b3,l3,d3,j3,f0,f1,f2,f3,f4,f5,f6,f7,f8,f9,f10,f11,q0,q1,-,q3⟩:=hhv.el (i:=i) (by rw[<-HNN.out];exact hlt);obtain⟨rfl,rfl⟩:bm=bm'/\om=om':=by cases em;exact⟨rfl,rfl⟩
    have Q0:=LH q0;have Q1:=LH q1;have Q3:=LH q3;have HK7R:=LH (hkp.2 _ (by simp) _ _ _ HK7.out);have hz7r:=hkp.1;have h7r:B7<wr.heap.size:=by omega
    have HQ0R:=LH (HQ0.out.pres (hkp.2 _ (by simp)));have HQ1R:=LH (HQ1.out.pres (hkp.2 _ (by simp)));obtain⟨r0,r1,r2,r3,r4,r5,-,-,-,-,-,-⟩:=row6 HK7R.out;have HFRF:Hid (HoldF L (p.map.getD i hold0)):=HF.out.map i (by rw[<-HNN.out];exact hlt)
    have HFFF:Hid (HoldF L (fromH p s)):=by
     show HoldF _ _
     rw[HFR.out];exact HF.out.map m0' HM0N.out
    have HLS:=LH HF.out.size;obtain⟨h,hh⟩:∃h,h=p.map.getD i hold0:=⟨_,rfl⟩
    obtain⟨fh,hfh⟩:∃h,h=fromH p s:=⟨_,rfl⟩
    have HHI:=LH hh;have HFH:=LH hfh;rw[<-hh]at Q0 Q1 Q3 HFRF;rw[<-hfh]at HQ0R HQ1R HFFF;clear em q0 q1 q3 hh hfh hhv
    go_upto_region 10 with fail
    go_wp2_with fail
    refine(psub_c (PV.mk (Q0.out.pres (Pres.alloc _ _)) (Q1.out.pres (Pres.alloc _ _))) (PV.mk (HQ0R.out.pres (Pres.alloc _ _)) (HQ1R.out.pres (Pres.alloc _ _))) HFRF.out.x HFRF.out.z HFFF.out.x HFFF.out.z (by have:=HLS.out;omega)).mono ?_;rintro e w1 ⟨v1,rfl,hpv,hb1⟩;obtain⟨u0,p0,q0,r0',t0,u1,p1,q1,r1',t1,rfl,hd0,hd1⟩:=hpv.cells;have HD0:=LH hd0;have HD1:=LH hd1;have HB1:Hid (Bel wr.heap.size wr w1):=Bel.new.trans (hb1.mono (by simp))
    have HK91:=LH ((hb1.block wr.heap.size (by simp)).trans (heap_new _ _ rfl));have hz1:=HB1.out.size;clear hb1 hpv hd0 hd1 f0 f1 f2 f3 f4 f5 f6 f7 f8 f9 f10 f11 r0 r1 r2 r3 r4 r5
    go_upto_region 11 with fail
    obtain⟨W0,hW0⟩:∃W0,W0=w1.alloc (.cells #[.bool u0,.slice p0 q0 q0,.slice r0' t0 t0,.bool u1,.slice p1 q1 q1,.slice r1' t1 t1] 95):=⟨_,rfl⟩
    have HB2:Hid (Bel wr.heap.size wr W0):=by show Bel _ _ _;rw[hW0];exact HB1.out.alloc hz1 _
    have HK10:=LH (at_world hW0 (b:=w1.heap.size) (heap_new _ _ rfl));have HK9:=LH (at_world hW0 (b:=wr.heap.size) ((heap_old _ _ (BlkT.lt ⟨_,_,HK91.out⟩)).trans HK91.out));have HDX:Hid (QV W0 (.agg #[.bool u0,.slice p0 q0 q0,.slice r0' t0 t0]) (h.x-fh.x)):=by show QV _ _ _;rw[hW0];exact HD0.out.pres (Pres.alloc _ _)
    have HDZ:Hid (QV W0 (.agg #[.bool u1,.slice p1 q1 q1,.slice r1' t1 t1]) (h.z-fh.z)):=by show QV _ _ _;rw[hW0];exact HD1.out.pres (Pres.alloc _ _)
    have hz2:w1.heap.size<W0.heap.size:=by rw[hW0];simp
    rw[<-hW0];clear hW0 HD0 HD1 HK91;obtain⟨dx,hdx⟩:∃dx,dx=h.x-fh.x:=⟨_,rfl⟩
    obtain⟨dz,hdz⟩:∃dz,dz=h.z-fh.z:=⟨_,rfl⟩
    have HDXE:Hid (dX p s i=dx):=by show _=_;unfold dX;rw[<-HHI.out,<-HFH.out,hdx]
    have HDZE:Hid (dZ p s i=dz):=by show _=_;unfold dZ;rw[<-HHI.out,<-HFH.out,hdz]
    have HXF:Hid (QF (L+L+1) dx):=by show QF _ _;rw[hdx];exact HFRF.out.x.sub HFFF.out.x
    have HZF:Hid (QF (L+L+1) dz):=by show QF _ _;rw[hdz];exact HFRF.out.z.sub HFFF.out.z
    rw[<-hdx]at HDX;rw[<-hdz]at HDZ;clear hdx hdz;have HKK:Hid (KpI W7 W0):=HKI.out.trans (KpI.of_bel HB2.out);have HP2:Hid (PVal W0 _ p):=HP7.out.keep HKK.out;have HKP2:=LH (HKK.out.2 _ (by simp) _ _ _ HKP7.out);have HJ2:Hid (J (movesK p s i) W0):=HJ.out _ _ _ HJI.out HB2.out;have hwk:WalkAt W0 g 1 p.walker:=HWK.out.pres (HKK.out.2 _ (by simp));have HLO:=LH hwk.long;have HUP:=LH hwk.up
    have HDN:=LH hwk.down;have HWF:=LH HF.out.walker;have hbp2:=BlkT.lt ⟨_,_,HKP2.out⟩;obtain⟨c1i,hc1⟩:∃c,c=cmpR (ratAbs dx) p.walker.long:=⟨_,rfl⟩
    obtain⟨c2i,hc2⟩:∃c,c=cmpR dz p.walker.up:=⟨_,rfl⟩
    obtain⟨c3i,hc3⟩:∃c,c=cmpR (-dz) p.walker.down:=⟨_,rfl⟩
    have HFA:Hid (farB p s i=(decide (0<c1i)||(decide (0<c2i)||decide (0<c3i)))):=by show _=_;unfold farB;rw[HDXE.out,HDZE.out,hc1,hc2,hc3]
    have HC1:Hid (∀W' v,Bel W0.heap.size W0 W'->QV W' v (ratAbs dx)->Calls Tryz.prog 24 #[v,.agg #[g 2,g 3,g 4]] W' fun e w'=>e=.returned (.int .i64 c1i)/\Bel W'.heap.size W' w'):=fun W' v hb hv=>by
     rw[hc1];exact qcmp_c hv (HLO.out.pres hb.pb) HXF.out.abs HWF.out.long (by have:=HLS.out;omega)
    have HC2:Hid (∀W' v,Bel W0.heap.size W0 W'->QV W' v dz->Calls Tryz.prog 24 #[v,.agg #[g 5,g 6,g 7]] W' fun e w'=>e=.returned (.int .i64 c2i)/\Bel W'.heap.size W' w'):=fun W' v hb hv=>by
     rw[hc2];exact qcmp_c hv (HUP.out.pres hb.pb) HZF.out HWF.out.up (by have:=HLS.out;omega)
    have HC3:Hid (∀W' v,Bel W0.heap.size W0 W'->QV W' v (-dz)->Calls Tryz.prog 24 #[v,.agg #[g 8,g 9,g 10]] W' fun e w'=>e=.returned (.int .i64 c3i)/\Bel W'.heap.size W' w'):=fun W' v hb hv=>by
     rw[hc3];exact qcmp_c hv (HDN.out.pres hb.pb) HZF.out.neg HWF.out.down (by have:=HLS.out;omega)
    clear hc1 hc2 hc3 hwk;obtain⟨r0,r1,r2,r3,r4,r5,-,-,-,-,-,-⟩:=row6 HK10.out;obtain⟨-,-,e2,e3,e4,e5,e6,e7,e8,e9,e10,-,-,-,-,-,-,-,-,-,-,-,-,-,-,-,-,-,-,-,-,-⟩:=row32 HKP2.out;obtain⟨w,hw⟩:∃w:World,w=W0:=⟨_,rfl⟩
    have hst:SHs w W0 W0.heap.size W0:=by rw[hw];exact SHs.start NL NL (Bel.refl _ _)
    clear hw
    go_cut [91]from 65 to 90 (fun s91 wx=>s91=.bool (farB p s i)/\Bel W0.heap.size W0 wx)
    case first=>
     by_cases h1:0<c1i
     .have d1:decide (0<c1i)=true:=decide_eq_true h1;have HFA2:Hid (farB p s i=true):=by show _=_;rw[HFA.out,d1];rfl
      refine wp_region_noPanic ?_;refine wp_region_K (S:=(fun w'=>(∀(b o:Nat),b<W0.heap.size->w'.cell? ⟨b,o,none⟩=W0.cell? ⟨b,o,none⟩)/\SHs w W0 (W0.heap.size) w')) (k:=26) (by kernel_rfl) ?_ (fun hHeld=>?_)
      . ((try dsimp only);(exact K2s))
      refine TK 0 [17,16,8,6,2,1] ?_;refine TK 1 [17,16,8,6,2] ?_;refine TK 3 [17,16,8,6,5,4] ?_;refine TK 4 [17,16,8,6,5] ?_;refine TK 5 [17,16,8,6] ?_;refine KRs [2] ?_;refine KCs (fun K hK=>?_) ?_
      .go_simp
       ((try (rename _/\_=>hh;rcases hh with⟨hSc,hSb⟩));refine(abs_c (HDX.out.pres CH2s)).mono ?_;rintro e w20 ⟨vq1,rfl,hQ1,hb1⟩;have hz1:=(hSb.call hb1).near.size)
       (try go_wp2_with fail)
       refine SS hK fun hHeld=>?_;clear hK K
       refine KRs [6] ?_;refine KCs (fun K hK=>?_) ?_
       .go_simp
        ((try (rename _/\_=>hh;rcases hh with⟨hSc,hSb⟩));refine(HC1.out _ _ hSb.near hQ1).mono ?_;rintro e w22 ⟨rfl,hb3⟩;have hz3:=(hSb.call hb3).near.size)
        (try go_wp2_with fail)
        refine SS hK fun hHeld=>?_;clear hK K
        refine TK 7 [17,16,8] ?_;refine TK 8 [17,16] ?_;refine TX 9 [17,14,10] ?_;refine TX 10 [17,14] ?_;refine TX 11 [17,14,13,12] ?_;refine TX 12 [17,14,13] ?_;refine TX 13 [17,14] ?_;refine TX 14 [17] ?_;refine TX 15 [17,16] ?_;refine TK 16 [17] ?_;refine TK 17 [] ?_;refine TX 18 [25,24,20,19] ?_;refine TX 19 [25,24,20] ?_;refine TX 20 [25,24] ?_;refine TX 21 [25,24,23,22] ?_;refine TX 22 [25,24,23] ?_
        refine TX 23 [25,24] ?_;refine TX 24 [25] ?_;refine TX 25 [] ?_;refine KRs [26] ?_;refine KCs (fun K hK=>?_) ?_
        .go_simp;refine SE hK ?_;clear hK K
         refine wpAnyK_done (by kernel_rfl) ?_ _;refine NoPanic.normal ?_;go_wp2
         go_meet
         case rel=>exact⟨by rw[HFA2.out],hHeld.2.near⟩
        exact KNs
       exact KNs
      exact KNs
     have d1:decide (0<c1i)=false:=decide_eq_false h1
     by_cases h2:0<c2i
     .have d2:decide (0<c2i)=true:=decide_eq_true h2;have HFA2:Hid (farB p s i=true):=by show _=_;rw[HFA.out,d1,d2];rfl
      refine wp_region_noPanic ?_;refine wp_region_K (S:=(fun w'=>(∀(b o:Nat),b<W0.heap.size->w'.cell? ⟨b,o,none⟩=W0.cell? ⟨b,o,none⟩)/\SHs w W0 (W0.heap.size) w')) (k:=26) (by kernel_rfl) ?_ (fun hHeld=>?_)
      . ((try dsimp only);(exact K2s))
      refine TK 0 [17,16,8,6,2,1] ?_;refine TK 1 [17,16,8,6,2] ?_;refine TK 3 [17,16,8,6,5,4] ?_;refine TK 4 [17,16,8,6,5] ?_;refine TK 5 [17,16,8,6] ?_;refine KRs [2] ?_;refine KCs (fun K hK=>?_) ?_
      .go_simp
       ((try (rename _/\_=>hh;rcases hh with⟨hSc,hSb⟩));refine(abs_c (HDX.out.pres CH2s)).mono ?_;rintro e w20 ⟨vq1,rfl,hQ1,hb1⟩;have hz1:=(hSb.call hb1).near.size)
       (try go_wp2_with fail)
       refine SS hK fun hHeld=>?_;clear hK K
       refine KRs [6] ?_;refine KCs (fun K hK=>?_) ?_
       .go_simp
        ((try (rename _/\_=>hh;rcases hh with⟨hSc,hSb⟩));refine(HC1.out _ _ hSb.near hQ1).mono ?_;rintro e w22 ⟨rfl,hb3⟩;have hz3:=(hSb.call hb3).near.size)
        (try go_wp2_with fail)
        refine SS hK fun hHeld=>?_;clear hK K
        refine TK 7 [17,16,8] ?_;refine TK 8 [17,16] ?_;refine TK 9 [17,14,10] ?_;refine TK 10 [17,14] ?_;refine TK 11 [17,14,13,12] ?_;refine TK 12 [17,14,13] ?_;refine TK 13 [17,14] ?_;refine KRs [14] ?_;refine KCs (fun K hK=>?_) ?_
        .go_simp
         ((try (rename _/\_=>hh;rcases hh with⟨hSc,hSb⟩));refine(HC2.out _ _ hSb.near (HDZ.out.pres hSb.near.pb)).mono ?_;rintro e w23 ⟨rfl,hb4⟩;have hz4:=(hSb.call hb4).near.size)
         (try go_wp2_with fail)
         refine SS hK fun hHeld=>?_;clear hK K
         refine TK 15 [17,16] ?_;refine TK 16 [17] ?_;refine TK 17 [] ?_;refine TX 18 [25,24,20,19] ?_;refine TX 19 [25,24,20] ?_;refine TX 20 [25,24] ?_;refine TX 21 [25,24,23,22] ?_;refine TX 22 [25,24,23] ?_;refine TX 23 [25,24] ?_;refine TX 24 [25] ?_;refine TX 25 [] ?_;refine KRs [26] ?_;refine KCs (fun K hK=>?_) ?_
         .go_simp;refine SE hK ?_;clear hK K
          refine wpAnyK_done (by kernel_rfl) ?_ _;refine NoPanic.normal ?_;go_wp2
          go_meet
          case rel=>exact⟨by rw[HFA2.out],hHeld.2.near⟩
         exact KNs
        exact KNs
       exact KNs
      exact KNs
     have d2:decide (0<c2i)=false:=decide_eq_false h2
     by_cases h3:0<c3i
     .have d3:decide (0<c3i)=true:=decide_eq_true h3;have HFA2:Hid (farB p s i=true):=by show _=_;rw[HFA.out,d1,d2,d3];rfl
      refine wp_region_noPanic ?_;refine wp_region_K (S:=(fun w'=>(∀(b o:Nat),b<W0.heap.size->w'.cell? ⟨b,o,none⟩=W0.cell? ⟨b,o,none⟩)/\SHs w W0 (W0.heap.size) w')) (k:=26) (by kernel_rfl) ?_ (fun hHeld=>?_)
      . ((try dsimp only);(exact K2s))
      refine TK 0 [17,16,8,6,2,1] ?_;refine TK 1 [17,16,8,6,2] ?_;refine TK 3 [17,16,8,6,5,4] ?_;refine TK 4 [17,16,8,6,5] ?_;refine TK 5 [17,16,8,6] ?_;refine KRs [2] ?_;refine KCs (fun K hK=>?_) ?_
      .go_simp
       ((try (rename _/\_=>hh;rcases hh with⟨hSc,hSb⟩));refine(abs_c (HDX.out.pres CH2s)).mono ?_;rintro e w20 ⟨vq1,rfl,hQ1,hb1⟩;have hz1:=(hSb.call hb1).near.size)
       (try go_wp2_with fail)
       refine SS hK fun hHeld=>?_;clear hK K
       refine KRs [6] ?_;refine KCs (fun K hK=>?_) ?_
       .go_simp
        ((try (rename _/\_=>hh;rcases hh with⟨hSc,hSb⟩));refine(HC1.out _ _ hSb.near hQ1).mono ?_;rintro e w22 ⟨rfl,hb3⟩;have hz3:=(hSb.call hb3).near.size)
        (try go_wp2_with fail)
        refine SS hK fun hHeld=>?_;clear hK K
        refine TK 7 [17,16,8] ?_;refine TK 8 [17,16] ?_;refine TK 9 [17,14,10] ?_;refine TK 10 [17,14] ?_;refine TK 11 [17,14,13,12] ?_;refine TK 12 [17,14,13] ?_;refine TK 13 [17,14] ?_;refine KRs [14] ?_;refine KCs (fun K hK=>?_) ?_
        .go_simp
         ((try (rename _/\_=>hh;rcases hh with⟨hSc,hSb⟩));refine(HC2.out _ _ hSb.near (HDZ.out.pres hSb.near.pb)).mono ?_;rintro e w23 ⟨rfl,hb4⟩;have hz4:=(hSb.call hb4).near.size)
         (try go_wp2_with fail)
         refine SS hK fun hHeld=>?_;clear hK K
         refine TK 15 [17,16] ?_;refine TK 16 [17] ?_;refine TK 17 [] ?_;refine TK 18 [25,24,20,19] ?_;refine TK 19 [25,24,20] ?_;refine TK 21 [25,24,23,22] ?_;refine TK 22 [25,24,23] ?_;refine TK 23 [25,24] ?_;refine KRs [20] ?_;refine KCs (fun K hK=>?_) ?_
         .go_simp
          ((try (rename _/\_=>hh;rcases hh with⟨hSc,hSb⟩));refine(neg_c (HDZ.out.pres hSb.near.pb)).mono ?_;rintro e w21 ⟨vq2,rfl,hQ2,hb2⟩;have hz2:=(hSb.call hb2).near.size)
          (try go_wp2_with fail)
          refine SS hK fun hHeld=>?_;clear hK K
          refine KRs [24] ?_;refine KCs (fun K hK=>?_) ?_
          .go_simp
           ((try (rename _/\_=>hh;rcases hh with⟨hSc,hSb⟩));refine(HC3.out _ _ hSb.near hQ2).mono ?_;rintro e w24 ⟨rfl,hb5⟩;have hz5:=(hSb.call hb5).near.size)
           (try go_wp2_with fail)
           refine SS hK fun hHeld=>?_;clear hK K
           refine TK 25 [] ?_;refine KRs [26] ?_;refine KCs (fun K hK=>?_) ?_
           .go_simp;refine SE hK ?_;clear hK K
            refine wpAnyK_done (by kernel_rfl) ?_ _;refine NoPanic.normal ?_;go_wp2
            go_meet
            case rel=>exact⟨by rw[HFA2.out],hHeld.2.near⟩
           exact KNs
          exact KNs
         exact KNs
        exact KNs
       exact KNs
      exact KNs
     have d3:decide (0<c3i)=false:=decide_eq_false h3;have HFA2:Hid (farB p s i=false):=by show _=_;rw[HFA.out,d1,d2,d3];rfl
     refine wp_region_noPanic ?_;refine wp_region_K (S:=(fun w'=>(∀(b o:Nat),b<W0.heap.size->w'.cell? ⟨b,o,none⟩=W0.cell? ⟨b,o,none⟩)/\SHs w W0 (W0.heap.size) w')) (k:=26) (by kernel_rfl) ?_ (fun hHeld=>?_)
     . ((try dsimp only);(exact K2s))
     refine TK 0 [17,16,8,6,2,1] ?_;refine TK 1 [17,16,8,6,2] ?_;refine TK 3 [17,16,8,6,5,4] ?_;refine TK 4 [17,16,8,6,5] ?_;refine TK 5 [17,16,8,6] ?_;refine KRs [2] ?_;refine KCs (fun K hK=>?_) ?_
     .go_simp
      ((try (rename _/\_=>hh;rcases hh with⟨hSc,hSb⟩));refine(abs_c (HDX.out.pres CH2s)).mono ?_;rintro e w20 ⟨vq1,rfl,hQ1,hb1⟩;have hz1:=(hSb.call hb1).near.size)
      (try go_wp2_with fail)
      refine SS hK fun hHeld=>?_;clear hK K
      refine KRs [6] ?_;refine KCs (fun K hK=>?_) ?_
      .go_simp
       ((try (rename _/\_=>hh;rcases hh with⟨hSc,hSb⟩));refine(HC1.out _ _ hSb.near hQ1).mono ?_;rintro e w22 ⟨rfl,hb3⟩;have hz3:=(hSb.call hb3).near.size)
       (try go_wp2_with fail)
       refine SS hK fun hHeld=>?_;clear hK K
       refine TK 7 [17,16,8] ?_;refine TK 8 [17,16] ?_;refine TK 9 [17,14,10] ?_;refine TK 10 [17,14] ?_;refine TK 11 [17,14,13,12] ?_;refine TK 12 [17,14,13] ?_;refine TK 13 [17,14] ?_;refine KRs [14] ?_;refine KCs (fun K hK=>?_) ?_
       .go_simp
        ((try (rename _/\_=>hh;rcases hh with⟨hSc,hSb⟩));refine(HC2.out _ _ hSb.near (HDZ.out.pres hSb.near.pb)).mono ?_;rintro e w23 ⟨rfl,hb4⟩;have hz4:=(hSb.call hb4).near.size)
        (try go_wp2_with fail)
        refine SS hK fun hHeld=>?_;clear hK K
        refine TK 15 [17,16] ?_;refine TK 16 [17] ?_;refine TK 17 [] ?_;refine TK 18 [25,24,20,19] ?_;refine TK 19 [25,24,20] ?_;refine TK 21 [25,24,23,22] ?_;refine TK 22 [25,24,23] ?_;refine TK 23 [25,24] ?_;refine KRs [20] ?_;refine KCs (fun K hK=>?_) ?_
        .go_simp
         ((try (rename _/\_=>hh;rcases hh with⟨hSc,hSb⟩));refine(neg_c (HDZ.out.pres hSb.near.pb)).mono ?_;rintro e w21 ⟨vq2,rfl,hQ2,hb2⟩;have hz2:=(hSb.call hb2).near.size)
         (try go_wp2_with fail)
         refine SS hK fun hHeld=>?_;clear hK K
         refine KRs [24] ?_;refine KCs (fun K hK=>?_) ?_
         .go_simp
          ((try (rename _/\_=>hh;rcases hh with⟨hSc,hSb⟩));refine(HC3.out _ _ hSb.near hQ2).mono ?_;rintro e w24 ⟨rfl,hb5⟩;have hz5:=(hSb.call hb5).near.size)
          (try go_wp2_with fail)
          refine SS hK fun hHeld=>?_;clear hK K
          refine TK 25 [] ?_;refine KRs [26] ?_;refine KCs (fun K hK=>?_) ?_
          .go_simp;refine SE hK ?_;clear hK K
           refine wpAnyK_done (by kernel_rfl) ?_ _;refine NoPanic.normal ?_;go_wp2
           go_meet
           case rel=>exact⟨by rw[HFA2.out],hHeld.2.near⟩
          exact KNs
         exact KNs
        exact KNs
       exact KNs
      exact KNs
     exact KNs
    case rest=>
     obtain⟨hfa,hbc⟩:=hcut;have HBC:=LH hbc;have hzc:=hbc.size;have HKC:Hid (KpI W7 wc):=HKK.out.trans (KpI.of_bel hbc);have HJC:Hid (J (movesK p s i) wc):=HJ.out _ _ _ HJ2.out hbc;obtain⟨fa,hfa'⟩:∃fa,fa=farB p s i:=⟨_,rfl⟩
     rw[<-hfa']at hfa;have HFB:=LH hfa';subst hfa;clear hbc hfa' HC1 HC2 HC3 HFA hst r0 r1 r2 r3 r4 r5 e2 e3 e4 e5 e6 e7 e8 e9 e10 HLO HUP HDN
     cases fa
     .have hsb:=HKC.out.2 _ (by simp) _ _ _ HS7.out;obtain⟨s0,s1,-,-⟩:=row2 hsb;have hbsc:=BlkT.lt ⟨_,_,hsb⟩;have hhc:=HH7.out.pres (HKC.out.2 _ (by simp));obtain⟨lo2,lc2,el2,hlc2,hlx2⟩:=hhc;simp only[Value.slice.injEq,true_and]at el2;obtain⟨rfl,rfl⟩:=el2;clear hsb
      go_wp2_with fail
      refine(cloneI_c (f:=intCells s.holds) hlx2 (fun _=>rfl) (by omega)).mono ?_;rintro e w5 ⟨v5,rfl,ho5,hb5⟩;obtain⟨gc5,cc5,cur5,rfl,hg5,hc5,hh5,hx5⟩:=ho5.open (by omega);have hg5l:=BlkT.lt ⟨_,_,hh5⟩;have HB5:=LH hb5;have hz5:=hb5.size;have HH5:=LH hh5;have HX5:=LH hx5;clear hb5 ho5 hlx2 s0 s1 hh5
      go_upto_region 13 with fail
      obtain⟨W6,hW6⟩:∃W6,W6=w5.alloc (.cells #[.int .i64 nx,.slice (some ⟨gc5,0,none⟩) s.holds.length cc5] 88):=⟨_,rfl⟩
      have HB6:Hid (Bel wc.heap.size wc W6):=by show Bel _ _ _;rw[hW6];exact HB5.out.alloc hz5 _
      have hk11:=at_world hW6 (b:=w5.heap.size) (heap_new _ _ rfl);have hh6:W6.heap[gc5]?=some (.cells cur5 3 (0,0)):=by rw[hW6];exact(heap_old _ _ hg5l).trans HH5.out
      have hz6:w5.heap.size<W6.heap.size:=by rw[hW6];simp
      rw[<-hW6];have HK11:=LH hk11;have HH6:=LH hh6;have hcj:=HX5.out lj (by have:=HLJ.out;omega);have e6c:W6.cell? ⟨gc5,lj,none⟩=some (intCells s.holds lj):=by simp[World.cell?,hh6,hcj]
      have e6f:W6.frozen? ⟨gc5,lj,none⟩=false:=by simp[World.frozen?,hh6]
      obtain⟨t0,t1,-,-⟩:=row2 hk11;have hlj2:=HLJ.out;have hg6:gc5<W6.heap.size:=by omega
      clear hW6 hk11 hh6 HH5 HB5
      go_upto_region 14 with fail
      obtain⟨W8,hW8⟩:∃W8,W8=W6.setCell ⟨gc5,lj,none⟩ (.int .i64 i):=⟨_,rfl⟩
      have HB8:Hid (Bel wc.heap.size wc W8):=by show Bel _ _ _;rw[hW8];exact HB6.out.setCell (by exact hg5) _
      have HK118:Hid (W8.heap[w5.heap.size]?=some (.cells #[.int .i64 nx,.slice (some ⟨gc5,0,none⟩) s.holds.length cc5] 88)):=by show _=_;rw[hW8,Below.heap_setCell _ _ _ _ (by simp;omega)];exact HK11.out
      have HI8:Hid (IntsV W8 (.slice (some ⟨gc5,0,none⟩) s.holds.length cc5) (s.holds.set lj i)):=by
       show IntsV _ _ _
       rw[hW8];refine⟨some ⟨gc5,0,none⟩,cc5,by rw[List.length_set],by rw[List.length_set];exact hc5,?_⟩;rw[List.length_set];exact(CellsAt.setOwn HH6.out HX5.out).congr fun k hk=>intCells_set s.holds lj i k hk
      have hcb:∀k,k<wc.heap.size->W8.heap[k]?=wc.heap[k]?:=fun k hk=>HB8.out.block k hk;have hz08:=HB8.out.size;rw[<-hW8];clear hW8 e6c e6f t0 t1 HK11 HH6 HX5 hcj;have HBC8:Hid (Bel W0.heap.size W0 W8):=HBC.out.trans (HB8.out.mono hzc);have HK108:=LH ((HBC8.out.block _ hz2).trans HK10.out);have hz9:=BlkT.lt ⟨_,_,HK9.out⟩;have HK98:=LH ((HBC8.out.block _ hz9).trans HK9.out);have HDX8:=LH (HDX.out.pres HBC8.out.pb)
      have HDZ8:=LH (HDZ.out.pres HBC8.out.pb);have HHC8:Hid (QV W8 (.agg #[.bool y3,.slice b3 l3 l3,.slice d3 j3 j3]) h.c):=(Q3.out.pres HB2.out.pb).pres HBC8.out.pb;have HKK8:Hid (KpI W7 W8):=HKC.out.trans (KpI.of_bel HB8.out);have hwk8:WalkAt W8 g 1 p.walker:=HWK.out.pres (HKK8.out.2 _ (by simp));have HPL8:=LH hwk8.perLength;have HPR8:=LH hwk8.perRise
      have HPP8:=LH hwk8.perPhase;have HKP8:=LH (HKK8.out.2 _ (by simp) _ _ _ HKP7.out);have HJ8:Hid (J (movesK p s i) W8):=HJ.out _ _ _ HJC.out HB8.out
      have HCQ:Hid (costQ p s i=sumQ (fun j=>[p.walker.perPhase,p.walker.perLength*ratAbs dx,p.walker.perRise*rise dz,h.c].getD j 0) 4):=by
       show _=_
       unfold costQ costL;rw[HDXE.out,HDZE.out,<-HHI.out]
      have HTS:Hid (toS p s i=⟨nx,s.holds.set lj i⟩):=by
       show _=_
       unfold toS;rw[HNX.out,HLL.out,show((lj:Int)+1-1).toNat=lj by omega]
      have hbp8:=BlkT.lt ⟨_,_,HKP8.out⟩;have hbd8:=BlkT.lt ⟨_,_,HK108.out⟩;have hbh8:=BlkT.lt ⟨_,_,HK98.out⟩;clear hwk8 hcb HKC HJC HB6 HBC HK10 HK9 HDX HDZ Q3 HB2 HKK HJ2 HKP2 HP2 hbp2 hz2 hz9;refine movesReg14 (p:=p) (L:=L) (h:=h) (dx:=dx) (dz:=dz) (g:=g) _ _ _ _ _ _ _ _ _ _ _ _ _ _ _ _ _ _ _ _ _ _ _ _ _ _ _ _ _ _ _ _ _ _ _ _ _ _ _ _ _ _ _ _ _ _ _ _ _ _ _ _ _ _ _ _ _ _ _ _ _ _ _ _ _ _ _ _ _ _ _ _ _ _ _ _ _ _ _ _ _ _ _ _ _ _ _ _ _ _ _ _ _ _ _ _ _ _ _ _ _ _ _ _ _ _ _ _ _ _ _ _ _ _ _ _ _ _ _ _ _ _ _ _ _ _ _ _ _ _ _ _ _ _ _ HK108 HK98 HKP8 HDX8 HDZ8 HPL8 HPR8 HPP8 HHC8 HXF HZF HWF HFRF HLS h1L ?_
      intro B12 x9 a9 n9 c9 k9 v103 v104 v105 v106 v107 v108 v109 v110 v111 v112 v113 v114 v115 v116 v117 v118 v119 v120 v121 v122 v123 v124 v125 W9 hk12 hq12 hb12;have HB12:=LH hb12;have HK12:=LH hk12;rw[<-HCQ.out]at hq12;have HQ12:=LH hq12;have HK9:=LH ((hb12.block _ (BlkT.lt ⟨_,_,HK118.out⟩)).trans HK118.out);have HI9:=LH (HI8.out.pres hb12.pb);have HKK9:Hid (KpI W7 W9):=HKK8.out.trans (KpI.of_bel hb12)
      have HJ9:Hid (J (movesK p s i) W9):=HJ.out _ _ _ HJ8.out hb12;have HP9:=LH (HP7.out.keep HKK9.out);have HKP9:=LH (HKK9.out.2 _ (by simp) _ _ _ HKP7.out);obtain⟨b0',b1',-,-⟩:=row2 HK9.out;obtain⟨z0,z1,z2,-,-,-⟩:=row3 HK12.out;have hlt12:=BlkT.lt ⟨_,_,hk12⟩;have hlt11:=BlkT.lt ⟨_,_,HK9.out⟩;have HLD:=LH (loadP_range HKP9.out)
      have HST:Hid (StateV W9 (.agg #[.int .i64 nx,.slice (some ⟨gc5,0,none⟩) s.holds.length cc5]) (toS p s i)):=by
       show StateV _ _ _
       rw[HTS.out];exact⟨_,rfl,HI9.out⟩
      have HHB:Hid (holdsB p (toS p s i).holds=true):=by
       show holdsB p (toS p s i).holds=true
       rw[HTS.out];have hh2:=HFI.out.holds;unfold holdsB at hh2|-;simp only[Bool.and_eq_true,decide_eq_true_eq,Bool.not_eq_true',List.any_eq_false,List.length_set]at hh2|-;refine⟨hh2.1,fun y hy=>?_⟩;rcases List.mem_or_eq_of_mem_set hy with h1|h1
       .exact hh2.2 y h1
       .rw[h1];unfold outB;have:=HNN.out;simp only[Bool.or_eq_true,decide_eq_true_eq,not_or];omega
      obtain⟨q,hq⟩:∃q,q=standsB p (toS p s i):=⟨_,rfl⟩
      have HQE:=LH hq
      have HSTC:Hid (CallsIn Fence.wide (n-1) Tryz.prog 147 #[.agg #[.slice (some ⟨bm,om,none⟩) p.map.length mc,.int .i64 p.walker.legs,g 2,g 3,g 4,g 5,g 6,g 7,g 8,g 9,g 10,g 11,g 12,g 13,g 14,g 15,g 16,g 17,g 18,g 19,g 20,g 21,g 22,g 23,g 24,g 25,.slice wo p.word.length wc_,.slice so p.start.length sc,.slice go p.goal.length gc,g 29,g 30,g 31],.agg #[.int .i64 nx,.slice (some ⟨gc5,0,none⟩) s.holds.length cc5]] W9 fun e w'=>e=.returned (.bool q)/\Bel W9.heap.size W9 w'):=by
       rw[hq];exact callsIn_wide.2 (standsC_holds _ _ _ _ _ _ HP9.out HST.out HF.out h1L HFI.out.world (by rw[HTS.out];exact Int.natCast_nonneg _) (by rw[HTS.out];have:=HNL.out;show(nx:Int)<_;omega) HHB.out)
      clear hb12 hk12 hq12 hq HI8 HKK8 HJ8 HK118 HKP8 HHC8 HDX8 HDZ8 HPL8 HPR8 HPP8 HK98 HK108 HBC8 HB8
      go_upto_region 15 with fail
      refine(wpIn_wide (n:=n)).1 ?_
      gi_wp2_with (refine wpListIn_load_g 44 (.tmp 2) rfl _ _ rfl _ _ HLD.out Tryz.underlying44 rfl (by kernel_rfl) rfl ?_)
      refine⟨trivial,fun h=>(by cases h),?_⟩;refine HSTC.out.mono ?_;rintro e w10 ⟨rfl,hb10⟩;have HKK10:Hid (KpI W7 w10):=HKK9.out.trans (KpI.of_bel hb10);have HJ10:Hid (J (movesK p s i) w10):=HJ.out _ _ _ HJ9.out hb10;have hk11b:=(hb10.block _ hlt11).trans HK9.out;have hk12b:=(hb10.block _ hlt12).trans HK12.out;have HI10:=LH (HI9.out.pres hb10.pb);have HQ10:=LH (HQ12.out.pres hb10.pb)
      have hz10:=hb10.size;clear hb10 HLD HSTC b0' b1' z0 z1 z2
      cases q
      .have HMN:Hid (movesK p s (i+1)=movesK p s i):=movesK_not HQE.out.symm
       gi_wp2
       refine⟨fun _ h=>(by cases h),?_⟩
       gi_wp2
       go_wp2
       go_roundg (nm-(i+1))
       case rel=>exact⟨i+1,rfl,by omega,by push_cast;rfl,by rw[HMN.out];exact HJ10.out,HKK10.out⟩
       case measure=>omega
      .have HMY:Hid (movesK p s (i+1)=movesK p s i++[⟨toS p s i,costQ p s i⟩]):=movesK_yes HFB.out.symm HQE.out.symm
       have hmv:MoveV w10 (.agg #[.int .i64 nx,.slice (some ⟨gc5,0,none⟩) s.holds.length cc5,.bool x9,.slice a9 n9 n9,.slice c9 k9 k9]) ⟨toS p s i,costQ p s i⟩:=by
        refine⟨.slice (some ⟨gc5,0,none⟩) s.holds.length cc5,x9,a9,n9,c9,k9,?_,?_,HQ10.out⟩
        .rw[HTS.out]
        .rw[HTS.out];exact HI10.out
       obtain⟨fn,tmps,assign,body,hy,hR⟩:=HY.out _ _ _ w10 HJ10.out hmv (by rw[<-HMY.out,HML.out];exact movesK_prefix (by have:=HNN.out;omega));have HR:=LH hR;obtain⟨b0',b1',-,-⟩:=row2 hk11b;obtain⟨z0,z1,z2,-,-,-⟩:=row3 hk12b;clear hmv hR hk11b hk12b
       gi_wp2
       refine⟨fun h=>(by cases h),?_⟩;refine HR.out.mono ?_;rintro e w11 (⟨rfl,hj,hkp⟩|⟨rfl,hj⟩)
       .have HJ11:Hid (J (movesK p s (i+1)) w11):=by show J _ _;rw[HMY.out];exact hj
        have HKK11:Hid (KpI W7 w11):=HKK10.out.trans hkp;clear hj hkp b0' b1' z0 z1 z2
        gi_wp2
        go_wp2
        go_roundg (nm-(i+1))
        case rel=>exact⟨i+1,rfl,by omega,by push_cast;rfl,HJ11.out,HKK11.out⟩
        case measure=>omega
       .have HX:Hid (Jx (movesK p s (i+1)) w11):=by show Jx _ _;rw[HMY.out];exact hj
        clear hj b0' b1' z0 z1 z2
        gi_wp2
        go_wp2;refine bodyPost_ret (results_none rfl _ _ _) rfl ?_;rw[<-HQ];exact⟨⟨_,rfl⟩,.inr ⟨_,by rw[HML.out];exact movesK_prefix (by have:=HNN.out;omega),HX.out⟩⟩
     .have HMF:Hid (movesK p s (i+1)=movesK p s i):=movesK_far HFB.out.symm;go_wp2
      go_roundg (nm-(i+1))
      case rel=>exact⟨i+1,rfl,by omega,by push_cast;rfl,by rw[HMF.out];exact HJC.out,HKC.out⟩
      case measure=>omega
   .obtain rfl:i=nm:=by omega
    have HX:Hid (J (movesK p s p.map.length) wr):=by show J _ _;rw[<-HNN.out];exact HJI.out
    go_wp2
    go_end0
    rw[<-HQ];exact⟨⟨_,rfl⟩,.inl ⟨_,rfl,by rw[HML.out];exact HX.out⟩⟩
theorem moves_seq {n Bs Bp L:Nat}{w:World}{p:ProbD}{s:StateD}(hfi:Fine p s)(hF:ProbF L p)(h1L:1<=L)(hw:Walks w p s Bs Bp):
 SeqM n Tryz.prog 146 #[.pointer (some ⟨Bs,0,none⟩),.pointer (some ⟨Bp,0,none⟩)] MoveV KpI (movesL p s) w:=by
 intro l J Jx W hst hJ hJx hY h0;obtain⟨⟨pv,cs,h1,rfl,h3⟩,⟨hv,h4,h5⟩⟩:=hw.keep (KpI.of_st hst)
 have hb:∀cs',(Value.agg cs)=.agg cs'->W.heap[Bp]?=some (.cells cs' 44):=fun cs' e=>by
  injection e with e
  rw[<-e];exact h3
 by_cases hn:legOf p s<0
 .exact moves_neg hfi hF h1L h1 h4 h5 hb hJ hY h0 hn
 .exact moves_pos hfi hF h1L h1 h4 h5 hb hJ hY h0 hn
end Go.Proofs.YtlgjakpoaelehaaGreat
