/- Contracts and plain laws, merged: N4 N5 N7 -/
import Derived.Test.YtlgjakpoaelehaaGreatSB22
import Derived.Test.YtlgjakpoaelehaaGreatSE02
namespace Go.Proofs.YtlgjakpoaelehaaGreat.D4
open Go.RowKit
set_option maxRecDepth 100000
set_option maxHeartbeats 8000000
theorem KW {c:Bool}{A B:Prop}(h:A)(hc:c=true:=by kernel_rfl):if c=true then A else B:=by rw[if_pos hc];exact h
noncomputable def unReg:Code:=((Tryz.f51.body.bind (regionOf 14)).getD .skip)
theorem unReg_c {W8:World}{B4 BX i:Nat}{x z hx hz:Rat}{K:Act->World->Prop}{Q0:Exit->Act->World->Prop}{ds:List Deferred}{p0 p1 p2 p3 p4 p5 c0 c1 c2 c3 c4 c5 c6 c7 c8 c9 c10 c11:Value}
 (u0 u1 u2 u3 u5 u6 u7 u8 u10 u12 u13 u14 u15 u16 u17 u18 u19 u20 u21 u22 u23 u24 u25 u26 u27 u28 u29 u30 u31 u32 u33 u34 u35 u36 u37 u38 u39 u40 u41 u42 u43 u44 u45 u46 u47 u48 u49 u50 u51 u52 u53 u54 u55 u56 u57 u58:Value)
 (HK4:Hid (W8.heap[B4]?=some (.cells #[p0,p1,p2,p3,p4,p5] 95))) (HKX:Hid (W8.heap[BX]?=some (.cells #[c0,c1,c2,c3,c4,c5,c6,c7,c8,c9,c10,c11] 97)))
 (HBY:Hid (PV W8 (.agg #[p0,p1,p2,p3,p4,p5]) x z)) (HAT:Hid (PV W8 (.agg #[c0,c1,c2,c3,c4,c5]) hx hz)) (hX:QF 8 x) (hZ:QF 8 z) (hX2:QF 8 hx) (hZ2:QF 8 hz) (hI:QF 1 (((i:Nat):Int):Rat)) (hi:i<=1000)
 (hK:∀(v41 v42 v43 v44 v45 v46 v47 d0 d1 d2 d3 d4 d5:Value) (w1:World),PV w1 (.agg #[d0,d1,d2,d3,d4,d5]) (hx+x*((i:Nat):Int)) (hz+z*((i:Nat):Int))->Bel W8.heap.size W8 w1->K {tmps:=#[u0,u1,u2,u3,.pointer (some ⟨B4,0,none⟩),u5,u6,u7,u8,.int .i64 (i:Nat),u10,.pointer (some ⟨BX,0,none⟩),u12,u13,u14,u15,u16,u17,u18,u19,u20,u21,u22,u23,u24,u25,u26,u27,u28,u29,u30,u31,u32,u33,u34,u35,u36,u37,u38,u39,u40,v41,v42,v43,v44,v45,v46,v47,.pointer (some ⟨BX,0,none⟩),u49,u50,u51,u52,u53,u54,u55,u56,u57,u58],defers:=ds} (w1.setCells BX 0 [d0,d1,d2,d3,d4,d5])):
 Code.wp Tryz.prog unReg (Exit.then K Q0) {tmps:=#[u0,u1,u2,u3,.pointer (some ⟨B4,0,none⟩),u5,u6,u7,u8,.int .i64 (i:Nat),u10,.pointer (some ⟨BX,0,none⟩),u12,u13,u14,u15,u16,u17,u18,u19,u20,u21,u22,u23,u24,u25,u26,u27,u28,u29,u30,u31,u32,u33,u34,u35,u36,u37,u38,u39,u40,u41,u42,u43,u44,u45,u46,u47,u48,u49,u50,u51,u52,u53,u54,u55,u56,u57,u58],defers:=ds} W8:=by
 obtain⟨r0,r1,r2,r3,r4,r5,-,-,-,-,-,-,-,-,-,-,-,-,-,-,-,-,-,-⟩:=row12f HKX.out;obtain⟨t0,t1,t2,t3,t4,t5,-,-,-,-,-,-⟩:=row6 HK4.out;have l4:=BlkT.lt ⟨_,_,HK4.out⟩;have lX:=BlkT.lt ⟨_,_,HKX.out⟩;obtain⟨w,hw⟩:∃w:World,w=W8:=⟨_,rfl⟩
 have hst:SHs w W8 W8.heap.size W8:=by rw[hw];exact SHs.start NL NL (Bel.refl _ _)
 clear hw
 conv=>arg 2;whnf
 refine wp_region_noPanic ?_;refine wp_region_K (S:=(fun w'=>(∀(b o:Nat),b<W8.heap.size->w'.cell? ⟨b,o,none⟩=W8.cell? ⟨b,o,none⟩)/\SHs w W8 (W8.heap.size) w')) (k:=8) (by kernel_rfl) ?_ (fun hHeld=>?_)
 . ((try dsimp only);(exact K2s))
 refine TK 0 [] ?_;refine TK 1 [] ?_;refine TK 2 [] ?_;refine TK 3 [] ?_;refine KRs [4] ?_;refine KCs (fun K hK=>?_) ?_
 .go_simp;refine(Int_c (n:=((i:Nat):Int)) (by omega) (by omega)).mono ?_;rintro e w20 ⟨vq,rfl,hq,hb1⟩
  (try go_wp2_with fail)
  refine SA hK (hHeld.2.call hb1).hold fun hHeld=>?_;clear hK K
  refine KRs [5] ?_;refine KCs (fun K hK=>?_) ?_
  .go_simp;refine(pscale_c (HBY.out.pres hHeld.2.near.pb) hq hX hZ hI (by omega)).mono ?_;rintro e w21 ⟨vs,rfl,hs,hb2⟩
   (try go_wp2_with fail)
   refine SA hK (hHeld.2.call hb2).hold fun hHeld=>?_;clear hK K
   refine KRs [6] ?_;refine KCs (fun K hK=>?_) ?_
   .go_simp;refine(padd_c (HAT.out.pres hHeld.2.near.pb) hs hX2 hZ2 (hX.mul hI) (hZ.mul hI) (by omega)).mono ?_;rintro e w22 ⟨va,rfl,ha,hb3⟩;obtain⟨b0,a0,n0,k0,m0,b1,a1,n1,k1,m1,rfl,-,-⟩:=PV.cells ha
    (try go_wp2_with fail)
    refine SA hK (hHeld.2.call hb3).hold fun hHeld=>?_;clear hK K
    refine TK 7 [] ?_;refine KRs [8] ?_;refine KCs (fun K hK=>?_) ?_
    .have HT:=LH (there_of ((hHeld.2.near.block _ lX).trans HKX.out) 0 6 12 rfl (by decide));have hnear:=hHeld.2.near;refine KW ?_;refine wp_store_mid 95 (.tmp 48) (.tmp 47) rfl BX 0 #[.bool b0,.slice a0 n0 n0,.slice k0 m0 m0,.bool b1,.slice a1 n1 n1,.slice k1 m1 m1] (by kernel_rfl) (by kernel_rfl) (by show World.there _ _ _ 6;exact HT.out) (by kernel_rfl) (by kernel_rfl) ?_;refine SE hK ?_;clear hK K
     refine wpAnyK_done (by kernel_rfl) ?_ _;refine NoPanic.normal ?_;exact hK _ _ _ _ _ _ _ _ _ _ _ _ _ _ ha hnear
    exact KNs
   exact KNs
  exact KNs
 exact KNs
noncomputable def ruReg:Code:=((Tryz.f9.body.bind (regionOf 21)).getD .skip)
theorem ruReg_c {W8:World}{B4 BX i:Nat}{x z hx hz:Rat}{K:Act->World->Prop}{Q0:Exit->Act->World->Prop}{ds:List Deferred}{p0 p1 p2 p3 p4 p5 p6 p7 c0 c1 c2 c3 c4 c5 c6 c7 c8 c9 c10 c11 c12 c13 c14 c15:Value}
 (u0 u1 u2 u3 u4 u5 u6 u7 u8 u9 u11 u12 u13 u14 u16 u18 u19 u20 u21 u22 u23 u24 u25 u26 u27 u28 u29 u30 u31 u32 u33 u34 u35 u36 u37 u38 u39 u40 u41 u42 u43 u44 u45 u46 u47 u48 u49 u50 u51 u52 u53 u54 u55 u56 u57 u58 u59 u60 u61 u62 u63 u64 u65 u66 u67 u68 u69 u70 u71 u72 u73 u74 u75 u76 u77 u78 u79 u80 u81 u82 u83 u84 u85 u86 u87 u88 u89 u90 u91 u92 u93 u94 u95 u96 u97 u98 u99 u100 u101 u102 u103 u104 u105 u106 u107 u108 u109 u110 u111 u112 u113 u114 u115 u116 u117 u118 u119 u120 u121 u122 u123 u124 u125 u126 u127 u128 u129 u130 u131 u132 u133 u134 u135 u136 u137 u138 u139 u140 u141 u142 u143 u144 u145 u146 u147 u148 u149 u150 u151 u152 u153 u154 u155 u156 u157 u158 u159 u160 u161 u162 u163:Value)
 (HK4:Hid (W8.heap[B4]?=some (.cells #[p0,p1,p2,p3,p4,p5,p6,p7] 133))) (HKX:Hid (W8.heap[BX]?=some (.cells #[c0,c1,c2,c3,c4,c5,c6,c7,c8,c9,c10,c11,c12,c13,c14,c15] 140)))
 (HBY:Hid (RP W8 (.agg #[p0,p1,p2,p3,p4,p5,p6,p7]) x z)) (HAT:Hid (RP W8 (.agg #[c0,c1,c2,c3,c4,c5,c6,c7]) hx hz)) (hX:QF 8 x) (hZ:QF 8 z) (hX2:QF 8 hx) (hZ2:QF 8 hz) (hI:QF 1 (((i:Nat):Int):Rat)) (hi:i<=1000)
 (hK:∀(v79 v80 v81 v82 v83 v84 v85 d0 d1 d2 d3 d4 d5 d6 d7:Value) (w1:World),RP w1 (.agg #[d0,d1,d2,d3,d4,d5,d6,d7]) (hx+x*((i:Nat):Int)) (hz+z*((i:Nat):Int))->Bel W8.heap.size W8 w1->K {tmps:=#[u0,u1,u2,u3,u4,u5,u6,u7,u8,u9,.pointer (some ⟨B4,0,none⟩),u11,u12,u13,u14,.int .i64 (i:Nat),u16,.pointer (some ⟨BX,0,none⟩),u18,u19,u20,u21,u22,u23,u24,u25,u26,u27,u28,u29,u30,u31,u32,u33,u34,u35,u36,u37,u38,u39,u40,u41,u42,u43,u44,u45,u46,u47,u48,u49,u50,u51,u52,u53,u54,u55,u56,u57,u58,u59,u60,u61,u62,u63,u64,u65,u66,u67,u68,u69,u70,u71,u72,u73,u74,u75,u76,u77,u78,v79,v80,v81,v82,v83,v84,v85,.pointer (some ⟨BX,0,none⟩),u87,u88,u89,u90,u91,u92,u93,u94,u95,u96,u97,u98,u99,u100,u101,u102,u103,u104,u105,u106,u107,u108,u109,u110,u111,u112,u113,u114,u115,u116,u117,u118,u119,u120,u121,u122,u123,u124,u125,u126,u127,u128,u129,u130,u131,u132,u133,u134,u135,u136,u137,u138,u139,u140,u141,u142,u143,u144,u145,u146,u147,u148,u149,u150,u151,u152,u153,u154,u155,u156,u157,u158,u159,u160,u161,u162,u163],defers:=ds} (w1.setCells BX 0 [d0,d1,d2,d3,d4,d5,d6,d7])):
 Code.wp Tryz.prog ruReg (Exit.then K Q0) {tmps:=#[u0,u1,u2,u3,u4,u5,u6,u7,u8,u9,.pointer (some ⟨B4,0,none⟩),u11,u12,u13,u14,.int .i64 (i:Nat),u16,.pointer (some ⟨BX,0,none⟩),u18,u19,u20,u21,u22,u23,u24,u25,u26,u27,u28,u29,u30,u31,u32,u33,u34,u35,u36,u37,u38,u39,u40,u41,u42,u43,u44,u45,u46,u47,u48,u49,u50,u51,u52,u53,u54,u55,u56,u57,u58,u59,u60,u61,u62,u63,u64,u65,u66,u67,u68,u69,u70,u71,u72,u73,u74,u75,u76,u77,u78,u79,u80,u81,u82,u83,u84,u85,u86,u87,u88,u89,u90,u91,u92,u93,u94,u95,u96,u97,u98,u99,u100,u101,u102,u103,u104,u105,u106,u107,u108,u109,u110,u111,u112,u113,u114,u115,u116,u117,u118,u119,u120,u121,u122,u123,u124,u125,u126,u127,u128,u129,u130,u131,u132,u133,u134,u135,u136,u137,u138,u139,u140,u141,u142,u143,u144,u145,u146,u147,u148,u149,u150,u151,u152,u153,u154,u155,u156,u157,u158,u159,u160,u161,u162,u163],defers:=ds} W8:=by
 obtain⟨r0,r1,r2,r3,r4,r5,r6,r7,-,-,-,-,-,-,-,-,-,-,-,-,-,-,-,-,-,-,-,-,-,-,-,-⟩:=row16f HKX.out;obtain⟨t0,t1,t2,t3,t4,t5,t6,t7,-,-,-,-,-,-,-,-⟩:=row8 HK4.out;have l4:=BlkT.lt ⟨_,_,HK4.out⟩;have lX:=BlkT.lt ⟨_,_,HKX.out⟩;obtain⟨w,hw⟩:∃w:World,w=W8:=⟨_,rfl⟩
 have hst:SHs w W8 W8.heap.size W8:=by rw[hw];exact SHs.start NL NL (Bel.refl _ _)
 clear hw
 conv=>arg 2;whnf
 refine wp_region_noPanic ?_;refine wp_region_K (S:=(fun w'=>(∀(b o:Nat),b<W8.heap.size->w'.cell? ⟨b,o,none⟩=W8.cell? ⟨b,o,none⟩)/\SHs w W8 (W8.heap.size) w')) (k:=8) (by kernel_rfl) ?_ (fun hHeld=>?_)
 . ((try dsimp only);(exact K2s))
 refine TK 0 [] ?_;refine TK 1 [] ?_;refine TK 2 [] ?_;refine TK 3 [] ?_;refine KRs [4] ?_;refine KCs (fun K hK=>?_) ?_
 .go_simp;refine(rint_c (n:=((i:Nat):Int)) (by omega) (by omega)).mono ?_;rintro e w20 ⟨vq,rfl,hq,hb1⟩
  (try go_wp2_with fail)
  refine SA hK (hHeld.2.call hb1).hold fun hHeld=>?_;clear hK K
  refine KRs [5] ?_;refine KCs (fun K hK=>?_) ?_
  .go_simp;refine(rscale_c (HBY.out.pres hHeld.2.near.pb) hq hX hZ hI (by omega)).mono ?_;rintro e w21 ⟨vs,rfl,hs,hb2⟩
   (try go_wp2_with fail)
   refine SA hK (hHeld.2.call hb2).hold fun hHeld=>?_;clear hK K
   refine KRs [6] ?_;refine KCs (fun K hK=>?_) ?_
   .go_simp;refine(rpadd_c (HAT.out.pres hHeld.2.near.pb) hs hX2 hZ2 (hX.mul hI) (hZ.mul hI) (by omega)).mono ?_;rintro e w22 ⟨va,rfl,ha,hb3⟩;obtain⟨b0,a0,n0,k0,b1,a1,n1,k1,b2,a2,n2,k2,b3,a3,n3,k3,rfl,-,-⟩:=RP.cells ha
    (try go_wp2_with fail)
    refine SA hK (hHeld.2.call hb3).hold fun hHeld=>?_;clear hK K
    refine TK 7 [] ?_;refine KRs [8] ?_;refine KCs (fun K hK=>?_) ?_
    .have HT:=LH (there_of ((hHeld.2.near.block _ lX).trans HKX.out) 0 8 16 rfl (by decide));have hnear:=hHeld.2.near;refine KW ?_;refine wp_store_mid 133 (.tmp 86) (.tmp 85) rfl BX 0 #[.bool b0,.slice a0 n0 k0,.bool b1,.slice a1 n1 k1,.bool b2,.slice a2 n2 k2,.bool b3,.slice a3 n3 k3] (by kernel_rfl) (by kernel_rfl) (by show World.there _ _ _ 8;exact HT.out) (by kernel_rfl) (by kernel_rfl) ?_
     refine SE hK ?_;clear hK K
     refine wpAnyK_done (by kernel_rfl) ?_ _;refine NoPanic.normal ?_;exact hK _ _ _ _ _ _ _ _ _ _ _ _ _ _ _ _ ha hnear
    exact KNs
   exact KNs
  exact KNs
 exact KNs
noncomputable def cmReg:Code:=((Tryz.f9.body.bind (regionOf 32)).getD .skip)
theorem cmReg_c {W8:World}{mb mo nm mc ob oo no oc i:Nat}{h:HoldD}{K:Act->World->Prop}{Q0:Exit->Act->World->Prop}{ds:List Deferred}{y0 y1 y2 y3 y4 y5 y6 y7 y8 y9 y10 y11 z0 z1 z2 z3 z4 z5 z6 z7 z8 z9 z10 z11 z12 z13 z14 z15:Value}
 (u0 u1 u2 u3 u4 u5 u6 u7 u8 u9 u10 u12 u13 u15 u16 u17 u19 u20 u21 u22 u23 u24 u25 u26 u27 u28 u29 u30 u31 u32 u33 u34 u35 u36 u37 u38 u39 u40 u41 u42 u43 u44 u45 u46 u47 u48 u49 u50 u51 u52 u53 u54 u55 u56 u57 u58 u59 u60 u61 u62 u63 u64 u65 u66 u67 u68 u69 u70 u71 u72 u73 u74 u75 u76 u77 u78 u79 u80 u81 u82 u83 u84 u85 u86 u87 u88 u89 u90 u91 u92 u93 u94 u95 u96 u97 u98 u99 u100 u101 u102 u103 u104 u105 u106 u107 u108 u109 u110 u111 u112 u113 u114 u115 u116 u117 u118 u119 u120 u121 u122 u123 u124 u125 u126 u127 u128 u129 u130 u131 u132 u133 u134 u135 u136 u137 u138 u139 u140 u141 u142 u143 u144 u145 u146 u147 u148 u149 u150 u151 u152 u153 u154 u155 u156 u157 u158 u159 u160 u161 u162 u163:Value)
 (him:i<nm) (hio:i<no) (lm:mb<W8.heap.size) (lo:ob<W8.heap.size)
 (f0:W8.cell? ⟨mb,mo+i*12,none⟩=some y0) (f1:W8.cell? ⟨mb,mo+i*12+1,none⟩=some y1) (f2:W8.cell? ⟨mb,mo+i*12+2,none⟩=some y2) (f3:W8.cell? ⟨mb,mo+i*12+3,none⟩=some y3) (f4:W8.cell? ⟨mb,mo+i*12+4,none⟩=some y4) (f5:W8.cell? ⟨mb,mo+i*12+5,none⟩=some y5) (f6:W8.cell? ⟨mb,mo+i*12+6,none⟩=some y6) (f7:W8.cell? ⟨mb,mo+i*12+7,none⟩=some y7) (f8:W8.cell? ⟨mb,mo+i*12+8,none⟩=some y8) (f9:W8.cell? ⟨mb,mo+i*12+9,none⟩=some y9) (f10:W8.cell? ⟨mb,mo+i*12+10,none⟩=some y10) (f11:W8.cell? ⟨mb,mo+i*12+11,none⟩=some y11)
 (g0:W8.cell? ⟨ob,oo+i*16,none⟩=some z0) (g1:W8.cell? ⟨ob,oo+i*16+1,none⟩=some z1) (g2:W8.cell? ⟨ob,oo+i*16+2,none⟩=some z2) (g3:W8.cell? ⟨ob,oo+i*16+3,none⟩=some z3) (g4:W8.cell? ⟨ob,oo+i*16+4,none⟩=some z4) (g5:W8.cell? ⟨ob,oo+i*16+5,none⟩=some z5) (g6:W8.cell? ⟨ob,oo+i*16+6,none⟩=some z6) (g7:W8.cell? ⟨ob,oo+i*16+7,none⟩=some z7) (g8:W8.cell? ⟨ob,oo+i*16+8,none⟩=some z8) (g9:W8.cell? ⟨ob,oo+i*16+9,none⟩=some z9) (g10:W8.cell? ⟨ob,oo+i*16+10,none⟩=some z10) (g11:W8.cell? ⟨ob,oo+i*16+11,none⟩=some z11) (g12:W8.cell? ⟨ob,oo+i*16+12,none⟩=some z12) (g13:W8.cell? ⟨ob,oo+i*16+13,none⟩=some z13) (g14:W8.cell? ⟨ob,oo+i*16+14,none⟩=some z14) (g15:W8.cell? ⟨ob,oo+i*16+15,none⟩=some z15)
 (HP:Hid (PV W8 (.agg #[y0,y1,y2,y3,y4,y5]) h.x h.z)) (HR:Hid (RP W8 (.agg #[z0,z1,z2,z3,z4,z5,z6,z7]) h.x h.z)) (HB:Hid (QV W8 (.agg #[y6,y7,y8]) h.b)) (HRB:Hid (RQ W8 (.agg #[z8,z9,z10,z11]) h.b)) (HC:Hid (QV W8 (.agg #[y9,y10,y11]) h.c)) (HRC:Hid (RQ W8 (.agg #[z12,z13,z14,z15]) h.c)) (HF:HoldF 20 h)
 (hK:∀(v123 v124 v125 v126 v127 v128 v129 v130 v131 v132 v133 v134 v135 v136 v137 v138 v139 v140 v141 v142 v143 v144 v145 v146 v147 v148 v149 v150 v151 v152 v153 v154 v155 v156 v157 v158 v159 v160 v161:Value) (w1:World),Bel W8.heap.size W8 w1->K {tmps:=#[u0,u1,u2,u3,u4,u5,u6,u7,u8,u9,u10,.slice (some ⟨mb,mo,none⟩) nm mc,u12,u13,.slice (some ⟨ob,oo,none⟩) no oc,u15,u16,u17,.int .i64 (i:Nat),u19,u20,u21,u22,u23,u24,u25,u26,u27,u28,u29,u30,u31,u32,u33,u34,u35,u36,u37,u38,u39,u40,u41,u42,u43,u44,u45,u46,u47,u48,u49,u50,u51,u52,u53,u54,u55,u56,u57,u58,u59,u60,u61,u62,u63,u64,u65,u66,u67,u68,u69,u70,u71,u72,u73,u74,u75,u76,u77,u78,u79,u80,u81,u82,u83,u84,u85,u86,u87,u88,u89,u90,u91,u92,u93,u94,u95,u96,u97,u98,u99,u100,u101,u102,u103,u104,u105,u106,u107,u108,u109,u110,u111,u112,u113,u114,u115,u116,u117,u118,u119,u120,u121,u122,v123,v124,v125,v126,v127,v128,v129,v130,v131,v132,v133,v134,v135,v136,v137,v138,v139,v140,v141,v142,v143,v144,v145,v146,v147,v148,v149,v150,v151,v152,v153,v154,v155,v156,v157,v158,v159,v160,v161,.bool false,u163],defers:=ds} w1):
 Code.wp Tryz.prog cmReg (Exit.then K Q0) {tmps:=#[u0,u1,u2,u3,u4,u5,u6,u7,u8,u9,u10,.slice (some ⟨mb,mo,none⟩) nm mc,u12,u13,.slice (some ⟨ob,oo,none⟩) no oc,u15,u16,u17,.int .i64 (i:Nat),u19,u20,u21,u22,u23,u24,u25,u26,u27,u28,u29,u30,u31,u32,u33,u34,u35,u36,u37,u38,u39,u40,u41,u42,u43,u44,u45,u46,u47,u48,u49,u50,u51,u52,u53,u54,u55,u56,u57,u58,u59,u60,u61,u62,u63,u64,u65,u66,u67,u68,u69,u70,u71,u72,u73,u74,u75,u76,u77,u78,u79,u80,u81,u82,u83,u84,u85,u86,u87,u88,u89,u90,u91,u92,u93,u94,u95,u96,u97,u98,u99,u100,u101,u102,u103,u104,u105,u106,u107,u108,u109,u110,u111,u112,u113,u114,u115,u116,u117,u118,u119,u120,u121,u122,u123,u124,u125,u126,u127,u128,u129,u130,u131,u132,u133,u134,u135,u136,u137,u138,u139,u140,u141,u142,u143,u144,u145,u146,u147,u148,u149,u150,u151,u152,u153,u154,u155,u156,u157,u158,u159,u160,u161,u162,u163],defers:=ds} W8:=by
 obtain⟨w,hw⟩:∃w:World,w=W8:=⟨_,rfl⟩
 have hst:SHs w W8 W8.heap.size W8:=by rw[hw];exact SHs.start NL NL (Bel.refl _ _)
 clear hw
 conv=>arg 2;whnf
 refine wp_region_noPanic ?_;refine wp_region_K (S:=(fun w'=>(∀(b o:Nat),b<W8.heap.size->w'.cell? ⟨b,o,none⟩=W8.cell? ⟨b,o,none⟩)/\SHs w W8 (W8.heap.size) w')) (k:=39) (by kernel_rfl) ?_ (fun hHeld=>?_)
 . ((try dsimp only);(exact K2s))
 refine TK 0 [26,25,12,10,4,3,2] ?_;refine TK 1 [26,25,12,10,4,3,2] ?_;refine TK 2 [26,25,12,10,4,3] ?_;refine TK 3 [26,25,12,10,4] ?_;refine TK 4 [26,25,12,10] ?_;refine TK 5 [26,25,12,10,9,8,7] ?_;refine TK 6 [26,25,12,10,9,8,7] ?_;refine TK 7 [26,25,12,10,9,8] ?_;refine TK 8 [26,25,12,10,9] ?_;refine TK 9 [26,25,12,10] ?_;refine KRs [10] ?_;refine KCs (fun K hK=>?_) ?_
 .go_simp;refine(samePoint_c (HP.out.pres hHeld.2.near.pb) (HR.out.pres hHeld.2.near.pb) HF.x HF.z (by decide)).mono ?_;rintro e w20 ⟨rfl,hb1⟩
  (try go_wp2_with fail)
  refine SA hK (hHeld.2.call hb1).hold fun hHeld=>?_;clear hK K
  refine TK 11 [26,25,12] ?_;refine TK 12 [26,25] ?_;refine TK 13 [26,23,17,16,15] ?_;refine TK 14 [26,23,17,16,15] ?_;refine TK 15 [26,23,17,16] ?_;refine TK 16 [26,23,17] ?_;refine TK 17 [26,23] ?_;refine TK 18 [26,23,22,21,20] ?_;refine TK 19 [26,23,22,21,20] ?_;refine TK 20 [26,23,22,21] ?_;refine TK 21 [26,23,22] ?_;refine TK 22 [26,23] ?_;refine KRs [23] ?_;refine KCs (fun K hK=>?_) ?_
  .go_simp;refine(same_c (HB.out.pres hHeld.2.near.pb) (HRB.out.pres hHeld.2.near.pb) HF.b (by decide)).mono ?_;rintro e w21 ⟨rfl,hb2⟩
   (try go_wp2_with fail)
   refine SA hK (hHeld.2.call hb2).hold fun hHeld=>?_;clear hK K
   refine TK 24 [26,25] ?_;refine TK 25 [26] ?_;refine TK 26 [] ?_;refine TK 27 [38,37,31,30,29] ?_;refine TK 28 [38,37,31,30,29] ?_;refine TK 29 [38,37,31,30] ?_;refine TK 30 [38,37,31] ?_;refine TK 31 [38,37] ?_;refine TK 32 [38,37,36,35,34] ?_;refine TK 33 [38,37,36,35,34] ?_;refine TK 34 [38,37,36,35] ?_;refine TK 35 [38,37,36] ?_;refine TK 36 [38,37] ?_;refine KRs [37] ?_;refine KCs (fun K hK=>?_) ?_
   .go_simp;refine(same_c (HC.out.pres hHeld.2.near.pb) (HRC.out.pres hHeld.2.near.pb) HF.c (by decide)).mono ?_;rintro e w22 ⟨rfl,hb3⟩
    (try go_wp2_with fail)
    refine SA hK (hHeld.2.call hb3).hold fun hHeld=>?_;clear hK K
    refine TK 38 [] ?_;refine KRs [39] ?_;refine KCs (fun K hK=>?_) ?_
    .have hnear:=hHeld.2.near;go_simp;refine SE hK ?_;clear hK K
     refine wpAnyK_done (by kernel_rfl) ?_ _;refine NoPanic.normal ?_;exact hK _ _ _ _ _ _ _ _ _ _ _ _ _ _ _ _ _ _ _ _ _ _ _ _ _ _ _ _ _ _ _ _ _ _ _ _ _ _ _ _ hnear
    exact KNs
   exact KNs
  exact KNs
 exact KNs
end Go.Proofs.YtlgjakpoaelehaaGreat.D4
