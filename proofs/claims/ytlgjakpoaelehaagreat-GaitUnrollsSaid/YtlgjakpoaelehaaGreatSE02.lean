/- Contracts and plain laws, merged: N3 -/
import Derived.Deep.Cut
import Derived.Deep.MidRow
import Derived.Test.YtlgjakpoaelehaaGreatSE01
namespace Go.Proofs.YtlgjakpoaelehaaGreat.D4
open Go.RowKit
set_option maxRecDepth 100000
set_option maxHeartbeats 8000000
theorem row12f {w:World}{b:Nat}{v0 v1 v2 v3 v4 v5 v6 v7 v8 v9 v10 v11:Value}{T:TypeId}(h:w.heap[b]?=some (.cells #[v0,v1,v2,v3,v4,v5,v6,v7,v8,v9,v10,v11] T)):
 w.cell? ⟨b,0,none⟩=some v0/\w.cell? ⟨b,1,none⟩=some v1/\w.cell? ⟨b,2,none⟩=some v2/\w.cell? ⟨b,3,none⟩=some v3/\w.cell? ⟨b,4,none⟩=some v4/\w.cell? ⟨b,5,none⟩=some v5/\w.cell? ⟨b,6,none⟩=some v6/\w.cell? ⟨b,7,none⟩=some v7/\w.cell? ⟨b,8,none⟩=some v8/\w.cell? ⟨b,9,none⟩=some v9/\w.cell? ⟨b,10,none⟩=some v10/\w.cell? ⟨b,11,none⟩=some v11/\w.frozen? ⟨b,0,none⟩=false/\w.frozen? ⟨b,1,none⟩=false/\w.frozen? ⟨b,2,none⟩=false/\w.frozen? ⟨b,3,none⟩=false/\w.frozen? ⟨b,4,none⟩=false/\w.frozen? ⟨b,5,none⟩=false/\w.frozen? ⟨b,6,none⟩=false/\w.frozen? ⟨b,7,none⟩=false/\w.frozen? ⟨b,8,none⟩=false/\w.frozen? ⟨b,9,none⟩=false/\w.frozen? ⟨b,10,none⟩=false/\w.frozen? ⟨b,11,none⟩=false:=by
 refine⟨?_,?_,?_,?_,?_,?_,?_,?_,?_,?_,?_,?_,?_,?_,?_,?_,?_,?_,?_,?_,?_,?_,?_,?_⟩<;>simp[World.cell?,World.frozen?,h]
theorem row16f {w:World}{b:Nat}{v0 v1 v2 v3 v4 v5 v6 v7 v8 v9 v10 v11 v12 v13 v14 v15:Value}{T:TypeId}(h:w.heap[b]?=some (.cells #[v0,v1,v2,v3,v4,v5,v6,v7,v8,v9,v10,v11,v12,v13,v14,v15] T)):
 w.cell? ⟨b,0,none⟩=some v0/\w.cell? ⟨b,1,none⟩=some v1/\w.cell? ⟨b,2,none⟩=some v2/\w.cell? ⟨b,3,none⟩=some v3/\w.cell? ⟨b,4,none⟩=some v4/\w.cell? ⟨b,5,none⟩=some v5/\w.cell? ⟨b,6,none⟩=some v6/\w.cell? ⟨b,7,none⟩=some v7/\w.cell? ⟨b,8,none⟩=some v8/\w.cell? ⟨b,9,none⟩=some v9/\w.cell? ⟨b,10,none⟩=some v10/\w.cell? ⟨b,11,none⟩=some v11/\w.cell? ⟨b,12,none⟩=some v12/\w.cell? ⟨b,13,none⟩=some v13/\w.cell? ⟨b,14,none⟩=some v14/\w.cell? ⟨b,15,none⟩=some v15/\w.frozen? ⟨b,0,none⟩=false/\w.frozen? ⟨b,1,none⟩=false/\w.frozen? ⟨b,2,none⟩=false/\w.frozen? ⟨b,3,none⟩=false/\w.frozen? ⟨b,4,none⟩=false/\w.frozen? ⟨b,5,none⟩=false/\w.frozen? ⟨b,6,none⟩=false/\w.frozen? ⟨b,7,none⟩=false/\w.frozen? ⟨b,8,none⟩=false/\w.frozen? ⟨b,9,none⟩=false/\w.frozen? ⟨b,10,none⟩=false/\w.frozen? ⟨b,11,none⟩=false/\w.frozen? ⟨b,12,none⟩=false/\w.frozen? ⟨b,13,none⟩=false/\w.frozen? ⟨b,14,none⟩=false/\w.frozen? ⟨b,15,none⟩=false:=by
 refine⟨?_,?_,?_,?_,?_,?_,?_,?_,?_,?_,?_,?_,?_,?_,?_,?_,?_,?_,?_,?_,?_,?_,?_,?_,?_,?_,?_,?_,?_,?_,?_,?_⟩<;>simp[World.cell?,World.frozen?,h]
theorem there_of {w:World}{b:Nat}{cur:Array Value}{T:TypeId}(h:w.heap[b]?=some (.cells cur T))(o n m:Nat)(hm:cur.size=m)(hn:o+n<=m):w.there b o n:=fun j hj=>by
 have hlt:o+j<cur.size:=by omega
 exact⟨by simp[World.cell?,h,hlt],by simp[World.frozen?,h]⟩
theorem store_mid {P:Program}{ops:Array Oper}{rest:List Oper}{op:Oper}{a:Act}{w:World}{Q:Exit->Act->World->Prop}(hgd:op.guard=none)(ty:TypeId)(x y:Operand)(ho:op.op=.store ty x y)
 (b o n:Nat) (cells:Array Value) (hx:a.eval x=.pointer (some ⟨b,o,none⟩)) (hy:a.eval y=.agg cells) (hn:cells.size=n)
 (ht:Hid (w.there b o n)) (hi:(P.info? ty).map (·.size)=some cells.size) (h1:cells.all (·.oneCell')=true)
 (h:wpList P ops Q rest (a.put op.dst undef) (w.setCells b o cells.toList)):wpList P ops Q (op::rest) a w:=
 wpList_store_mid hgd ty x y ho b o cells hx hy (by rw[hn];exact ht.out) hi h1 h
def numL:Nat->List Value->List (Nat×Value)
 |_,[]=>[]
 |o,v::r=>(o,v)::numL (o+1) r
theorem setCells_eq {b:Nat}:∀{vs:List Value} {w:World} {o:Nat},w.setCells b o vs=setsL w b (numL o vs)
 |[],_,_=>rfl
 |_::r,_,_=>setCells_eq (vs:=r)
theorem cells_lit {T:TypeId}{w:World}{b n:Nat}{cur:Array Value}{fr:Nat×Nat}(h:w.heap[b]?=some (.cells cur T fr))(hn:cur.size=n):CellsAt T w (some ⟨b,0,none⟩) n (fun k=>cur.getD k (.bool false)):=
 CellsAt.of_block h fun k hk=>by rw[Nat.zero_add,Array.getElem?_eq_getElem (by omega)];simp[Array.getD,hn,hk]
theorem one_lit {cur:Array Value}(h:cur.toList.all Value.oneCell'=true)(j:Nat):(cur.getD j (.bool false)).oneCell'=true:=by
 unfold Array.getD;split
 .exact List.all_eq_true.1 h _ (by simp)
 .rfl
theorem OwnS.keep {T:TypeId}{sz base:Nat}{w w':World}{v:Value}{n:Nat}{f:Nat->Value}(h:OwnS T sz base w v n f)(hp:Pres T w w'):OwnS T sz base w' v n f:=by
 obtain⟨xs,hr,hx⟩:=h;refine⟨xs,⟨hr.1,?_⟩,hx⟩;rcases hr.2 with h|⟨g,cap,cur,e,hg,hh,r⟩
 .exact .inl h
 .exact .inr ⟨g,cap,cur,e,hg,hp _ _ _ hh,r⟩
theorem RowH.keep {base:Nat}{w w':World}{v:Value}{m:List HoldD}(h:RowH base w v m)(hp:Pres 97 w w')(hq:Pres 232 w w'):RowH base w' v m:=by
 obtain⟨f,ho,hh⟩:=h;exact⟨f,OwnS.keep ho hp,fun i hi=>(hh i hi).pres hq⟩
theorem spots_c {T:TypeId}{w:World}{ao:Option Addr}{cap:Nat}{l:List SpotD}(hl:SpotsV T w ao l)(h70:l.length<=100):
 Calls Tryz.prog 19 #[.slice ao l.length cap] w fun e w'=>∃v1 v2,e=.returned (.tuple #[v1,v2])/\RowH w.heap.size w' v1 (l.map SpotD.hold)/\RowR w.heap.size w' v2 (l.map SpotD.hold)/\Bel w.heap.size w w':=by
 have HL:=LH hl;clear hl;obtain⟨n,hn⟩:∃n,n=l.length:=⟨_,rfl⟩
 have HN:=LH hn;rw[<-hn]at h70|-;clear hn
 go_enter Tryz.func19,Tryz.ntmps19
 go_wp2
 go_loopg [4,5,6] n (fun g s4 s5 s6 wr=>∃i:Nat,g=n-i/\i<=n/\s6=.int .i64 i/\RowH w.heap.size wr s4 ((l.map SpotD.hold).take i)/\RowR w.heap.size wr s5 ((l.map SpotD.hold).take i)/\Bel w.heap.size w wr)
 case atStart=>exact⟨0,rfl,Nat.zero_le _,rfl,RowH.nil _ _,RowR.nil _ _,Bel.refl _ _⟩
 case round=>
  obtain⟨i,hg,hi,rfl,hrow,hror,hbr⟩:=hrel;have HW:=LH hbr
  by_cases hlt:i<n
  .obtain⟨b,o,s,rfl,hbl,hs,hok,f0,f1,f2,f3,f4,f5,f6,f7,f8,f9,f10,f11⟩:=(HL.out.bel (by exact hbr)).el (i:=i) (by rw[<-HN.out];exact hlt);have HTL:Hid (((l.map SpotD.hold).take i).length=i):=by show _=_;rw[List.length_take,List.length_map,<-HN.out];omega
   have HTS:Hid ((l.map SpotD.hold).take (i+1)=(l.map SpotD.hold).take i++[s.hold]):=by
    show _=_
    rw[List.take_add_one,List.getElem?_map,hs,List.getD_eq_getElem?_getD,List.getElem?_eq_getElem (by rw[<-HN.out];exact hlt)];rfl
   obtain⟨m,hm⟩:∃m,m=(l.map SpotD.hold).take i:=⟨_,rfl⟩
   rw[<-hm]at hrow hror HTL HTS;have HOK:=LH hok;have HA:=LH hrow;have HB:=LH hror;clear hm hs hok hrow hror hbr;obtain⟨wo,hwo⟩:∃wo:World,wo=wr:=⟨_,rfl⟩
   subst hwo
   go_wp2_with fail
   refine name_call ?_;intro W0 hW0;have HX0:=LH (at_world hW0 (b:=wo.heap.size) ((heap_old _ _ Sd1).trans (heap_new _ _ rfl)));have HY0:=LH (at_world hW0 (b:=wo.heap.size+1) (heap_new _ _ Sd1));have HE0:Hid (Bel wo.heap.size wo W0):=by rw[hW0];exact Bel.new.alloc Sd1 _
   have hz0:wo.heap.size+1<W0.heap.size:=by rw[hW0];simp
   obtain⟨BX,hBX⟩:∃B,B=wo.heap.size:=⟨_,rfl⟩
   have HBX:=LH hBX;rw[<-hBX]at HX0 HY0 hz0|-;have HZ0:=LH hz0;clear hW0 hz0 hBX;have G6:=LH f6;have G7:=LH f7;have G8:=LH f8;have G9:=LH f9;have G10:=LH f10;have G11:=LH f11;have HBL:=LH hbl;clear f0 f1 f2 f3 f4 f5 f6 f7 f8 f9 f10 f11 hbl;refine(bothPoints_c HOK.out.x.n1 HOK.out.x.n2 HOK.out.x.d1 HOK.out.x.d2 HOK.out.x.p HOK.out.z.n1 HOK.out.z.n2 HOK.out.z.d1 HOK.out.z.d2 HOK.out.z.p).mono ?_
   rintro e w1 ⟨v1,v2,rfl,hv1,hv2,hb⟩;obtain⟨m1,l1,m2,l2,rfl,h1,h2⟩:=hv1;obtain⟨x1,am1,mm1,al1,ll1,e1⟩:=QV.cells h1;obtain⟨x2,am2,mm2,al2,ll2,e2⟩:=QV.cells h2;rw[e1]at h1;rw[e2]at h2;simp only[Value.agg.injEq,Array.mk.injEq,List.cons.injEq,and_true]at e1 e2;obtain⟨e11,rfl,rfl⟩:=e1;obtain⟨e21,rfl,rfl⟩:=e2;rw[e11,e21];obtain⟨b1,a1,n1,c1,b2,a2,n2,c2,b3,a3,n3,c3,b4,a4,n4,c4,rfl,r1,r2⟩:=RP.cells hv2;have H1:=LH h1
   have H2:=LH h2;have R1:=LH r1;have R2:=LH r2;clear h1 h2 r1 r2 e11 e21;have hx:=(hb.block BX (by have:=HZ0.out;omega)).trans HX0.out;have hy:=(hb.block (BX+1) HZ0.out).trans HY0.out;have HB1:=LH hb;have hz:BX+1<w1.heap.size:=Nat.lt_of_lt_of_le HZ0.out hb.size;have HXX:=LH hx;have HYY:=LH hy;have HZZ:=LH hz;clear hv2 hb hx hy hz;have HT1:=LH (there_of HXX.out 0 6 12 rfl (by decide))
   have HT2:=LH (there_of HYY.out 0 8 16 rfl (by decide))
   go_upto_region 9 with(first|(with_reducible refine store_mid rfl 95 (.tmp 24) (.tmp 22) rfl BX 0 6 #[.bool x1,.slice am1 mm1 mm1,.slice al1 ll1 ll1,.bool x2,.slice am2 mm2 mm2,.slice al2 ll2 ll2] (by kernel_rfl) (by kernel_rfl) (by kernel_rfl) HT1 (by kernel_rfl) (by kernel_rfl) ?_)|(with_reducible refine store_mid rfl 133 (.tmp 25) (.tmp 23) rfl (BX+1) 0 8 #[.bool b1,.slice a1 n1 c1,.bool b2,.slice a2 n2 c2,.bool b3,.slice a3 n3 c3,.bool b4,.slice a4 n4 c4] (by kernel_rfl) (by kernel_rfl) (by kernel_rfl) (LH (World.there_setCells HT2.out _ _ _)) (by kernel_rfl) (by kernel_rfl) ?_))
   refine name_world ?_;intro W1 hW;have hE:=hW;rw[setCells_eq,setCells_eq]at hE
   have HX1:Hid (W1.heap[BX]?=some (.cells #[.bool x1,.slice am1 mm1 mm1,.slice al1 ll1 ll1,.bool x2,.slice am2 mm2 mm2,.slice al2 ll2 ll2,.bool false,.slice none 0 0,.slice none 0 0,.bool false,.slice none 0 0,.slice none 0 0] 97)):=by
    show _=_
    rw[hE];exact(setsL_other _ (by omega)).trans ((setsL_heap _ HXX.out).trans (by kernel_rfl))
   have HY1:Hid (W1.heap[BX+1]?=some (.cells #[.bool b1,.slice a1 n1 c1,.bool b2,.slice a2 n2 c2,.bool b3,.slice a3 n3 c3,.bool b4,.slice a4 n4 c4,.bool false,.slice none 0 0,.bool false,.slice none 0 0,.bool false,.slice none 0 0,.bool false,.slice none 0 0] 140)):=by
    show _=_
    rw[hE];exact(setsL_heap _ ((setsL_other _ (by omega)).trans HYY.out)).trans (by kernel_rfl)
   have HPT (T:TypeId) (h1:T≠97) (h2:T≠140):Pres T w1 W1:=by
    rw[hE];exact(Pres.setsL _ HXX.out h1).trans (Pres.setsL _ ((setsL_other _ (by omega)).trans HYY.out) h2)
   have HE1:Hid (Bel wo.heap.size wo W1):=by
    show Bel _ _ _
    rw[hE];exact Bel.setsL _ (Bel.setsL _ (HE0.out.next HE0.out.size HB1.out) (by rw[HBX.out];exact Nat.le_refl _)) (by rw[HBX.out];omega)
   have HZ1:Hid (BX+1<W1.heap.size):=BlkT.lt ⟨_,_,HY1.out⟩;have K1:=LH (H1.out.pres (HPT _ (by decide) (by decide)));have K2:=LH (H2.out.pres (HPT _ (by decide) (by decide)));have S1:=LH (R1.out.pres (HPT _ (by decide) (by decide)));have S2:=LH (R2.out.pres (HPT _ (by decide) (by decide)));clear H1 H2 R1 R2;clear HT1 HT2 hW hE HPT HXX HYY HZZ HX0 HY0 HZ0 HE0 HB1;have f6:=(HE1.out.cell HBL.out).trans G6.out
   have f7:=(HE1.out.cell HBL.out).trans G7.out;have f8:=(HE1.out.cell HBL.out).trans G8.out
   go_wp2_with fail
   clear f6 f7 f8;refine(both_c HOK.out.b.n1 HOK.out.b.n2 HOK.out.b.d1 HOK.out.b.d2 HOK.out.b.p).mono ?_;rintro e w2 ⟨v1,v2,rfl,hv1,hv2,hb⟩;obtain⟨x3,am3,mm3,al3,ll3,rfl⟩:=QV.cells hv1;obtain⟨b5,a5,n5,c5,b6,a6,n6,c6,rfl⟩:=RQ.cells hv2;have H3:=LH hv1;have R3:=LH hv2;have hx:=(hb.block BX (by have:=HZ1.out;omega)).trans HX1.out;have hy:=(hb.block (BX+1) HZ1.out).trans HY1.out;have HB2:=LH hb
   have hz:BX+1<w2.heap.size:=Nat.lt_of_lt_of_le HZ1.out hb.size;have HXX:=LH hx;have HYY:=LH hy;have HZZ:=LH hz;clear hv1 hv2 hb hx hy hz;have HT1:=LH (there_of HXX.out 6 3 12 rfl (by decide));have HT2:=LH (there_of HYY.out 8 4 16 rfl (by decide))
   go_upto_region 10 with(first|(with_reducible refine store_mid rfl 39 (.tmp 35) (.tmp 33) rfl BX 6 3 #[.bool x3,.slice am3 mm3 mm3,.slice al3 ll3 ll3] (by kernel_rfl) (by kernel_rfl) (by kernel_rfl) HT1 (by kernel_rfl) (by kernel_rfl) ?_)|(with_reducible refine store_mid rfl 49 (.tmp 36) (.tmp 34) rfl (BX+1) 8 4 #[.bool b5,.slice a5 n5 c5,.bool b6,.slice a6 n6 c6] (by kernel_rfl) (by kernel_rfl) (by kernel_rfl) (LH (World.there_setCells HT2.out _ _ _)) (by kernel_rfl) (by kernel_rfl) ?_))
   refine name_world ?_;intro W2 hW;have hE:=hW;rw[setCells_eq,setCells_eq]at hE
   have HX2:Hid (W2.heap[BX]?=some (.cells #[.bool x1,.slice am1 mm1 mm1,.slice al1 ll1 ll1,.bool x2,.slice am2 mm2 mm2,.slice al2 ll2 ll2,.bool x3,.slice am3 mm3 mm3,.slice al3 ll3 ll3,.bool false,.slice none 0 0,.slice none 0 0] 97)):=by
    show _=_
    rw[hE];exact(setsL_other _ (by omega)).trans ((setsL_heap _ HXX.out).trans (by kernel_rfl))
   have HY2:Hid (W2.heap[BX+1]?=some (.cells #[.bool b1,.slice a1 n1 c1,.bool b2,.slice a2 n2 c2,.bool b3,.slice a3 n3 c3,.bool b4,.slice a4 n4 c4,.bool b5,.slice a5 n5 c5,.bool b6,.slice a6 n6 c6,.bool false,.slice none 0 0,.bool false,.slice none 0 0] 140)):=by
    show _=_
    rw[hE];exact(setsL_heap _ ((setsL_other _ (by omega)).trans HYY.out)).trans (by kernel_rfl)
   have HPT (T:TypeId) (h1:T≠97) (h2:T≠140):Pres T w2 W2:=by
    rw[hE];exact(Pres.setsL _ HXX.out h1).trans (Pres.setsL _ ((setsL_other _ (by omega)).trans HYY.out) h2)
   have HE2:Hid (Bel wo.heap.size wo W2):=by
    show Bel _ _ _
    rw[hE];exact Bel.setsL _ (Bel.setsL _ (HE1.out.next HE1.out.size HB2.out) (by rw[HBX.out];exact Nat.le_refl _)) (by rw[HBX.out];omega)
   have HZ2:Hid (BX+1<W2.heap.size):=BlkT.lt ⟨_,_,HY2.out⟩;have K1:=LH (K1.out.pres (Pres.trans HB2.out.pb (HPT _ (by decide) (by decide))));have S1:=LH (S1.out.pres (Pres.trans HB2.out.pb (HPT _ (by decide) (by decide))));have K2:=LH (K2.out.pres (Pres.trans HB2.out.pb (HPT _ (by decide) (by decide))));have S2:=LH (S2.out.pres (Pres.trans HB2.out.pb (HPT _ (by decide) (by decide))))
   have K3:=LH (H3.out.pres (HPT _ (by decide) (by decide)));have S3:=LH (R3.out.pres (HPT _ (by decide) (by decide)));clear H3 R3;clear HT1 HT2 hW hE HPT HXX HYY HZZ HX1 HY1 HZ1 HE1 HB2;have f9:=(HE2.out.cell HBL.out).trans G9.out;have f10:=(HE2.out.cell HBL.out).trans G10.out;have f11:=(HE2.out.cell HBL.out).trans G11.out
   go_wp2_with fail
   clear f9 f10 f11;refine(both_c HOK.out.c.n1 HOK.out.c.n2 HOK.out.c.d1 HOK.out.c.d2 HOK.out.c.p).mono ?_;rintro e w3 ⟨v1,v2,rfl,hv1,hv2,hb⟩;obtain⟨x4,am4,mm4,al4,ll4,rfl⟩:=QV.cells hv1;obtain⟨b7,a7,n7,c7,b8,a8,n8,c8,rfl⟩:=RQ.cells hv2;have H4:=LH hv1;have R4:=LH hv2;have hx:=(hb.block BX (by have:=HZ2.out;omega)).trans HX2.out;have hy:=(hb.block (BX+1) HZ2.out).trans HY2.out;have HB3:=LH hb
   have hz:BX+1<w3.heap.size:=Nat.lt_of_lt_of_le HZ2.out hb.size;have HXX:=LH hx;have HYY:=LH hy;have HZZ:=LH hz;clear hv1 hv2 hb hx hy hz;have HT1:=LH (there_of HXX.out 9 3 12 rfl (by decide));have HT2:=LH (there_of HYY.out 12 4 16 rfl (by decide))
   go_upto_region 11 with(first|(with_reducible refine store_mid rfl 39 (.tmp 46) (.tmp 44) rfl BX 9 3 #[.bool x4,.slice am4 mm4 mm4,.slice al4 ll4 ll4] (by kernel_rfl) (by kernel_rfl) (by kernel_rfl) HT1 (by kernel_rfl) (by kernel_rfl) ?_)|(with_reducible refine store_mid rfl 49 (.tmp 47) (.tmp 45) rfl (BX+1) 12 4 #[.bool b7,.slice a7 n7 c7,.bool b8,.slice a8 n8 c8] (by kernel_rfl) (by kernel_rfl) (by kernel_rfl) (LH (World.there_setCells HT2.out _ _ _)) (by kernel_rfl) (by kernel_rfl) ?_))
   refine name_world ?_;intro W3 hW;have hE:=hW;rw[setCells_eq,setCells_eq]at hE
   have HX3:Hid (W3.heap[BX]?=some (.cells #[.bool x1,.slice am1 mm1 mm1,.slice al1 ll1 ll1,.bool x2,.slice am2 mm2 mm2,.slice al2 ll2 ll2,.bool x3,.slice am3 mm3 mm3,.slice al3 ll3 ll3,.bool x4,.slice am4 mm4 mm4,.slice al4 ll4 ll4] 97)):=by
    show _=_
    rw[hE];exact(setsL_other _ (by omega)).trans ((setsL_heap _ HXX.out).trans (by kernel_rfl))
   have HY3:Hid (W3.heap[BX+1]?=some (.cells #[.bool b1,.slice a1 n1 c1,.bool b2,.slice a2 n2 c2,.bool b3,.slice a3 n3 c3,.bool b4,.slice a4 n4 c4,.bool b5,.slice a5 n5 c5,.bool b6,.slice a6 n6 c6,.bool b7,.slice a7 n7 c7,.bool b8,.slice a8 n8 c8] 140)):=by
    show _=_
    rw[hE];exact(setsL_heap _ ((setsL_other _ (by omega)).trans HYY.out)).trans (by kernel_rfl)
   have HPT (T:TypeId) (h1:T≠97) (h2:T≠140):Pres T w3 W3:=by
    rw[hE];exact(Pres.setsL _ HXX.out h1).trans (Pres.setsL _ ((setsL_other _ (by omega)).trans HYY.out) h2)
   have HE3:Hid (Bel wo.heap.size wo W3):=by
    show Bel _ _ _
    rw[hE];exact Bel.setsL _ (Bel.setsL _ (HE2.out.next HE2.out.size HB3.out) (by rw[HBX.out];exact Nat.le_refl _)) (by rw[HBX.out];omega)
   have HZ3:Hid (BX+1<W3.heap.size):=BlkT.lt ⟨_,_,HY3.out⟩;have K1:=LH (K1.out.pres (Pres.trans HB3.out.pb (HPT _ (by decide) (by decide))));have S1:=LH (S1.out.pres (Pres.trans HB3.out.pb (HPT _ (by decide) (by decide))));have K2:=LH (K2.out.pres (Pres.trans HB3.out.pb (HPT _ (by decide) (by decide))));have S2:=LH (S2.out.pres (Pres.trans HB3.out.pb (HPT _ (by decide) (by decide))))
   have K3:=LH (K3.out.pres (Pres.trans HB3.out.pb (HPT _ (by decide) (by decide))));have S3:=LH (S3.out.pres (Pres.trans HB3.out.pb (HPT _ (by decide) (by decide))));have K4:=LH (H4.out.pres (HPT _ (by decide) (by decide)));have S4:=LH (R4.out.pres (HPT _ (by decide) (by decide)));clear H4 R4;clear HT1 HT2 hW hE HPT HXX HYY HZZ HX2 HY2 HZ2 HE2 HB3
   obtain⟨p0,p1,p2,p3,p4,p5,p6,p7,p8,p9,p10,p11,pz0,pz1,pz2,pz3,pz4,pz5,pz6,pz7,pz8,pz9,pz10,pz11⟩:=row12f HX3.out;obtain⟨f,ho,hh⟩:=HA.out.bel HE3.out;rw[HTL.out]at ho;have HO:=LH (ho.alloc (.cells #[.bool x1,.slice am1 mm1 mm1,.slice al1 ll1 ll1,.bool x2,.slice am2 mm2 mm2,.slice al2 ll2 ll2,.bool x3,.slice am3 mm3 mm3,.slice al3 ll3 ll3,.bool x4,.slice am4 mm4 mm4,.slice al4 ll4 ll4] 97));have hz3:w.heap.size<=W3.heap.size+1:=by have:=HW.out.size;have:=HE3.out.size;omega
   clear ho
   go_upto_region 12 with(at_builtin;refine wpList_append_fn rfl (.tmp 48) (.tmp 50) 33 rfl w.heap.size Tryz.underlying33 infoHold rfl (by decide) rfl HO.out rfl (cells_lit (heap_new _ _ rfl) rfl) (one_lit rfl) (by unfold maxLen;omega) (by omega) (by simpa using hz3) ?_;intro v' w' hown hgrow hdr)
   have HPH (T:TypeId) (h1:T≠97):Pres T W3 w':=(Pres.alloc _ _).trans (Pres.grownS HO.out hgrow h1);have hz4:w.heap.size<=W3.heap.size:=by have:=HW.out.size;have:=HE3.out.size;omega
   have HB4:Hid (Bel w.heap.size w w'):=((HW.out.next HW.out.size HE3.out).alloc hz4 _).grownS HO.out hgrow hdr (by simpa using hz3) NL;have ho1:=hown;rw[<-HTL.out]at ho1;have HRH:Hid (RowH w.heap.size w' v' (m++[s.hold])):=RowH.snoc ho1 hh ⟨K1.out,K2.out,K3.out,K4.out⟩ (HPH _ (by decide));obtain⟨q0,q1,q2,q3,q4,q5,q6,q7,q8,q9,q10,q11,q12,q13,q14,q15,qz0,qz1,qz2,qz3,qz4,qz5,qz6,qz7,qz8,qz9,qz10,qz11,qz12,qz13,qz14,qz15⟩:=row16f (HPH _ (by decide) _ _ _ HY3.out)
   obtain⟨f2,ho2,hh2⟩:=HB.out.bel HE3.out;rw[HTL.out]at ho2;have HO2:=LH ((OwnS.keep ho2 (HPH _ (by decide))).alloc (.cells #[.bool b1,.slice a1 n1 c1,.bool b2,.slice a2 n2 c2,.bool b3,.slice a3 n3 c3,.bool b4,.slice a4 n4 c4,.bool b5,.slice a5 n5 c5,.bool b6,.slice a6 n6 c6,.bool b7,.slice a7 n7 c7,.bool b8,.slice a8 n8 c8] 140));have HS:Hid (RHoldAt W3 (fun k=>(#[.bool b1,.slice a1 n1 c1,.bool b2,.slice a2 n2 c2,.bool b3,.slice a3 n3 c3,.bool b4,.slice a4 n4 c4,.bool b5,.slice a5 n5 c5,.bool b6,.slice a6 n6 c6,.bool b7,.slice a7 n7 c7,.bool b8,.slice a8 n8 c8]:Array Value).getD k (.bool false)) 0 s.hold):=⟨S1.out,S2.out,S3.out,S4.out⟩
   have HPI:=LH (HPH 3 (by decide));have hz5:w.heap.size<=w'.heap.size+1:=by have:=HB4.out.size;omega
   have HH2:=LH hh2;clear ho2 hh2 hh hown ho1 hgrow hdr HO HPH HX3 HY3 HE3 HZ3 K1 K2 K3 K4 S1 S2 S3 S4 HA HB HW hz3 hz4 p0 p1 p2 p3 p4 p5 p6 p7 p8 p9 p10 p11 pz0 pz1 pz2 pz3 pz4 pz5 pz6 pz7 pz8 pz9 pz10 pz11
   go_wp2_with (at_builtin;refine wpList_append_fn rfl (.tmp 52) (.tmp 54) 45 rfl w.heap.size Tryz.underlying45 infoRHold rfl (by decide) rfl HO2.out rfl (cells_lit (heap_new _ _ rfl) rfl) (one_lit rfl) (by unfold maxLen;omega) (by omega) (by simpa using hz5) ?_;intro v2 w5 hown hgrow hdr)
   have HB5:Hid (Bel w.heap.size w w5):=(HB4.out.alloc HB4.out.size _).grownS HO2.out hgrow hdr (by simpa using hz5) NL;have HPH (T:TypeId) (h1:T≠140):Pres T w' w5:=(Pres.alloc _ _).trans (Pres.grownS HO2.out hgrow h1);have ho1:=hown;rw[<-HTL.out]at ho1;have HR5:Hid (RowR w.heap.size w5 v2 (m++[s.hold])):=RowR.snoc ho1 HH2.out HS.out (HPI.out.trans (HPH _ (by decide)));have HH5:Hid (RowH w.heap.size w5 v' (m++[s.hold])):=HRH.out.keep (HPH _ (by decide)) (HPH _ (by decide))
   clear hown ho1 hgrow hdr HPH HPI HO2 HS HH2 HRH q0 q1 q2 q3 q4 q5 q6 q7 q8 q9 q10 q11 q12 q13 q14 q15 qz0 qz1 qz2 qz3 qz4 qz5 qz6 qz7 qz8 qz9 qz10 qz11 qz12 qz13 qz14 qz15;go_wp2
   go_roundg (n-(i+1))
   case rel=>exact⟨i+1,rfl,by omega,by push_cast;rfl,by rw[HTS.out];exact HH5.out,by rw[HTS.out];exact HR5.out,HB5.out⟩
   case measure=>omega
  .have e:(l.map SpotD.hold).take i=l.map SpotD.hold:=List.take_of_length_le (by rw[List.length_map,<-HN.out];omega);rw[e]at hrow hror;have HA:=LH hrow;have HB:=LH hror;clear hrow hror e hbr;go_wp2
   go_ret2
   exact⟨_,_,rfl,HA.out,HB.out,HW.out⟩
end Go.Proofs.YtlgjakpoaelehaaGreat.D4
