/- Contracts and plain laws, merged: Q1 Q2 Q3 Q4 Q5 Q6 B1 Hold Q7 Pt M1 Q8 -/
import Derived.Deep.RegionHeld3
import Derived.Test.YtlgjakpoaelehaaGreatSB03
import Derived.Test.YtlgjakpoaelehaaGreatSB06
import Derived.Test.YtlgjakpoaelehaaGreatSB07
namespace Go.Proofs.YtlgjakpoaelehaaGreat
open Go.RowKit
set_option maxRecDepth 100000
set_option maxHeartbeats 8000000
structure BelS (w w':World):Prop where
 of::
 out:Bel w.heap.size w w'
theorem BelS.next {a w w':World}(h:BelS a w)(hB:a.heap.size<=w.heap.size)(k:Bel w.heap.size w w'):BelS a w':=⟨Bel.next h.out hB k⟩
theorem cell_set_ne {w:World}{a p:Addr}{u:Value}(h:p.block≠a.block):(w.setCell a u).cell? p=w.cell? p:=by
 unfold World.cell?;rw[Below.heap_setCell w a u _ h]
theorem frozen_set_ne {w:World}{a p:Addr}{u:Value}(h:p.block≠a.block):(w.setCell a u).frozen? p=w.frozen? p:=by
 unfold World.frozen?;rw[Below.heap_setCell w a u _ h]
theorem heap_new {w:World}(o:Obj)(b:Nat)(h:b=w.heap.size):(w.alloc o).heap[b]?=some o:=by
 subst h;exact heap_alloc_new w o
theorem heap_drew (w:World)(b:Nat):w.drew.heap[b]?=w.heap[b]?:=rfl
theorem heap_old {w:World}(o:Obj)(b:Nat)(h:b<w.heap.size):(w.alloc o).heap[b]?=w.heap[b]?:=Below.heap_alloc w o b h
theorem row2 {w:World}{b:Nat}{x y:Value}{T:TypeId}(h:w.heap[b]?=some (.cells #[x,y] T)):
 w.cell? ⟨b,0,none⟩=some x/\w.cell? ⟨b,1,none⟩=some y/\w.frozen? ⟨b,0,none⟩=false/\w.frozen? ⟨b,1,none⟩=false:=by
 simp[World.cell?,World.frozen?,h]
theorem row3 {w:World}{b:Nat}{x y z:Value}{T:TypeId}(h:w.heap[b]?=some (.cells #[x,y,z] T)):
 w.cell? ⟨b,0,none⟩=some x/\w.cell? ⟨b,1,none⟩=some y/\w.cell? ⟨b,2,none⟩=some z/\w.frozen? ⟨b,0,none⟩=false/\w.frozen? ⟨b,1,none⟩=false/\w.frozen? ⟨b,2,none⟩=false:=by
 simp[World.cell?,World.frozen?,h]
def BlkT (T:TypeId)(w:World)(b:Nat):Prop:=∃cur fr,w.heap[b]?=some (.cells cur T fr)
theorem BlkT.bel {T:TypeId}{w w':World}{b B:Nat}(h:BlkT T w b)(k:Bel B w w')(hb:b<B):BlkT T w' b:=by
 obtain⟨cur,fr,h⟩:=h;exact⟨cur,fr,by rw[k.block b hb];exact h⟩
theorem BlkT.lt {T:TypeId}{w:World}{b:Nat}(h:BlkT T w b):b<w.heap.size:=by
 obtain⟨cur,fr,h⟩:=h;exact(Array.getElem?_eq_some_iff.1 h).1
theorem BlkT.alloc {T:TypeId}{w:World}{b:Nat}(h:BlkT T w b)(o:Obj):BlkT T (w.alloc o) b:=by
 obtain⟨cur,fr,h⟩:=h;exact⟨cur,fr,by rw[Below.heap_alloc w o b (Array.getElem?_eq_some_iff.1 h).1];exact h⟩
theorem BlkT.new (T:TypeId)(w:World)(b:Nat)(c:Array Value)(h:b=w.heap.size):BlkT T (w.alloc (.cells c T)) b:=by
 subst h;exact⟨c,(0,0),heap_alloc_new w _⟩
theorem BlkT.drew {T:TypeId}{w:World}{b:Nat}(h:BlkT T w b):BlkT T w.drew b:=h
theorem BlkT.setCell {T:TypeId}{w:World}{b:Nat}(h:BlkT T w b)(a:Addr)(u:Value):BlkT T (w.setCell a u) b:=by
 obtain⟨cur,fr,h⟩:=h
 by_cases e:a.block=b
 .subst e;unfold BlkT World.setCell;rw[Array.getElem?_modify,if_pos rfl,h];exact⟨_,_,rfl⟩
 .exact⟨cur,fr,by rw[Below.heap_setCell w a u b (Ne.symm e)];exact h⟩
theorem BK {p:Prop}(h:p:=by repeat first|refine(Bel.cell (by with_reducible assumption) (by(try dsimp only);first|omega|(simp;done)|(simp;omega))).trans ?_|refine(Bel.frozen (by with_reducible assumption) (by(try dsimp only);first|omega|(simp;done)|(simp;omega))).trans ?_|refine(cell_set_ne (by(try dsimp only);first|omega|(simp;done)|(simp;omega))).trans ?_|refine(frozen_set_ne (by(try dsimp only);first|omega|(simp;done)|(simp;omega))).trans ?_|(go_simp;done)):p:=h
theorem CHs {p:Prop}(h:p:=by(repeat (first|exact Pres.refl _ _|refine Pres.trans (Pres.below (Bel.toBelow (by with_reducible assumption))) ?_));done):p:=h
theorem RW1 {p:Prop}(h:p:=by repeat first|with_reducible assumption|exact heap_new _ _ (by simp)|refine(Below.block (Bel.toBelow (by with_reducible assumption)) _ (by(try dsimp only);first|omega|(simp;done)|(simp;omega))).trans ?_|with_reducible refine(heap_drew _ _).trans ?_|refine(heap_old _ _ (by(try dsimp only);first|omega|(simp;done)|(simp;omega))).trans ?_):p:=h
theorem BKT {p:Prop}(h:p:=by repeat first|exact BlkT.new _ _ _ _ (by simp)|with_reducible assumption|refine BlkT.bel ?_ (by with_reducible assumption) (by(try dsimp only);first|omega|(simp;done)|(simp;omega))|with_reducible refine BlkT.alloc ?_ _|with_reducible refine BlkT.drew ?_):p:=h
theorem KPs {p:Prop}(h:p:=by(((try (rename _/\_=>hh;(repeat (obtain⟨_,hh⟩:=hh))));(repeat' apply And.intro)<;>first|with_reducible assumption|omega|((repeat (refine(cell_set_ne (by(try dsimp only);first|omega|(simp;done)|(simp;omega))).trans ?_));with_reducible assumption)|exact(Bel.cell (by with_reducible assumption) (by(try dsimp only);first|omega|(simp;done)|(simp;omega))).trans (by with_reducible assumption)|exact(Bel.frozen (by with_reducible assumption) (by(try dsimp only);first|omega|(simp;done)|(simp;omega))).trans (by with_reducible assumption)|exact BelS.next (by with_reducible assumption) (by omega) (by with_reducible assumption)|exact BlkT.bel (by with_reducible assumption) (by with_reducible assumption) (by omega)|((repeat (first|exact BlkT.new _ _ _ _ (by simp)|with_reducible assumption|with_reducible refine BlkT.setCell ?_ _ _|with_reducible refine BlkT.drew ?_|with_reducible refine BlkT.alloc ?_ _));done)|(refine BelS.of ?_;(repeat first|exact Bel.refl _ _|exact BelS.out (by with_reducible assumption)|with_reducible refine Bel.drew ?_|with_reducible refine Bel.drewN ?_ _|refine Bel.setCell ?_ (by simp<;>omega) _|refine Bel.alloc ?_ (by simp<;>omega) _);done)|(go_simp;done)|(go_keep;done)|(simp;done)|(simp;omega)))):p:=h
theorem BSs {T:TypeId}{w w':World}(h:BelS w w':=by with_reducible assumption):Pres T w w':=Pres.below (BelS.out h).toBelow
theorem Pres.setT {T T':TypeId}{w:World}{b:Nat}(h:BlkT T' w b)(hT:T≠T')(i:Nat)(u:Value):Pres T w (w.setCell ⟨b,i,none⟩ u):=by
 obtain⟨cur,fr,h⟩:=h;exact Pres.setCell (a:=⟨b,i,none⟩) h hT u
theorem Pres.set2 {T T':TypeId}{w:World}{b:Nat}(h:BlkT T' w b)(hT:T≠T')(i j:Nat)(u v:Value):Pres T w ((w.setCell ⟨b,i,none⟩ u).setCell ⟨b,j,none⟩ v):=
 (Pres.setT h hT i u).trans (Pres.setT (h.setCell _ _) hT j v)
theorem Pres.set3 {T T':TypeId}{w:World}{b:Nat}(h:BlkT T' w b)(hT:T≠T')(i j k:Nat)(u v x:Value):Pres T w (((w.setCell ⟨b,i,none⟩ u).setCell ⟨b,j,none⟩ v).setCell ⟨b,k,none⟩ x):=
 (Pres.set2 h hT i j u v).trans (Pres.setT ((h.setCell _ _).setCell _ _) hT k x)
def WV (w:World)(v:Value)(z:Int):Prop:=∃vm,v=.agg #[.bool (decide (z<0)),vm]/\NatV w vm z.natAbs
theorem WV.pres {w w':World}{v:Value}{z:Int}(h:WV w v z)(hp:Pres 232 w w'):WV w' v z:=by
 obtain⟨m,e,hc⟩:=h;exact⟨m,e,hc.pres hp⟩
theorem WV.below {w w':World}{v:Value}{z:Int}(h:WV w v z)(hp:Bel w.heap.size w w'):WV w' v z:=h.pres (.below hp.toBelow)
theorem WV.mk {w:World}{vm:Value}{m:Nat}{z:Int}{b:Bool}(h:NatV w vm m)(hb:decide (z<0)=b)(hz:z.natAbs=m):WV w (.agg #[.bool b,vm]) z:=by
 subst hb;subst hz;exact⟨_,rfl,h⟩
def sgn (neg:Bool)(m:Nat):Int:=if neg then -(m:Int) else m
theorem sgn_natAbs (neg:Bool)(m:Nat):(sgn neg m).natAbs=m:=by unfold sgn;split<;>simp
theorem sgn_lt (neg:Bool)(m:Nat):decide (sgn neg m<0)=(neg && decide (0<nlen m)):=by
 have h:0<nlen m ↔ 0<m:=by
  have:=nlen_eq_zero (a:=m);omega
 unfold sgn
 cases neg<;>simp[h]
theorem wholeOf_c {w:World}{neg:Bool}{vm:Value}{m:Nat}(hm:NatV w vm m):
 Calls Tryz.prog 88 #[.bool neg,vm] w (Gives w fun v w'=>WV w' v (sgn neg m)):=by
 have HM:=LH hm;obtain⟨ao,rfl,hc⟩:=hm;have HS:=LH (sgn_lt neg m);have HA:=LH (sgn_natAbs neg m);clear hc
 cases neg<;>(
  go_enter Tryz.func88,Tryz.ntmps88
  go_wp2
  (try simp only[Exit.inBlock,Exit.then])
  refine bodyPost_ret (v:=?_) (results_c1 rfl _ rfl ?_) rfl ?_;rotate_left
  .go_simp;rfl
  .exact⟨_,rfl,WV.mk (HM.out.pres (Pres.alloc _ _)) (HS.out.trans (by simp)) HA.out,(Bel.refl _ _).alloc NL _⟩)
theorem WV.sgn {w:World}{v:Value}{z:Int}(h:WV w v z):∃vm,v=.agg #[.bool (decide (z<0)),vm]/\NatV w vm z.natAbs:=h
theorem sgn_int (z:Int):sgn (decide (z<0)) z.natAbs=z:=by
 unfold Go.Proofs.YtlgjakpoaelehaaGreat.sgn
 by_cases h:z<0<;>simp[h]<;>omega
theorem sgn_mul (z:Int)(n:Nat):sgn (decide (z<0)) (z.natAbs*n)=z*n:=by
 have:=sgn_int z;unfold Go.Proofs.YtlgjakpoaelehaaGreat.sgn at *
 by_cases h:z<0
 .simp only[h,decide_true,if_true]at *;rw[Int.natCast_mul,<-Int.neg_mul,this]
 .simp only[h,decide_false]at *;rw[Int.natCast_mul];simp at this|-;rw[this]
theorem times_c {w:World}{v vb:Value}{z:Int}{b:Nat}(hv:WV w v z)(hb:NatV w vb b)(hs:nlen z.natAbs<=1000000000)(hsb:nlen b<=1000000000):
 Calls Tryz.prog 85 #[v,vb] w (Gives w fun v w'=>WV w' v (z*b)):=by
 obtain⟨vm,rfl,hm⟩:=hv;have HM:=LH hm;have HB:=LH hb;have HZ:=LH (sgn_mul z b);have hln:=nlen_mul z.natAbs b;clear hm hb
 go_enter Tryz.func85,Tryz.ntmps85
 go_wp2
 go_region_held3 (fun w'=>w'.cell? ⟨w.heap.size,0,none⟩=some (.bool (decide (z<0)))/\w'.cell? ⟨w.heap.size,1,none⟩=some (vm)/\BelS w w'/\w.heap.size+2<=w'.heap.size) (exact KPs)
  (first
   |(go_at_call 87;(try (rename _/\_=>hh;rcases hh with⟨hh0,hh1,hh2,hh3⟩));refine(mul_c (HM.out.pres BSs) (HB.out.pres BSs) (by omega) (by omega)).mono ?_;rintro e w9 ⟨v1,rfl,hv1,hb1⟩;have hs1:=hb1.size)
   |(go_at_call 88;(try (rename _/\_=>hh;rcases hh with⟨hh0,hh1,hh2,hh3⟩));refine(wholeOf_c (hv1.pres CHs)).mono ?_;rintro e w9 ⟨v2,rfl,hW,hb2⟩;rw[HZ.out]at hW;obtain⟨m2,rfl,ao2,rfl,hv2⟩:=hW;have hs2:=hb2.size;obtain⟨hc0,hc1,hf0,hf1⟩:=row2 (w:=w9) (b:=w.heap.size+1) (x:=.bool false) (y:=.slice none 0 0) (T:=37) RW1))
 all_goals go_wp2
 (try simp only[Exit.inBlock,Exit.then]);refine bodyPost_ret (v:=?_) (results_c1 rfl _ rfl ?_) rfl ?_;rotate_left;(go_simp;rfl)
 have hk:BlkT 37 w9 (w.heap.size+1):=BKT
 rename _/\_=>hh
 exact⟨_,rfl,WV.mk (NatV.pres ⟨_,rfl,hv2⟩ (Pres.set2 hk (by decide) _ _ _ _)) rfl rfl,hh.2.2.1.out⟩
theorem sgn_add_same (x y:Int)(h:decide (x<0)=decide (y<0)):Go.Proofs.YtlgjakpoaelehaaGreat.sgn (decide (x<0)) (x.natAbs+y.natAbs)=x+y:=by
 unfold Go.Proofs.YtlgjakpoaelehaaGreat.sgn
 by_cases h1:x<0<;>by_cases h2:y<0<;>simp[h1,h2]at h|-<;>omega
theorem sgn_add_ge (x y:Int)(h:decide (x<0)≠decide (y<0))(hc:y.natAbs<=x.natAbs):Go.Proofs.YtlgjakpoaelehaaGreat.sgn (decide (x<0)) (x.natAbs-y.natAbs)=x+y:=by
 unfold Go.Proofs.YtlgjakpoaelehaaGreat.sgn
 by_cases h1:x<0<;>by_cases h2:y<0<;>simp[h1,h2]at h|-<;>omega
theorem sgn_add_lt (x y:Int)(h:decide (x<0)≠decide (y<0))(hc:x.natAbs<=y.natAbs):Go.Proofs.YtlgjakpoaelehaaGreat.sgn (decide (y<0)) (y.natAbs-x.natAbs)=x+y:=by
 unfold Go.Proofs.YtlgjakpoaelehaaGreat.sgn
 by_cases h1:x<0<;>by_cases h2:y<0<;>simp[h1,h2]at h|-<;>omega
def intSign (z:Int):Int:=if z<0 then -1 else if z=0 then 0 else 1
theorem wsign_c {w:World}{v:Value}{z:Int}(hv:WV w v z):
 Calls Tryz.prog 72 #[v] w fun e w'=>e=.returned (.int .i64 (intSign z))/\Bel w.heap.size w w':=by
 obtain⟨vm,rfl,ao,rfl,hm⟩:=hv;clear hm
 by_cases h1:z<0
 .have e:intSign z=-1:=by unfold intSign;rw[if_pos h1]
  rw[decide_eq_true h1,e];clear e
  go_enter Tryz.func72,Tryz.ntmps72
  go_wp2;go_ret;exact⟨rfl,(Bel.refl _ _).alloc NL _⟩
 .rw[decide_eq_false h1]
  by_cases h0:nlen z.natAbs=0
  .have e:intSign z=0:=by
    have:=nlen_eq_zero.1 h0;unfold intSign;rw[if_neg h1,if_pos (by omega)]
   rw[e,h0];clear e
   go_enter Tryz.func72,Tryz.ntmps72
   go_wp2;go_ret;exact⟨rfl,(Bel.refl _ _).alloc NL _⟩
  .have e:intSign z=1:=by
    have:z.natAbs≠0:=fun e=>h0 (nlen_eq_zero.2 e);unfold intSign;rw[if_neg h1,if_neg (by omega)]
   rw[e];clear e
   go_enter Tryz.func72,Tryz.ntmps72
   go_wp2;go_ret;exact⟨rfl,(Bel.refl _ _).alloc NL _⟩
def cmpZ (x y:Int):Int:=if x<y then -1 else if x=y then 0 else 1
theorem cmpZ_neg (x y:Int)(h1:x<0)(h2:y<0):cmpN y.natAbs x.natAbs=cmpZ x y:=by
 unfold cmpN cmpZ
 by_cases e:x<y
 .rw[if_pos e,if_pos (by omega)]
 .rw[if_neg e,if_neg (by omega)]
  by_cases e2:x=y
  .rw[if_pos e2,if_pos (by omega)]
  .rw[if_neg e2,if_neg (by omega)]
theorem cmpZ_pos (x y:Int)(h1:¬x<0)(h2:¬y<0):cmpN x.natAbs y.natAbs=cmpZ x y:=by
 unfold cmpN cmpZ
 by_cases e:x<y
 .rw[if_pos e,if_pos (by omega)]
 .rw[if_neg e,if_neg (by omega)]
  by_cases e2:x=y
  .rw[if_pos e2,if_pos (by omega)]
  .rw[if_neg e2,if_neg (by omega)]
theorem wcmp_c {w:World}{v v':Value}{x y:Int}(hv:WV w v x)(hv':WV w v' y)(hs:nlen x.natAbs<=10000000000)(hs':nlen y.natAbs<=10000000000):
 Calls Tryz.prog 90 #[v,v'] w fun e w'=>e=.returned (.int .i64 (cmpZ x y))/\Bel w.heap.size w w':=by
 obtain⟨vm,rfl,hm⟩:=hv;obtain⟨vn,rfl,hn⟩:=hv';have HM:=LH hm;have HN:=LH hn;obtain⟨am,rfl,-⟩:=hm;obtain⟨an,rfl,-⟩:=hn
 by_cases h1:x<0<;>by_cases h2:y<0
 .have HE:=LH (cmpZ_neg x y h1 h2);rw[decide_eq_true h1,decide_eq_true h2]
  go_enter Tryz.func90,Tryz.ntmps90
  go_wp2_with fail
  refine(cmp_c (HN.out.pres ((Pres.alloc _ _).trans (Pres.alloc _ _))) (HM.out.pres ((Pres.alloc _ _).trans (Pres.alloc _ _))) (by omega) (by omega)).mono ?_;rintro e w9 ⟨rfl,hb⟩;go_wp2;go_ret;exact⟨by rw[HE.out];rfl,(Bel.new.alloc (by simp) _).trans (hb.mono (by simp<;>omega))⟩
 .have e:cmpZ x y=-1:=by unfold cmpZ;rw[if_pos (by omega)]
  rw[decide_eq_true h1,decide_eq_false h2,e];clear e
  go_enter Tryz.func90,Tryz.ntmps90
  go_wp2;go_ret;exact⟨rfl,Bel.new.alloc (by simp) _⟩
 .have e:cmpZ x y=1:=by unfold cmpZ;rw[if_neg (by omega),if_neg (by omega)]
  rw[decide_eq_false h1,decide_eq_true h2,e];clear e
  go_enter Tryz.func90,Tryz.ntmps90
  go_wp2;go_ret;exact⟨rfl,Bel.new.alloc (by simp) _⟩
 .have HE:=LH (cmpZ_pos x y h1 h2);rw[decide_eq_false h1,decide_eq_false h2]
  go_enter Tryz.func90,Tryz.ntmps90
  go_wp2_with fail
  refine(cmp_c (HM.out.pres ((Pres.alloc _ _).trans (Pres.alloc _ _))) (HN.out.pres ((Pres.alloc _ _).trans (Pres.alloc _ _))) (by omega) (by omega)).mono ?_;rintro e w9 ⟨rfl,hb⟩;go_wp2;go_ret;exact⟨by rw[HE.out];rfl,(Bel.new.alloc (by simp) _).trans (hb.mono (by simp<;>omega))⟩
theorem wadd_same {w:World}{vm vn:Value}{m n:Nat}{z:Int}(b:Bool)(hm:NatV w vm m)(hn:NatV w vn n)(hs:nlen m<=10000000000)(hs':nlen n<=10000000000)(hz:Go.Proofs.YtlgjakpoaelehaaGreat.sgn b (m+n)=z):
 Calls Tryz.prog 86 #[.agg #[.bool b,vm],.agg #[.bool b,vn]] w (Gives w fun v w'=>WV w' v z):=by
 have HM:=LH hm;have HN:=LH hn;have HZ:=LH hz;have hln:=nlen_add m n;clear hm hn hz
 cases b
 .go_enter Tryz.func86,Tryz.ntmps86
  go_wp2
  go_region_held3 (fun w'=>w'.cell? ⟨w.heap.size,0,none⟩=some (.bool false)/\w'.cell? ⟨w.heap.size,1,none⟩=some (vm)/\w'.cell? ⟨w.heap.size+1,1,none⟩=some (vn)/\BelS w w'/\w.heap.size+3<=w'.heap.size) (exact KPs)
   (first
    |(go_at_call 137;(try (rename _/\_=>hh;rcases hh with⟨hh0,hh1,hh2,hh3,hh4⟩));refine(add_c (HM.out.pres BSs) (HN.out.pres BSs) (by omega) (by omega)).mono ?_;rintro e w9 ⟨v1,rfl,hv1,hb1⟩;have hs1:=hb1.size)
    |(go_at_call 88;(try (rename _/\_=>hh;rcases hh with⟨hh0,hh1,hh2,hh3,hh4⟩));refine(wholeOf_c (hv1.pres CHs)).mono ?_;rintro e w9 ⟨v2,rfl,hW,hb2⟩;rw[HZ.out]at hW;obtain⟨m2,rfl,ao2,rfl,hv2⟩:=hW;have hs2:=hb2.size;obtain⟨hc0,hc1,hf0,hf1⟩:=row2 (w:=w9) (b:=w.heap.size+1+1) (x:=.bool false) (y:=.slice none 0 0) (T:=37) RW1))
  all_goals go_wp2
  (try simp only[Exit.inBlock,Exit.then]);refine bodyPost_ret (v:=?_) (results_c1 rfl _ rfl ?_) rfl ?_;rotate_left;(go_simp;rfl);have hk:BlkT 37 w9 (w.heap.size+1+1):=BKT;rename _/\_=>hh;exact⟨_,rfl,WV.mk (NatV.pres ⟨_,rfl,hv2⟩ (Pres.set2 hk (by decide) _ _ _ _)) rfl rfl,hh.2.2.2.1.out⟩
 .go_enter Tryz.func86,Tryz.ntmps86
  go_wp2
  go_region_held3 (fun w'=>w'.cell? ⟨w.heap.size,0,none⟩=some (.bool true)/\w'.cell? ⟨w.heap.size,1,none⟩=some (vm)/\w'.cell? ⟨w.heap.size+1,1,none⟩=some (vn)/\BelS w w'/\w.heap.size+3<=w'.heap.size) (exact KPs)
   (first
    |(go_at_call 137;(try (rename _/\_=>hh;rcases hh with⟨hh0,hh1,hh2,hh3,hh4⟩));refine(add_c (HM.out.pres BSs) (HN.out.pres BSs) (by omega) (by omega)).mono ?_;rintro e w9 ⟨v1,rfl,hv1,hb1⟩;have hs1:=hb1.size)
    |(go_at_call 88;(try (rename _/\_=>hh;rcases hh with⟨hh0,hh1,hh2,hh3,hh4⟩));refine(wholeOf_c (hv1.pres CHs)).mono ?_;rintro e w9 ⟨v2,rfl,hW,hb2⟩;rw[HZ.out]at hW;obtain⟨m2,rfl,ao2,rfl,hv2⟩:=hW;have hs2:=hb2.size;obtain⟨hc0,hc1,hf0,hf1⟩:=row2 (w:=w9) (b:=w.heap.size+1+1) (x:=.bool false) (y:=.slice none 0 0) (T:=37) RW1))
  all_goals go_wp2
  (try simp only[Exit.inBlock,Exit.then]);refine bodyPost_ret (v:=?_) (results_c1 rfl _ rfl ?_) rfl ?_;rotate_left;(go_simp;rfl);have hk:BlkT 37 w9 (w.heap.size+1+1):=BKT;rename _/\_=>hh;exact⟨_,rfl,WV.mk (NatV.pres ⟨_,rfl,hv2⟩ (Pres.set2 hk (by decide) _ _ _ _)) rfl rfl,hh.2.2.2.1.out⟩
theorem wadd_ge {w:World}{vm vn:Value}{m n:Nat}{z:Int}(b:Bool)(hm:NatV w vm m)(hn:NatV w vn n)(hs:nlen m<=10000000000)(hs':nlen n<=10000000000)(hz:Go.Proofs.YtlgjakpoaelehaaGreat.sgn (b) (m-n)=z)(hle:n<=m):
 Calls Tryz.prog 86 #[.agg #[.bool b,vm],.agg #[.bool (!b),vn]] w (Gives w fun v w'=>WV w' v z):=by
 have HM:=LH hm;have HN:=LH hn;have HZ:=LH hz;have hc:cmpN m n=0\/cmpN m n=1\/cmpN m n=-1:=by unfold cmpN;(repeat' split)<;>simp
 have hcmp:decide (0<=cmpN m n)=true:=by unfold cmpN;rw[if_neg (by omega)];split<;>simp
 have hln:=nlen_mono (Nat.sub_le m n);have hln2:=nlen_mono (Nat.sub_le n m);clear hm hn hz
 cases b
 .rw[show(!false)=true from rfl]at *
  go_enter Tryz.func86,Tryz.ntmps86
  go_wp2_with fail
  refine(cmp_c (HM.out.pres ((Pres.alloc _ _).trans ((Pres.alloc _ _).trans (Pres.alloc _ _)))) (HN.out.pres ((Pres.alloc _ _).trans ((Pres.alloc _ _).trans (Pres.alloc _ _)))) (by omega) (by omega)).mono ?_;rintro e w8 ⟨rfl,hb0⟩;have hs8:=hb0.size;have hB8:BelS w w8:=⟨((Bel.new.alloc (by simp) _).alloc (by simp<;>omega) _).trans (hb0.mono (by simp<;>omega))⟩
  have hk8:BlkT 37 w8 (w.heap.size+1+1):=BKT;have hrow:w8.heap[w.heap.size+1+1]?=some (.cells #[.bool false,.slice none 0 0] 37):=RW1;have hr4:w8.cell? ⟨w.heap.size,0,none⟩=some (.bool false):=BK;have hr5:w8.cell? ⟨w.heap.size,1,none⟩=some vm:=BK;have hr6:w8.cell? ⟨w.heap.size+1,0,none⟩=some (.bool true):=BK;have hr7:w8.cell? ⟨w.heap.size+1,1,none⟩=some vn:=BK;simp only[World.size_alloc]at hs8;have hs8':w.heap.size+3<=w8.heap.size:=by omega
  clear hb0 hs8;go_wp2
  go_region_held3 (fun w'=>w'.cell? ⟨w.heap.size,0,none⟩=some (.bool false)/\w'.cell? ⟨w.heap.size,1,none⟩=some (vm)/\w'.cell? ⟨w.heap.size+1,1,none⟩=some (vn)/\BelS w w'/\w.heap.size+3<=w'.heap.size) (exact KPs)
   (first
    |(go_at_call 141;(try (rename _/\_=>hh;rcases hh with⟨hh0,hh1,hh2,hh3,hh4⟩));refine(sub_c (HM.out.pres BSs) (HN.out.pres BSs) (by omega) (by omega)).mono ?_;rintro e w9 ⟨v1,rfl,hv1,hb1⟩;have hs1:=hb1.size)
    |(go_at_call 88;(try (rename _/\_=>hh;rcases hh with⟨hh0,hh1,hh2,hh3,hh4⟩));refine(wholeOf_c (hv1.pres CHs)).mono ?_;rintro e w9 ⟨v2,rfl,hW,hb2⟩;rw[HZ.out]at hW;obtain⟨m2,rfl,ao2,rfl,hv2⟩:=hW;have hs2:=hb2.size;obtain⟨hc0,hc1,hf0,hf1⟩:=row2 (w:=w9) (b:=w.heap.size+1+1) (x:=.bool false) (y:=.slice none 0 0) (T:=37) RW1))
  all_goals go_wp2
  (try simp only[Exit.inBlock,Exit.then]);refine bodyPost_ret (v:=?_) (results_c1 rfl _ rfl ?_) rfl ?_;rotate_left;(go_simp;rfl);have hk:BlkT 37 w9 (w.heap.size+1+1):=BKT;rename _/\_=>hh;exact⟨_,rfl,WV.mk (NatV.pres ⟨_,rfl,hv2⟩ (Pres.set2 hk (by decide) _ _ _ _)) rfl rfl,hh.2.2.2.1.out⟩
 .rw[show(!true)=false from rfl]at *
  go_enter Tryz.func86,Tryz.ntmps86
  go_wp2_with fail
  refine(cmp_c (HM.out.pres ((Pres.alloc _ _).trans ((Pres.alloc _ _).trans (Pres.alloc _ _)))) (HN.out.pres ((Pres.alloc _ _).trans ((Pres.alloc _ _).trans (Pres.alloc _ _)))) (by omega) (by omega)).mono ?_;rintro e w8 ⟨rfl,hb0⟩;have hs8:=hb0.size;have hB8:BelS w w8:=⟨((Bel.new.alloc (by simp) _).alloc (by simp<;>omega) _).trans (hb0.mono (by simp<;>omega))⟩
  have hk8:BlkT 37 w8 (w.heap.size+1+1):=BKT;have hrow:w8.heap[w.heap.size+1+1]?=some (.cells #[.bool false,.slice none 0 0] 37):=RW1;have hr4:w8.cell? ⟨w.heap.size,0,none⟩=some (.bool true):=BK;have hr5:w8.cell? ⟨w.heap.size,1,none⟩=some vm:=BK;have hr6:w8.cell? ⟨w.heap.size+1,0,none⟩=some (.bool false):=BK;have hr7:w8.cell? ⟨w.heap.size+1,1,none⟩=some vn:=BK;simp only[World.size_alloc]at hs8;have hs8':w.heap.size+3<=w8.heap.size:=by omega
  clear hb0 hs8;go_wp2
  go_region_held3 (fun w'=>w'.cell? ⟨w.heap.size,0,none⟩=some (.bool true)/\w'.cell? ⟨w.heap.size,1,none⟩=some (vm)/\w'.cell? ⟨w.heap.size+1,1,none⟩=some (vn)/\BelS w w'/\w.heap.size+3<=w'.heap.size) (exact KPs)
   (first
    |(go_at_call 141;(try (rename _/\_=>hh;rcases hh with⟨hh0,hh1,hh2,hh3,hh4⟩));refine(sub_c (HM.out.pres BSs) (HN.out.pres BSs) (by omega) (by omega)).mono ?_;rintro e w9 ⟨v1,rfl,hv1,hb1⟩;have hs1:=hb1.size)
    |(go_at_call 88;(try (rename _/\_=>hh;rcases hh with⟨hh0,hh1,hh2,hh3,hh4⟩));refine(wholeOf_c (hv1.pres CHs)).mono ?_;rintro e w9 ⟨v2,rfl,hW,hb2⟩;rw[HZ.out]at hW;obtain⟨m2,rfl,ao2,rfl,hv2⟩:=hW;have hs2:=hb2.size;obtain⟨hc0,hc1,hf0,hf1⟩:=row2 (w:=w9) (b:=w.heap.size+1+1) (x:=.bool false) (y:=.slice none 0 0) (T:=37) RW1))
  all_goals go_wp2
  (try simp only[Exit.inBlock,Exit.then]);refine bodyPost_ret (v:=?_) (results_c1 rfl _ rfl ?_) rfl ?_;rotate_left;(go_simp;rfl);have hk:BlkT 37 w9 (w.heap.size+1+1):=BKT;rename _/\_=>hh;exact⟨_,rfl,WV.mk (NatV.pres ⟨_,rfl,hv2⟩ (Pres.set2 hk (by decide) _ _ _ _)) rfl rfl,hh.2.2.2.1.out⟩
theorem wadd_lt {w:World}{vm vn:Value}{m n:Nat}{z:Int}(b:Bool)(hm:NatV w vm m)(hn:NatV w vn n)(hs:nlen m<=10000000000)(hs':nlen n<=10000000000)(hz:Go.Proofs.YtlgjakpoaelehaaGreat.sgn (!b) (n-m)=z)(hle:m<n):
 Calls Tryz.prog 86 #[.agg #[.bool b,vm],.agg #[.bool (!b),vn]] w (Gives w fun v w'=>WV w' v z):=by
 have HM:=LH hm;have HN:=LH hn;have HZ:=LH hz;have hc:cmpN m n=0\/cmpN m n=1\/cmpN m n=-1:=by unfold cmpN;(repeat' split)<;>simp
 have hcmp:decide (0<=cmpN m n)=false:=by unfold cmpN;rw[if_pos hle];rfl
 have hln:=nlen_mono (Nat.sub_le m n);have hln2:=nlen_mono (Nat.sub_le n m);clear hm hn hz
 cases b
 .rw[show(!false)=true from rfl]at *
  go_enter Tryz.func86,Tryz.ntmps86
  go_wp2_with fail
  refine(cmp_c (HM.out.pres ((Pres.alloc _ _).trans ((Pres.alloc _ _).trans (Pres.alloc _ _)))) (HN.out.pres ((Pres.alloc _ _).trans ((Pres.alloc _ _).trans (Pres.alloc _ _)))) (by omega) (by omega)).mono ?_;rintro e w8 ⟨rfl,hb0⟩;have hs8:=hb0.size;have hB8:BelS w w8:=⟨((Bel.new.alloc (by simp) _).alloc (by simp<;>omega) _).trans (hb0.mono (by simp<;>omega))⟩
  have hk8:BlkT 37 w8 (w.heap.size+1+1):=BKT;have hrow:w8.heap[w.heap.size+1+1]?=some (.cells #[.bool false,.slice none 0 0] 37):=RW1;have hr4:w8.cell? ⟨w.heap.size,0,none⟩=some (.bool false):=BK;have hr5:w8.cell? ⟨w.heap.size,1,none⟩=some vm:=BK;have hr6:w8.cell? ⟨w.heap.size+1,0,none⟩=some (.bool true):=BK;have hr7:w8.cell? ⟨w.heap.size+1,1,none⟩=some vn:=BK;simp only[World.size_alloc]at hs8;have hs8':w.heap.size+3<=w8.heap.size:=by omega
  clear hb0 hs8;go_wp2
  go_region_held3 (fun w'=>w'.cell? ⟨w.heap.size+1,0,none⟩=some (.bool true)/\w'.cell? ⟨w.heap.size,1,none⟩=some (vm)/\w'.cell? ⟨w.heap.size+1,1,none⟩=some (vn)/\BelS w w'/\w.heap.size+3<=w'.heap.size) (exact KPs)
   (first
    |(go_at_call 141;(try (rename _/\_=>hh;rcases hh with⟨hh0,hh1,hh2,hh3,hh4⟩));refine(sub_c (HN.out.pres BSs) (HM.out.pres BSs) (by omega) (by omega)).mono ?_;rintro e w9 ⟨v1,rfl,hv1,hb1⟩;have hs1:=hb1.size)
    |(go_at_call 88;(try (rename _/\_=>hh;rcases hh with⟨hh0,hh1,hh2,hh3,hh4⟩));refine(wholeOf_c (hv1.pres CHs)).mono ?_;rintro e w9 ⟨v2,rfl,hW,hb2⟩;rw[HZ.out]at hW;obtain⟨m2,rfl,ao2,rfl,hv2⟩:=hW;have hs2:=hb2.size;obtain⟨hc0,hc1,hf0,hf1⟩:=row2 (w:=w9) (b:=w.heap.size+1+1) (x:=.bool false) (y:=.slice none 0 0) (T:=37) RW1))
  all_goals go_wp2
  (try simp only[Exit.inBlock,Exit.then]);refine bodyPost_ret (v:=?_) (results_c1 rfl _ rfl ?_) rfl ?_;rotate_left;(go_simp;rfl);have hk:BlkT 37 w9 (w.heap.size+1+1):=BKT;rename _/\_=>hh;exact⟨_,rfl,WV.mk (NatV.pres ⟨_,rfl,hv2⟩ (Pres.set2 hk (by decide) _ _ _ _)) rfl rfl,hh.2.2.2.1.out⟩
 .rw[show(!true)=false from rfl]at *
  go_enter Tryz.func86,Tryz.ntmps86
  go_wp2_with fail
  refine(cmp_c (HM.out.pres ((Pres.alloc _ _).trans ((Pres.alloc _ _).trans (Pres.alloc _ _)))) (HN.out.pres ((Pres.alloc _ _).trans ((Pres.alloc _ _).trans (Pres.alloc _ _)))) (by omega) (by omega)).mono ?_;rintro e w8 ⟨rfl,hb0⟩;have hs8:=hb0.size;have hB8:BelS w w8:=⟨((Bel.new.alloc (by simp) _).alloc (by simp<;>omega) _).trans (hb0.mono (by simp<;>omega))⟩
  have hk8:BlkT 37 w8 (w.heap.size+1+1):=BKT;have hrow:w8.heap[w.heap.size+1+1]?=some (.cells #[.bool false,.slice none 0 0] 37):=RW1;have hr4:w8.cell? ⟨w.heap.size,0,none⟩=some (.bool true):=BK;have hr5:w8.cell? ⟨w.heap.size,1,none⟩=some vm:=BK;have hr6:w8.cell? ⟨w.heap.size+1,0,none⟩=some (.bool false):=BK;have hr7:w8.cell? ⟨w.heap.size+1,1,none⟩=some vn:=BK;simp only[World.size_alloc]at hs8;have hs8':w.heap.size+3<=w8.heap.size:=by omega
  clear hb0 hs8;go_wp2
  go_region_held3 (fun w'=>w'.cell? ⟨w.heap.size+1,0,none⟩=some (.bool false)/\w'.cell? ⟨w.heap.size,1,none⟩=some (vm)/\w'.cell? ⟨w.heap.size+1,1,none⟩=some (vn)/\BelS w w'/\w.heap.size+3<=w'.heap.size) (exact KPs)
   (first
    |(go_at_call 141;(try (rename _/\_=>hh;rcases hh with⟨hh0,hh1,hh2,hh3,hh4⟩));refine(sub_c (HN.out.pres BSs) (HM.out.pres BSs) (by omega) (by omega)).mono ?_;rintro e w9 ⟨v1,rfl,hv1,hb1⟩;have hs1:=hb1.size)
    |(go_at_call 88;(try (rename _/\_=>hh;rcases hh with⟨hh0,hh1,hh2,hh3,hh4⟩));refine(wholeOf_c (hv1.pres CHs)).mono ?_;rintro e w9 ⟨v2,rfl,hW,hb2⟩;rw[HZ.out]at hW;obtain⟨m2,rfl,ao2,rfl,hv2⟩:=hW;have hs2:=hb2.size;obtain⟨hc0,hc1,hf0,hf1⟩:=row2 (w:=w9) (b:=w.heap.size+1+1) (x:=.bool false) (y:=.slice none 0 0) (T:=37) RW1))
  all_goals go_wp2
  (try simp only[Exit.inBlock,Exit.then]);refine bodyPost_ret (v:=?_) (results_c1 rfl _ rfl ?_) rfl ?_;rotate_left;(go_simp;rfl);have hk:BlkT 37 w9 (w.heap.size+1+1):=BKT;rename _/\_=>hh;exact⟨_,rfl,WV.mk (NatV.pres ⟨_,rfl,hv2⟩ (Pres.set2 hk (by decide) _ _ _ _)) rfl rfl,hh.2.2.2.1.out⟩
theorem wadd_c {w:World}{v v':Value}{x y:Int}(hv:WV w v x)(hv':WV w v' y)(hs:nlen x.natAbs<=10000000000)(hs':nlen y.natAbs<=10000000000):
 Calls Tryz.prog 86 #[v,v'] w (Gives w fun v w'=>WV w' v (x+y)):=by
 obtain⟨vm,rfl,hm⟩:=hv;obtain⟨vn,rfl,hn⟩:=hv'
 by_cases h:decide (x<0)=decide (y<0)
 .rw[<-h];exact wadd_same _ hm hn hs hs' (sgn_add_same x y h)
 .have e:decide (y<0)=!decide (x<0):=by
   cases h1:decide (x<0)<;>cases h2:decide (y<0)<;>simp_all
  by_cases hc:y.natAbs<=x.natAbs
  .rw[e];exact wadd_ge _ hm hn hs hs' (sgn_add_ge x y h hc) hc
  .have hz:=sgn_add_lt x y h (by omega);rw[e]at hz|-;exact wadd_lt _ hm hn hs hs' hz (by omega)
def QV (w:World)(v:Value)(q:Rat):Prop:=∃vm vl,v=.agg #[.bool (decide (q.num<0)),vm,vl]/\NatV w vm q.num.natAbs/\NatV w vl (q.den-1)
theorem QV.pres {w w':World}{v:Value}{q:Rat}(h:QV w v q)(hp:Pres 232 w w'):QV w' v q:=by
 obtain⟨m,l,e,h1,h2⟩:=h;exact⟨m,l,e,h1.pres hp,h2.pres hp⟩
theorem QV.below {w w':World}{v:Value}{q:Rat}(h:QV w v q)(hp:Bel w.heap.size w w'):QV w' v q:=h.pres (.below hp.toBelow)
theorem QV.mk {w:World}{vm vl:Value}{m l:Nat}{q:Rat}{b:Bool}(h:NatV w vm m)(h2:NatV w vl l)(hb:decide (q.num<0)=b)(hz:q.num.natAbs=m)(hd:q.den-1=l):QV w (.agg #[.bool b,vm,vl]) q:=by
 subst hb;subst hz;subst hd;exact⟨_,_,rfl,h,h2⟩
theorem QV.zero (w:World):QV w (.agg #[.bool false,.slice none 0 0,.slice none 0 0]) 0:=QV.mk (NatV.nil w) (NatV.nil w) rfl rfl rfl
structure QF (L:Nat) (q:Rat):Prop where
 num:nlen q.num.natAbs<=L
 den:nlen q.den<=L
theorem QF.mono {L M:Nat}{q:Rat}(h:QF L q)(hm:L<=M):QF M q:=⟨Nat.le_trans h.1 hm,Nat.le_trans h.2 hm⟩
theorem QF.den1 {L:Nat}{q:Rat}(h:QF L q):nlen (q.den-1)<=L:=Nat.le_trans (nlen_mono (Nat.sub_le _ _)) h.2
theorem mkRat_num (z:Int)(d:Nat)(h:d≠0):(mkRat z d).num=z/(Nat.gcd z.natAbs d:Nat)/\(mkRat z d).den=d/Nat.gcd z.natAbs d:=by
 rw[Rat.mkRat_def,dif_neg h,Rat.normalize_eq];exact⟨rfl,rfl⟩
theorem natAbs_div (z:Int)(g:Nat)(h:(g:Int)∣z):(z/(g:Int)).natAbs=z.natAbs/g:=by
 obtain⟨k,rfl⟩:=h
 by_cases e:g=0
 .subst e;simp
 .rw[Int.mul_ediv_cancel_left _ (by omega),Int.natAbs_mul,Int.natAbs_natCast,Nat.mul_div_cancel_left _ (by omega)]
theorem div_neg_iff (z:Int)(g:Nat)(hg:0<g)(h:(g:Int)∣z):decide (z/(g:Int)<0)=decide (z<0):=by
 obtain⟨k,rfl⟩:=h;rw[Int.mul_ediv_cancel_left _ (by omega)]
 congr 1
 have hgi:(0:Int)<g:=by omega
 apply propext
 constructor
 .intro hk;exact Int.mul_neg_of_pos_of_neg hgi hk
 .intro hk
  by_cases e:k<0
  .exact e
  .have:=Int.mul_nonneg (Int.le_of_lt hgi) (by omega:(0:Int)<=k);omega
theorem mkRat_parts (z:Int)(d:Nat)(h:d≠0):
 decide ((mkRat z d).num<0)=decide (z<0)/\(mkRat z d).num.natAbs=z.natAbs/Nat.gcd z.natAbs d/\(mkRat z d).den=d/Nat.gcd z.natAbs d/\0<Nat.gcd z.natAbs d:=by
 obtain⟨h1,h2⟩:=mkRat_num z d h;have hg:0<Nat.gcd z.natAbs d:=Nat.gcd_pos_of_pos_right _ (by omega);have hdv:((Nat.gcd z.natAbs d:Nat):Int)∣z:=Int.ofNat_dvd_left.2 (Nat.gcd_dvd_left _ _);rw[h1,h2];exact⟨div_neg_iff z _ hg hdv,natAbs_div z _ hdv,rfl,hg⟩
theorem QF.mkRat {L:Nat}{z:Int}{d:Nat}(h:d≠0)(h1:nlen z.natAbs<=L)(h2:nlen d<=L):QF L (mkRat z d):=by
 obtain⟨-,e1,e2,-⟩:=mkRat_parts z d h;exact⟨by rw[e1];exact Nat.le_trans (nlen_mono (Nat.div_le_self _ _)) h1,by rw[e2];exact Nat.le_trans (nlen_mono (Nat.div_le_self _ _)) h2⟩
theorem mkRat_self (q:Rat):mkRat q.num q.den=q:=Rat.mkRat_self q
theorem den_c {w:World}{v:Value}{q:Rat}{L:Nat}(hv:QV w v q)(hs:QF L q)(hL:L<=1000000000):
 Calls Tryz.prog 83 #[v] w (Gives w fun v w'=>NatV w' v q.den):=by
 obtain⟨vm,vl,rfl,hm,hl⟩:=hv;have HL:=LH hl;have hsz:=hs.den1;have HD:Hid (q.den-1+1=q.den):=Nat.sub_add_cancel q.den_pos;have h1:=nlen_one;clear hm hl hs
 go_enter Tryz.func83,Tryz.ntmps83
 go_wp2
 go_region_held3 (fun w'=>w'.cell? ⟨w.heap.size,2,none⟩=some (vl)/\BelS w w'/\w.heap.size+1<=w'.heap.size) (exact KPs)
  (first
   |(go_at_call 138;(try (rename _/\_=>hh;rcases hh with⟨hh0,hh1,hh2⟩));refine(natOf_c 1 (by decide) _).mono ?_;rintro e w9 ⟨v1,rfl,hv1,hb1⟩;have hs1:=hb1.size)
   |(go_at_call 137;(try (rename _/\_=>hh;rcases hh with⟨hh0,hh1,hh2⟩));refine(add_c (HL.out.pres BSs) (hv1.pres CHs) (by omega) (by omega)).mono ?_;rintro e w9 ⟨v2,rfl,hv2,hb2⟩;rw[HD.out]at hv2;have hs2:=hb2.size))
 all_goals go_wp2
 go_ret
 rename _/\_=>hh
 exact⟨_,rfl,hv2,hh.2.1.out⟩
theorem quotient_c {w:World}{v vd:Value}{z:Int}{d:Nat}(hv:WV w v z)(hd:NatV w vd d)(h0:d≠0)(hs:nlen z.natAbs<=10000000000)(hs':nlen d<=10000000000):
 Calls Tryz.prog 84 #[v,vd] w (Gives w fun v w'=>QV w' v (mkRat z d)):=by
 obtain⟨vm,rfl,hm⟩:=hv;have HM:=LH hm;have HD:=LH hd;have HP:=LH (mkRat_parts z d h0);obtain⟨am,rfl,-⟩:=hm;obtain⟨ad,rfl,-⟩:=hd;have hgle:=nlen_mono (Nat.gcd_le_right z.natAbs (show 0<d by omega));obtain⟨g,hg⟩:∃g,g=Nat.gcd z.natAbs d:=⟨_,rfl⟩
 have HG:=LH hg;rw[<-hg]at HP hgle;have hg0:g≠0:=by have:=HP.out.2.2.2;omega
 have HPS:Hid (Pres 232 w ((w.alloc (.cells #[.bool (decide (z<0)),.slice am (nlen z.natAbs) (nlen z.natAbs)] 37)).alloc (.cells #[.bool false,.slice none 0 0,.slice none 0 0] 39))):=(Pres.alloc _ _).trans (Pres.alloc _ _);clear hg
 go_enter Tryz.func84,Tryz.ntmps84
 go_wp2_with fail
 refine(gcd_c (HM.out.pres HPS.out) (HD.out.pres HPS.out) hs hs').mono ?_;rintro e w1 ⟨vg,rfl,hvg,hb1⟩;rw[<-HG.out]at hvg;have hc0:w1.cell? ⟨w.heap.size,0,none⟩=some (.bool (decide (z<0))):=BK;have hc1:w1.cell? ⟨w.heap.size,1,none⟩=some (.slice am (nlen z.natAbs) (nlen z.natAbs)):=BK;have hf0:w1.frozen? ⟨w.heap.size,1,none⟩=false:=BK;have hc2:w1.cell? ⟨w.heap.size+1,0,none⟩=some (.bool false):=BK;have hc3:w1.cell? ⟨w.heap.size+1,1,none⟩=some (.slice none 0 0):=BK
 have hc4:w1.cell? ⟨w.heap.size+1,2,none⟩=some (.slice none 0 0):=BK;have hf2:w1.frozen? ⟨w.heap.size+1,0,none⟩=false:=BK;have hf3:w1.frozen? ⟨w.heap.size+1,1,none⟩=false:=BK;have hf4:w1.frozen? ⟨w.heap.size+1,2,none⟩=false:=BK;have HK0:Hid (BlkT 37 w1 w.heap.size):=((BlkT.new _ w _ _ rfl).alloc _).bel hb1 (by simp;omega);have HK1:Hid (BlkT 39 w1 (w.heap.size+1)):=(BlkT.new _ _ _ _ (by simp)).bel hb1 (by simp)
 have HB1:Hid (Bel w.heap.size w w1):=(Bel.new.alloc (by simp) _).trans (hb1.mono (by simp<;>omega));have hz1:=HK1.out.lt;have HMP:=LH (HM.out.below HB1.out);have HDP:=LH (HD.out.below HB1.out);clear hb1 HPS
 by_cases h1:g=1
 .subst h1;obtain⟨ag,rfl,hcg⟩:=hvg;rw[nlen_one]at hcg|-;obtain⟨bg,og,rfl,hl,hc⟩:=hcg.open (by decide);have g1:w1.cell? ⟨bg,og,none⟩=some (.int .u32 1):=hc 0 (by decide);clear hcg hc
  go_wp2_with fail
  refine(wholeOf_c HMP.out).mono ?_;rintro e w2 ⟨v2,rfl,hW,hb2⟩;rw[sgn_int]at hW;obtain⟨m2,rfl,a2,rfl,hv2⟩:=hW
  go_wp2_with fail
  refine(natOf_c 1 (by decide) _).mono ?_;rintro e w3 ⟨v3,rfl,hv3,hb3⟩
  go_wp2_with fail
  refine(sub_c ((HDP.out.below hb2).below hb3) hv3 (by omega) (by omega)).mono ?_;rintro e w4 ⟨v4,rfl,⟨a4,rfl,hv4⟩,hb4⟩;have hs2:=hb2.size;have hs3:=hb3.size;have hd2:w4.cell? ⟨w.heap.size+1,0,none⟩=some (.bool false):=BK;have hd3:w4.cell? ⟨w.heap.size+1,1,none⟩=some (.slice none 0 0):=BK;have hd4:w4.cell? ⟨w.heap.size+1,2,none⟩=some (.slice none 0 0):=BK;have he2:w4.frozen? ⟨w.heap.size+1,0,none⟩=false:=BK
  have he3:w4.frozen? ⟨w.heap.size+1,1,none⟩=false:=BK;have he4:w4.frozen? ⟨w.heap.size+1,2,none⟩=false:=BK;have HK4:Hid (BlkT 39 w4 (w.heap.size+1)):=((HK1.out.bel hb2 (by omega)).bel hb3 (by omega)).bel hb4 (by omega);have HB4:Hid (Bel w.heap.size w w4):=((HB1.out.next HB1.out.size hb2).next (by omega) hb3).next (by omega) hb4;have HV2:Hid (CellsAt 232 w4 a2 (nlen z.natAbs) (dv z.natAbs)):=(hv2.pres (.below hb3.toBelow)).pres (.below hb4.toBelow)
  have HV4:=LH hv4;clear hv2 hv4 hb2 hb3 hb4 hv3;go_wp2
  (try simp only[Exit.inBlock,Exit.then]);refine bodyPost_ret (v:=?_) (results_c1 rfl _ rfl ?_) rfl ?_;rotate_left;(go_simp;rfl)
  have HPS:=LH (Pres.set3 (T:=232) HK4.out (by decide) 0 1 2 (.bool (decide (z<0))) (.slice a2 (nlen z.natAbs) (nlen z.natAbs)) (.slice a4 (nlen (d-1)) (nlen (d-1))));refine⟨_,rfl,QV.mk (NatV.pres ⟨_,rfl,HV2.out⟩ HPS.out) (NatV.pres ⟨_,rfl,HV4.out⟩ HPS.out) HP.out.1 ?_ ?_,?_⟩
  .rw[HP.out.2.1,Nat.div_one]
  .rw[HP.out.2.2.1,Nat.div_one]
  .exact((HB4.out.setCell (by simp<;>omega) _).setCell (by simp<;>omega) _).setCell (by simp<;>omega) _
 .have HVG:=LH hvg
  have hdg:1<=d/g:=by
   have h1:g∣d:=by rw[HG.out];exact Nat.gcd_dvd_right _ _
   exact Nat.div_pos (Nat.le_of_dvd (by omega) h1) (by omega)
  have HSN:Hid (decide (sgn (decide (z<0)) (z.natAbs/g)<0)=decide (z<0)):=by
   show _=_
   rw[sgn_lt]
   by_cases hz:z<0
   .have:0<z.natAbs/g:=by
     have h1:g∣z.natAbs:=by rw[HG.out];exact Nat.gcd_dvd_left _ _
     exact Nat.div_pos (Nat.le_of_dvd (by omega) h1) (by omega)
    have h2:nlen (z.natAbs/g)≠0:=fun e=>by rw[nlen_eq_zero.1 e]at this;omega
    simp[hz];omega
   .simp[hz]
  obtain⟨ag,rfl,hcg⟩:=hvg
  by_cases hn1:nlen g=1
  .have hdig:dig g 0=g:=by
    have:=val_dig_nlen g;rw[hn1]at this
    simpa[val]using this
   have hgl:=dig_lt' g 0;rw[hdig]at hgl;rw[hn1]at hcg HVG|-;obtain⟨bg,og,rfl,hl,hc⟩:=hcg.open (by decide)
   have g1:w1.cell? ⟨bg,og,none⟩=some (.int .u32 g):=by
    have:=hc 0 (by decide);unfold dv at this;rw[hdig]at this;exact this
   have hne:decide ((g:Int)=1)=false:=by simp;omega
   clear hcg hc hdig
   go_wp2_with fail
   refine(div_c HMP.out HVG.out (by omega) (by omega) hg0).mono ?_;rintro e w2 ⟨q1,r1,rfl,⟨a1,rfl,hq1⟩,-,hb2⟩;have hs2:=hb2.size;have hd0:w2.cell? ⟨w.heap.size,0,none⟩=some (.bool (decide (z<0))):=BK;have hd1:w2.cell? ⟨w.heap.size,1,none⟩=some (.slice am (nlen z.natAbs) (nlen z.natAbs)):=BK;have hdf:w2.frozen? ⟨w.heap.size,1,none⟩=false:=BK;have HQ2:Hid (NatV w2 (.slice a1 (nlen (z.natAbs/g)) (nlen (z.natAbs/g))) (z.natAbs/g)):=⟨a1,rfl,hq1⟩
   have HK2:Hid (BlkT 37 w2 w.heap.size):=HK0.out.bel hb2 (by omega);have HP2:Hid (Pres 232 w2 (w2.setCell ⟨w.heap.size,1,none⟩ (.slice a1 (nlen (z.natAbs/g)) (nlen (z.natAbs/g))))):=Pres.setT HK2.out (by decide) 1 _;have HD2:=LH ((HDP.out.below hb2).pres HP2.out);have HG2:=LH ((HVG.out.below hb2).pres HP2.out);clear hq1
   go_wp2_with fail
   refine(div_c HD2.out HG2.out (by omega) (by omega) hg0).mono ?_;rintro e w3 ⟨q2,r2,rfl,hq2,-,hb3⟩;have hs3:=hb3.size;simp only[World.size_setCell]at hs3;have he0:w3.cell? ⟨w.heap.size,0,none⟩=some (.bool (decide (z<0))):=BK;have he1:w3.cell? ⟨w.heap.size,1,none⟩=some (.slice a1 (nlen (z.natAbs/g)) (nlen (z.natAbs/g))):=BK;have HQ3:=LH ((HQ2.out.pres HP2.out).below hb3);have hr2:w3.cell? ⟨w.heap.size+1,0,none⟩=some (.bool false):=BK
   have hr3:w3.cell? ⟨w.heap.size+1,1,none⟩=some (.slice none 0 0):=BK;have hr4:w3.cell? ⟨w.heap.size+1,2,none⟩=some (.slice none 0 0):=BK;have hx2:w3.frozen? ⟨w.heap.size+1,0,none⟩=false:=BK;have hx3:w3.frozen? ⟨w.heap.size+1,1,none⟩=false:=BK;have hx4:w3.frozen? ⟨w.heap.size+1,2,none⟩=false:=BK;have HK3:Hid (BlkT 39 w3 (w.heap.size+1)):=((HK1.out.bel hb2 (by omega)).setCell _ _).bel hb3 (by simp;omega)
   have HB3:Hid (Bel w.heap.size w w3):=((HB1.out.next HB1.out.size hb2).setCell (by simp) _).trans (hb3.mono (by simp;omega));clear hc0 hc1 hf0 hc2 hc3 hc4 hf2 hf3 hf4 hb2 hd0 hd1 hdf hb3 HK1 HK0 HK2 HP2 HD2 HG2 HQ2 HMP HDP
   go_wp2_with fail
   refine(wholeOf_c HQ3.out).mono ?_;rintro e w4 ⟨v2,rfl,⟨m2,rfl,a2,rfl,hv2⟩,hb4⟩;rw[sgn_natAbs]at hv2|-
   go_wp2_with fail
   refine(natOf_c 1 (by decide) _).mono ?_;rintro e w5 ⟨v3,rfl,hv3,hb5⟩
   go_wp2_with fail
   refine(sub_c ((hq2.below hb4).below hb5) hv3 (Nat.le_trans (nlen_mono (Nat.div_le_self _ _)) (by omega)) hdg).mono ?_;rintro e w6 ⟨v4,rfl,⟨a4,rfl,hv4⟩,hb6⟩;have hs4:=hb4.size;have hs5:=hb5.size;have hd2:w6.cell? ⟨w.heap.size+1,0,none⟩=some (.bool false):=BK;have hd3:w6.cell? ⟨w.heap.size+1,1,none⟩=some (.slice none 0 0):=BK;have hd4:w6.cell? ⟨w.heap.size+1,2,none⟩=some (.slice none 0 0):=BK;have hy2:w6.frozen? ⟨w.heap.size+1,0,none⟩=false:=BK
   have hy3:w6.frozen? ⟨w.heap.size+1,1,none⟩=false:=BK;have hy4:w6.frozen? ⟨w.heap.size+1,2,none⟩=false:=BK;have HK6:Hid (BlkT 39 w6 (w.heap.size+1)):=((HK3.out.bel hb4 (by omega)).bel hb5 (by omega)).bel hb6 (by omega);have HB6:Hid (Bel w.heap.size w w6):=((HB3.out.next (by omega) hb4).next (by omega) hb5).next (by omega) hb6;have HV2:Hid (CellsAt 232 w6 a2 (nlen (z.natAbs/g)) (dv (z.natAbs/g))):=(hv2.pres (.below hb5.toBelow)).pres (.below hb6.toBelow)
   have HV4:=LH hv4;clear hv2 hv4 hb4 hb5 hb6 hv3 hq2
   have HSG:Hid (decide ((mkRat z d).num<0)=decide (sgn (decide (z<0)) (z.natAbs/g)<0)):=by
    show _=_
    rw[HP.out.1,HSN.out]
   go_wp2
   (try simp only[Exit.inBlock,Exit.then]);refine bodyPost_ret (v:=?_) (results_c1 rfl _ rfl ?_) rfl ?_;rotate_left;(go_simp;rfl)
   have HPS:=LH (Pres.set3 (T:=232) HK6.out (by decide) 0 1 2 (.bool (decide (sgn (decide (z<0)) (z.natAbs/g)<0))) (.slice a2 (nlen (z.natAbs/g)) (nlen (z.natAbs/g))) (.slice a4 (nlen (d/g-1)) (nlen (d/g-1))));refine⟨_,rfl,QV.mk (NatV.pres ⟨_,rfl,HV2.out⟩ HPS.out) (NatV.pres ⟨_,rfl,HV4.out⟩ HPS.out) HSG.out HP.out.2.1 ?_,?_⟩
   .rw[HP.out.2.2.1]
   .exact((HB6.out.setCell (by simp<;>omega) _).setCell (by simp<;>omega) _).setCell (by simp<;>omega) _
  .clear hcg
   go_wp2_with fail
   refine(div_c HMP.out HVG.out (by omega) (by omega) hg0).mono ?_;rintro e w2 ⟨q1,r1,rfl,⟨a1,rfl,hq1⟩,-,hb2⟩;have hs2:=hb2.size;have hd0:w2.cell? ⟨w.heap.size,0,none⟩=some (.bool (decide (z<0))):=BK;have hd1:w2.cell? ⟨w.heap.size,1,none⟩=some (.slice am (nlen z.natAbs) (nlen z.natAbs)):=BK;have hdf:w2.frozen? ⟨w.heap.size,1,none⟩=false:=BK;have HQ2:Hid (NatV w2 (.slice a1 (nlen (z.natAbs/g)) (nlen (z.natAbs/g))) (z.natAbs/g)):=⟨a1,rfl,hq1⟩
   have HK2:Hid (BlkT 37 w2 w.heap.size):=HK0.out.bel hb2 (by omega);have HP2:Hid (Pres 232 w2 (w2.setCell ⟨w.heap.size,1,none⟩ (.slice a1 (nlen (z.natAbs/g)) (nlen (z.natAbs/g))))):=Pres.setT HK2.out (by decide) 1 _;have HD2:=LH ((HDP.out.below hb2).pres HP2.out);have HG2:=LH ((HVG.out.below hb2).pres HP2.out);clear hq1
   go_wp2_with fail
   refine(div_c HD2.out HG2.out (by omega) (by omega) hg0).mono ?_;rintro e w3 ⟨q2,r2,rfl,hq2,-,hb3⟩;have hs3:=hb3.size;simp only[World.size_setCell]at hs3;have he0:w3.cell? ⟨w.heap.size,0,none⟩=some (.bool (decide (z<0))):=BK;have he1:w3.cell? ⟨w.heap.size,1,none⟩=some (.slice a1 (nlen (z.natAbs/g)) (nlen (z.natAbs/g))):=BK;have HQ3:=LH ((HQ2.out.pres HP2.out).below hb3);have hr2:w3.cell? ⟨w.heap.size+1,0,none⟩=some (.bool false):=BK
   have hr3:w3.cell? ⟨w.heap.size+1,1,none⟩=some (.slice none 0 0):=BK;have hr4:w3.cell? ⟨w.heap.size+1,2,none⟩=some (.slice none 0 0):=BK;have hx2:w3.frozen? ⟨w.heap.size+1,0,none⟩=false:=BK;have hx3:w3.frozen? ⟨w.heap.size+1,1,none⟩=false:=BK;have hx4:w3.frozen? ⟨w.heap.size+1,2,none⟩=false:=BK;have HK3:Hid (BlkT 39 w3 (w.heap.size+1)):=((HK1.out.bel hb2 (by omega)).setCell _ _).bel hb3 (by simp;omega)
   have HB3:Hid (Bel w.heap.size w w3):=((HB1.out.next HB1.out.size hb2).setCell (by simp) _).trans (hb3.mono (by simp;omega));clear hc0 hc1 hf0 hc2 hc3 hc4 hf2 hf3 hf4 hb2 hd0 hd1 hdf hb3 HK1 HK0 HK2 HP2 HD2 HG2 HQ2 HMP HDP
   go_wp2_with fail
   refine(wholeOf_c HQ3.out).mono ?_;rintro e w4 ⟨v2,rfl,⟨m2,rfl,a2,rfl,hv2⟩,hb4⟩;rw[sgn_natAbs]at hv2|-
   go_wp2_with fail
   refine(natOf_c 1 (by decide) _).mono ?_;rintro e w5 ⟨v3,rfl,hv3,hb5⟩
   go_wp2_with fail
   refine(sub_c ((hq2.below hb4).below hb5) hv3 (Nat.le_trans (nlen_mono (Nat.div_le_self _ _)) (by omega)) hdg).mono ?_;rintro e w6 ⟨v4,rfl,⟨a4,rfl,hv4⟩,hb6⟩;have hs4:=hb4.size;have hs5:=hb5.size;have hd2:w6.cell? ⟨w.heap.size+1,0,none⟩=some (.bool false):=BK;have hd3:w6.cell? ⟨w.heap.size+1,1,none⟩=some (.slice none 0 0):=BK;have hd4:w6.cell? ⟨w.heap.size+1,2,none⟩=some (.slice none 0 0):=BK;have hy2:w6.frozen? ⟨w.heap.size+1,0,none⟩=false:=BK
   have hy3:w6.frozen? ⟨w.heap.size+1,1,none⟩=false:=BK;have hy4:w6.frozen? ⟨w.heap.size+1,2,none⟩=false:=BK;have HK6:Hid (BlkT 39 w6 (w.heap.size+1)):=((HK3.out.bel hb4 (by omega)).bel hb5 (by omega)).bel hb6 (by omega);have HB6:Hid (Bel w.heap.size w w6):=((HB3.out.next (by omega) hb4).next (by omega) hb5).next (by omega) hb6;have HV2:Hid (CellsAt 232 w6 a2 (nlen (z.natAbs/g)) (dv (z.natAbs/g))):=(hv2.pres (.below hb5.toBelow)).pres (.below hb6.toBelow)
   have HV4:=LH hv4;clear hv2 hv4 hb4 hb5 hb6 hv3 hq2
   have HSG:Hid (decide ((mkRat z d).num<0)=decide (sgn (decide (z<0)) (z.natAbs/g)<0)):=by
    show _=_
    rw[HP.out.1,HSN.out]
   go_wp2
   (try simp only[Exit.inBlock,Exit.then]);refine bodyPost_ret (v:=?_) (results_c1 rfl _ rfl ?_) rfl ?_;rotate_left;(go_simp;rfl)
   have HPS:=LH (Pres.set3 (T:=232) HK6.out (by decide) 0 1 2 (.bool (decide (sgn (decide (z<0)) (z.natAbs/g)<0))) (.slice a2 (nlen (z.natAbs/g)) (nlen (z.natAbs/g))) (.slice a4 (nlen (d/g-1)) (nlen (d/g-1))));refine⟨_,rfl,QV.mk (NatV.pres ⟨_,rfl,HV2.out⟩ HPS.out) (NatV.pres ⟨_,rfl,HV4.out⟩ HPS.out) HSG.out HP.out.2.1 ?_,?_⟩
   .rw[HP.out.2.2.1]
   .exact((HB6.out.setCell (by simp<;>omega) _).setCell (by simp<;>omega) _).setCell (by simp<;>omega) _
def ratSign (q:Rat):Int:=intSign q.num
theorem QV.whole {w:World}{b:Bool}{vm vl:Value}{q:Rat}(h:QV w (.agg #[.bool b,vm,vl]) q):WV w (.agg #[.bool b,vm]) q.num/\NatV w vl (q.den-1):=by
 obtain⟨m,l,e,h1,h2⟩:=h
 injection e with e
 injection e with e
 injection e with e3 e4
 injection e4 with e5 e6
 injection e6 with e7 _
 subst e5;subst e7;injection e3 with e3;subst e3
 exact⟨⟨_,rfl,h1⟩,h2⟩
theorem sign_c {w:World}{v:Value}{q:Rat}(hv:QV w v q):
 Calls Tryz.prog 15 #[v] w fun e w'=>e=.returned (.int .i64 (ratSign q))/\Bel w.heap.size w w':=by
 obtain⟨vm,vl,rfl,hm,hl⟩:=hv;have HW:Hid (WV w (.agg #[.bool (decide (q.num<0)),vm]) q.num):=⟨_,rfl,hm⟩
 clear hm hl
 go_enter Tryz.func15,Tryz.ntmps15
 go_wp2_with fail
 refine(wsign_c (HW.out.pres (Pres.alloc _ _))).mono ?_;rintro e w1 ⟨rfl,hb⟩;go_wp2;go_ret;exact⟨rfl,Bel.new.trans (hb.mono (by simp))⟩
theorem sgn_neg (z:Int):sgn (!decide (z<0)) z.natAbs=-z:=by
 unfold sgn
 by_cases h:z<0<;>simp[h]<;>omega
theorem neg_c {w:World}{v:Value}{q:Rat}(hv:QV w v q):
 Calls Tryz.prog 149 #[v] w (Gives w fun v w'=>QV w' v (-q)):=by
 obtain⟨vm,vl,rfl,hm,hl⟩:=hv;have HM:=LH hm;have HL:=LH hl;have HZ:=LH (sgn_neg q.num);obtain⟨al,rfl,-⟩:=hl;clear hm
 go_enter Tryz.func149,Tryz.ntmps149
 go_wp2
 go_region_held3 (fun w'=>w'.cell? ⟨w.heap.size,0,none⟩=some (.bool (decide (q.num<0)))/\w'.cell? ⟨w.heap.size,1,none⟩=some (vm)/\w'.cell? ⟨w.heap.size,2,none⟩=some (.slice al (nlen (q.den-1)) (nlen (q.den-1)))/\BelS w w'/\w.heap.size+2<=w'.heap.size) (exact KPs)
  (first
   |(go_at_call 88;(try (rename _/\_=>hh;rcases hh with⟨hh0,hh1,hh2,hh3,hh4⟩));refine(wholeOf_c (HM.out.pres BSs)).mono ?_;rintro e w9 ⟨v2,rfl,hW,hb2⟩;rw[HZ.out]at hW;obtain⟨m2,rfl,a2,rfl,hv2⟩:=hW;have hs2:=hb2.size;obtain⟨hc0,hc1,hc2,hf0,hf1,hf2⟩:=row3 (w:=w9) (b:=w.heap.size+1) (x:=.bool false) (y:=.slice none 0 0) (z:=.slice none 0 0) (T:=39) RW1))
 all_goals go_wp2
 (try simp only[Exit.inBlock,Exit.then]);refine bodyPost_ret (v:=?_) (results_c1 rfl _ rfl ?_) rfl ?_;rotate_left;(go_simp;rfl)
 have hk:BlkT 39 w9 (w.heap.size+1):=BKT
 rename _/\_=>hh
 rw[Int.natAbs_neg]at hv2;exact⟨_,rfl,QV.mk (NatV.pres ⟨_,rfl,hv2⟩ (Pres.set3 hk (by decide) _ _ _ _ _ _)) ((HL.out.pres (.below hh.2.2.2.1.out.toBelow))) (decide_eq_decide.2 (by show -q.num<0 ↔ _;omega)) (by first|rfl|exact Int.natAbs_neg _) rfl,hh.2.2.2.1.out⟩
theorem sgn_abs (z:Int):sgn false z.natAbs=z.natAbs:=rfl
def ratAbs (q:Rat):Rat:=if q.num<0 then -q else q
theorem ratAbs_parts (q:Rat):decide ((ratAbs q).num<0)=false/\(ratAbs q).num.natAbs=q.num.natAbs/\(ratAbs q).den=q.den:=by
 unfold ratAbs
 by_cases h:q.num<0
 .rw[if_pos h];refine⟨decide_eq_false ?_,Int.natAbs_neg _,rfl⟩
  show¬-q.num<0
  omega
 .rw[if_neg h];exact⟨decide_eq_false h,rfl,rfl⟩
theorem abs_c {w:World}{v:Value}{q:Rat}(hv:QV w v q):
 Calls Tryz.prog 22 #[v] w (Gives w fun v w'=>QV w' v (ratAbs q)):=by
 obtain⟨vm,vl,rfl,hm,hl⟩:=hv;have HM:=LH hm;have HL:=LH hl;have HP:=LH (ratAbs_parts q);have HSL:Hid (decide (sgn false q.num.natAbs<0)=false):=by show _=_;rw[sgn_lt];rfl
 obtain⟨al,rfl,-⟩:=hl;clear hm
 go_enter Tryz.func22,Tryz.ntmps22
 go_wp2
 go_region_held3 (fun w'=>w'.cell? ⟨w.heap.size,1,none⟩=some (vm)/\w'.cell? ⟨w.heap.size,2,none⟩=some (.slice al (nlen (q.den-1)) (nlen (q.den-1)))/\BelS w w'/\w.heap.size+2<=w'.heap.size) (exact KPs)
  (first
   |(go_at_call 88;(try (rename _/\_=>hh;rcases hh with⟨hh0,hh1,hh2,hh3⟩));refine(wholeOf_c (HM.out.pres BSs)).mono ?_;rintro e w9 ⟨v2,rfl,⟨m2,rfl,a2,rfl,hv2⟩,hb2⟩;rw[sgn_natAbs]at hv2|-;rw[HSL.out];have hs2:=hb2.size;obtain⟨hc0,hc1,hc2,hf0,hf1,hf2⟩:=row3 (w:=w9) (b:=w.heap.size+1) (x:=.bool false) (y:=.slice none 0 0) (z:=.slice none 0 0) (T:=39) RW1))
 all_goals go_wp2
 (try simp only[Exit.inBlock,Exit.then]);refine bodyPost_ret (v:=?_) (results_c1 rfl _ rfl ?_) rfl ?_;rotate_left;(go_simp;rfl)
 have hk:BlkT 39 w9 (w.heap.size+1):=BKT
 rename _/\_=>hh
 exact⟨_,rfl,QV.mk (NatV.pres ⟨_,rfl,hv2⟩ (Pres.set3 hk (by decide) _ _ _ _ _ _)) (HL.out.pres (.below hh.2.2.1.out.toBelow)) HP.out.1 HP.out.2.1 (by rw[HP.out.2.2]),hh.2.2.1.out⟩
def cmpR (a b:Rat):Int:=cmpZ (a.num*b.den) (b.num*a.den)
theorem qcmp_c {w:World}{v v':Value}{a b:Rat}{L M:Nat}(ha:QV w v a)(hb:QV w v' b)(hL:QF L a)(hM:QF M b)(hs:L+M<=1000000000):
 Calls Tryz.prog 24 #[v,v'] w fun e w'=>e=.returned (.int .i64 (cmpR a b))/\Bel w.heap.size w w':=by
 have HA:=LH ha;have HB:=LH hb;have HFA:=LH hL;have HFB:=LH hM;obtain⟨ma,la,rfl,h1,h2⟩:=ha;obtain⟨mb,lb,rfl,h3,h4⟩:=hb;have HWA:Hid (WV w (.agg #[.bool (decide (a.num<0)),ma]) a.num):=⟨_,rfl,h1⟩
 have HWB:Hid (WV w (.agg #[.bool (decide (b.num<0)),mb]) b.num):=⟨_,rfl,h3⟩
 have hn1:=hL.1;have hn2:=hL.2;have hn3:=hM.1;have hn4:=hM.2
 have HN1:Hid (nlen (a.num*(b.den:Int)).natAbs<=L+M):=by
  show _<=_
  rw[Int.natAbs_mul,Int.natAbs_natCast];exact Nat.le_trans (nlen_mul _ _) (by omega)
 have HN2:Hid (nlen (b.num*(a.den:Int)).natAbs<=L+M):=by
  show _<=_
  rw[Int.natAbs_mul,Int.natAbs_natCast];exact Nat.le_trans (nlen_mul _ _) (by omega)
 clear h1 h2 h3 h4 hL hM
 go_enter Tryz.func24,Tryz.ntmps24
 go_wp2
 go_region_held3 (fun w'=>w'.cell? ⟨w.heap.size,0,none⟩=some (.bool (decide (a.num<0)))/\w'.cell? ⟨w.heap.size,1,none⟩=some (ma)/\w'.cell? ⟨w.heap.size,2,none⟩=some (la)/\w'.cell? ⟨w.heap.size+1,0,none⟩=some (.bool (decide (b.num<0)))/\w'.cell? ⟨w.heap.size+1,1,none⟩=some (mb)/\w'.cell? ⟨w.heap.size+1,2,none⟩=some (lb)/\BelS w w'/\w.heap.size+2<=w'.heap.size) (exact KPs)
  (first
   |(go_at_call_of 83 la;(try (rename _/\_=>hh;rcases hh with⟨hh0,hh1,hh2,hh3,hh4,hh5,hh6,hh7⟩));refine(den_c (HA.out.pres BSs) HFA.out (by omega)).mono ?_;rintro e w9 ⟨da,rfl,hda,hb1⟩;have hs1:=hb1.size)
   |(go_at_call_of 83 lb;(try (rename _/\_=>hh;rcases hh with⟨hh0,hh1,hh2,hh3,hh4,hh5,hh6,hh7⟩));refine(den_c (HB.out.pres BSs) HFB.out (by omega)).mono ?_;rintro e w9 ⟨db,rfl,hdb,hb2⟩;have hs2:=hb2.size)
   |(go_at_call_of 85 ma;(try (rename _/\_=>hh;rcases hh with⟨hh0,hh1,hh2,hh3,hh4,hh5,hh6,hh7⟩));refine(times_c (HWA.out.pres BSs) (hdb.pres CHs) (by omega) (by omega)).mono ?_;rintro e w9 ⟨ta,rfl,hta,hb3⟩;have hs3:=hb3.size)
   |(go_at_call_of 85 mb;(try (rename _/\_=>hh;rcases hh with⟨hh0,hh1,hh2,hh3,hh4,hh5,hh6,hh7⟩));refine(times_c (HWB.out.pres BSs) (hda.pres CHs) (by omega) (by omega)).mono ?_;rintro e w9 ⟨tb,rfl,htb,hb4⟩;have hs4:=hb4.size)
   |(go_at_call 90;(try (rename _/\_=>hh;rcases hh with⟨hh0,hh1,hh2,hh3,hh4,hh5,hh6,hh7⟩));refine(wcmp_c (hta.pres CHs) (htb.pres CHs) (Nat.le_trans HN1.out (by omega)) (Nat.le_trans HN2.out (by omega))).mono ?_;rintro e w9 ⟨rfl,hb5⟩;have hs5:=hb5.size))
 all_goals go_wp2
 all_goals go_ret
 all_goals(rename _/\_=>hh;exact⟨rfl,hh.2.2.2.2.2.2.1.out⟩)
theorem QF.add {L M:Nat}{a b:Rat}(ha:QF L a)(hb:QF M b):QF (L+M+1) (a+b):=by
 rw[Rat.add_def'];have h1:=ha.1;have h2:=ha.2;have h3:=hb.1;have h4:=hb.2;refine QF.mkRat (Nat.mul_ne_zero a.den_nz b.den_nz) ?_ ?_
 .have e:=nlen_mono (Int.natAbs_add_le (a.num*b.den) (b.num*a.den));have e1:=nlen_add (a.num*(b.den:Int)).natAbs (b.num*(a.den:Int)).natAbs;have e2:nlen (a.num*(b.den:Int)).natAbs<=L+M:=by rw[Int.natAbs_mul,Int.natAbs_natCast];exact Nat.le_trans (nlen_mul _ _) (by omega)
  have e3:nlen (b.num*(a.den:Int)).natAbs<=L+M:=by rw[Int.natAbs_mul,Int.natAbs_natCast];exact Nat.le_trans (nlen_mul _ _) (by omega)
  omega
 .have:=nlen_mul a.den b.den;omega
theorem QF.neg {L:Nat}{a:Rat}(ha:QF L a):QF L (-a):=⟨by show nlen (-a.num).natAbs<=L;rw[Int.natAbs_neg];exact ha.1,ha.2⟩
theorem QF.sub {L M:Nat}{a b:Rat}(ha:QF L a)(hb:QF M b):QF (L+M+1) (a-b):=by
 rw[Rat.sub_eq_add_neg];exact ha.add hb.neg
theorem QF.mul {L M:Nat}{a b:Rat}(ha:QF L a)(hb:QF M b):QF (L+M) (a*b):=by
 rw[Rat.mul_def'];have h1:=ha.1;have h2:=ha.2;have h3:=hb.1;have h4:=hb.2;refine QF.mkRat (Nat.mul_ne_zero a.den_nz b.den_nz) ?_ ?_
 .rw[Int.natAbs_mul];exact Nat.le_trans (nlen_mul _ _) (by omega)
 .exact Nat.le_trans (nlen_mul _ _) (by omega)
theorem QF.abs {L:Nat}{a:Rat}(ha:QF L a):QF L (ratAbs a):=by
 obtain⟨-,h1,h2⟩:=ratAbs_parts a;exact⟨by rw[h1];exact ha.1,by rw[h2];exact ha.2⟩
theorem QF.zero (L:Nat)(h:1<=L):QF L 0:=⟨by simp[nlen_zero],by rw[Rat.den_ofNat];rw[nlen_one];exact h⟩
theorem qsub_c {w:World}{v v':Value}{a b:Rat}{L M:Nat}(hadd:∀(w:World) (v v':Value) (b:Rat),QV w v a->QV w v' b->QF L a->QF M b->
 Calls Tryz.prog 21 #[v,v'] w (Gives w fun v w'=>QV w' v (a+b)))
 (ha:QV w v a) (hb:QV w v' b) (hL:QF L a) (hM:QF M b):
 Calls Tryz.prog 190 #[v,v'] w (Gives w fun v w'=>QV w' v (a-b)):=by
 have HA:=LH ha;have HB:=LH hb;have HFA:=LH hL;have HFB:=LH hM.neg;obtain⟨ma,la,rfl,-,-⟩:=ha;obtain⟨mb,lb,rfl,-,-⟩:=hb;have HADD:=LH (fun w v v'=>hadd w v v' (-b));have HE:=LH (Rat.sub_eq_add_neg a b).symm;clear hL hM hadd
 go_enter Tryz.func190,Tryz.ntmps190
 go_wp2
 go_region_held3 (fun w'=>w'.cell? ⟨w.heap.size,0,none⟩=some (.bool (decide (a.num<0)))/\w'.cell? ⟨w.heap.size,1,none⟩=some (ma)/\w'.cell? ⟨w.heap.size,2,none⟩=some (la)/\w'.cell? ⟨w.heap.size+1,0,none⟩=some (.bool (decide (b.num<0)))/\w'.cell? ⟨w.heap.size+1,1,none⟩=some (mb)/\w'.cell? ⟨w.heap.size+1,2,none⟩=some (lb)/\BelS w w'/\w.heap.size+3<=w'.heap.size) (exact KPs)
  (first
   |(go_at_call 149;(try (rename _/\_=>hh;rcases hh with⟨hh0,hh1,hh2,hh3,hh4,hh5,hh6,hh7⟩));refine(neg_c (HB.out.pres BSs)).mono ?_;rintro e w9 ⟨nb,rfl,hnb,hb1⟩;have hs1:=hb1.size)
   |(go_at_call 21;(try (rename _/\_=>hh;rcases hh with⟨hh0,hh1,hh2,hh3,hh4,hh5,hh6,hh7⟩));refine(HADD.out _ _ _ (HA.out.pres BSs) (hnb.pres CHs) HFA.out HFB.out).mono ?_;rintro e w9 ⟨vq,rfl,hQ,hb9⟩;rw[HE.out]at hQ;obtain⟨m9,l9,rfl,⟨am9,rfl,hm9⟩,⟨al9,rfl,hl9⟩⟩:=hQ;have hs9:=hb9.size;obtain⟨hc0,hc1,hc2,hf0,hf1,hf2⟩:=row3 (w:=w9) (b:=w.heap.size+1+1) (x:=.bool false) (y:=.slice none 0 0) (z:=.slice none 0 0) (T:=39) RW1))
 all_goals go_wp2
 all_goals((try simp only[Exit.inBlock,Exit.then]);refine bodyPost_ret (v:=?_) (results_c1 rfl _ rfl ?_) rfl ?_;rotate_left;(go_simp;rfl);have hk:BlkT 39 w9 (w.heap.size+1+1):=BKT;rename _/\_=>hh;have HPS:=Pres.set3 (T:=232) hk (by decide) 0 1 2;exact⟨_,rfl,QV.mk (NatV.pres ⟨_,rfl,hm9⟩ (Pres.set3 hk (by decide) _ _ _ _ _ _)) (NatV.pres ⟨_,rfl,hl9⟩ (Pres.set3 hk (by decide) _ _ _ _ _ _)) rfl rfl rfl,hh.2.2.2.2.2.2.1.out⟩)
theorem qadd_c {w:World}{v v':Value}{a b:Rat}{L M:Nat}(ha:QV w v a)(hb:QV w v' b)(hL:QF L a)(hM:QF M b)(hs:L+M<=1000000000):
 Calls Tryz.prog 21 #[v,v'] w (Gives w fun v w'=>QV w' v (a+b)):=by
 have HA:=LH ha;have HB:=LH hb;have HFA:=LH hL;have HFB:=LH hM;obtain⟨ma,la,rfl,h1,h2⟩:=ha;obtain⟨mb,lb,rfl,h3,h4⟩:=hb;have HWA:Hid (WV w (.agg #[.bool (decide (a.num<0)),ma]) a.num):=⟨_,rfl,h1⟩
 have HWB:Hid (WV w (.agg #[.bool (decide (b.num<0)),mb]) b.num):=⟨_,rfl,h3⟩
 have hn1:=hL.1;have hn2:=hL.2;have hn3:=hM.1;have hn4:=hM.2
 have HN1:Hid (nlen (a.num*(b.den:Int)).natAbs<=L+M):=by
  show _<=_
  rw[Int.natAbs_mul,Int.natAbs_natCast];exact Nat.le_trans (nlen_mul _ _) (by omega)
 have HN2:Hid (nlen (b.num*(a.den:Int)).natAbs<=L+M):=by
  show _<=_
  rw[Int.natAbs_mul,Int.natAbs_natCast];exact Nat.le_trans (nlen_mul _ _) (by omega)
 have HN3:Hid (nlen (a.num*(b.den:Int)+b.num*(a.den:Int)).natAbs<=L+M+1):=by
  show _<=_
  have e:=nlen_mono (Int.natAbs_add_le (a.num*b.den) (b.num*a.den));have e1:=nlen_add (a.num*(b.den:Int)).natAbs (b.num*(a.den:Int)).natAbs;have e2:=HN1.out;have e3:=HN2.out;omega
 have HN4:Hid (nlen (a.den*b.den)<=L+M):=Nat.le_trans (nlen_mul _ _) (by omega);have HNZ:=LH (Nat.mul_ne_zero a.den_nz b.den_nz);have HE:=LH (Rat.add_def' a b).symm;clear h1 h2 h3 h4 hL hM
 go_enter Tryz.func21,Tryz.ntmps21
 go_wp2
 go_region_held3 (fun w'=>w'.cell? ⟨w.heap.size,0,none⟩=some (.bool (decide (a.num<0)))/\w'.cell? ⟨w.heap.size,1,none⟩=some (ma)/\w'.cell? ⟨w.heap.size,2,none⟩=some (la)/\w'.cell? ⟨w.heap.size+1,0,none⟩=some (.bool (decide (b.num<0)))/\w'.cell? ⟨w.heap.size+1,1,none⟩=some (mb)/\w'.cell? ⟨w.heap.size+1,2,none⟩=some (lb)/\BelS w w'/\w.heap.size+3<=w'.heap.size) (exact KPs)
  (first|(go_at_call_of 83 la;(try (rename _/\_=>hh;rcases hh with⟨hh0,hh1,hh2,hh3,hh4,hh5,hh6,hh7⟩));refine(den_c (HA.out.pres BSs) HFA.out (by omega)).mono ?_;rintro e w9 ⟨da,rfl,hda,hb1⟩;have hs1:=hb1.size)|(go_at_call_of 83 lb;(try (rename _/\_=>hh;rcases hh with⟨hh0,hh1,hh2,hh3,hh4,hh5,hh6,hh7⟩));refine(den_c (HB.out.pres BSs) HFB.out (by omega)).mono ?_;rintro e w9 ⟨db,rfl,hdb,hb2⟩;have hs2:=hb2.size))
 all_goals go_wp2
 all_goals(rename _/\_=>hh;rcases hh with⟨g0,g1,g2,g3,g4,g5,g6,g7⟩;have hda2:NatV w9 da a.den:=hda.pres CHs;have hda3:NatV w9.drew da a.den:=hda2;have hdb2:NatV w9 db b.den:=hdb.pres CHs;have hdb3:NatV w9.drew db b.den:=hdb2;clear hda hda2 hdb hdb2)
 all_goals
  go_region_held3 (fun w'=>w'.cell? ⟨w.heap.size,0,none⟩=some (.bool (decide (a.num<0)))/\w'.cell? ⟨w.heap.size,1,none⟩=some (ma)/\w'.cell? ⟨w.heap.size,2,none⟩=some (la)/\w'.cell? ⟨w.heap.size+1,0,none⟩=some (.bool (decide (b.num<0)))/\w'.cell? ⟨w.heap.size+1,1,none⟩=some (mb)/\w'.cell? ⟨w.heap.size+1,2,none⟩=some (lb)/\BelS w w'/\w.heap.size+3<=w'.heap.size) (exact KPs)
   (first
    |(go_at_call_of 85 ma;(try (rename _/\_=>hh;rcases hh with⟨hh0,hh1,hh2,hh3,hh4,hh5,hh6,hh7⟩));refine(times_c (HWA.out.pres BSs) (hdb3.pres CHs) (by omega) (by omega)).mono ?_;rintro e w9 ⟨ta,rfl,hta,hb3⟩;have hs3:=hb3.size)
    |(go_at_call_of 85 mb;(try (rename _/\_=>hh;rcases hh with⟨hh0,hh1,hh2,hh3,hh4,hh5,hh6,hh7⟩));refine(times_c (HWB.out.pres BSs) (hda3.pres CHs) (by omega) (by omega)).mono ?_;rintro e w9 ⟨tb,rfl,htb,hb4⟩;have hs4:=hb4.size)
    |(go_at_call 86;(try (rename _/\_=>hh;rcases hh with⟨hh0,hh1,hh2,hh3,hh4,hh5,hh6,hh7⟩));refine(wadd_c (hta.pres CHs) (htb.pres CHs) (Nat.le_trans HN1.out (by omega)) (Nat.le_trans HN2.out (by omega))).mono ?_;rintro e w9 ⟨ts,rfl,hts,hb5⟩;have hs5:=hb5.size)
    |(go_at_call 87;(try (rename _/\_=>hh;rcases hh with⟨hh0,hh1,hh2,hh3,hh4,hh5,hh6,hh7⟩));refine(mul_c (hda3.pres CHs) (hdb3.pres CHs) (by omega) (by omega)).mono ?_;rintro e w9 ⟨dp,rfl,hdp,hb6⟩;have hs6:=hb6.size)
    |(go_at_call 84;(try (rename _/\_=>hh;rcases hh with⟨hh0,hh1,hh2,hh3,hh4,hh5,hh6,hh7⟩));refine(quotient_c (hts.pres CHs) (hdp.pres CHs) HNZ.out (Nat.le_trans HN3.out (by omega)) (Nat.le_trans HN4.out (by omega))).mono ?_;rintro e w9 ⟨vq,rfl,hQ,hb9⟩;rw[HE.out]at hQ;obtain⟨m9,l9,rfl,⟨am9,rfl,hm9⟩,⟨al9,rfl,hl9⟩⟩:=hQ;have hs9:=hb9.size;obtain⟨hc0,hc1,hc2,hf0,hf1,hf2⟩:=row3 (w:=w9) (b:=w.heap.size+1+1) (x:=.bool false) (y:=.slice none 0 0) (z:=.slice none 0 0) (T:=39) RW1))
 all_goals go_wp2
 all_goals((try simp only[Exit.inBlock,Exit.then]);refine bodyPost_ret (v:=?_) (results_c1 rfl _ rfl ?_) rfl ?_;rotate_left;(go_simp;rfl);have hk:BlkT 39 w9 (w.heap.size+1+1):=BKT;rename _/\_=>hh;have HPS:=Pres.set3 (T:=232) hk (by decide) 0 1 2;exact⟨_,rfl,QV.mk (NatV.pres ⟨_,rfl,hm9⟩ (Pres.set3 hk (by decide) _ _ _ _ _ _)) (NatV.pres ⟨_,rfl,hl9⟩ (Pres.set3 hk (by decide) _ _ _ _ _ _)) rfl rfl rfl,hh.2.2.2.2.2.2.1.out⟩)
theorem sgn_mul2 (a b:Int):sgn (!decide (a<0)==decide (b<0)) (a.natAbs*b.natAbs)=a*b:=by
 have ha:(a.natAbs:Int)=if a<0 then -a else a:=by split<;>omega
 have hb:(b.natAbs:Int)=if b<0 then -b else b:=by split<;>omega
 unfold Go.Proofs.YtlgjakpoaelehaaGreat.sgn;rw[Int.natCast_mul,ha,hb]
 by_cases h1:a<0<;>by_cases h2:b<0<;>simp[h1,h2]<;>grind
theorem sgn_div2 (a b:Int)(d:Nat):sgn (!decide (a<0)==decide (b<0)) (a.natAbs*d)*b=a*(d*b.natAbs):=by
 have ha:(a.natAbs:Int)=if a<0 then -a else a:=by split<;>omega
 have hb:(b.natAbs:Int)=if b<0 then -b else b:=by split<;>omega
 unfold Go.Proofs.YtlgjakpoaelehaaGreat.sgn;rw[Int.natCast_mul,ha,hb]
 by_cases h1:a<0<;>by_cases h2:b<0<;>simp[h1,h2]<;>grind
theorem over_eq (a b:Rat)(hb:b.num≠0):mkRat (sgn (!decide (a.num<0)==decide (b.num<0)) (a.num.natAbs*b.den)) (a.den*b.num.natAbs)=a/b:=by
 have hb0:b≠0:=fun e=>hb (Rat.num_eq_zero.2 e);have hn:b.num.natAbs≠0:=by omega
 have h:mkRat (sgn (!decide (a.num<0)==decide (b.num<0)) (a.num.natAbs*b.den)) (a.den*b.num.natAbs)*b=a:=by
  have h:=(Rat.mkRat_eq_iff (n₁:=sgn (!decide (a.num<0)==decide (b.num<0)) (a.num.natAbs*b.den)*b.num) (n₂:=a.num) (Nat.mul_ne_zero (Nat.mul_ne_zero a.den_nz hn) b.den_nz) a.den_nz).2 (by
   rw[sgn_div2];push_cast;ac_rfl)
  rw[<-Rat.mkRat_mul_mkRat,mkRat_self,mkRat_self]at h;exact h
 grind
theorem qsub_c' {w:World}{v v':Value}{a b:Rat}{L M:Nat}(ha:QV w v a)(hb:QV w v' b)(hL:QF L a)(hM:QF M b)(hs:L+M<=1000000000):
 Calls Tryz.prog 190 #[v,v'] w (Gives w fun v w'=>QV w' v (a-b)):=
 qsub_c (M:=M) (fun _ _ _ _ h1 h2 h3 h4=>qadd_c h1 h2 h3 h4 hs) ha hb hL hM
theorem qmul_c {w:World}{v v':Value}{a b:Rat}{L M:Nat}(ha:QV w v a)(hb:QV w v' b)(hL:QF L a)(hM:QF M b)(hs:L+M<=1000000000):
 Calls Tryz.prog 81 #[v,v'] w (Gives w fun v w'=>QV w' v (a*b)):=by
 have HA:=LH ha;have HB:=LH hb;have HFA:=LH hL;have HFB:=LH hM;obtain⟨ma,la,rfl,h1,h2⟩:=ha;obtain⟨mb,lb,rfl,h3,h4⟩:=hb;have HMA:=LH h1;have HMB:=LH h3;have hn1:=hL.1;have hn2:=hL.2;have hn3:=hM.1;have hn4:=hM.2
 have HN1:Hid (nlen (a.num*b.num).natAbs<=L+M):=by
  show _<=_
  rw[Int.natAbs_mul];exact Nat.le_trans (nlen_mul _ _) (by omega)
 have HN4:Hid (nlen (a.den*b.den)<=L+M):=Nat.le_trans (nlen_mul _ _) (by omega);have HNZ:=LH (Nat.mul_ne_zero a.den_nz b.den_nz);have HE:=LH (Rat.mul_def' a b).symm;have HS2:=LH (sgn_mul2 a.num b.num);clear h1 h2 h3 h4 hL hM
 go_enter Tryz.func81,Tryz.ntmps81
 go_wp2
 go_region_held3 (fun w'=>w'.cell? ⟨w.heap.size,0,none⟩=some (.bool (decide (a.num<0)))/\w'.cell? ⟨w.heap.size,1,none⟩=some (ma)/\w'.cell? ⟨w.heap.size,2,none⟩=some (la)/\w'.cell? ⟨w.heap.size+1,0,none⟩=some (.bool (decide (b.num<0)))/\w'.cell? ⟨w.heap.size+1,1,none⟩=some (mb)/\w'.cell? ⟨w.heap.size+1,2,none⟩=some (lb)/\BelS w w'/\w.heap.size+3<=w'.heap.size) (exact KPs)
  (first
   |(go_at_call_of 83 la;(try (rename _/\_=>hh;rcases hh with⟨hh0,hh1,hh2,hh3,hh4,hh5,hh6,hh7⟩));refine(den_c (HA.out.pres BSs) HFA.out (by omega)).mono ?_;rintro e w9 ⟨da,rfl,hda,hb1⟩;have hs1:=hb1.size)
   |(go_at_call_of 83 lb;(try (rename _/\_=>hh;rcases hh with⟨hh0,hh1,hh2,hh3,hh4,hh5,hh6,hh7⟩));refine(den_c (HB.out.pres BSs) HFB.out (by omega)).mono ?_;rintro e w9 ⟨db,rfl,hdb,hb2⟩;have hs2:=hb2.size)
   |(go_at_call_of 87 ma;(try (rename _/\_=>hh;rcases hh with⟨hh0,hh1,hh2,hh3,hh4,hh5,hh6,hh7⟩));refine(mul_c (HMA.out.pres BSs) (HMB.out.pres BSs) (by omega) (by omega)).mono ?_;rintro e w9 ⟨mp,rfl,hmp,hb6⟩;have hs6:=hb6.size)
   |(go_at_call 88;(try (rename _/\_=>hh;rcases hh with⟨hh0,hh1,hh2,hh3,hh4,hh5,hh6,hh7⟩));refine(wholeOf_c (hmp.pres CHs)).mono ?_;rintro e w9 ⟨ts,rfl,hts,hb5⟩;rw[HS2.out]at hts;have hs5:=hb5.size)
   |(go_at_call_of 87 da;(try (rename _/\_=>hh;rcases hh with⟨hh0,hh1,hh2,hh3,hh4,hh5,hh6,hh7⟩));refine(mul_c (hda.pres CHs) (hdb.pres CHs) (by omega) (by omega)).mono ?_;rintro e w9 ⟨dp,rfl,hdp,hb7⟩;have hs7:=hb7.size)
   |(go_at_call 84;(try (rename _/\_=>hh;rcases hh with⟨hh0,hh1,hh2,hh3,hh4,hh5,hh6,hh7⟩));refine(quotient_c (hts.pres CHs) (hdp.pres CHs) HNZ.out (Nat.le_trans HN1.out (by omega)) (Nat.le_trans HN4.out (by omega))).mono ?_;rintro e w9 ⟨vq,rfl,hQ,hb9⟩;rw[HE.out]at hQ;obtain⟨m9,l9,rfl,⟨am9,rfl,hm9⟩,⟨al9,rfl,hl9⟩⟩:=hQ;have hs9:=hb9.size;obtain⟨hc0,hc1,hc2,hf0,hf1,hf2⟩:=row3 (w:=w9) (b:=w.heap.size+1+1) (x:=.bool false) (y:=.slice none 0 0) (z:=.slice none 0 0) (T:=39) RW1))
 all_goals go_wp2
 all_goals((try simp only[Exit.inBlock,Exit.then]);refine bodyPost_ret (v:=?_) (results_c1 rfl _ rfl ?_) rfl ?_;rotate_left;(go_simp;rfl);have hk:BlkT 39 w9 (w.heap.size+1+1):=BKT;rename _/\_=>hh;have HPS:=Pres.set3 (T:=232) hk (by decide) 0 1 2;exact⟨_,rfl,QV.mk (NatV.pres ⟨_,rfl,hm9⟩ (Pres.set3 hk (by decide) _ _ _ _ _ _)) (NatV.pres ⟨_,rfl,hl9⟩ (Pres.set3 hk (by decide) _ _ _ _ _ _)) rfl rfl rfl,hh.2.2.2.2.2.2.1.out⟩)
theorem qover_c {w:World}{v v':Value}{a b:Rat}{L M:Nat}(ha:QV w v a)(hb:QV w v' b)(hL:QF L a)(hM:QF M b)(h0:b.num≠0)(hs:L+M<=1000000000):
 Calls Tryz.prog 115 #[v,v'] w (Gives w fun v w'=>QV w' v (a/b)):=by
 have HA:=LH ha;have HB:=LH hb;have HFA:=LH hL;have HFB:=LH hM;obtain⟨ma,la,rfl,h1,h2⟩:=ha;obtain⟨mb,lb,rfl,h3,h4⟩:=hb;have HMA:=LH h1;have HMB:=LH h3;have hn1:=hL.1;have hn2:=hL.2;have hn3:=hM.1;have hn4:=hM.2
 have HN1:Hid (nlen (a.num.natAbs*b.den)<=L+M):=by
  show _<=_
  exact Nat.le_trans (nlen_mul _ _) (by omega)
 have HN4:Hid (nlen (a.den*b.num.natAbs)<=L+M):=Nat.le_trans (nlen_mul _ _) (by omega);have HNZ:=LH (Nat.mul_ne_zero a.den_nz (show b.num.natAbs≠0 by omega));have HE:=LH (over_eq a b h0);have HS2:=LH (sgn_natAbs (!decide (a.num<0)==decide (b.num<0)) (a.num.natAbs*b.den));clear h1 h2 h3 h4 hL hM
 go_enter Tryz.func115,Tryz.ntmps115
 go_wp2
 go_region_held3 (fun w'=>w'.cell? ⟨w.heap.size,0,none⟩=some (.bool (decide (a.num<0)))/\w'.cell? ⟨w.heap.size,1,none⟩=some (ma)/\w'.cell? ⟨w.heap.size,2,none⟩=some (la)/\w'.cell? ⟨w.heap.size+1,0,none⟩=some (.bool (decide (b.num<0)))/\w'.cell? ⟨w.heap.size+1,1,none⟩=some (mb)/\w'.cell? ⟨w.heap.size+1,2,none⟩=some (lb)/\BelS w w'/\w.heap.size+3<=w'.heap.size) (exact KPs)
  (first
   |(go_at_call_of 83 la;(try (rename _/\_=>hh;rcases hh with⟨hh0,hh1,hh2,hh3,hh4,hh5,hh6,hh7⟩));refine(den_c (HA.out.pres BSs) HFA.out (by omega)).mono ?_;rintro e w9 ⟨da,rfl,hda,hb1⟩;have hs1:=hb1.size)
   |(go_at_call_of 83 lb;(try (rename _/\_=>hh;rcases hh with⟨hh0,hh1,hh2,hh3,hh4,hh5,hh6,hh7⟩));refine(den_c (HB.out.pres BSs) HFB.out (by omega)).mono ?_;rintro e w9 ⟨db,rfl,hdb,hb2⟩;have hs2:=hb2.size)
   |(go_at_call_of 87 ma;(try (rename _/\_=>hh;rcases hh with⟨hh0,hh1,hh2,hh3,hh4,hh5,hh6,hh7⟩));refine(mul_c (HMA.out.pres BSs) (hdb.pres CHs) (by omega) (by omega)).mono ?_;rintro e w9 ⟨mp,rfl,hmp,hb6⟩;have hs6:=hb6.size)
   |(go_at_call 88;(try (rename _/\_=>hh;rcases hh with⟨hh0,hh1,hh2,hh3,hh4,hh5,hh6,hh7⟩));refine(wholeOf_c (hmp.pres CHs)).mono ?_;rintro e w9 ⟨ts,rfl,hts,hb5⟩;have hs5:=hb5.size)
   |(go_at_call_of 87 mb;(try (rename _/\_=>hh;rcases hh with⟨hh0,hh1,hh2,hh3,hh4,hh5,hh6,hh7⟩));refine(mul_c (hda.pres CHs) (HMB.out.pres BSs) (by omega) (by omega)).mono ?_;rintro e w9 ⟨dp,rfl,hdp,hb7⟩;have hs7:=hb7.size)
   |(go_at_call 84;(try (rename _/\_=>hh;rcases hh with⟨hh0,hh1,hh2,hh3,hh4,hh5,hh6,hh7⟩));refine(quotient_c (hts.pres CHs) (hdp.pres CHs) HNZ.out (by rw[HS2.out];exact Nat.le_trans HN1.out (by omega)) (Nat.le_trans HN4.out (by omega))).mono ?_;rintro e w9 ⟨vq,rfl,hQ,hb9⟩;rw[HE.out]at hQ;obtain⟨m9,l9,rfl,⟨am9,rfl,hm9⟩,⟨al9,rfl,hl9⟩⟩:=hQ;have hs9:=hb9.size;obtain⟨hc0,hc1,hc2,hf0,hf1,hf2⟩:=row3 (w:=w9) (b:=w.heap.size+1+1) (x:=.bool false) (y:=.slice none 0 0) (z:=.slice none 0 0) (T:=39) RW1))
 all_goals go_wp2
 all_goals((try simp only[Exit.inBlock,Exit.then]);refine bodyPost_ret (v:=?_) (results_c1 rfl _ rfl ?_) rfl ?_;rotate_left;(go_simp;rfl);have hk:BlkT 39 w9 (w.heap.size+1+1):=BKT;rename _/\_=>hh;have HPS:=Pres.set3 (T:=232) hk (by decide) 0 1 2;exact⟨_,rfl,QV.mk (NatV.pres ⟨_,rfl,hm9⟩ (Pres.set3 hk (by decide) _ _ _ _ _ _)) (NatV.pres ⟨_,rfl,hl9⟩ (Pres.set3 hk (by decide) _ _ _ _ _ _)) rfl rfl rfl,hh.2.2.2.2.2.2.1.out⟩)
theorem u64_wrap_eq (n:Int):IntKind.u64.wrap n=n%18446744073709551616:=rfl
theorem NatV.cells' {w:World}{v:Value}{n:Nat}(h:NatV w v n):∃ao,v=.slice ao (nlen n) (nlen n):=by
 obtain⟨ao,e,-⟩:=h;exact⟨ao,e⟩
theorem of_c {w:World}{v:Value}{z:Int}(hv:WV w v z):
 Calls Tryz.prog 113 #[v] w (Gives w fun v w'=>QV w' v (z:Rat)):=by
 obtain⟨vm,rfl,ao,rfl,hc⟩:=hv;have HC:=LH hc;clear hc
 go_enter Tryz.func113,Tryz.ntmps113
 go_wp2
 (try simp only[Exit.inBlock,Exit.then]);refine bodyPost_ret (v:=?_) (results_c1 rfl _ rfl ?_) rfl ?_;rotate_left;(go_simp;rfl)
 exact⟨_,rfl,QV.mk (NatV.pres ⟨_,rfl,HC.out⟩ ((Pres.alloc _ _).trans (Pres.alloc _ _))) (NatV.nil _) rfl rfl rfl,Bel.new.alloc (by simp) _⟩
theorem magnitude_c {w:World}{n:Int}(h1:-9223372036854775808<=n)(h2:n<9223372036854775808):
 Calls Tryz.prog 114 #[.int .i64 n] w (Gives w fun v w'=>NatV w' v n.natAbs):=by
 by_cases h:n<0
 .have hb:decide (n<0)=true:=decide_eq_true h
  have e:IntKind.u64.wrap (-(IntKind.u64.wrap n))=((n.natAbs:Nat):Int):=by
   rw[u64_wrap_eq,u64_wrap_eq];omega
  go_enter Tryz.func114,Tryz.ntmps114
  go_wp2_with fail
  refine(natOf_c n.natAbs (by omega) w).mono ?_;rintro e w' ⟨v,rfl,hv,hb⟩;go_wp2;go_ret;exact⟨_,rfl,hv,hb⟩
 .have hb:decide (n<0)=false:=decide_eq_false h;have e:n=((n.natAbs:Nat):Int):=by omega
  have hlt:n.natAbs<9223372036854775808:=by omega
  obtain⟨m,hm⟩:∃m,m=n.natAbs:=⟨_,rfl⟩
  rw[<-hm]at e hlt|-;subst e;clear hm
  go_enter Tryz.func114,Tryz.ntmps114
  go_wp2_with fail
  refine(natOf_c m (by omega) w).mono ?_;rintro e w' ⟨v,rfl,hv,hb⟩;go_wp2;go_ret;exact⟨_,rfl,hv,hb⟩
theorem sgn_int' (n:Int):sgn (decide (n<0)) n.natAbs=n:=sgn_int n
theorem Int_c {w:World}{n:Int}(h1:-9223372036854775808<=n)(h2:n<9223372036854775808):
 Calls Tryz.prog 48 #[.int .i64 n] w (Gives w fun v w'=>QV w' v (n:Rat)):=by
 have HZ:=LH (sgn_int n);have H1:=LH h1;have H2:=LH h2;clear h1 h2
 go_enter Tryz.func48,Tryz.ntmps48
 go_wp2_with fail
 refine(magnitude_c H1.out H2.out).mono ?_;rintro e w1 ⟨v1,rfl,hv1,hb1⟩;have hs1:=hb1.size
 go_wp2_with fail
 refine(wholeOf_c hv1).mono ?_;rintro e w2 ⟨v2,rfl,hv2,hb2⟩;rw[HZ.out]at hv2;have hs2:=hb2.size
 go_wp2_with fail
 refine(of_c hv2).mono ?_;rintro e w9 ⟨v3,rfl,⟨m9,l9,rfl,⟨am9,rfl,hm9⟩,⟨al9,rfl,hl9⟩⟩,hb9⟩;have hs9:=hb9.size;simp only[World.size_alloc]at hs1;obtain⟨hc0,hc1,hc2,hf0,hf1,hf2⟩:=row3 (w:=w9) (b:=w.heap.size) (x:=.bool false) (y:=.slice none 0 0) (z:=.slice none 0 0) (T:=39) RW1;have hk:BlkT 39 w9 w.heap.size:=((BlkT.new _ w _ _ rfl).bel hb1 (by simp)).bel hb2 (by omega)|>.bel hb9 (by omega);have HB:Bel w.heap.size w w9:=((Bel.new.trans (hb1.mono (by simp))).trans (hb2.mono (by omega))).trans (hb9.mono (by omega))
 go_wp2
 (try simp only[Exit.inBlock,Exit.then]);refine bodyPost_ret (v:=?_) (results_c1 rfl _ rfl ?_) rfl ?_;rotate_left;(go_simp;rfl)
 exact⟨_,rfl,QV.mk (NatV.pres ⟨_,rfl,hm9⟩ (Pres.set3 hk (by decide) _ _ _ _ _ _)) (NatV.pres ⟨_,rfl,hl9⟩ (Pres.set3 hk (by decide) _ _ _ _ _ _)) rfl rfl rfl,((HB.setCell (by simp) _).setCell (by simp) _).setCell (by simp) _⟩
theorem natAbs_lt64 {n:Int}(h1:-9223372036854775808<=n)(h2:n<9223372036854775808):nlen n.natAbs<=2:=(nlen_le_iff _ 2).2 (by show _<4294967296^2;omega)
theorem of_eq (n d:Int)(h0:d≠0):mkRat (sgn (!decide (n<0)==decide (d<0)) n.natAbs) d.natAbs=(n:Rat)/(d:Rat):=by
 have h:=over_eq (n:Rat) (d:Rat) h0;rw[<-h]
 show _=mkRat (sgn (!decide (n<0)==decide (d<0)) (n.natAbs*1)) (1*d.natAbs)
 rw[Nat.mul_one,Nat.one_mul]
theorem Of_c {w:World}{n d:Int}(h1:-9223372036854775808<=n)(h2:n<9223372036854775808)(h3:-9223372036854775808<=d)(h4:d<9223372036854775808)(h0:d≠0):
 Calls Tryz.prog 80 #[.int .i64 n,.int .i64 d] w fun e w'=>∃v,e=.returned (.tuple #[v,.int .i64 0])/\QV w' v ((n:Rat)/(d:Rat))/\Bel w.heap.size w w':=by
 have HE:=LH (of_eq n d h0);have l1:=natAbs_lt64 h1 h2;have l2:=natAbs_lt64 h3 h4;have HS2:=LH (sgn_natAbs (!decide (n<0)==decide (d<0)) n.natAbs);have hdz:decide (d=0)=false:=decide_eq_false h0;have H0:Hid (d.natAbs≠0):=by show _≠_;omega
 have H1:=LH h1;have H2:=LH h2;have H3:=LH h3;have H4:=LH h4;clear h1 h2 h3 h4
 go_enter Tryz.func80,Tryz.ntmps80
 go_wp2_with fail
 refine(magnitude_c H1.out H2.out).mono ?_;rintro e w1 ⟨v1,rfl,hv1,hb1⟩;have hs1:=hb1.size
 go_wp2_with fail
 refine(wholeOf_c hv1).mono ?_;rintro e w2 ⟨v2,rfl,hv2,hb2⟩;have hs2:=hb2.size
 go_wp2_with fail
 refine(magnitude_c H3.out H4.out).mono ?_;rintro e w3 ⟨v3,rfl,hv3,hb3⟩;have hs3:=hb3.size
 go_wp2_with fail
 refine(quotient_c (hv2.below hb3) hv3 H0.out (by rw[HS2.out];omega) (by omega)).mono ?_;rintro e w9 ⟨vq,rfl,hQ,hb9⟩;rw[HE.out]at hQ;obtain⟨m9,l9,rfl,⟨am9,rfl,hm9⟩,⟨al9,rfl,hl9⟩⟩:=hQ;have hs9:=hb9.size;simp only[World.size_alloc]at hs1;obtain⟨hc0,hc1,hc2,hf0,hf1,hf2⟩:=row3 (w:=w9) (b:=w.heap.size) (x:=.bool false) (y:=.slice none 0 0) (z:=.slice none 0 0) (T:=39) RW1;have hk:BlkT 39 w9 w.heap.size:=((((BlkT.new _ w _ _ rfl).bel hb1 (by simp)).bel hb2 (by omega)).bel hb3 (by omega)).bel hb9 (by omega)
 have HB:Bel w.heap.size w w9:=(((Bel.new.trans (hb1.mono (by simp))).trans (hb2.mono (by omega))).trans (hb3.mono (by omega))).trans (hb9.mono (by omega));go_wp2
 (try simp only[Exit.inBlock,Exit.then]);refine bodyPost_ret (results_ct rfl _ rfl (v:=?_) ?_) rfl ?_;rotate_left;(go_simp;rfl)
 exact⟨_,rfl,QV.mk (NatV.pres ⟨_,rfl,hm9⟩ (Pres.set3 hk (by decide) _ _ _ _ _ _)) (NatV.pres ⟨_,rfl,hl9⟩ (Pres.set3 hk (by decide) _ _ _ _ _ _)) rfl rfl rfl,((HB.setCell (by simp) _).setCell (by simp) _).setCell (by simp) _⟩
theorem ratSign_zero (b:Rat):ratSign b=0 ↔ b=0:=by
 unfold ratSign intSign;rw[<-Rat.num_eq_zero];split
 .constructor
  .intro h;omega
  .intro h;omega
 .split
  .simp[*]
  .constructor
   .intro h;omega
   .intro h;contradiction
theorem QF.div {L M:Nat}{a b:Rat}(ha:QF L a)(hb:QF M b)(h0:b.num≠0):QF (L+M) (a/b):=by
 rw[<-over_eq a b h0];have h1:=ha.1;have h2:=ha.2;have h3:=hb.1;have h4:=hb.2;refine QF.mkRat (Nat.mul_ne_zero a.den_nz (by omega)) ?_ ?_
 .rw[sgn_natAbs];exact Nat.le_trans (nlen_mul _ _) (by omega)
 .exact Nat.le_trans (nlen_mul _ _) (by omega)
theorem Div_c {w:World}{v v':Value}{a b:Rat}{L M:Nat}(ha:QV w v a)(hb:QV w v' b)(hL:QF L a)(hM:QF M b)(h0:b.num≠0)(hs:L+M<=1000000000):
 Calls Tryz.prog 49 #[v,v'] w fun e w'=>∃v,e=.returned (.tuple #[v,.int .i64 0])/\QV w' v (a/b)/\Bel w.heap.size w w':=by
 have HA:=LH ha;have HB:=LH hb;have HFA:=LH hL;have HFB:=LH hM;have hz:decide (ratSign b=0)=false:=decide_eq_false (fun e=>h0 (by rw[(ratSign_zero b).1 e];rfl));obtain⟨ma,la,rfl,-,-⟩:=ha;obtain⟨mb,lb,rfl,-,-⟩:=hb;have HPS:Hid (Pres 232 w (((w.alloc (.cells #[.bool (decide (a.num<0)),ma,la] 39)).alloc (.cells #[.bool (decide (b.num<0)),mb,lb] 39)).alloc (.cells #[.bool false,.slice none 0 0,.slice none 0 0] 39))):=((Pres.alloc _ _).trans (Pres.alloc _ _)).trans (Pres.alloc _ _)
 clear hL hM
 go_enter Tryz.func49,Tryz.ntmps49
 go_wp2_with fail
 refine(sign_c (HB.out.pres HPS.out)).mono ?_;rintro e w1 ⟨rfl,hb1⟩
 obtain⟨sg,hsg,hsc⟩:∃x,ratSign b=x/\(x=-1\/x=1):=by
  refine⟨_,rfl,?_⟩;unfold ratSign intSign;rw[if_neg h0];split
  .exact Or.inl rfl
  .exact Or.inr rfl
 rw[hsg];clear hsg hz;rcases hsc with rfl|rfl
 all_goals(
  have hs1:=hb1.size;simp only[World.size_alloc]at hs1;obtain⟨ga0,ga1,ga2,-,-,-⟩:=row3 (w:=w1) (b:=w.heap.size) (x:=.bool (decide (a.num<0))) (y:=ma) (z:=la) (T:=39) RW1;obtain⟨gb0,gb1,gb2,-,-,-⟩:=row3 (w:=w1) (b:=w.heap.size+1) (x:=.bool (decide (b.num<0))) (y:=mb) (z:=lb) (T:=39) RW1;have hrow:w1.heap[w.heap.size+1+1]?=some (.cells #[.bool false,.slice none 0 0,.slice none 0 0] 39):=RW1;have HPP:Hid (Pres 232 w w1):=HPS.out.trans hb1.pb
  have HB1:Hid (Bel w.heap.size w w1):=((Bel.new.alloc (by simp) _).alloc (by simp;omega) _).trans (hb1.mono (by simp;omega));clear hb1
  go_wp2_with fail
  refine(qover_c (HA.out.pres HPP.out) (HB.out.pres HPP.out) HFA.out HFB.out h0 hs).mono ?_;rintro e w9 ⟨vq,rfl,hQ,hb9⟩;obtain⟨m9,l9,rfl,⟨am9,rfl,hm9⟩,⟨al9,rfl,hl9⟩⟩:=hQ;have hs9:=hb9.size;obtain⟨hc0,hc1,hc2,hf0,hf1,hf2⟩:=row3 (w:=w9) (b:=w.heap.size+1+1) (x:=.bool false) (y:=.slice none 0 0) (z:=.slice none 0 0) (T:=39) RW1;have hk:BlkT 39 w9 (w.heap.size+1+1):=BlkT.bel ⟨_,_,hrow⟩ hb9 (by omega);have HB9:Bel w.heap.size w w9:=HB1.out.trans (hb9.mono (by omega))
  go_wp2
  (try simp only[Exit.inBlock,Exit.then]);refine bodyPost_ret (results_ct rfl _ rfl (v:=?_) ?_) rfl ?_;rotate_left;(go_simp;rfl)
  exact⟨_,rfl,QV.mk (NatV.pres ⟨_,rfl,hm9⟩ (Pres.set3 hk (by decide) _ _ _ _ _ _)) (NatV.pres ⟨_,rfl,hl9⟩ (Pres.set3 hk (by decide) _ _ _ _ _ _)) rfl rfl rfl,((HB9.setCell (by simp;omega) _).setCell (by simp;omega) _).setCell (by simp;omega) _⟩)
end Go.Proofs.YtlgjakpoaelehaaGreat
namespace Go.Proofs.YtlgjakpoaelehaaGreat.D4
open Go.RowKit
set_option maxRecDepth 100000
set_option maxHeartbeats 8000000
def QB (w:World)(B:Nat)(q:Rat):Prop:=∃x am m al l,w.heap[B]?=some (.cells #[.bool x,.slice am m m,.slice al l l] 39)/\QV w (.agg #[.bool x,.slice am m m,.slice al l l]) q
theorem QB.keep {w w':World}{B:Nat}{q:Rat}(h:QB w B q)(hb:w'.heap[B]?=w.heap[B]?)(hp:Pres 232 w w'):QB w' B q:=by
 obtain⟨x,am,m,al,l,h1,h2⟩:=h;exact⟨x,am,m,al,l,hb.trans h1,h2.pres hp⟩
theorem QB.lt {w:World}{B:Nat}{q:Rat}(h:QB w B q):B<w.heap.size:=by obtain⟨x,am,m,al,l,h1,h2⟩:=h;exact BlkT.lt ⟨_,_,h1⟩
theorem QB.bel {w w':World}{B:Nat}{q:Rat}(h:QB w B q)(hb:Bel w.heap.size w w'):QB w' B q:=h.keep (hb.block _ h.lt) hb.pb
theorem QB.blk {w:World}{B:Nat}{q:Rat}(h:QB w B q):BlkT 39 w B:=by obtain⟨x,am,m,al,l,h1,h2⟩:=h;exact⟨_,_,h1⟩
theorem QF.of {n d:Int}(h1:-9223372036854775808<=n)(h2:n<9223372036854775808)(h3:-9223372036854775808<=d)(h4:d<9223372036854775808)(h0:d≠0):QF 2 ((n:Rat)/(d:Rat)):=by
 rw[<-of_eq n d h0];exact QF.mkRat (by omega) (by rw[sgn_natAbs];exact natAbs_lt64 h1 h2) (natAbs_lt64 h3 h4)
end Go.Proofs.YtlgjakpoaelehaaGreat.D4
namespace Go.Proofs.YtlgjakpoaelehaaGreat
open Go.RowKit
set_option maxRecDepth 100000
set_option maxHeartbeats 8000000
structure SHs (w W0:World) (N:Nat) (w':World):Prop where
 low:w.heap.size<=N
 high:N<=W0.heap.size
 base:Bel w.heap.size w w'
 near:Bel N W0 w'
theorem SHs.start {w W0:World}{N:Nat}(h1:w.heap.size<=N)(h2:N<=W0.heap.size)(h:Bel w.heap.size w W0):SHs w W0 N W0:=⟨h1,h2,h,Bel.refl _ _⟩
theorem SHs.call {w W0 w' w9:World}{N:Nat}(h:SHs w W0 N w')(hb:Bel w'.heap.size w' w9):SHs w W0 N w9:=
 ⟨h.low,h.high,h.base.next h.base.size hb,h.near.next (Nat.le_trans h.high h.near.size) hb⟩
theorem SHs.drew {w W0 w':World}{N:Nat}(h:SHs w W0 N w'):SHs w W0 N w'.drew:=⟨h.low,h.high,h.base.drew,h.near.drew⟩
theorem SHs.drewN {w W0 w':World}{N:Nat}(h:SHs w W0 N w')(n:Nat):SHs w W0 N (w'.drewN n):=⟨h.low,h.high,h.base.drewN n,h.near.drewN n⟩
theorem SHs.alloc {w W0 w':World}{N:Nat}(h:SHs w W0 N w')(o:Obj):SHs w W0 N (w'.alloc o):=⟨h.low,h.high,h.base.alloc h.base.size _,h.near.alloc (Nat.le_trans h.high h.near.size) _⟩
theorem SHs.setCell {w W0 w':World}{N:Nat}(h:SHs w W0 N w'){p:Addr}(hp:N<=p.block)(u:Value):SHs w W0 N (w'.setCell p u):=
 ⟨h.low,h.high,h.base.setCell (Nat.le_trans h.low hp) _,h.near.setCell hp _⟩
theorem SHs.hold {w W0 w':World}{N:Nat}(h:SHs w W0 N w'):(∀(b o:Nat),b<N->w'.cell? ⟨b,o,none⟩=W0.cell? ⟨b,o,none⟩)/\SHs w W0 N w':=
 ⟨fun _ _ hb=>h.near.cell hb,h⟩
theorem name_world {P:Program}{c:Code}{Q:Exit->Act->World->Prop}{a:Act}{w:World}(h:∀W0,W0=w->c.wp P Q a W0):c.wp P Q a w:=h w rfl
theorem at_world {W0 w:World}(h:W0=w){b:Nat}{o:Obj}(hb:w.heap[b]?=some o):W0.heap[b]?=some o:=by rw[h];exact hb
theorem post_box {P:Program}{fn:Func}{Qp:Ending->World->Prop}{a:Act}{w:World}{p:Tmp}{ty:TypeId}{b:Nat}{v:Value}(hr:fn.results=#[.cell p ty])(hp:a.tmps.getD p undef=.pointer (some ⟨b,0,none⟩))(hd:a.defers=[])
 (hl:(loadVar ty ⟨b,0,none⟩).run P w=.ok v w) (h:Qp (.returned v) w):bodyPost P fn Qp Exit.ret a w:=
 bodyPost_ret (results_c1 hr _ hp hl) hd h
theorem K2s {p:Prop}(h:p:=by(((try dsimp only);(try (rename _/\_=>hh;rcases hh with⟨hSc,hSb⟩));refine SHs.hold ?_;(repeat first|with_reducible assumption|refine SHs.call ?_ (by with_reducible assumption)|with_reducible refine SHs.alloc ?_ _|refine SHs.setCell ?_ (by(try dsimp only);first|omega|(simp;done)|(simp;omega)) _|with_reducible refine SHs.drew ?_|with_reducible refine SHs.drewN ?_ _);done))):p:=h
theorem CH2s {p:Prop}(h:p:=by(repeat first|with_reducible exact Pres.refl _ _|(refine Pres.trans ?_ (Pres.below (Bel.toBelow (by with_reducible assumption))))|with_reducible refine Pres.trans ?_ (Pres.alloc _ _)|with_reducible refine Pres.trans ?_ (Pres.drew _));done):p:=h
theorem RW2 {p:Prop}(h:p:=by repeat first|with_reducible assumption|exact heap_new _ _ (by simp)|with_reducible refine(heap_drew _ _).trans ?_|refine(heap_old _ _ (by(try dsimp only);first|omega|(simp;done)|(simp;omega))).trans ?_|refine(Below.block (Bel.toBelow (by with_reducible assumption)) _ (by(try dsimp only);first|omega|(simp;done)|(simp;omega))).trans ?_):p:=h
theorem B2s {T:TypeId}{w W0 w':World}{N:Nat}(h:SHs w W0 N w':=by with_reducible assumption):Pres T w w':=Pres.below (SHs.base h).toBelow
def QS (w:World)(ao:Option Addr)(n:Nat)(q:Nat->Rat):Prop:=
 ∃f:Nat->Value,CellsAt 39 w ao (n*3) f/\∀i,i<n->QV w (.agg #[f (i*3),f (i*3+1),f (i*3+2)]) (q i)
def sumQ (q:Nat->Rat):Nat->Rat
 |0=>0
 |n+1=>sumQ q n+q n
theorem Max1_c {w:World}{v v':Value}{a b:Rat}{L M:Nat}(ha:QV w v a)(hb:QV w v' b)(hL:QF L a)(hM:QF M b)(hs:L+M<=1000000000):
 Calls Tryz.prog 192 #[v,v'] w fun e w'=>e=.returned (.bool (decide (0<cmpR a b)))/\Bel w.heap.size w w':=by
 have HA:=LH ha;have HB:=LH hb;have HFA:=LH hL;have HFB:=LH hM;obtain⟨ma,la,rfl,-,-⟩:=ha;obtain⟨mb,lb,rfl,-,-⟩:=hb;have HPS:Hid (Pres 232 w ((w.alloc (.cells #[.bool (decide (a.num<0)),ma,la] 39)).alloc (.cells #[.bool (decide (b.num<0)),mb,lb] 39))):=(Pres.alloc _ _).trans (Pres.alloc _ _);clear hL hM
 go_enter Tryz.func192,Tryz.ntmps192
 go_wp2_with fail
 refine(qcmp_c (HA.out.pres HPS.out) (HB.out.pres HPS.out) HFA.out HFB.out hs).mono ?_;rintro e w1 ⟨rfl,hb1⟩;go_wp2;go_ret;exact⟨rfl,(Bel.new.alloc (by simp) _).trans (hb1.mono (by simp;omega))⟩
theorem Min1_c {w:World}{v v':Value}{a b:Rat}{L M:Nat}(ha:QV w v a)(hb:QV w v' b)(hL:QF L a)(hM:QF M b)(hs:L+M<=1000000000):
 Calls Tryz.prog 205 #[v,v'] w fun e w'=>e=.returned (.bool (decide (cmpR a b<0)))/\Bel w.heap.size w w':=by
 have HA:=LH ha;have HB:=LH hb;have HFA:=LH hL;have HFB:=LH hM;obtain⟨ma,la,rfl,-,-⟩:=ha;obtain⟨mb,lb,rfl,-,-⟩:=hb;have HPS:Hid (Pres 232 w ((w.alloc (.cells #[.bool (decide (a.num<0)),ma,la] 39)).alloc (.cells #[.bool (decide (b.num<0)),mb,lb] 39))):=(Pres.alloc _ _).trans (Pres.alloc _ _);clear hL hM
 go_enter Tryz.func205,Tryz.ntmps205
 go_wp2_with fail
 refine(qcmp_c (HA.out.pres HPS.out) (HB.out.pres HPS.out) HFA.out HFB.out hs).mono ?_;rintro e w1 ⟨rfl,hb1⟩;go_wp2;go_ret;exact⟨rfl,(Bel.new.alloc (by simp) _).trans (hb1.mono (by simp;omega))⟩
theorem QV.cells {w:World}{v:Value}{q:Rat}(h:QV w v q):∃(b:Bool) (am:Option Addr) (m:Nat) (al:Option Addr) (l:Nat),v=.agg #[.bool b,.slice am m m,.slice al l l]:=by
 obtain⟨vm,vl,e,⟨am,e1,_⟩,⟨al,e2,_⟩⟩:=h;exact⟨_,am,_,al,_,by rw[e,e1,e2]⟩
theorem QS.at {w:World}{ao:Option Addr}{n:Nat}{q:Nat->Rat}(h:QS w ao n q){i:Nat}(hi:i<n):
 ∃b o x am m al l,ao=some ⟨b,o,none⟩/\b<w.heap.size/\w.cell? ⟨b,o+i*3,none⟩=some (.bool x)/\w.cell? ⟨b,o+i*3+1,none⟩=some (.slice am m m)/\w.cell? ⟨b,o+i*3+2,none⟩=some (.slice al l l)/\
  QV w (.agg #[.bool x,.slice am m m,.slice al l l]) (q i):=by
 obtain⟨f,hc,hq⟩:=h;have hv:=hq i hi;obtain⟨x,am,m,al,l,e⟩:=hv.cells;obtain⟨b,o,rfl,hb,hcell⟩:=hc.open (by omega);have e':=e
 injection e' with e'
 injection e' with e'
 injection e' with e0 e'
 injection e' with e1 e'
 injection e' with e2 _
 rw[e]at hv;exact⟨b,o,x,am,m,al,l,rfl,hb,e0▸hcell (i*3) (by omega),e1▸hcell (i*3+1) (by omega),e2▸hcell (i*3+2) (by omega),hv⟩
theorem set3_heap {w:World}{b:Nat}{x y z x' y' z':Value}{T:TypeId}(h:w.heap[b]?=some (.cells #[x,y,z] T)):
 (((w.setCell ⟨b,0,none⟩ x').setCell ⟨b,1,none⟩ y').setCell ⟨b,2,none⟩ z').heap[b]?=some (.cells #[x',y',z'] T):=by
 simp[World.setCell,Array.getElem?_modify,h]
theorem QF.sum {q:Nat->Rat}{L n:Nat}(h:∀i,i<n->QF L (q i)):∀i,i<=n->QF (i*(L+1)+1) (sumQ q i)
 |0,_=>by rw[Nat.zero_mul];exact QF.zero _ (by omega)
 |i+1,hi=>((QF.sum h i (by omega)).add (h i (by omega))).mono (by rw[Nat.succ_mul];omega)
def SumIn (w wr:World)(q:Nat->Rat)(i:Nat):Prop:=
 ∃x am m al l,wr.heap[w.heap.size+1]?=some (.cells #[.bool x,.slice am m m,.slice al l l] 39)/\QV wr (.agg #[.bool x,.slice am m m,.slice al l l]) (sumQ q i)/\
  wr.heap[w.heap.size]?=some (.cells #[.bool false,.slice none 0 0,.slice none 0 0] 39)/\Bel w.heap.size w wr
theorem Sum_c {w:World}{ao:Option Addr}{n c:Nat}{q:Nat->Rat}{L:Nat}(hq:QS w ao n q)(hL:∀i,i<n->QF L (q i))(hn:n<=1000000)(hs:(n+1)*(L+1)<=1000000000):
 Calls Tryz.prog 150 #[.slice ao n c] w (Gives w fun v w'=>QV w' v (sumQ q n)):=by
 have HC:=LH hq;have HL:=LH hL;clear hq hL
 go_enter Tryz.func150,Tryz.ntmps150
 go_wp2
 have HS:Hid (SumIn w ((w.alloc (.cells #[.bool false,.slice none 0 0,.slice none 0 0] 39)).alloc (.cells #[.bool false,.slice none 0 0,.slice none 0 0] 39)) q 0):=
  ⟨_,_,_,_,_,heap_new _ _ (by simp),QV.zero _,(heap_old _ _ (by simp)).trans (heap_new _ _ rfl),Bel.new.alloc (by simp) _⟩
 go_loopw [8] (fun i wr=>∃j:Nat,j<=n/\i=.int .i64 j/\SumIn w wr q j) (fun i _=>n-(intOf i).toNat)
 case atStart=>exact⟨0,by omega,rfl,HS.out⟩
 case round=>
  clear HS;obtain⟨j,hj,rfl,x,am,m,al,l,h1,h2,h3,h4⟩:=hrel
  by_cases hlt:j<n
  .obtain⟨b,o,y,bm,u,bl,v,rfl,hb,c0,c1,c2,hv⟩:=HC.out.at hlt;have g0:=(h4.cell (p:=⟨b,o+j*3,none⟩) hb).trans c0;have g1:=(h4.cell (p:=⟨b,o+j*3+1,none⟩) hb).trans c1;have g2:=(h4.cell (p:=⟨b,o+j*3+2,none⟩) hb).trans c2;have HQW:=LH (hv.pres h4.pb);have HFJ:=LH (HL.out j hlt);have HFS:=LH (QF.sum HL.out j hj)
   have HNS:Hid (j*(L+1)+1+L<=1000000000):=by
    have:=Nat.mul_le_mul_right (L+1) (show j+1<=n by omega)
    show _<=_
    rw[Nat.succ_mul]at this hs;omega
   have HH1:=LH h1;have HH2:=LH h2;have HH3:=LH h3;have HH4:=LH h4;obtain⟨k0,k1,k2,y0,y1,y2⟩:=row3 h1;have hsz:=(BlkT.lt ⟨_,_,h1⟩:w.heap.size+1<wr.heap.size)
   clear c0 c1 c2 hv h1 h2 h3 h4
   go_wp2_with fail
   refine(qadd_c (HH2.out.pres (Pres.alloc _ _)) (HQW.out.pres (Pres.alloc _ _)) HFS.out HFJ.out HNS.out).mono ?_;rintro e w1 ⟨r,rfl,hr,hb1⟩;obtain⟨rx,rm,rn,rl,rk,rfl⟩:=hr.cells;have hbb:Bel wr.heap.size wr w1:=Bel.new.trans (hb1.mono (by simp))
   have HSI:Hid (SumIn w (((w1.setCell ⟨w.heap.size+1,0,none⟩ (.bool rx)).setCell ⟨w.heap.size+1,1,none⟩ (.slice rm rn rn)).setCell ⟨w.heap.size+1,2,none⟩ (.slice rl rk rk)) q (j+1)):=by
    have hblk:w1.heap[w.heap.size+1]?=some (.cells #[.bool x,.slice am m m,.slice al l l] 39):=(hbb.block _ hsz).trans HH1.out;refine⟨_,_,_,_,_,set3_heap hblk,hr.pres (Pres.set3 ⟨_,_,hblk⟩ (by decide) _ _ _ _ _ _),?_,?_⟩
    .rw[Below.heap_setCell _ _ _ _ (by simp),Below.heap_setCell _ _ _ _ (by simp),Below.heap_setCell _ _ _ _ (by simp)];exact(hbb.block _ (by omega)).trans HH3.out
    .exact(((HH4.out.trans (hbb.mono (by omega))).setCell (by simp) _).setCell (by simp) _).setCell (by simp) _
   have j0:=(hbb.cell (p:=⟨w.heap.size+1,0,none⟩) hsz).trans k0;have j1:=(hbb.cell (p:=⟨w.heap.size+1,1,none⟩) hsz).trans k1;have j2:=(hbb.cell (p:=⟨w.heap.size+1,2,none⟩) hsz).trans k2;have z0:=(hbb.frozen (p:=⟨w.heap.size+1,0,none⟩) hsz).trans y0;have z1:=(hbb.frozen (p:=⟨w.heap.size+1,1,none⟩) hsz).trans y1;have z2:=(hbb.frozen (p:=⟨w.heap.size+1,2,none⟩) hsz).trans y2;clear hr hb1 hbb k0 k1 k2 y0 y1 y2
   go_wp2
   go_roundw
   case rel=>exact⟨j+1,by omega,by go_num,HSI.out⟩
   case measure=>simp[intOf];omega
  .obtain rfl:j=n:=by omega
   have HH2:=LH h2;have HH3:=LH h3;have HH4:=LH h4;obtain⟨k0,k1,k2,-,-,-⟩:=row3 h1;obtain⟨r0,r1,r2,y0,y1,y2⟩:=row3 h3;have hsz:=(BlkT.lt ⟨_,_,h1⟩:w.heap.size+1<wr.heap.size)
   clear h1 h2 h3 h4;go_wp2
   (try simp only[Exit.inBlock,Exit.then]);refine bodyPost_ret (v:=?_) (results_c1 rfl _ rfl ?_) rfl ?_;rotate_left;(go_simp;rfl)
   exact⟨_,rfl,HH2.out.pres (Pres.set3 ⟨_,_,HH3.out⟩ (by decide) _ _ _ _ _ _),((HH4.out.setCell (by simp) _).setCell (by simp) _).setCell (by simp) _⟩
theorem row6 {w:World}{b:Nat}{v0 v1 v2 v3 v4 v5:Value}{T:TypeId}(h:w.heap[b]?=some (.cells #[v0,v1,v2,v3,v4,v5] T)):
 w.cell? ⟨b,0,none⟩=some v0/\w.cell? ⟨b,1,none⟩=some v1/\w.cell? ⟨b,2,none⟩=some v2/\w.cell? ⟨b,3,none⟩=some v3/\w.cell? ⟨b,4,none⟩=some v4/\w.cell? ⟨b,5,none⟩=some v5/\w.frozen? ⟨b,0,none⟩=false/\w.frozen? ⟨b,1,none⟩=false/\w.frozen? ⟨b,2,none⟩=false/\w.frozen? ⟨b,3,none⟩=false/\w.frozen? ⟨b,4,none⟩=false/\w.frozen? ⟨b,5,none⟩=false:=by
 refine⟨?_,?_,?_,?_,?_,?_,?_,?_,?_,?_,?_,?_⟩<;>simp[World.cell?,World.frozen?,h]
theorem Pres.set6 {T T':TypeId}{w:World}{b:Nat}(h:BlkT T' w b)(hT:T≠T')(a0 a1 a2 a3 a4 a5:Value):Pres T w ((((((w.setCell ⟨b,0,none⟩ a0).setCell ⟨b,1,none⟩ a1).setCell ⟨b,2,none⟩ a2).setCell ⟨b,3,none⟩ a3).setCell ⟨b,4,none⟩ a4).setCell ⟨b,5,none⟩ a5):=
 (Pres.set3 h hT 0 1 2 a0 a1 a2).trans (Pres.set3 (((h.setCell _ _).setCell _ _).setCell _ _) hT 3 4 5 a3 a4 a5)
def PV (w:World)(v:Value)(x z:Rat):Prop:=∃m1 l1 m2 l2,v=.agg #[.bool (decide (x.num<0)),m1,l1,.bool (decide (z.num<0)),m2,l2]/\
 QV w (.agg #[.bool (decide (x.num<0)),m1,l1]) x/\QV w (.agg #[.bool (decide (z.num<0)),m2,l2]) z
theorem PV.pres {w w':World}{v:Value}{x z:Rat}(h:PV w v x z)(hp:Pres 232 w w'):PV w' v x z:=by
 obtain⟨m1,l1,m2,l2,e,h1,h2⟩:=h;exact⟨m1,l1,m2,l2,e,h1.pres hp,h2.pres hp⟩
theorem PV.mk {w:World}{x z:Rat}{b1 b2:Bool}{m1 l1 m2 l2:Value}(h1:QV w (.agg #[.bool b1,m1,l1]) x)(h2:QV w (.agg #[.bool b2,m2,l2]) z):PV w (.agg #[.bool b1,m1,l1,.bool b2,m2,l2]) x z:=by
 obtain⟨_,_,e,_,_⟩:=id h1
 injection e with e
 injection e with e
 injection e with e3 e4
 obtain⟨_,_,e',_,_⟩:=id h2
 injection e' with e'
 injection e' with e'
 injection e' with e3' e4'
 rw[e3]at h1;rw[e3']at h2;rw[e3,e3'];exact⟨m1,l1,m2,l2,rfl,h1,h2⟩
theorem set6_heap {w:World}{b:Nat}{x0 x1 x2 x3 x4 x5 a0 a1 a2 a3 a4 a5:Value}{T:TypeId}(h:w.heap[b]?=some (.cells #[x0,x1,x2,x3,x4,x5] T)):
 ((((((w.setCell ⟨b,0,none⟩ a0).setCell ⟨b,1,none⟩ a1).setCell ⟨b,2,none⟩ a2).setCell ⟨b,3,none⟩ a3).setCell ⟨b,4,none⟩ a4).setCell ⟨b,5,none⟩ a5).heap[b]?=some (.cells #[a0,a1,a2,a3,a4,a5] T):=by
 simp[World.setCell,Array.getElem?_modify,h]
theorem loadPt {w:World}{b:Nat}{T:TypeId}{a0 a1 a2 a3 a4 a5:Value}(h:w.heap[b]?=some (.cells #[a0,a1,a2,a3,a4,a5] T)):(loadVar 95 ⟨b,0,none⟩).run Tryz.prog w=.ok (.agg #[a0,a1,a2,a3,a4,a5]) w:=by
 obtain⟨c0,c1,c2,c3,c4,c5,-,-,-,-,-,-⟩:=row6 h;clear h;go_simp
theorem psub_c {w:World}{v v':Value}{xa za xb zb:Rat}{L M:Nat}(ha:PV w v xa za)(hb:PV w v' xb zb)(hXA:QF L xa)(hZA:QF L za)(hXB:QF M xb)(hZB:QF M zb)(hs:L+M<=1000000000):
 Calls Tryz.prog 148 #[v,v'] w (Gives w fun v w'=>PV w' v (xa-xb) (za-zb)):=by
 have HXA:=LH hXA;have HZA:=LH hZA;have HXB:=LH hXB;have HZB:=LH hZB;obtain⟨mxa,lxa,mza,lza,rfl,h1,h2⟩:=ha;have H1:=LH h1;have H2:=LH h2;obtain⟨mxb,lxb,mzb,lzb,rfl,h3,h4⟩:=hb;have H3:=LH h3;have H4:=LH h4;clear h1 h2 h3 h4 hXA hZA hXB hZB
 go_enter Tryz.func148,Tryz.ntmps148
 go_wp2;refine name_world ?_;intro W0 hW0;obtain⟨a0,a1,a2,a3,a4,a5,-,-,-,-,-,-⟩:=row6 (at_world hW0 (b:=w.heap.size) ((heap_old _ _ (by simp;omega)).trans ((heap_old _ _ (by simp)).trans (heap_new _ _ rfl))));obtain⟨b0,b1,b2,b3,b4,b5,-,-,-,-,-,-⟩:=row6 (at_world hW0 (b:=w.heap.size+1) ((heap_old _ _ (by simp)).trans (heap_new _ _ (by simp))));have hR0:=at_world hW0 (b:=w.heap.size+1+1) (heap_new _ _ (by simp))
 have hsz:w.heap.size+1+1<W0.heap.size:=by rw[hW0];simp
 have hst:SHs w W0 (w.heap.size+1+1) W0:=SHs.start (by omega) (by omega) (by rw[hW0];exact(Bel.new.alloc (by simp) _).alloc (by simp;omega) _);clear hW0
 go_region_held3 (fun w'=>(∀(b o:Nat),b<w.heap.size+1+1->w'.cell? ⟨b,o,none⟩=W0.cell? ⟨b,o,none⟩)/\SHs w W0 (w.heap.size+1+1) w') (exact K2s)
  (first
   |(go_at_call_of 190 mxa;(try (rename _/\_=>hh;rcases hh with⟨hSc,hSb⟩));refine(qsub_c' (H1.out.pres B2s) (H3.out.pres B2s) HXA.out HXB.out hs).mono ?_;rintro e w9 ⟨vq1,rfl,hQ1,hb1⟩;obtain⟨b1,am1,nm1,al1,nl1,rfl⟩:=QV.cells hQ1;have hs1:=hb1.size;have hz1:=(hSb.call hb1).near.size;have hrow:w9.heap[w.heap.size+1+1]?=some (.cells #[.bool false,.slice none 0 0,.slice none 0 0,.bool false,.slice none 0 0,.slice none 0 0] 95):=RW2;obtain⟨hc0,hc1,hc2,hc3,hc4,hc5,hf0,hf1,hf2,hf3,hf4,hf5⟩:=row6 hrow)
   |(go_at_call_of 190 mza;(try (rename _/\_=>hh;rcases hh with⟨hSc,hSb⟩));refine(qsub_c' (H2.out.pres B2s) (H4.out.pres B2s) HZA.out HZB.out hs).mono ?_;rintro e w9 ⟨vq2,rfl,hQ2,hb2⟩;obtain⟨b2,am2,nm2,al2,nl2,rfl⟩:=QV.cells hQ2;have hs2:=hb2.size;have hz2:=(hSb.call hb2).near.size;have hrow:w9.heap[w.heap.size+1+1]?=some (.cells #[.bool false,.slice none 0 0,.slice none 0 0,.bool false,.slice none 0 0,.slice none 0 0] 95):=RW2;obtain⟨hc0,hc1,hc2,hc3,hc4,hc5,hf0,hf1,hf2,hf3,hf4,hf5⟩:=row6 hrow))
 all_goals go_wp2
 all_goals((try (rename _/\_=>hh;rcases hh with⟨hSc,hSb⟩));have hq1:=QV.pres (w':=w9) hQ1 CH2s;have hq2:=QV.pres (w':=w9) hQ2 CH2s;refine post_box rfl rfl rfl (loadPt (set6_heap hrow)) ⟨_,rfl,PV.mk (QV.pres hq1 (Pres.set6 ⟨_,_,hrow⟩ (by decide) _ _ _ _ _ _)) (QV.pres hq2 (Pres.set6 ⟨_,_,hrow⟩ (by decide) _ _ _ _ _ _)),hSb.base⟩)
theorem padd_c {w:World}{v v':Value}{xa za xb zb:Rat}{L M:Nat}(ha:PV w v xa za)(hb:PV w v' xb zb)(hXA:QF L xa)(hZA:QF L za)(hXB:QF M xb)(hZB:QF M zb)(hs:L+M<=1000000000):
 Calls Tryz.prog 116 #[v,v'] w (Gives w fun v w'=>PV w' v (xa+xb) (za+zb)):=by
 have HXA:=LH hXA;have HZA:=LH hZA;have HXB:=LH hXB;have HZB:=LH hZB;obtain⟨mxa,lxa,mza,lza,rfl,h1,h2⟩:=ha;have H1:=LH h1;have H2:=LH h2;obtain⟨mxb,lxb,mzb,lzb,rfl,h3,h4⟩:=hb;have H3:=LH h3;have H4:=LH h4;clear h1 h2 h3 h4 hXA hZA hXB hZB
 go_enter Tryz.func116,Tryz.ntmps116
 go_wp2;refine name_world ?_;intro W0 hW0;obtain⟨a0,a1,a2,a3,a4,a5,-,-,-,-,-,-⟩:=row6 (at_world hW0 (b:=w.heap.size) ((heap_old _ _ (by simp;omega)).trans ((heap_old _ _ (by simp)).trans (heap_new _ _ rfl))));obtain⟨b0,b1,b2,b3,b4,b5,-,-,-,-,-,-⟩:=row6 (at_world hW0 (b:=w.heap.size+1) ((heap_old _ _ (by simp)).trans (heap_new _ _ (by simp))));have hR0:=at_world hW0 (b:=w.heap.size+1+1) (heap_new _ _ (by simp))
 have hsz:w.heap.size+1+1<W0.heap.size:=by rw[hW0];simp
 have hst:SHs w W0 (w.heap.size+1+1) W0:=SHs.start (by omega) (by omega) (by rw[hW0];exact(Bel.new.alloc (by simp) _).alloc (by simp;omega) _);clear hW0
 go_region_held3 (fun w'=>(∀(b o:Nat),b<w.heap.size+1+1->w'.cell? ⟨b,o,none⟩=W0.cell? ⟨b,o,none⟩)/\SHs w W0 (w.heap.size+1+1) w') (exact K2s)
  (first
   |(go_at_call_of 21 mxa;(try (rename _/\_=>hh;rcases hh with⟨hSc,hSb⟩));refine(qadd_c (H1.out.pres B2s) (H3.out.pres B2s) HXA.out HXB.out hs).mono ?_;rintro e w9 ⟨vq1,rfl,hQ1,hb1⟩;obtain⟨b1,am1,nm1,al1,nl1,rfl⟩:=QV.cells hQ1;have hs1:=hb1.size;have hz1:=(hSb.call hb1).near.size;have hrow:w9.heap[w.heap.size+1+1]?=some (.cells #[.bool false,.slice none 0 0,.slice none 0 0,.bool false,.slice none 0 0,.slice none 0 0] 95):=RW2;obtain⟨hc0,hc1,hc2,hc3,hc4,hc5,hf0,hf1,hf2,hf3,hf4,hf5⟩:=row6 hrow)
   |(go_at_call_of 21 mza;(try (rename _/\_=>hh;rcases hh with⟨hSc,hSb⟩));refine(qadd_c (H2.out.pres B2s) (H4.out.pres B2s) HZA.out HZB.out hs).mono ?_;rintro e w9 ⟨vq2,rfl,hQ2,hb2⟩;obtain⟨b2,am2,nm2,al2,nl2,rfl⟩:=QV.cells hQ2;have hs2:=hb2.size;have hz2:=(hSb.call hb2).near.size;have hrow:w9.heap[w.heap.size+1+1]?=some (.cells #[.bool false,.slice none 0 0,.slice none 0 0,.bool false,.slice none 0 0,.slice none 0 0] 95):=RW2;obtain⟨hc0,hc1,hc2,hc3,hc4,hc5,hf0,hf1,hf2,hf3,hf4,hf5⟩:=row6 hrow))
 all_goals go_wp2
 all_goals((try (rename _/\_=>hh;rcases hh with⟨hSc,hSb⟩));have hq1:=QV.pres (w':=w9) hQ1 CH2s;have hq2:=QV.pres (w':=w9) hQ2 CH2s;refine post_box rfl rfl rfl (loadPt (set6_heap hrow)) ⟨_,rfl,PV.mk (QV.pres hq1 (Pres.set6 ⟨_,_,hrow⟩ (by decide) _ _ _ _ _ _)) (QV.pres hq2 (Pres.set6 ⟨_,_,hrow⟩ (by decide) _ _ _ _ _ _)),hSb.base⟩)
theorem pscale_c {w:World}{v v':Value}{xa za k:Rat}{L M:Nat}(ha:PV w v xa za)(hb:QV w v' k)(hXA:QF L xa)(hZA:QF L za)(hXB:QF M k)(hs:L+M<=1000000000):
 Calls Tryz.prog 117 #[v,v'] w (Gives w fun v w'=>PV w' v (xa*k) (za*k)):=by
 have HXA:=LH hXA;have HZA:=LH hZA;have HXB:=LH hXB;obtain⟨mxa,lxa,mza,lza,rfl,h1,h2⟩:=ha;have H1:=LH h1;have H2:=LH h2;have H3:=LH hb;obtain⟨mk,lk,rfl,-,-⟩:=hb;clear h1 h2 hXA hZA hXB
 go_enter Tryz.func117,Tryz.ntmps117
 go_wp2;refine name_world ?_;intro W0 hW0;obtain⟨a0,a1,a2,a3,a4,a5,-,-,-,-,-,-⟩:=row6 (at_world hW0 (b:=w.heap.size) ((heap_old _ _ (by simp;omega)).trans ((heap_old _ _ (by simp)).trans (heap_new _ _ rfl))));obtain⟨b0,b1,b2,-,-,-⟩:=row3 (at_world hW0 (b:=w.heap.size+1) ((heap_old _ _ (by simp)).trans (heap_new _ _ (by simp))));have hR0:=at_world hW0 (b:=w.heap.size+1+1) (heap_new _ _ (by simp));have hsz:w.heap.size+1+1<W0.heap.size:=by rw[hW0];simp
 have hst:SHs w W0 (w.heap.size+1+1) W0:=SHs.start (by omega) (by omega) (by rw[hW0];exact(Bel.new.alloc (by simp) _).alloc (by simp;omega) _);clear hW0
 go_region_held3 (fun w'=>(∀(b o:Nat),b<w.heap.size+1+1->w'.cell? ⟨b,o,none⟩=W0.cell? ⟨b,o,none⟩)/\SHs w W0 (w.heap.size+1+1) w') (exact K2s)
  (first
   |(go_at_call_of 81 mxa;(try (rename _/\_=>hh;rcases hh with⟨hSc,hSb⟩));refine(qmul_c (H1.out.pres B2s) (H3.out.pres B2s) HXA.out HXB.out hs).mono ?_;rintro e w9 ⟨vq1,rfl,hQ1,hb1⟩;obtain⟨b1,am1,nm1,al1,nl1,rfl⟩:=QV.cells hQ1;have hs1:=hb1.size;have hz1:=(hSb.call hb1).near.size;have hrow:w9.heap[w.heap.size+1+1]?=some (.cells #[.bool false,.slice none 0 0,.slice none 0 0,.bool false,.slice none 0 0,.slice none 0 0] 95):=RW2;obtain⟨hc0,hc1,hc2,hc3,hc4,hc5,hf0,hf1,hf2,hf3,hf4,hf5⟩:=row6 hrow)
   |(go_at_call_of 81 mza;(try (rename _/\_=>hh;rcases hh with⟨hSc,hSb⟩));refine(qmul_c (H2.out.pres B2s) (H3.out.pres B2s) HZA.out HXB.out hs).mono ?_;rintro e w9 ⟨vq2,rfl,hQ2,hb2⟩;obtain⟨b2,am2,nm2,al2,nl2,rfl⟩:=QV.cells hQ2;have hs2:=hb2.size;have hz2:=(hSb.call hb2).near.size;have hrow:w9.heap[w.heap.size+1+1]?=some (.cells #[.bool false,.slice none 0 0,.slice none 0 0,.bool false,.slice none 0 0,.slice none 0 0] 95):=RW2;obtain⟨hc0,hc1,hc2,hc3,hc4,hc5,hf0,hf1,hf2,hf3,hf4,hf5⟩:=row6 hrow))
 all_goals go_wp2
 all_goals((try (rename _/\_=>hh;rcases hh with⟨hSc,hSb⟩));have hq1:=QV.pres (w':=w9) hQ1 CH2s;have hq2:=QV.pres (w':=w9) hQ2 CH2s;refine post_box rfl rfl rfl (loadPt (set6_heap hrow)) ⟨_,rfl,PV.mk (QV.pres hq1 (Pres.set6 ⟨_,_,hrow⟩ (by decide) _ _ _ _ _ _)) (QV.pres hq2 (Pres.set6 ⟨_,_,hrow⟩ (by decide) _ _ _ _ _ _)),hSb.base⟩)
def apartB (xa za xb zb:Rat):Bool:=(cmpR xa xb !=0)||(cmpR za zb !=0)
theorem apart_c {w:World}{v v':Value}{xa za xb zb:Rat}{L M:Nat}(ha:PV w v xa za)(hb:PV w v' xb zb)(hXA:QF L xa)(hZA:QF L za)(hXB:QF M xb)(hZB:QF M zb)(hs:L+M<=1000000000):
 Calls Tryz.prog 89 #[v,v'] w fun e w'=>e=.returned (.bool (apartB xa za xb zb))/\Bel w.heap.size w w':=by
 have HXA:=LH hXA;have HZA:=LH hZA;have HXB:=LH hXB;have HZB:=LH hZB;obtain⟨mxa,lxa,mza,lza,rfl,h1,h2⟩:=ha;have H1:=LH h1;have H2:=LH h2;obtain⟨mxb,lxb,mzb,lzb,rfl,h3,h4⟩:=hb;have H3:=LH h3;have H4:=LH h4;clear h1 h2 h3 h4 hXA hZA hXB hZB
 go_enter Tryz.func89,Tryz.ntmps89
 go_wp2_with fail
 refine(qcmp_c (H1.out.pres ((Pres.alloc _ _).trans (Pres.alloc _ _))) (H3.out.pres ((Pres.alloc _ _).trans (Pres.alloc _ _))) HXA.out HXB.out hs).mono ?_;rintro e w1 ⟨rfl,hb1⟩;obtain⟨a0,a1,a2,a3,a4,a5,-,-,-,-,-,-⟩:=row6 ((hb1.block w.heap.size (by simp;omega)).trans ((heap_old _ _ (by simp)).trans (heap_new _ _ rfl)));obtain⟨b0,b1,b2,b3,b4,b5,-,-,-,-,-,-⟩:=row6 ((hb1.block (w.heap.size+1) (by simp)).trans (heap_new _ _ (by simp)))
 have HB1:Hid (Bel w.heap.size w w1):=(Bel.new.alloc (by simp) _).trans (hb1.mono (by simp;omega));have HP1:Hid (Pres 232 w w1):=((Pres.alloc _ _).trans (Pres.alloc _ _)).trans hb1.pb;clear hb1
 by_cases hc:cmpR xa xb=0
 .have hb:(cmpR xa xb !=0)=false:=by simpa using hc
  have HR:Hid (apartB xa za xb zb=(cmpR za zb !=0)):=by show _=_;unfold apartB;rw[hb];rfl
  generalize cmpR xa xb=c1 at hb|-;clear hc
  go_wp2_with fail
  refine(qcmp_c (H2.out.pres HP1.out) (H4.out.pres HP1.out) HZA.out HZB.out hs).mono ?_;rintro e w2 ⟨rfl,hb2⟩;generalize cmpR za zb=c2 at HR|-;go_wp2;go_ret;exact⟨by rw[HR.out];rfl,HB1.out.trans (hb2.mono HB1.out.size)⟩
 .have hb:(cmpR xa xb !=0)=true:=by simpa using hc
  have HR:Hid (apartB xa za xb zb=true):=by show _=_;unfold apartB;rw[hb];rfl
  generalize cmpR xa xb=c1 at hb|-;clear hc;go_wp2;go_ret;exact⟨by rw[HR.out];rfl,HB1.out⟩
def pk (f:Rat->Rat->Bool)(q:Nat->Rat):Nat->Rat
 |0=>0
 |n+1=>if n=0 then q 0 else if f (q n) (pk f q n) then q n else pk f q n
theorem QF.pk {f:Rat->Rat->Bool}{q:Nat->Rat}{L n:Nat}(h:∀i,i<n->QF L (q i))(h0:1<=L):∀i,i<=n->QF L (pk f q i)
 |0,_=>QF.zero _ h0
 |i+1,hi=>by
  rw[Go.Proofs.YtlgjakpoaelehaaGreat.pk];split
  .exact h 0 (by omega)
  .split
   .exact h i (by omega)
   .exact QF.pk h h0 i (by omega)
def BeatsC (K:Nat)(f:Rat->Rat->Bool)(L:Nat):Prop:=∀(w:World) (v v':Value) (a b:Rat),QV w v a->QV w v' b->QF L a->QF L b->
 Calls Tryz.prog K #[v,v'] w fun e w'=>e=.returned (.bool (f a b))/\Bel w.heap.size w w'
def PickIn (w wr:World)(q:Rat):Prop:=
 ∃x am m al l,wr.heap[w.heap.size+1]?=some (.cells #[.bool x,.slice am m m,.slice al l l] 39)/\QV wr (.agg #[.bool x,.slice am m m,.slice al l l]) q/\
  wr.heap[w.heap.size]?=some (.cells #[.bool false,.slice none 0 0,.slice none 0 0] 39)/\Bel w.heap.size w wr
theorem PickIn.bel {w wr w':World}{q:Rat}(h:PickIn w wr q)(hb:Bel wr.heap.size wr w'):PickIn w w' q:=by
 obtain⟨x,am,m,al,l,h1,h2,h3,h4⟩:=h;have hsz:=(BlkT.lt ⟨_,_,h1⟩:w.heap.size+1<wr.heap.size)
 exact⟨x,am,m,al,l,(hb.block _ hsz).trans h1,h2.pres hb.pb,(hb.block _ (by omega)).trans h3,h4.trans (hb.mono (by omega))⟩
theorem PickIn.set {w wr:World}{q r:Rat}(h:PickIn w wr q){rx:Bool}{rm:Option Addr}{rn:Nat}{rl:Option Addr}{rk:Nat}(hr:QV wr (.agg #[.bool rx,.slice rm rn rn,.slice rl rk rk]) r):
 PickIn w (((wr.setCell ⟨w.heap.size+1,0,none⟩ (.bool rx)).setCell ⟨w.heap.size+1,1,none⟩ (.slice rm rn rn)).setCell ⟨w.heap.size+1,2,none⟩ (.slice rl rk rk)) r:=by
 obtain⟨x,am,m,al,l,h1,h2,h3,h4⟩:=h;refine⟨_,_,_,_,_,set3_heap h1,hr.pres (Pres.set3 ⟨_,_,h1⟩ (by decide) _ _ _ _ _ _),?_,?_⟩
 .rw[Below.heap_setCell _ _ _ _ (by simp),Below.heap_setCell _ _ _ _ (by simp),Below.heap_setCell _ _ _ _ (by simp)];exact h3
 .exact((h4.setCell (by simp) _).setCell (by simp) _).setCell (by simp) _
theorem PickIn.open {w wr:World}{q:Rat}(h:PickIn w wr q):∃x am m al l,
 QV wr (.agg #[.bool x,.slice am m m,.slice al l l]) q/\wr.cell? ⟨w.heap.size+1,0,none⟩=some (.bool x)/\wr.cell? ⟨w.heap.size+1,1,none⟩=some (.slice am m m)/\wr.cell? ⟨w.heap.size+1,2,none⟩=some (.slice al l l)/\
 wr.frozen? ⟨w.heap.size+1,0,none⟩=false/\wr.frozen? ⟨w.heap.size+1,1,none⟩=false/\wr.frozen? ⟨w.heap.size+1,2,none⟩=false/\w.heap.size+1<wr.heap.size:=by
 obtain⟨x,am,m,al,l,h1,h2,h3,h4⟩:=h;obtain⟨k0,k1,k2,y0,y1,y2⟩:=row3 h1;exact⟨x,am,m,al,l,h2,k0,k1,k2,y0,y1,y2,BlkT.lt ⟨_,_,h1⟩⟩
theorem PickIn.res {w wr:World}{q:Rat}(h:PickIn w wr q):
 wr.cell? ⟨w.heap.size,0,none⟩=some (.bool false)/\wr.cell? ⟨w.heap.size,1,none⟩=some (.slice none 0 0)/\wr.cell? ⟨w.heap.size,2,none⟩=some (.slice none 0 0)/\
 wr.frozen? ⟨w.heap.size,0,none⟩=false/\wr.frozen? ⟨w.heap.size,1,none⟩=false/\wr.frozen? ⟨w.heap.size,2,none⟩=false:=by
 obtain⟨x,am,m,al,l,h1,h2,h3,h4⟩:=h;exact row3 h3
theorem PickIn.fin {w wr:World}{q:Rat}(h:PickIn w wr q){x:Bool}{am:Option Addr}{m:Nat}{al:Option Addr}{l:Nat}(hv:QV wr (.agg #[.bool x,.slice am m m,.slice al l l]) q):
 QV (((wr.setCell ⟨w.heap.size,0,none⟩ (.bool x)).setCell ⟨w.heap.size,1,none⟩ (.slice am m m)).setCell ⟨w.heap.size,2,none⟩ (.slice al l l)) (.agg #[.bool x,.slice am m m,.slice al l l]) q/\
 Bel w.heap.size w (((wr.setCell ⟨w.heap.size,0,none⟩ (.bool x)).setCell ⟨w.heap.size,1,none⟩ (.slice am m m)).setCell ⟨w.heap.size,2,none⟩ (.slice al l l)):=by
 obtain⟨_,_,_,_,_,h1,h2,h3,h4⟩:=h;exact⟨hv.pres (Pres.set3 ⟨_,_,h3⟩ (by decide) _ _ _ _ _ _),((h4.setCell (by simp) _).setCell (by simp) _).setCell (by simp) _⟩
theorem pickMax_c {f:Rat->Rat->Bool}{L:Nat}(hk:BeatsC 192 f L){w:World}{ao:Option Addr}{n c:Nat}{q:Nat->Rat}(hq:QS w ao n q)(hL:∀i,i<n->QF L (q i))(h0:1<=L)(hn:n<=1000000):
 Calls Tryz.prog 191 #[.func (.func 192) #[] #[],.slice ao n c] w (Gives w fun v w'=>QV w' v (pk f q n)):=by
 have HC:=LH hq;have HL:=LH hL;have HK:=LH hk;clear hq hL hk
 go_enter Tryz.func191,Tryz.ntmps191
 go_wp2
 have HS:Hid (PickIn w ((w.alloc (.cells #[.bool false,.slice none 0 0,.slice none 0 0] 39)).alloc (.cells #[.bool false,.slice none 0 0,.slice none 0 0] 39)) (pk f q 0)):=
  ⟨_,_,_,_,_,heap_new _ _ (by simp),QV.zero _,(heap_old _ _ (by simp)).trans (heap_new _ _ rfl),Bel.new.alloc (by simp) _⟩
 go_loopw [10] (fun i wr=>∃j:Nat,j<=n/\i=.int .i64 j/\PickIn w wr (pk f q j)) (fun i _=>n-(intOf i).toNat)
 case atStart=>exact⟨0,by omega,rfl,HS.out⟩
 case round=>
  clear HS;obtain⟨j,hj,rfl,h⟩:=hrel;obtain⟨x,am,m,al,l,h2,k0,k1,k2,y0,y1,y2,hsz⟩:=h.open
  by_cases hlt:j<n
  .obtain⟨b,o,y,bm,u,bl,v,rfl,hb,c0,c1,c2,hv⟩:=HC.out.at hlt;have h4:Bel w.heap.size w wr:=by obtain⟨_,_,_,_,_,_,_,_,h4⟩:=h;exact h4
   have g0:=(h4.cell (p:=⟨b,o+j*3,none⟩) hb).trans c0;have g1:=(h4.cell (p:=⟨b,o+j*3+1,none⟩) hb).trans c1;have g2:=(h4.cell (p:=⟨b,o+j*3+2,none⟩) hb).trans c2;have HQW:=LH (hv.pres h4.pb);have HFJ:=LH (HL.out j hlt);have HFS:=LH (QF.pk (f:=f) HL.out h0 j hj);have HH:=LH h;have HH2:=LH h2;clear c0 c1 c2 hv h h2 h4
   by_cases hz:j=0
   .have HP:Hid (pk f q (j+1)=q j):=by subst hz;rfl
    have hz2:((j:Int)==0)=true:=by simp;omega
    clear hz
    go_wp2_with fail
    go_roundw
    case rel=>exact⟨j+1,by omega,by go_num,by rw[HP.out];exact(HH.out.set HQW.out).bel Bel.new⟩
    case measure=>simp[intOf];omega
   .have HP:Hid (pk f q (j+1)=if f (q j) (pk f q j) then q j else pk f q j):=if_neg hz;have hz2:((j:Int)==0)=false:=by simp;omega
    clear hz
    go_wp2_with fail
    refine(HK.out _ _ _ _ _ (HQW.out.pres (Pres.alloc _ _)) (HH2.out.pres (Pres.alloc _ _)) HFJ.out HFS.out).mono ?_;rintro e w1 ⟨rfl,hb1⟩;have hbb:Bel wr.heap.size wr w1:=Bel.new.trans (hb1.mono (by simp));obtain⟨j0,j1⟩:=bcell hbb;obtain⟨n0,n1,n2,-,-,-⟩:=row3 ((hb1.block wr.heap.size (by simp)).trans (heap_new _ _ rfl));have hs1:=hb1.size
    cases hf:f (q j) (pk f q j)with
    |false=>
     have HR:Hid (PickIn w w1 (pk f q (j+1))):=by rw[hf]at HP;rw[HP.out];exact HH.out.bel hbb
     clear hf HP
     go_wp2_with fail
     go_roundw
     case rel=>exact⟨j+1,by omega,by go_num,HR.out⟩
     case measure=>simp[intOf];omega
    |true=>
     have HR:Hid (pk f q (j+1)=q j):=by rw[hf]at HP;exact HP.out
     clear hf HP
     go_wp2_with fail
     go_roundw
     case rel=>exact⟨j+1,by omega,by go_num,by rw[HR.out];exact(HH.out.bel hbb).set (HQW.out.pres hbb.pb)⟩
     case measure=>simp[intOf];omega
  .obtain rfl:j=n:=by omega
   obtain⟨r0,r1,r2,s0,s1,s2⟩:=h.res;have HF:=LH (h.fin h2);clear h h2;go_wp2
   (try simp only[Exit.inBlock,Exit.then]);refine bodyPost_ret (v:=?_) (results_c1 rfl _ rfl ?_) rfl ?_;rotate_left;(go_simp;rfl)
   exact⟨_,rfl,HF.out.1,HF.out.2⟩
theorem pickMin_c {f:Rat->Rat->Bool}{L:Nat}(hk:BeatsC 205 f L){w:World}{ao:Option Addr}{n c:Nat}{q:Nat->Rat}(hq:QS w ao n q)(hL:∀i,i<n->QF L (q i))(h0:1<=L)(hn:n<=1000000):
 Calls Tryz.prog 191 #[.func (.func 205) #[] #[],.slice ao n c] w (Gives w fun v w'=>QV w' v (pk f q n)):=by
 have HC:=LH hq;have HL:=LH hL;have HK:=LH hk;clear hq hL hk
 go_enter Tryz.func191,Tryz.ntmps191
 go_wp2
 have HS:Hid (PickIn w ((w.alloc (.cells #[.bool false,.slice none 0 0,.slice none 0 0] 39)).alloc (.cells #[.bool false,.slice none 0 0,.slice none 0 0] 39)) (pk f q 0)):=
  ⟨_,_,_,_,_,heap_new _ _ (by simp),QV.zero _,(heap_old _ _ (by simp)).trans (heap_new _ _ rfl),Bel.new.alloc (by simp) _⟩
 go_loopw [10] (fun i wr=>∃j:Nat,j<=n/\i=.int .i64 j/\PickIn w wr (pk f q j)) (fun i _=>n-(intOf i).toNat)
 case atStart=>exact⟨0,by omega,rfl,HS.out⟩
 case round=>
  clear HS;obtain⟨j,hj,rfl,h⟩:=hrel;obtain⟨x,am,m,al,l,h2,k0,k1,k2,y0,y1,y2,hsz⟩:=h.open
  by_cases hlt:j<n
  .obtain⟨b,o,y,bm,u,bl,v,rfl,hb,c0,c1,c2,hv⟩:=HC.out.at hlt;have h4:Bel w.heap.size w wr:=by obtain⟨_,_,_,_,_,_,_,_,h4⟩:=h;exact h4
   have g0:=(h4.cell (p:=⟨b,o+j*3,none⟩) hb).trans c0;have g1:=(h4.cell (p:=⟨b,o+j*3+1,none⟩) hb).trans c1;have g2:=(h4.cell (p:=⟨b,o+j*3+2,none⟩) hb).trans c2;have HQW:=LH (hv.pres h4.pb);have HFJ:=LH (HL.out j hlt);have HFS:=LH (QF.pk (f:=f) HL.out h0 j hj);have HH:=LH h;have HH2:=LH h2;clear c0 c1 c2 hv h h2 h4
   by_cases hz:j=0
   .have HP:Hid (pk f q (j+1)=q j):=by subst hz;rfl
    have hz2:((j:Int)==0)=true:=by simp;omega
    clear hz
    go_wp2_with fail
    go_roundw
    case rel=>exact⟨j+1,by omega,by go_num,by rw[HP.out];exact(HH.out.set HQW.out).bel Bel.new⟩
    case measure=>simp[intOf];omega
   .have HP:Hid (pk f q (j+1)=if f (q j) (pk f q j) then q j else pk f q j):=if_neg hz;have hz2:((j:Int)==0)=false:=by simp;omega
    clear hz
    go_wp2_with fail
    refine(HK.out _ _ _ _ _ (HQW.out.pres (Pres.alloc _ _)) (HH2.out.pres (Pres.alloc _ _)) HFJ.out HFS.out).mono ?_;rintro e w1 ⟨rfl,hb1⟩;have hbb:Bel wr.heap.size wr w1:=Bel.new.trans (hb1.mono (by simp));obtain⟨j0,j1⟩:=bcell hbb;obtain⟨n0,n1,n2,-,-,-⟩:=row3 ((hb1.block wr.heap.size (by simp)).trans (heap_new _ _ rfl));have hs1:=hb1.size
    cases hf:f (q j) (pk f q j)with
    |false=>
     have HR:Hid (PickIn w w1 (pk f q (j+1))):=by rw[hf]at HP;rw[HP.out];exact HH.out.bel hbb
     clear hf HP
     go_wp2_with fail
     go_roundw
     case rel=>exact⟨j+1,by omega,by go_num,HR.out⟩
     case measure=>simp[intOf];omega
    |true=>
     have HR:Hid (pk f q (j+1)=q j):=by rw[hf]at HP;exact HP.out
     clear hf HP
     go_wp2_with fail
     go_roundw
     case rel=>exact⟨j+1,by omega,by go_num,by rw[HR.out];exact(HH.out.bel hbb).set (HQW.out.pres hbb.pb)⟩
     case measure=>simp[intOf];omega
  .obtain rfl:j=n:=by omega
   obtain⟨r0,r1,r2,s0,s1,s2⟩:=h.res;have HF:=LH (h.fin h2);clear h h2;go_wp2
   (try simp only[Exit.inBlock,Exit.then]);refine bodyPost_ret (v:=?_) (results_c1 rfl _ rfl ?_) rfl ?_;rotate_left;(go_simp;rfl)
   exact⟨_,rfl,HF.out.1,HF.out.2⟩
theorem QS.pres {w w':World}{ao:Option Addr}{n:Nat}{q:Nat->Rat}(h:QS w ao n q)(hp:Pres 39 w w')(hp2:Pres 232 w w'):QS w' ao n q:=by
 obtain⟨f,hc,hq⟩:=h;exact⟨f,hc.pres hp,fun i hi=>(hq i hi).pres hp2⟩
theorem Max_c {w:World}{ao:Option Addr}{n c:Nat}{q:Nat->Rat}{L:Nat}(hq:QS w ao n q)(hL:∀i,i<n->QF L (q i))(h0:1<=L)(hn:n<=1000000)(hs:L+L<=1000000000):
 Calls Tryz.prog 151 #[.slice ao n c] w (Gives w fun v w'=>QV w' v (pk (fun a b=>decide (0<cmpR a b)) q n)):=by
 have HC:=LH hq;have HL:=LH hL;clear hq hL
 go_enter Tryz.func151,Tryz.ntmps151
 go_wp2_with fail
 refine(pickMax_c (fun _ _ _ _ _ h1 h2 h3 h4=>Max1_c h1 h2 h3 h4 hs) (HC.out.pres (Pres.alloc _ _) (Pres.alloc _ _)) HL.out h0 hn).mono ?_;rintro e w1 ⟨r,rfl,hr,hb1⟩;obtain⟨rx,rm,rn,rl,rk,rfl⟩:=hr.cells;have hblk:=(hb1.block w.heap.size (by simp)).trans (heap_new _ _ rfl);have HB:=LH hblk;obtain⟨r0,r1,r2,s0,s1,s2⟩:=row3 hblk;have HR:=LH hr;have HBB:Hid (Bel w.heap.size w w1):=Bel.new.trans (hb1.mono (by simp))
 clear hblk hr hb1;go_wp2
 (try simp only[Exit.inBlock,Exit.then]);refine bodyPost_ret (v:=?_) (results_c1 rfl _ rfl ?_) rfl ?_;rotate_left;(go_simp;rfl)
 exact⟨_,rfl,HR.out.pres (Pres.set3 ⟨_,_,HB.out⟩ (by decide) _ _ _ _ _ _),((HBB.out.setCell (by simp) _).setCell (by simp) _).setCell (by simp) _⟩
theorem Min_c {w:World}{ao:Option Addr}{n c:Nat}{q:Nat->Rat}{L:Nat}(hq:QS w ao n q)(hL:∀i,i<n->QF L (q i))(h0:1<=L)(hn:n<=1000000)(hs:L+L<=1000000000):
 Calls Tryz.prog 189 #[.slice ao n c] w (Gives w fun v w'=>QV w' v (pk (fun a b=>decide (cmpR a b<0)) q n)):=by
 have HC:=LH hq;have HL:=LH hL;clear hq hL
 go_enter Tryz.func189,Tryz.ntmps189
 go_wp2_with fail
 refine(pickMin_c (fun _ _ _ _ _ h1 h2 h3 h4=>Min1_c h1 h2 h3 h4 hs) (HC.out.pres (Pres.alloc _ _) (Pres.alloc _ _)) HL.out h0 hn).mono ?_;rintro e w1 ⟨r,rfl,hr,hb1⟩;obtain⟨rx,rm,rn,rl,rk,rfl⟩:=hr.cells;have hblk:=(hb1.block w.heap.size (by simp)).trans (heap_new _ _ rfl);have HB:=LH hblk;obtain⟨r0,r1,r2,s0,s1,s2⟩:=row3 hblk;have HR:=LH hr;have HBB:Hid (Bel w.heap.size w w1):=Bel.new.trans (hb1.mono (by simp))
 clear hblk hr hb1;go_wp2
 (try simp only[Exit.inBlock,Exit.then]);refine bodyPost_ret (v:=?_) (results_c1 rfl _ rfl ?_) rfl ?_;rotate_left;(go_simp;rfl)
 exact⟨_,rfl,HR.out.pres (Pres.set3 ⟨_,_,HB.out⟩ (by decide) _ _ _ _ _ _),((HBB.out.setCell (by simp) _).setCell (by simp) _).setCell (by simp) _⟩
end Go.Proofs.YtlgjakpoaelehaaGreat
