/- Contracts and plain laws, merged: M2 M4 M3 -/
import Derived.BigQuiet
import Derived.Deep.LoopGhost
import Derived.Deep.QuietTactic
import Derived.Deep.RegionWith
import Derived.StillTailTactics
import Derived.Test.YtlgjakpoaelehaaGreatSB08
namespace Go.Proofs.YtlgjakpoaelehaaGreat
open Go.RowKit
set_option maxRecDepth 100000
set_option maxHeartbeats 4000000
structure HoldD where
 x:Rat
 z:Rat
 b:Rat
 c:Rat
def hold0:HoldD:=⟨0,0,0,0⟩
structure HoldF (L:Nat) (h:HoldD):Prop where
 x:QF L h.x
 z:QF L h.z
 b:QF L h.b
 c:QF L h.c
structure HoldAt (w:World) (g:Nat->Value) (j:Nat) (h:HoldD):Prop where
 x:QV w (.agg #[g j,g (j+1),g (j+2)]) h.x
 z:QV w (.agg #[g (j+3),g (j+4),g (j+5)]) h.z
 b:QV w (.agg #[g (j+6),g (j+7),g (j+8)]) h.b
 c:QV w (.agg #[g (j+9),g (j+10),g (j+11)]) h.c
theorem HoldAt.pres {w w':World}{g:Nat->Value}{j:Nat}{h:HoldD}(hh:HoldAt w g j h)(hp:Pres 232 w w'):HoldAt w' g j h:=
 ⟨hh.x.pres hp,hh.z.pres hp,hh.b.pres hp,hh.c.pres hp⟩
structure HoldsV (w:World) (ao:Option Addr) (m:List HoldD) (g:Nat->Value):Prop where
 cells:CellsAt 97 w ao (m.length*12) g
 at':∀i,i<m.length->HoldAt w g (i*12) (m.getD i hold0)
theorem CellsAt.bel {T:TypeId}{w w':World}{ao:Option Addr}{n:Nat}{f:Nat->Value}(h:CellsAt T w ao n f)(hb:Bel w.heap.size w w'):CellsAt T w' ao n f:=
 h.pres hb.pb
theorem HoldsV.bel {w w':World}{ao:Option Addr}{m:List HoldD}{g:Nat->Value}(h:HoldsV w ao m g)(hb:Bel w.heap.size w w'):HoldsV w' ao m g:=
 ⟨h.cells.bel hb,fun i hi=>(h.at' i hi).pres hb.pb⟩
def holdOk (m:List HoldD)(i:Nat):Bool:=
 !decide (ratSign (m.getD i hold0).b<0) && !decide (ratSign (m.getD i hold0).c<0) &&
  (List.range i).all fun k=>apartB (m.getD i hold0).x (m.getD i hold0).z (m.getD k hold0).x (m.getD k hold0).z
def mapRes (m:List HoldD):Int:=if(List.range m.length).all (holdOk m) then 0 else 2
def ckMap (m:List HoldD):Int:=if m.length<1\/64<m.length then 2 else mapRes m
theorem mapRes_bad {m:List HoldD}{i:Nat}(hi:i<m.length)(h:holdOk m i=false):mapRes m=2:=by
 unfold mapRes;rw[if_neg];intro e;have:=List.all_eq_true.1 e i (by simpa using hi);rw[h]at this
 cases this
theorem mapRes_good {m:List HoldD}(h:∀i,i<m.length->holdOk m i=true):mapRes m=0:=by
 unfold mapRes;rw[if_pos];exact List.all_eq_true.2 fun i hi=>h i (by simpa using hi)
theorem holdOk_bear {m:List HoldD}{i:Nat}(h:ratSign (m.getD i hold0).b<0):holdOk m i=false:=by
 unfold holdOk;rw[decide_eq_true h];rfl
theorem holdOk_cost {m:List HoldD}{i:Nat}(h:ratSign (m.getD i hold0).c<0):holdOk m i=false:=by
 unfold holdOk;rw[decide_eq_true h];simp
theorem holdOk_near {m:List HoldD}{i k:Nat}(hk:k<i)(h:apartB (m.getD i hold0).x (m.getD i hold0).z (m.getD k hold0).x (m.getD k hold0).z=false):holdOk m i=false:=by
 have:((List.range i).all fun k=>apartB (m.getD i hold0).x (m.getD i hold0).z (m.getD k hold0).x (m.getD k hold0).z)=false:=by
  rw[List.all_eq_false];exact⟨k,by simpa using hk,by rw[h];simp⟩
 unfold holdOk;rw[this];simp
theorem holdOk_good {m:List HoldD}{i:Nat}(hb:¬ratSign (m.getD i hold0).b<0)(hc:¬ratSign (m.getD i hold0).c<0)(h:∀k,k<i->apartB (m.getD i hold0).x (m.getD i hold0).z (m.getD k hold0).x (m.getD k hold0).z=true):holdOk m i=true:=by
 have:((List.range i).all fun k=>apartB (m.getD i hold0).x (m.getD i hold0).z (m.getD k hold0).x (m.getD k hold0).z)=true:=
  List.all_eq_true.2 fun k hk=>h k (by simpa using hk)
 unfold holdOk;rw[this,decide_eq_false hb,decide_eq_false hc];rfl
theorem HoldsV.el {w:World}{ao:Option Addr}{m:List HoldD}{g:Nat->Value}(h:HoldsV w ao m g){i:Nat}(hi:i<m.length):
 ∃bl o,ao=some ⟨bl,o,none⟩/\bl<w.heap.size/\∃(x0:Bool) (a0:Option Addr) (n0:Nat) (c0:Option Addr) (k0:Nat) (x1:Bool) (a1:Option Addr) (n1:Nat) (c1:Option Addr) (k1:Nat) (x2:Bool) (a2:Option Addr) (n2:Nat) (c2:Option Addr) (k2:Nat) (x3:Bool) (a3:Option Addr) (n3:Nat) (c3:Option Addr) (k3:Nat),
  w.cell? ⟨bl,o+i*12,none⟩=some (.bool x0)/\w.cell? ⟨bl,o+i*12+1,none⟩=some (.slice a0 n0 n0)/\w.cell? ⟨bl,o+i*12+2,none⟩=some (.slice c0 k0 k0)/\
  w.cell? ⟨bl,o+i*12+3,none⟩=some (.bool x1)/\w.cell? ⟨bl,o+i*12+4,none⟩=some (.slice a1 n1 n1)/\w.cell? ⟨bl,o+i*12+5,none⟩=some (.slice c1 k1 k1)/\
  w.cell? ⟨bl,o+i*12+6,none⟩=some (.bool x2)/\w.cell? ⟨bl,o+i*12+7,none⟩=some (.slice a2 n2 n2)/\w.cell? ⟨bl,o+i*12+8,none⟩=some (.slice c2 k2 k2)/\
  w.cell? ⟨bl,o+i*12+9,none⟩=some (.bool x3)/\w.cell? ⟨bl,o+i*12+10,none⟩=some (.slice a3 n3 n3)/\w.cell? ⟨bl,o+i*12+11,none⟩=some (.slice c3 k3 k3)/\
  QV w (.agg #[.bool x0,.slice a0 n0 n0,.slice c0 k0 k0]) (m.getD i hold0).x/\QV w (.agg #[.bool x1,.slice a1 n1 n1,.slice c1 k1 k1]) (m.getD i hold0).z/\
  QV w (.agg #[.bool x2,.slice a2 n2 n2,.slice c2 k2 k2]) (m.getD i hold0).b/\QV w (.agg #[.bool x3,.slice a3 n3 n3,.slice c3 k3 k3]) (m.getD i hold0).c:=by
 obtain⟨q0,q1,q2,q3⟩:=h.at' i hi;obtain⟨bl,o,rfl,hb,hcell⟩:=h.cells.open (by omega);obtain⟨x0,a0,n0,c0,k0,e0⟩:=q0.cells;obtain⟨x1,a1,n1,c1,k1,e1⟩:=q1.cells;obtain⟨x2,a2,n2,c2,k2,e2⟩:=q2.cells;obtain⟨x3,a3,n3,c3,k3,e3⟩:=q3.cells;rw[e0]at q0;rw[e1]at q1;rw[e2]at q2;rw[e3]at q3;simp only[Value.agg.injEq,Array.mk.injEq,List.cons.injEq,and_true]at e0 e1 e2 e3;obtain⟨e00,e01,e02⟩:=e0;obtain⟨e10,e11,e12⟩:=e1
 obtain⟨e20,e21,e22⟩:=e2;obtain⟨e30,e31,e32⟩:=e3
 have H:∀j v,j<12->g (i*12+j)=v->w.cell? ⟨bl,o+i*12+j,none⟩=some v:=fun j v hj e=>by
  rw[<-e,<-hcell (i*12+j) (by omega),Nat.add_assoc]
 exact⟨bl,o,rfl,hb,x0,a0,n0,c0,k0,x1,a1,n1,c1,k1,x2,a2,n2,c2,k2,x3,a3,n3,c3,k3,H 0 _ (by omega) e00,H 1 _ (by omega) e01,H 2 _ (by omega) e02,H 3 _ (by omega) e10,H 4 _ (by omega) e11,H 5 _ (by omega) e12,
  H 6 _ (by omega) e20,H 7 _ (by omega) e21,H 8 _ (by omega) e22,H 9 _ (by omega) e30,H 10 _ (by omega) e31,H 11 _ (by omega) e32,q0,q1,q2,q3⟩
theorem row12 {w:World}{b:Nat}{v0 v1 v2 v3 v4 v5 v6 v7 v8 v9 v10 v11:Value}{T:TypeId}(h:w.heap[b]?=some (.cells #[v0,v1,v2,v3,v4,v5,v6,v7,v8,v9,v10,v11] T)):
 w.cell? ⟨b,0,none⟩=some v0/\w.cell? ⟨b,1,none⟩=some v1/\w.cell? ⟨b,2,none⟩=some v2/\w.cell? ⟨b,3,none⟩=some v3/\w.cell? ⟨b,4,none⟩=some v4/\w.cell? ⟨b,5,none⟩=some v5/\
 w.cell? ⟨b,6,none⟩=some v6/\w.cell? ⟨b,7,none⟩=some v7/\w.cell? ⟨b,8,none⟩=some v8/\w.cell? ⟨b,9,none⟩=some v9/\w.cell? ⟨b,10,none⟩=some v10/\w.cell? ⟨b,11,none⟩=some v11:=by
 refine⟨?_,?_,?_,?_,?_,?_,?_,?_,?_,?_,?_,?_⟩<;>simp[World.cell?,h]
theorem set12_heap {w:World}{b:Nat}{x0 x1 x2 x3 x4 x5 x6 x7 x8 x9 x10 x11 a0 a1 a2 a3 a4 a5 a6 a7 a8 a9 a10 a11:Value}{T:TypeId}(h:w.heap[b]?=some (.cells #[x0,x1,x2,x3,x4,x5,x6,x7,x8,x9,x10,x11] T)):
 ((((((((((((w.setCell ⟨b,0,none⟩ a0).setCell ⟨b,1,none⟩ a1).setCell ⟨b,2,none⟩ a2).setCell ⟨b,3,none⟩ a3).setCell ⟨b,4,none⟩ a4).setCell ⟨b,5,none⟩ a5).setCell ⟨b,6,none⟩ a6).setCell ⟨b,7,none⟩ a7).setCell ⟨b,8,none⟩ a8).setCell ⟨b,9,none⟩ a9).setCell ⟨b,10,none⟩ a10).setCell ⟨b,11,none⟩ a11).heap[b]?=some (.cells #[a0,a1,a2,a3,a4,a5,a6,a7,a8,a9,a10,a11] T):=by
 simp[World.setCell,Array.getElem?_modify,h]
structure WalkerD where
 legs:Int
 long:Rat
 up:Rat
 down:Rat
 span:Rat
 weight:Rat
 perLength:Rat
 perRise:Rat
 perPhase:Rat
structure WalkAt (w:World) (g:Nat->Value) (j:Nat) (k:WalkerD):Prop where
 legs:g j=.int .i64 k.legs
 long:QV w (.agg #[g (j+1),g (j+2),g (j+3)]) k.long
 up:QV w (.agg #[g (j+4),g (j+5),g (j+6)]) k.up
 down:QV w (.agg #[g (j+7),g (j+8),g (j+9)]) k.down
 span:QV w (.agg #[g (j+10),g (j+11),g (j+12)]) k.span
 weight:QV w (.agg #[g (j+13),g (j+14),g (j+15)]) k.weight
 perLength:QV w (.agg #[g (j+16),g (j+17),g (j+18)]) k.perLength
 perRise:QV w (.agg #[g (j+19),g (j+20),g (j+21)]) k.perRise
 perPhase:QV w (.agg #[g (j+22),g (j+23),g (j+24)]) k.perPhase
theorem WalkAt.pres {w w':World}{g:Nat->Value}{j:Nat}{k:WalkerD}(h:WalkAt w g j k)(hp:Pres 232 w w'):WalkAt w' g j k:=
 ⟨h.legs,h.long.pres hp,h.up.pres hp,h.down.pres hp,h.span.pres hp,h.weight.pres hp,h.perLength.pres hp,h.perRise.pres hp,h.perPhase.pres hp⟩
def negQ (q:Rat):Bool:=decide (ratSign q<0)
theorem negQ_c {w:World}{v:Value}{q:Rat}(hv:QV w v q):
 Calls Tryz.prog 98 #[v] w fun e w'=>e=.returned (.bool (negQ q))/\Bel w.heap.size w w':=by
 have HV:=LH hv;obtain⟨b,am,m,al,l,rfl⟩:=hv.cells;have HR:Hid (negQ q=decide (ratSign q<0)):=rfl;clear hv
 go_enter Tryz.func98,Tryz.ntmps98
 go_wp2_with fail
 refine(sign_c (HV.out.pres (Pres.alloc _ _))).mono ?_;rintro e w1 ⟨rfl,hb1⟩;go_wp2;go_ret;exact⟨by rw[HR.out];rfl,Bel.new.trans (hb1.mono (by simp))⟩
def negAt (q:Nat->Rat)(n:Nat)(r:Int):Prop:=(r=-1/\∀i,i<n->negQ (q i)=false)\/∃i:Nat,i<n/\r=i/\negQ (q i)=true
theorem indexNeg_c {w:World}{ao:Option Addr}{n c:Nat}{q:Nat->Rat}(hq:QS w ao n q)(hn:n<=1000000):
 Calls Tryz.prog 152 #[.slice ao n c,.func (.func 98) #[] #[]] w fun e w'=>∃r,e=.returned (.int .i64 r)/\negAt q n r/\Bel w.heap.size w w':=by
 have HC:=LH hq;clear hq
 go_enter Tryz.func152,Tryz.ntmps152
 go_wp2
 go_loopg [8] n (fun g s wr=>∃i:Nat,g=n-i/\i<=n/\s=.int .i64 i/\(∀j,j<i->negQ (q j)=false)/\Bel w.heap.size w wr)
 case atStart=>exact⟨0,rfl,Nat.zero_le _,rfl,fun j hj=>by omega,Bel.refl _ _⟩
 case round=>
  obtain⟨i,hg,hi,rfl,hj,hbr⟩:=hrel;have HJ:=LH hj;have HB:=LH hbr;clear hj
  by_cases hlt:i<n
  .obtain⟨b,o,y,bm,u,bl,v,rfl,hb,c0,c1,c2,hv⟩:=HC.out.at hlt;have g0:=(hbr.cell (p:=⟨b,o+i*3,none⟩) hb).trans c0;have g1:=(hbr.cell (p:=⟨b,o+i*3+1,none⟩) hb).trans c1;have g2:=(hbr.cell (p:=⟨b,o+i*3+2,none⟩) hb).trans c2;have HQ:=LH (hv.pres hbr.pb);obtain⟨p,hp⟩:∃p,p=negQ (q i):=⟨_,rfl⟩
   have HP:=LH hp;clear c0 c1 c2 hv hbr hp
   go_wp2_with fail
   refine(negQ_c HQ.out).mono ?_;rintro e w1 ⟨rfl,hb1⟩;have HB1:Hid (Bel w.heap.size w w1):=HB.out.trans (hb1.mono HB.out.size);rw[<-HP.out];clear hb1 g0 g1 g2
   cases p
   .go_wp2
    go_roundg (n-(i+1))
    case rel=>exact⟨i+1,rfl,by omega,by push_cast;rfl,(fun j hj=>by
     rcases Nat.lt_or_ge j i with h|h
     .exact HJ.out j h
     .obtain rfl:j=i:=by omega
      exact HP.out.symm),HB1.out⟩
    case measure=>omega
   .go_wp2;go_ret;exact⟨_,rfl,.inr ⟨i,hlt,rfl,HP.out.symm⟩,HB1.out⟩
  .obtain rfl:i=n:=by omega
   have HB1:=HB;clear hbr;go_wp2;go_ret;exact⟨_,rfl,.inl ⟨rfl,HJ.out⟩,HB.out⟩
def anyNeg (q:Nat->Rat)(n:Nat):Bool:=(List.range n).any fun i=>negQ (q i)
theorem negAt.any {q:Nat->Rat}{n:Nat}{r:Int}(h:negAt q n r):decide (0<=r)=anyNeg q n:=by
 unfold anyNeg;rcases h with⟨rfl,h⟩|⟨i,hi,rfl,h⟩
 .have:((List.range n).any fun i=>negQ (q i))=false:=by
   rw[List.any_eq_false];intro i hi;rw[h i (by simpa using hi)]
   decide
  rw[this];rfl
 .have:((List.range n).any fun i=>negQ (q i))=true:=List.any_eq_true.2 ⟨i,by simpa using hi,h⟩;rw[this];simp
theorem containsNeg_c {w:World}{ao:Option Addr}{n c:Nat}{q:Nat->Rat}(hq:QS w ao n q)(hn:n<=1000000):
 Calls Tryz.prog 99 #[.slice ao n c,.func (.func 98) #[] #[]] w fun e w'=>e=.returned (.bool (anyNeg q n))/\Bel w.heap.size w w':=by
 have HC:=LH hq;have HA:Hid (∀r,negAt q n r->decide (0<=r)=anyNeg q n):=fun r h=>h.any;generalize anyNeg q n=A at HA|-;clear hq
 go_enter Tryz.func99,Tryz.ntmps99
 go_wp2_with fail
 refine(indexNeg_c HC.out hn).mono ?_;rintro e w1 ⟨r,rfl,hr,hb1⟩;have HR:=LH (HA.out r hr);clear hr;go_wp2;go_ret;exact⟨by rw[<-HR.out];rfl,hb1⟩
theorem QS.lit {w:World}{b n:Nat}{cur:Array Value}{fr:Nat×Nat}{q:Nat->Rat}(hb:w.heap[b]?=some (.cells cur 39 fr))(hn:cur.size=n*3)
 (hq:∀i,i<n->QV w (.agg #[cur.getD (i*3) undef,cur.getD (i*3+1) undef,cur.getD (i*3+2) undef]) (q i)):QS w (some ⟨b,0,none⟩) n q:=
 ⟨fun k=>cur.getD k undef,CellsAt.of_block hb fun k hk=>by rw[Nat.zero_add,Array.getElem?_eq_getElem (by omega)];simp[Array.getD,hn,hk],hq⟩
theorem row25 {w:World}{b:Nat}{v0 v1 v2 v3 v4 v5 v6 v7 v8 v9 v10 v11 v12 v13 v14 v15 v16 v17 v18 v19 v20 v21 v22 v23 v24:Value}{T:TypeId}(h:w.heap[b]?=some (.cells #[v0,v1,v2,v3,v4,v5,v6,v7,v8,v9,v10,v11,v12,v13,v14,v15,v16,v17,v18,v19,v20,v21,v22,v23,v24] T)):
 w.cell? ⟨b,0,none⟩=some v0/\w.cell? ⟨b,1,none⟩=some v1/\w.cell? ⟨b,2,none⟩=some v2/\w.cell? ⟨b,3,none⟩=some v3/\w.cell? ⟨b,4,none⟩=some v4/\w.cell? ⟨b,5,none⟩=some v5/\w.cell? ⟨b,6,none⟩=some v6/\w.cell? ⟨b,7,none⟩=some v7/\w.cell? ⟨b,8,none⟩=some v8/\w.cell? ⟨b,9,none⟩=some v9/\w.cell? ⟨b,10,none⟩=some v10/\w.cell? ⟨b,11,none⟩=some v11/\w.cell? ⟨b,12,none⟩=some v12/\w.cell? ⟨b,13,none⟩=some v13/\w.cell? ⟨b,14,none⟩=some v14/\w.cell? ⟨b,15,none⟩=some v15/\w.cell? ⟨b,16,none⟩=some v16/\w.cell? ⟨b,17,none⟩=some v17/\w.cell? ⟨b,18,none⟩=some v18/\w.cell? ⟨b,19,none⟩=some v19/\w.cell? ⟨b,20,none⟩=some v20/\w.cell? ⟨b,21,none⟩=some v21/\w.cell? ⟨b,22,none⟩=some v22/\w.cell? ⟨b,23,none⟩=some v23/\w.cell? ⟨b,24,none⟩=some v24:=by
 refine⟨?_,?_,?_,?_,?_,?_,?_,?_,?_,?_,?_,?_,?_,?_,?_,?_,?_,?_,?_,?_,?_,?_,?_,?_,?_⟩<;>simp[World.cell?,h]
structure WalkF (L:Nat) (k:WalkerD):Prop where
 long:QF L k.long
 up:QF L k.up
 down:QF L k.down
 span:QF L k.span
 weight:QF L k.weight
 perLength:QF L k.perLength
 perRise:QF L k.perRise
 perPhase:QF L k.perPhase
def wkQ (k:WalkerD)(i:Nat):Rat:=[k.long,k.up,k.down,k.span,k.weight,k.perLength,k.perRise].getD i 0
def ckWalker (k:WalkerD):Int:=if k.legs<1\/4<k.legs\/ratSign k.perPhase<=0\/anyNeg (wkQ k) 7=true then 2 else 0
theorem checkWalker_c {w:World}{g:Nat->Value}{k:WalkerD}(hk:WalkAt w g 1 k):
 Calls Tryz.prog 28 #[.agg #[.int .i64 k.legs,g 2,g 3,g 4,g 5,g 6,g 7,g 8,g 9,g 10,g 11,g 12,g 13,g 14,g 15,g 16,g 17,g 18,g 19,g 20,g 21,g 22,g 23,g 24,g 25]] w
  fun e w'=>e=.returned (.int .i64 (ckWalker k))/\Bel w.heap.size w w':=by
 have H1:=LH hk.long;have H2:=LH hk.up;have H3:=LH hk.down;have H4:=LH hk.span;have H5:=LH hk.weight;have H6:=LH hk.perLength;have H7:=LH hk.perRise;have H8:=LH hk.perPhase;clear hk;have HR:Hid (k.legs<1\/4<k.legs\/ratSign k.perPhase<=0\/anyNeg (wkQ k) 7=true->ckWalker k=2):=fun h=>by unfold ckWalker;rw[if_pos h]
 have HR0:Hid (¬(k.legs<1\/4<k.legs\/ratSign k.perPhase<=0\/anyNeg (wkQ k) 7=true)->ckWalker k=0):=fun h=>by unfold ckWalker;rw[if_neg h]
 generalize ckWalker k=R at HR HR0|-;obtain⟨l,hl⟩:∃l,l=k.legs:=⟨_,rfl⟩
 rw[<-hl]at HR HR0|-;clear hl
 by_cases hl1:l<1
 .have d1:decide (l<1)=true:=decide_eq_true hl1;have HE:Hid (R=2):=HR.out (.inl hl1);clear HR HR0 hl1
  go_enter Tryz.func28,Tryz.ntmps28
  go_wp2;go_ret;exact⟨by rw[HE.out];rfl,(Bel.refl _ _).alloc NL _⟩
 have d1:decide (l<1)=false:=decide_eq_false hl1
 by_cases hl4:4<l
 .have d4:decide (4<l)=true:=decide_eq_true hl4;have HE:Hid (R=2):=HR.out (.inr (.inl hl4));clear HR HR0 hl1 hl4
  go_enter Tryz.func28,Tryz.ntmps28
  go_wp2;go_ret;exact⟨by rw[HE.out];rfl,(Bel.refl _ _).alloc NL _⟩
 have d4:decide (4<l)=false:=decide_eq_false hl4;have HL:Hid (1<=l/\l<=4):=⟨by omega,by omega⟩
 clear hl1 hl4
 go_enter Tryz.func28,Tryz.ntmps28
 go_wp2_with fail
 refine(sign_c (H8.out.pres (Pres.alloc _ _))).mono ?_;rintro e w1 ⟨rfl,hb1⟩;have hblk:=(hb1.block w.heap.size (by simp)).trans (heap_new _ _ rfl);have HB1:Hid (Bel w.heap.size w w1):=Bel.new.trans (hb1.mono (by simp));have HP1:Hid (Pres 232 w w1):=(Pres.alloc _ _).trans hb1.pb;have hlt:=BlkT.lt ⟨_,_,hblk⟩;have hc:=row25 hblk;clear hb1
 by_cases hs:ratSign k.perPhase<=0
 .have ds:decide (ratSign k.perPhase<=0)=true:=decide_eq_true hs;have HE:Hid (R=2):=HR.out (.inr (.inr (.inl hs)));clear HR HR0 hs;go_wp2;go_ret;exact⟨by rw[HE.out];rfl,HB1.out⟩
 have ds:decide (ratSign k.perPhase<=0)=false:=decide_eq_false hs;have HS:Hid (0<ratSign k.perPhase):=by show _<_;omega
 clear hs;obtain⟨h0,h1,h2,h3,h4,h5,h6,h7,h8,h9,h10,h11,h12,h13,h14,h15,h16,h17,h18,h19,h20,h21,h22,h23,h24⟩:=hc;have HBLK:=LH hblk;clear hblk
 go_wp2_with fail
 have HQ:Hid (Pres 232 w (w1.alloc (Obj.cells #[g 2,g 3,g 4,g 5,g 6,g 7,g 8,g 9,g 10,g 11,g 12,g 13,g 14,g 15,g 16,g 17,g 18,g 19,g 20,g 21,g 22] 39))):=HP1.out.trans (Pres.alloc _ _);refine(containsNeg_c (q:=wkQ k) (QS.lit (heap_new _ _ rfl) rfl ?_) (by omega)).mono ?_
 .intro i hi
  match i,hi with
  |0,_=>exact H1.out.pres HQ.out
  |1,_=>exact H2.out.pres HQ.out
  |2,_=>exact H3.out.pres HQ.out
  |3,_=>exact H4.out.pres HQ.out
  |4,_=>exact H5.out.pres HQ.out
  |5,_=>exact H6.out.pres HQ.out
  |6,_=>exact H7.out.pres HQ.out
 rintro e w2 ⟨rfl,hb2⟩;have HB2:Hid (Bel w.heap.size w w2):=HB1.out.trans ((Bel.new.trans (hb2.mono (by simp))).mono HB1.out.size);clear hb2
 by_cases hn:anyNeg (wkQ k) 7=true
 .have HE:Hid (R=2):=HR.out (.inr (.inr (.inr hn)));rw[hn];clear HR HR0 hn;go_wp2;go_ret;exact⟨by rw[HE.out];rfl,HB2.out⟩
 .have HE:Hid (R=0):=HR0.out (by rintro(h|h|h|h);exact absurd h (by have:=HL.out;omega);exact absurd h (by have:=HL.out;omega);exact absurd h (by have:0<ratSign k.perPhase:=HS.out;omega);exact hn h);have hn':anyNeg (wkQ k) 7=false:=by simpa using hn
  rw[hn'];clear HR HR0 hn hn';go_wp2;go_ret;exact⟨by rw[HE.out];rfl,HB2.out⟩
theorem checkMap_loop {w:World}{ao:Option Addr}{cap L:Nat}{m:List HoldD}{g:Nat->Value}(hm:HoldsV w ao m g)(hF:∀i,i<m.length->HoldF L (m.getD i hold0))(hcap:m.length<=cap)(hL:L<=100000000)(h1:1<=m.length)(h64:m.length<=64):
 Calls Tryz.prog 23 #[.slice ao m.length cap] w fun e w'=>e=.returned (.int .i64 (mapRes m))/\Bel w.heap.size w w':=by
 have HM:=LH hm;have HF:=LH hF;clear hm hF;obtain⟨n,hn⟩:∃n,n=m.length:=⟨_,rfl⟩
 have HN:=LH hn;rw[<-hn]at h1 h64 hcap|-;clear hn;have d3:decide ((n:Int)<1)=false:=by simp;omega
 have d4:decide ((64:Int)<n)=false:=by simp;omega
 go_enter Tryz.func23,Tryz.ntmps23
 go_wp2
 go_loopg [17] n (fun g s wr=>∃i:Nat,g=n-i/\i<=n/\s=.int .i64 i/\(∀j,j<i->holdOk m j=true)/\Bel w.heap.size w wr)
 case atStart=>exact⟨0,rfl,Nat.zero_le _,rfl,fun j hj=>by omega,Bel.refl _ _⟩
 case round=>
  obtain⟨i,hg,hi,rfl,hj,hbr⟩:=hrel;have HJ:=LH hj;have HB:=LH hbr;clear hj
  by_cases hlt:i<n
  .obtain⟨b,o,rfl,hbl,x0,a0,n0,c0,k0,x1,a1,n1,c1,k1,x2,a2,n2,c2,k2,x3,a3,n3,c3,k3,f0,f1,f2,f3,f4,f5,f6,f7,f8,f9,f10,f11,q0,q1,q2,q3⟩:=(HM.out.bel (by exact hbr)).el (i:=i) (by rw[<-HN.out];exact hlt);obtain⟨h,hh⟩:∃h,h=m.getD i hold0:=⟨_,rfl⟩
   have HH:=LH hh;rw[<-hh]at q0 q1 q2 q3;clear hh;have Q0:=LH q0;have Q1:=LH q1;have Q2:=LH q2;have Q3:=LH q3;clear q0 q1 q2 q3 hbr;obtain⟨wo,rfl⟩:∃wo:World,wo=wr:=⟨_,rfl⟩
   go_wp2_with fail
   refine(sign_c (Q2.out.pres (Pres.alloc _ _))).mono ?_;rintro e w1 ⟨rfl,hb1⟩;have hblk1:=(hb1.block wo.heap.size (by simp)).trans (heap_new _ _ rfl);have HB1:Hid (Bel wo.heap.size wo w1):=Bel.new.trans (hb1.mono (by simp));have hlt1:=BlkT.lt ⟨_,_,hblk1⟩;clear hb1 f0 f1 f2 f3 f4 f5 f6 f7 f8 f9 f10 f11
   by_cases hs:ratSign h.b<0
   .have ds:decide (ratSign h.b<0)=true:=decide_eq_true hs;have HE:Hid (mapRes m=2):=mapRes_bad (by rw[<-HN.out];exact hlt) (holdOk_bear (by rw[<-HH.out];exact hs));clear hs hblk1;go_wp2;go_ret;exact⟨by rw[HE.out];rfl,HB.out.trans (HB1.out.mono HB.out.size)⟩
   have ds:decide (ratSign h.b<0)=false:=decide_eq_false hs;have HS:=LH hs;obtain⟨r0,r1,r2,r3,r4,r5,r6,r7,r8,r9,r10,r11⟩:=row12 hblk1;have HK1:=LH hblk1;clear hs hblk1
   go_wp2_with fail
   refine(sign_c (Q3.out.pres HB1.out.pb)).mono ?_;rintro e w2 ⟨rfl,hb2⟩;have HK2:=LH ((hb2.block wo.heap.size hlt1).trans HK1.out);have HB2:Hid (Bel wo.heap.size wo w2):=HB1.out.trans (hb2.mono (by omega));have hlt2:=BlkT.lt ⟨_,_,HK2.out⟩;clear hb2 r0 r1 r2 r3 r4 r5 r6 r7 r8 r9 r10 r11 ds
   by_cases hs:ratSign h.c<0
   .have ds:decide (ratSign h.c<0)=true:=decide_eq_true hs;have HE:Hid (mapRes m=2):=mapRes_bad (by rw[<-HN.out];exact hlt) (holdOk_cost (by rw[<-HH.out];exact hs));clear hs;go_wp2;go_ret;exact⟨by rw[HE.out];rfl,HB.out.trans (HB2.out.mono HB.out.size)⟩
   have ds:decide (ratSign h.c<0)=false:=decide_eq_false hs;have HS2:=LH hs;have HT2:Hid (Bel w.heap.size w w2):=HB.out.trans (HB2.out.mono HB.out.size);clear hs;go_wp2
   go_loopg [36] i (fun g s wr=>∃k:Nat,g=i-k/\k<=i/\s=.int .i64 k/\(∀j,j<k->apartB h.x h.z (m.getD j hold0).x (m.getD j hold0).z=true)/\Bel w2.heap.size w2 wr)
   case atStart=>exact⟨0,rfl,Nat.zero_le _,rfl,fun j hj=>by omega,Bel.refl _ _⟩
   case round=>
    obtain⟨k,hgk,hk,rfl,hj,hbr⟩:=hrel;have HJ2:=LH hj;have HB3:=LH hbr;have hblk:=(hbr.block _ hlt2).trans HK2.out;have HX:Hid (QV wr (.agg #[.bool x0,.slice a0 n0 n0,.slice c0 k0 k0]) h.x):=(Q0.out.pres HB2.out.pb).pres hbr.pb;have HZ:Hid (QV wr (.agg #[.bool x1,.slice a1 n1 n1,.slice c1 k1 k1]) h.z):=(Q1.out.pres HB2.out.pb).pres hbr.pb
    have HT3:Hid (Bel w.heap.size w wr):=HT2.out.trans (hbr.mono HT2.out.size);clear hj
    by_cases hkl:k<i
    .obtain⟨b',o',eb,hbl',y0,b0,m0,d0,j0,y1,b1,m1,d1,j1,y2,b2,m2,d2,j2,y3,b3,m3,d3,j3,f0,f1,f2,f3,f4,f5,f6,f7,f8,f9,f10,f11,q0,q1,q2,q3⟩:=(HM.out.bel (HT3.out)).el (i:=k) (by rw[<-HN.out];omega);obtain⟨rfl,rfl⟩:b=b'/\o=o':=by cases eb;exact⟨rfl,rfl⟩
     obtain⟨h',hh'⟩:∃h,h=m.getD k hold0:=⟨_,rfl⟩
     have HH':=LH hh';rw[<-hh']at q0 q1 q2 q3;have R0:=LH q0;have R1:=LH q1;have hlt3:wo.heap.size<wr.heap.size:=BlkT.lt ⟨_,_,hblk⟩;clear eb hh' q0 q1 q2 q3 hbr;obtain⟨r0,r1,r2,r3,r4,r5,r6,r7,r8,r9,r10,r11⟩:=row12 hblk;clear hblk r6 r7 r8 r9 r10 r11;have HFI:=LH (HF.out i (by rw[<-HN.out];exact hlt));have HFK:=LH (HF.out k (by rw[<-HN.out];omega));rw[<-HH.out]at HFI;rw[<-HH'.out]at HFK
     go_wp2_with fail
     refine(apart_c (PV.mk (HX.out.pres (Pres.alloc _ _)) (HZ.out.pres (Pres.alloc _ _))) (PV.mk (R0.out.pres (Pres.alloc _ _)) (R1.out.pres (Pres.alloc _ _))) HFI.out.x HFI.out.z HFK.out.x HFK.out.z (by omega)).mono ?_;rintro e w3 ⟨rfl,hb3⟩;have HB4:Hid (Bel w2.heap.size w2 w3):=HB3.out.trans ((Bel.new.trans (hb3.mono (by simp))).mono HB3.out.size);clear hb3 f0 f1 f2 f3 f4 f5 f6 f7 f8 f9 f10 f11 r0 r1 r2 r3 r4 r5
     obtain⟨p,hp⟩:∃p,p=apartB h.x h.z h'.x h'.z:=⟨_,rfl⟩
     have HP:=LH hp;rw[<-hp];clear hp
     cases p
     .have HE:Hid (mapRes m=2):=mapRes_bad (by rw[<-HN.out];exact hlt) (holdOk_near hkl (by rw[<-HH.out,<-HH'.out];exact HP.out.symm));go_wp2;go_ret;exact⟨by rw[HE.out];rfl,HT2.out.trans (HB4.out.mono HT2.out.size)⟩
     .go_wp2
      go_roundg (i-(k+1))
      case rel=>exact⟨k+1,rfl,by omega,by push_cast;rfl,(fun j hj=>by
       rcases Nat.lt_or_ge j k with h|h
       .exact HJ2.out j h
       .obtain rfl:j=k:=by omega
        rw[<-HH'.out];exact HP.out.symm),HB4.out⟩
      case measure=>omega
    .obtain rfl:k=i:=by omega
     have HOK:Hid (holdOk m k=true):=holdOk_good (by rw[<-HH.out];have:0<=ratSign h.b:=HS.out;omega) (by rw[<-HH.out];have:0<=ratSign h.c:=HS2.out;omega) (by rw[<-HH.out];exact HJ2.out);clear hbr hblk;go_wp2
     go_roundg (n-(k+1))
     case rel=>exact⟨k+1,rfl,by omega,by push_cast;rfl,(fun j hj=>by
      rcases Nat.lt_or_ge j k with h|h
      .exact HJ.out j h
      .obtain rfl:j=k:=by omega
       exact HOK.out),HT3.out⟩
     case measure=>omega
  .obtain rfl:i=n:=by omega
   have HE:Hid (mapRes m=0):=mapRes_good (by rw[<-HN.out];exact HJ.out);clear hbr;go_wp2;go_ret;exact⟨by rw[HE.out];rfl,HB.out⟩
theorem checkMap_c {w:World}{ao:Option Addr}{cap L:Nat}{m:List HoldD}{g:Nat->Value}(hm:HoldsV w ao m g)(hF:∀i,i<m.length->HoldF L (m.getD i hold0))(hcap:m.length<=cap)(hL:L<=100000000):
 Calls Tryz.prog 23 #[.slice ao m.length cap] w fun e w'=>e=.returned (.int .i64 (ckMap m))/\Bel w.heap.size w w':=by
 by_cases hn:m.length<1\/64<m.length
 .have HE:Hid (ckMap m=2):=by show _=_;unfold ckMap;rw[if_pos hn]
  rcases hn with hn|hn
  .have d3:decide ((m.length:Int)<1)=true:=by simp;omega
   generalize m.length=n at d3 hn|-;clear hF hm hn
   go_enter Tryz.func23,Tryz.ntmps23
   go_wp2;go_ret;exact⟨by rw[HE.out];rfl,Bel.refl _ _⟩
  .have d3:decide ((m.length:Int)<1)=false:=by simp;omega
   have d4:decide (64<(m.length:Int))=true:=by simp;omega
   generalize m.length=n at d3 d4 hn|-;clear hF hm hn
   go_enter Tryz.func23,Tryz.ntmps23
   go_wp2;go_ret;exact⟨by rw[HE.out];rfl,Bel.refl _ _⟩
 .have e:ckMap m=mapRes m:=by unfold ckMap;rw[if_neg hn]
  rw[e];exact checkMap_loop hm hF hcap hL (by omega) (by omega)
end Go.Proofs.YtlgjakpoaelehaaGreat
