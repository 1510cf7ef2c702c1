/- Contracts and plain laws, merged: RF V1 V2 V4 C0 C1 C3 C2 O7 CF -/
import Derived.OrdersIn
import Derived.OwnWalkIn
import Derived.RangeFuncBound
import Derived.RangeFuncBox
import Derived.RangeFuncCalls
import Derived.RangeFuncLeaves
import Derived.RangeFuncNested
import Derived.StillTail
import Derived.StillTailTactics
import Derived.TacticsIn
import Derived.TacticsInMore
import Derived.Test.YtlgjakpoaelehaaGreatSB11
import Derived.Test.YtlgjakpoaelehaaGreatSB17
namespace Go.Proofs.YtlgjakpoaelehaaGreat
open Go.RowKit
set_option maxRecDepth 100000
set_option maxHeartbeats 4000000
section
structure St (B:Nat) (A C:World):Prop where
 bel:Bel B A C
 cells:∀(k:Nat) (cur:Array Value) (T:TypeId) (fr:Nat×Nat),A.heap[k]?=some (.cells cur T fr)->C.heap[k]?=some (.cells cur T fr)
theorem St.refl (B:Nat)(A:World):St B A A:=⟨Bel.refl _ _,fun _ _ _ _ h=>h⟩
theorem St.trans {B:Nat}{A C D:World}(h:St B A C)(k:St B C D):St B A D:=⟨h.bel.trans k.bel,fun i cur T fr hi=>k.cells i cur T fr (h.cells i cur T fr hi)⟩
theorem St.of_bel {B:Nat}{A C:World}(h:Bel A.heap.size A C)(hB:B<=A.heap.size):St B A C:=⟨h.mono hB,fun k _ _ _ hk=>(h.block k (Array.getElem?_eq_some_iff.1 hk).1).trans hk⟩
theorem St.alloc {B:Nat}{A:World}(hB:B<=A.heap.size)(o:Obj):St B A (A.alloc o):=St.of_bel ((Bel.refl _ _).alloc NL o) hB
theorem St.put {B l:Nat}{A:World}{o:Obj}(hB:B<=l)(h:A.heap[l]?=some o)(ho:o.isCells=false)(o':Obj):St B A (A.putObj l o'):=by
 have hg:=grownBy_putObj' A l o';refine⟨⟨⟨hg.os,hg.tape,hg.output,hg.size,fun k hk=>hg.block k ?_ ?_⟩⟩,fun k cur T fr hk=>?_⟩
 .have:=(Array.getElem?_eq_some_iff.1 h).1;omega
 .intro e;cases e;omega
 .rw[hg.block k (Array.getElem?_eq_some_iff.1 hk).1 (fun e=>by cases e;rw[h]at hk;cases hk;cases ho)];exact hk
theorem St.mono {B B':Nat}{A C:World}(h:St B A C)(hB:B'<=B):St B' A C:=⟨h.bel.mono hB,h.cells⟩
theorem St.pres {B:Nat}{A C:World}(h:St B A C)(T:TypeId):Pres T A C:=fun k cur fr hk=>h.cells k cur T fr hk
def Others (B:Nat)(A C:World):Prop:=A.heap.size<=C.heap.size/\∀(k:Nat) (o:Obj),B<=k->A.heap[k]?=some o->o.isCells=false->C.heap[k]?=some o
theorem Others.of_bel {B:Nat}{A C:World}(h:Bel A.heap.size A C):Others B A C:=⟨h.size,fun k _ _ hk _=>(h.block k (Array.getElem?_eq_some_iff.1 hk).1).trans hk⟩
theorem Others.trans {B:Nat}{A C D:World}(h:Others B A C)(k:Others B C D):Others B A D:=⟨Nat.le_trans h.1 k.1,fun i o hB hi ho=>k.2 i o hB (h.2 i o hB hi ho) ho⟩
section
variable {α : Type} {P : Program}
def SeqM (n:Nat)(P:Program)(g:Nat)(lb:Array Value)(Ok:World->Value->α->Prop)(Kp:World->World->Prop)(M:List α)(w:World):Prop:=
 ∀(l:Nat) (J Jx:List α->World->Prop) (W:World),St w.heap.size w W->(∀s A C,J s A->Bel A.heap.size A C->J s C)->(∀s A C,Jx s A->Bel A.heap.size A C->Jx s C)->
  (∀pre v x W1,J pre W1->Ok W1 v x->pre++[x]<+:M->YieldAt Fence.wide (n-1) P l #[v] W1 fun e W'=>
   (e=.returned (.bool true)/\J (pre++[x]) W'/\Kp W1 W')\/(e=.returned (.bool false)/\Jx (pre++[x]) W'))->
  J [] W->
  CallsIn Fence.wide n P g (#[.func (.yield l) #[] #[]]++lb) W fun e W'=>(∃v,e=.returned v)/\((∃xs,xs=M/\J xs W')\/(∃pre,pre<+:M/\Jx pre W'))
def roundQ (B:Nat)(Kp:World->World->Prop)(I:List α->World->Prop)(Ix:Code->List α->World->Prop)(xs:List α)(W:World):Exit->Act->World->Prop
 | .normal,_,W'=>Others B W W'/\Kp W W'/\I xs W'
 | .ret,_,W'=>Others B W W'/\Ix .ret xs W'
 | .exit id,_,W'=>Others B W W'/\Ix (.exit id) xs W'
 | .goto t,_,W'=>Others B W W'/\Ix (.goto t) xs W'
 | .panic _,_,_=>False
 | .outgrown,_,_=>False
theorem rangeM {n:Nat}{g:Operand}{p:Tmp}{assign body:Code}{Q:Exit->Act->World->Prop}{a:Act}{w:World}{gf:Nat}{lb:Array Value}
 (hg:a.eval g=.func (.func gf) #[] lb) (eg:∀args w,(callFunc gf args).run P w=.ok (.enter gf args) w)
 {Ok:World->Value->α->Prop} {Kp:World->World->Prop} {M:List α} (hseq:SeqM (n-1) P gf lb Ok Kp M w)
 (hOk:∀A C v x,Ok A v x->St w.heap.size A C->Ok C v x) (hKt:∀{A B C:World},Kp A B->Kp B C->Kp A C) (hKs:∀{A C:World},St w.heap.size A C->Kp A C)
 (I:List α->World->Prop) (Ix:Code->List α->World->Prop) (hI:∀s A C,I s A->St w.heap.size A C->I s C) (hIx:∀c s A C,Ix c s A->St w.heap.size A C->Ix c s C) (h0:I [] w)
 (Ax:Value->Act->World->Prop) (hAx:∀v a' A C,Ax v a' A->St w.heap.size A C->Ax v a' C)
 (hassign:∀(l:Nat) (pre:List α) (v:Value) (x:α) (W:World) (K:Act->World->Prop),I pre W->Ok W v x->(∀a' W',Bel W.heap.size W W'->Ax v a' W'->K a' W')->
  assign.wpIn (Fence.wide.inRound l) (n-1-1) P (Exit.then K (fun _ _ _=>False)) {tmps:=a.tmps.setIfInBounds p v,defers:=[]} W)
 (hbody:∀(l:Nat) (pre:List α) (v:Value) (x:α) (a':Act) (W:World),I pre W->Ok W v x->Ax v a' W->pre++[x]<+:M->body.wpIn (Fence.wide.inRound l) (n-1-1) P (roundQ w.heap.size Kp I Ix (pre++[x]) W) a' W)
 (hdone:∀(D:Nat) (xs:List α) (W:World),w.heap.size<=D->xs=M->I xs W->W.heap[D]?=some (.deferred (some []))->Q .normal {a with defers:={target:=.collected D,args:=#[]}::a.defers} W)
 (hstop:∀(D:Nat) (c:Code) (pre:List α) (W:World),w.heap.size<=D->pre<+:M->Ix c pre W->W.heap[D]?=some (.deferred (some []))->c.wpIn Fence.wide n P Q {a with defers:={target:=.collected D,args:=#[]}::a.defers} W):
 (Code.rangeFunc g #[p] assign body).wpIn Fence.wide n P Q a w:=by
 refine wpIn_rangeFunc ?_;intro fn hfn;obtain⟨rec,hrec⟩:∃rec:LoopState->Option Code->Loop,rec=fun st pe=>{state:=st,pending:=pe,fn,tmps:=a.tmps,params:=#[p],assign,body,defers:=w.heap.size}:=⟨_,rfl⟩
 obtain⟨W1,hW1⟩:∃W1,(w.alloc (.deferred (some []))).alloc (.loop (rec .ready none))=W1:=⟨_,rfl⟩
 have hL1:W1.heap[w.heap.size+1]?=some (.loop (rec .ready none)):=by rw[<-hW1];exact heap_new _ _ (by simp)
 have hK1:W1.heap[w.heap.size]?=some (.deferred (some [])):=by rw[<-hW1];exact(heap_old _ _ (by simp)).trans (heap_new _ _ rfl)
 have hs1:St w.heap.size w W1:=by rw[<-hW1];exact(St.alloc NL _).trans (St.alloc (by simp) _)
 refine⟨w.heap.size+1,[{target:=.collected w.heap.size,args:=#[]}],W1,{target:=.fn (.func gf) lb,args:=#[.func (.yield (w.heap.size+1)) #[] #[]]},W1,gf,
  #[.func (.yield (w.heap.size+1)) #[] #[]]++lb,W1,?_,?_,fun _ _=>trivial,?_,fun h=>(by cases h),?_⟩
 .rw[<-hW1,hrec];exact run_enterLoop_outer _ _ _ _ _
 .simp only[resolve,hg];simp[go_sem]
 .simp[invoke,go_sem,eg]
 refine(hseq (w.heap.size+1)
  (fun pre W=>I pre W/\W.heap[w.heap.size+1]?=some (.loop (rec .ready none))/\W.heap[w.heap.size]?=some (.deferred (some [])))
  (fun pre W=>∃c,Ix c pre W/\W.heap[w.heap.size+1]?=some (.loop (rec .done (some c)))/\W.heap[w.heap.size]?=some (.deferred (some [])))
  W1 hs1 ?_ ?_ ?_ ⟨hI _ _ _ h0 hs1,hL1,hK1⟩).mono ?_
 .rintro s A C ⟨h1,h2,h3⟩ hb;have hlt:=(Array.getElem?_eq_some_iff.1 h2).1;exact⟨hI _ _ _ h1 (St.of_bel hb (by omega)),(hb.block _ hlt).trans h2,(hb.block _ (by omega)).trans h3⟩
 .rintro s A C ⟨c,h1,h2,h3⟩ hb;have hlt:=(Array.getElem?_eq_some_iff.1 h2).1;exact⟨c,hIx _ _ _ _ h1 (St.of_bel hb (by omega)),(hb.block _ hlt).trans h2,(hb.block _ (by omega)).trans h3⟩
 .rintro pre v x W ⟨hi,hl,hk⟩ hok hpx;have hlt:=(Array.getElem?_eq_some_iff.1 hl).1;have hy:=run_yield (P:=P) (args:=#[v]) hl (by rw[hrec];rfl);rw[hrec]at hy;have hz:((#[p].zip #[v]).foldl (fun tmps (x:Tmp×Value)=>tmps.setIfInBounds x.1 x.2) a.tmps)=a.tmps.setIfInBounds p v:=by simp
  refine⟨fn,_,assign,body,hy,roundIn_of_wpIn hfn ?_⟩;refine cast (congrArg (fun tm=>assign.wpIn (Fence.wide.inRound (w.heap.size+1)) (n-1-1) P _ {tmps:=tm,defers:=[]} W) hz.symm) (hassign _ pre v x W _ hi hok ?_);clear hy;intro a' Wa hba hax;have hla:=(hba.block _ hlt).trans hl;have hka:=(hba.block _ (show w.heap.size<W.heap.size by omega)).trans hk;have hsa:St w.heap.size W Wa:=St.of_bel hba (by omega)
  have hlta:=(Array.getElem?_eq_some_iff.1 hla).1;refine⟨_,run_beginRound hla (by rw[hrec]),?_⟩;obtain⟨Wb,hWb⟩:∃Wb,Wb=Wa.putObj (w.heap.size+1) (.loop {rec .ready none with state:=.busy}):=⟨_,rfl⟩
  have hsb:St w.heap.size Wa Wb:=by rw[hWb];exact St.put (by omega) hla rfl _
  have hl2:Wb.heap[w.heap.size+1]?=some (.loop {rec .ready none with state:=.busy}):=by rw[hWb];exact World.putObj_heap_same hlta
  have hk2:Wb.heap[w.heap.size]?=some (.deferred (some [])):=by rw[hWb];exact(World.putObj_heap_other (by omega)).trans hka
  rw[<-hWb];refine wpIn_mono (hbody _ pre v x a' Wb (hI _ _ _ hi (hsa.trans hsb)) (hOk _ _ _ _ hok (hsa.trans hsb)) (hAx _ _ _ _ hax hsb) hpx) ?_
  have fin:∀(jump:Option Code) (W3:World),Others w.heap.size Wb W3->
   (Instr.endRound (w.heap.size+1) jump).run P W3=.ok (.bool jump.isNone) (W3.putObj (w.heap.size+1) (.loop (rec (if jump.isNone then .ready else .done) jump)))/\
   (W3.putObj (w.heap.size+1) (.loop (rec (if jump.isNone then .ready else .done) jump))).heap[w.heap.size+1]?=some (.loop (rec (if jump.isNone then .ready else .done) jump))/\
   (W3.putObj (w.heap.size+1) (.loop (rec (if jump.isNone then .ready else .done) jump))).heap[w.heap.size]?=some (.deferred (some []))/\
   St w.heap.size W3 (W3.putObj (w.heap.size+1) (.loop (rec (if jump.isNone then .ready else .done) jump))):=fun jump W3 ho=>by
   have hl3:=ho.2 _ _ (by omega) hl2 rfl;have hr:=run_endRound (P:=P) jump hl3;refine⟨?_,World.putObj_heap_same (Array.getElem?_eq_some_iff.1 hl3).1,(World.putObj_heap_other (by omega)).trans (ho.2 _ _ NL hk2 rfl),St.put (by omega) hl3 rfl _⟩;rw[hrec]at hr|-;exact hr
  rintro e a3 W3 hp
  cases e with
  |normal=>
   obtain⟨ho,hkp,hi3⟩:=hp;obtain⟨hr,hl4,hk4,hs4⟩:=fin none W3 ho;exact⟨_,_,hr,.inl ⟨rfl,⟨hI _ _ _ hi3 hs4,hl4,hk4⟩,hKt (hKs (hsa.trans hsb)) (hKt hkp (hKs hs4))⟩⟩
  |ret=>
   obtain⟨ho,hi3⟩:=hp;obtain⟨hr,hl4,hk4,hs4⟩:=fin (some .ret) W3 ho;exact⟨_,_,hr,.inr ⟨rfl,.ret,hIx _ _ _ _ hi3 hs4,hl4,hk4⟩⟩
  |exit id=>
   obtain⟨ho,hi3⟩:=hp;obtain⟨hr,hl4,hk4,hs4⟩:=fin (some (.exit id)) W3 ho;exact⟨_,_,hr,.inr ⟨rfl,.exit id,hIx _ _ _ _ hi3 hs4,hl4,hk4⟩⟩
  |goto t=>
   obtain⟨ho,hi3⟩:=hp;obtain⟨hr,hl4,hk4,hs4⟩:=fin (some (.goto t)) W3 ho;exact⟨_,_,hr,.inr ⟨rfl,.goto t,hIx _ _ _ _ hi3 hs4,hl4,hk4⟩⟩
  |panic ch=>exact hp.elim
  |outgrown=>exact hp.elim
 .rintro e W2 ⟨⟨v,rfl⟩,(⟨xs,hS,hi,hl,hk⟩|⟨pre,hSp,c,hi,hl,hk⟩)⟩
  .have hr:=run_endLoop (P:=P) hl (by rw[hrec];simp);have hs2:=St.put (o':=.loop {rec .ready none with state:=.exhausted}) (show w.heap.size<=w.heap.size+1 by omega) hl rfl;have hk2:(W2.putObj (w.heap.size+1) (.loop {rec .ready none with state:=.exhausted})).heap[w.heap.size]?=some (.deferred (some [])):=(World.putObj_heap_other (by omega)).trans hk;have hd:=hdone _ xs _ NL hS (hI _ _ _ hi hs2) hk2
   rw[hrec]at hr hd;exact⟨none,_,hr,hd⟩
  .have hr:=run_endLoop (P:=P) hl (by rw[hrec];simp);have hs2:=St.put (o':=.loop {rec .done (some c)with state:=.exhausted}) (show w.heap.size<=w.heap.size+1 by omega) hl rfl;have hk2:(W2.putObj (w.heap.size+1) (.loop {rec .done (some c)with state:=.exhausted})).heap[w.heap.size]?=some (.deferred (some [])):=(World.putObj_heap_other (by omega)).trans hk;have hd:=hstop _ c pre _ NL hSp (hIx _ _ _ _ hi hs2) hk2
   rw[hrec]at hr hd;exact⟨some c,_,hr,hd⟩
end
end
structure MoveD where
 dst:StateD
 cost:Rat
def MoveV (w:World)(v:Value)(m:MoveD):Prop:=∃(hv:Value) (x:Bool) (a:Option Addr) (n:Nat) (c:Option Addr) (k:Nat),v=.agg #[.int .i64 m.dst.phase,hv,.bool x,.slice a n n,.slice c k k]/\IntsV w hv m.dst.holds/\QV w (.agg #[.bool x,.slice a n n,.slice c k k]) m.cost
theorem MoveV.pres {w w':World}{v:Value}{m:MoveD}(h:MoveV w v m)(h1:Pres 3 w w')(h2:Pres 232 w w'):MoveV w' v m:=by
 obtain⟨hv,x,a,n,c,k,e,hi,hq⟩:=h;exact⟨hv,x,a,n,c,k,e,hi.pres h1,hq.pres h2⟩
def nextP (p:ProbD)(s:StateD):Int:=(((s.phase.toNat+1)%p.word.length:Nat):Int)
def legOf (p:ProbD)(s:StateD):Int:=evt p.word s.phase.toNat
def fromH (p:ProbD)(s:StateD):HoldD:=holdN p (s.holds.getD (legOf p s-1).toNat 0)
def dX (p:ProbD)(s:StateD)(i:Nat):Rat:=(p.map.getD i hold0).x-(fromH p s).x
def dZ (p:ProbD)(s:StateD)(i:Nat):Rat:=(p.map.getD i hold0).z-(fromH p s).z
def farB (p:ProbD)(s:StateD)(i:Nat):Bool:=decide (0<cmpR (ratAbs (dX p s i)) p.walker.long)||(decide (0<cmpR (dZ p s i) p.walker.up)||decide (0<cmpR (-(dZ p s i)) p.walker.down))
def toS (p:ProbD)(s:StateD)(i:Nat):StateD:=⟨nextP p s,s.holds.set (legOf p s-1).toNat i⟩
def rise (q:Rat):Rat:=if gtB 0 q then 0 else q
def costL (p:ProbD)(s:StateD)(i:Nat):List Rat:=[p.walker.perPhase,p.walker.perLength*ratAbs (dX p s i),p.walker.perRise*rise (dZ p s i),(p.map.getD i hold0).c]
def costQ (p:ProbD)(s:StateD)(i:Nat):Rat:=sumQ (fun j=>(costL p s i).getD j 0) 4
def movesK (p:ProbD)(s:StateD):Nat->List MoveD
 |0=>[]
 |i+1=>if !farB p s i && standsB p (toS p s i) then movesK p s i++[⟨toS p s i,costQ p s i⟩] else movesK p s i
def movesL (p:ProbD)(s:StateD):List MoveD:=
 if legOf p s<0 then(if standsB p ⟨nextP p s,s.holds⟩ then[⟨⟨nextP p s,s.holds⟩,p.walker.perPhase⟩] else[]) else movesK p s p.map.length
def KpI (A C:World):Prop:=A.heap.size<=C.heap.size/\∀T,T∈[3,232,5,97,44,88,95,39]->Pres T A C
theorem KpI.trans {A B C:World}(h:KpI A B)(k:KpI B C):KpI A C:=⟨Nat.le_trans h.1 k.1,fun T hT=>(h.2 T hT).trans (k.2 T hT)⟩
theorem KpI.of_bel {A C:World}(h:Bel A.heap.size A C):KpI A C:=⟨h.size,fun _T _=>Pres.below h.toBelow⟩
theorem KpI.of_st {B:Nat}{A C:World}(h:St B A C):KpI A C:=⟨h.bel.size,fun T _=>h.pres T⟩
theorem HoldsV.keep {w w':World}{ao:Option Addr}{m:List HoldD}{g:Nat->Value}(h:HoldsV w ao m g)(h1:Pres 97 w w')(h2:Pres 232 w w'):HoldsV w' ao m g:=
 ⟨h.cells.pres h1,fun i hi=>(h.at' i hi).pres h2⟩
theorem PVal.keep {w w':World}{pv:Value}{p:ProbD}(h:PVal w pv p)(k:KpI w w'):PVal w' pv p:=by
 obtain⟨g,e,⟨mo,mc,mg,e0,hc,hm⟩,h2,h3,h4,h5,h6⟩:=h;have p1:=k.2 3 (by simp);have p2:=k.2 232 (by simp);have p3:=k.2 5 (by simp);have p4:=k.2 97 (by simp);exact⟨g,e,⟨mo,mc,mg,e0,hc,hm.keep p4 p2⟩,h2.pres p2,h3.pres p3,h4.pres p1,h5.pres p1,h6.pres p2⟩
structure Fine (p:ProbD) (s:StateD):Prop where
 world:worldB p=true
 lo:0<=s.phase
 hi:s.phase<(p.word.length:Int)
 holds:holdsB p s.holds=true
theorem Fine.len {p:ProbD}{s:StateD}(h:Fine p s):s.holds.length<=4/\2<=p.word.length/\p.word.length<=16/\(s.holds.length:Int)=p.walker.legs:=by
 have h1:=holdsB_len h.holds h.world;have h2:=h.world;have h3:=h.holds;unfold worldB at h2;unfold holdsB at h3;simp only[Bool.and_eq_true,decide_eq_true_eq]at h2 h3;have:=ckWord_zero h2.2;omega
theorem moves_neg {n l Bs Bp L:Nat}{W:World}{pv hv:Value}{p:ProbD}{s:StateD}{J Jx:List MoveD->World->Prop}(hfi:Fine p s)(hF:ProbF L p)(h1L:1<=L)(hp:PVal W pv p)(hh:IntsV W hv s.holds)
 (hs:W.heap[Bs]?=some (.cells #[.int .i64 s.phase,hv] 88)) (hb:∀cs,pv=.agg cs->W.heap[Bp]?=some (.cells cs 44))
 (hJ:∀s A C,J s A->Bel A.heap.size A C->J s C)
 (hY:∀pre v x W1,J pre W1->MoveV W1 v x->pre++[x]<+:movesL p s->YieldAt Fence.wide (n-1) Tryz.prog l #[v] W1 fun e W'=>(e=.returned (.bool true)/\J (pre++[x]) W'/\KpI W1 W')\/(e=.returned (.bool false)/\Jx (pre++[x]) W'))
 (h0:J [] W) (hneg:legOf p s<0):
 CallsIn Fence.wide n Tryz.prog 146 #[.func (.yield l) #[] #[],.pointer (some ⟨Bs,0,none⟩),.pointer (some ⟨Bp,0,none⟩)] W fun e W'=>(∃v,e=.returned v)/\((∃xs,xs=movesL p s/\J xs W')\/(∃pre,pre<+:movesL p s/\Jx pre W')):=by
 have hML:movesL p s=if standsB p ⟨nextP p s,s.holds⟩ then[⟨⟨nextP p s,s.holds⟩,p.walker.perPhase⟩] else[]:=by unfold movesL;rw[if_pos hneg]
 have HP:=LH hp;have HH:=LH hh;have HFI:=LH hfi;have HF:=LH hF;have HJ:=LH hJ;have HY:=LH hY;have HML:=LH hML;have HN:=LH hneg;obtain⟨hl4,hw2,hw16,hlegs⟩:=hfi.len;obtain⟨ph,hph⟩:∃ph:Nat,s.phase=ph:=⟨s.phase.toNat,by have:=hfi.lo;omega⟩
 have hpl:ph<p.word.length:=by have:=hfi.hi;omega
 have HPL:=LH hpl;have HPH:=LH hph;have hleg:legOf p s=evt p.word ph:=by unfold legOf;rw[hph];rfl
 obtain⟨g,mo,mc,wo,wc,so,sc,go,gc,rfl,-,-,hwd,-,-,-⟩:=hp.lit;have hk:=hb _ rfl;obtain⟨lo,lc,rfl,hlc,-⟩:=id hh;have HWD:=LH hwd;have HL:=LH hleg;obtain⟨nx,hnx⟩:∃nx,nx=(ph+1)%p.word.length:=⟨_,rfl⟩
 have hnxi:((ph:Int)+1).tmod (p.word.length:Int)=(nx:Nat):=by rw[Int.tmod_eq_emod_of_nonneg (by omega),hnx];push_cast;rfl
 have HNX:Hid (nextP p s=(nx:Int)):=by show _=_;unfold nextP;rw[hph,hnx];rfl
 have HNL:Hid (nx<p.word.length):=by show _<_;rw[hnx];exact Nat.mod_lt _ (by omega)
 rw[hph]at hs;have HK:=LH hk;have HS:=LH hs;obtain⟨s0,s1,-,-⟩:=row2 hs;obtain⟨-,-,-,-,-,-,-,-,-,-,-,-,-,-,-,-,-,-,-,-,-,-,-,-,-,-,e26,-,-,-,-,-⟩:=row32 hk;have hbs:=BlkT.lt ⟨_,_,hs⟩;have hbp:=BlkT.lt ⟨_,_,hk⟩;clear hp hh hfi hF hJ hY hML hneg hb hk hs hph hnx hleg hwd;refine callsIn_wide.2 ?_;generalize HQ:(fun(e:Ending) (W':World)=>(∃v,e=Ending.returned v)/\((∃xs,xs=movesL p s/\J xs W')\/(∃pre,pre<+:movesL p s/\Jx pre W')))=Qp
 go_enter Tryz.func146,Tryz.ntmps146
 go_wp2_with fail
 refine(event_c HWD.out HPL.out hw16).mono ?_;rintro e w9 ⟨rfl,rfl⟩;rw[<-HL.out];have d0:decide (legOf p s<0)=true:=decide_eq_true HN.out;clear e26
 go_wp2_with fail
 refine(cloneI_c (f:=intCells s.holds) (by
  obtain⟨lo',lc',e',_,hx⟩:=HH.out;obtain⟨rfl,rfl⟩:lo=lo'/\lc=lc':=by cases e';exact⟨rfl,rfl⟩
  exact hx) (fun _=>rfl) (by omega)).mono ?_
 rintro e w1 ⟨v1,rfl,ho1,hb1⟩;obtain⟨co,cc,rfl,hcc,hcx⟩:=ho1.cells;rw[Nat.mul_one]at hcx;have HC1:Hid (IntsV w1 (.slice co s.holds.length cc) s.holds):=⟨co,cc,rfl,hcc,hcx⟩
 have HB1:=LH hb1;have HS1:=LH ((hb1.block _ hbs).trans HS.out);have HK1:=LH ((hb1.block _ hbp).trans HK.out);have hz1:=hb1.size;clear hb1 ho1 hcx
 go_upto_region 4 with fail
 obtain⟨W2,hW2⟩:∃W2,W2=w1.alloc (.cells #[.int .i64 nx,.slice co s.holds.length cc] 88):=⟨_,rfl⟩
 have HB2:Hid (Bel W.heap.size W W2):=by show Bel _ _ _;rw[hW2];exact HB1.out.alloc hz1 _
 have hk62:=at_world hW2 (b:=w1.heap.size) (heap_new _ _ rfl);have hlt6:w1.heap.size<W2.heap.size:=by rw[hW2];simp
 have HK2:=LH ((HB2.out.block _ hbp).trans HK.out);have HC2:Hid (IntsV W2 (.slice co s.holds.length cc) s.holds):=by show IntsV _ _ _;rw[hW2];exact HC1.out.pres (Pres.alloc _ _)
 rw[<-hW2];have HLD:=LH (loadP_range HK2.out);have HK62:=LH hk62;obtain⟨t0,t1,-,-⟩:=row2 hk62;clear hW2 hk62
 go_wp2_with (refine wpList_load_g 44 (.tmp 2) rfl _ _ rfl _ _ HLD.out Tryz.underlying44 rfl (by kernel_rfl) rfl ?_)
 have hst:StateV W2 (.agg #[.int .i64 nx,.slice co s.holds.length cc]) ⟨nextP p s,s.holds⟩:=⟨.slice co s.holds.length cc,by rw[HNX.out],HC2.out⟩
 refine(standsC_holds _ _ _ _ ⟨nextP p s,s.holds⟩ _ (HP.out.bel HB2.out) hst HF.out h1L HFI.out.world (by rw[HNX.out];exact Int.natCast_nonneg _) (by rw[HNX.out];have:=HNL.out;show(nx:Int)<_;omega) HFI.out.holds).mono ?_;rintro e w3 ⟨rfl,hb3⟩;have HB3:Hid (Bel W.heap.size W w3):=HB2.out.trans (hb3.mono HB2.out.size);have HK3:=LH ((hb3.block _ (by have:=HB2.out.size;omega)).trans HK2.out);have hk63:=(hb3.block _ hlt6).trans HK62.out
 have HC3:Hid (IntsV w3 (.slice co s.holds.length cc) s.holds):=HC2.out.pres hb3.pb;have HM:=HML.out;clear hb3 hst t0 t1 HLD;obtain⟨q,hq⟩:∃q,q=standsB p ⟨nextP p s,s.holds⟩:=⟨_,rfl⟩
 rw[<-hq]at HM|-;have HM2:=LH HM;clear HM hq
 cases q
 .have HE:Hid (movesL p s=[]):=by show _=_;rw[HM2.out];rfl
  go_wp2;refine bodyPost_ret (results_none rfl _ _ _) rfl ?_;rw[<-HQ];exact⟨⟨_,rfl⟩,.inl ⟨_,rfl,by rw[HE.out];exact HJ.out _ _ _ h0 HB3.out⟩⟩
 .have HE:Hid (movesL p s=[⟨⟨nextP p s,s.holds⟩,p.walker.perPhase⟩]):=by show _=_;rw[HM2.out];rfl
  go_upto_region 5 with fail
  have hqp:QV w3 (.agg #[g 23,g 24,g 25]) p.walker.perPhase:=by
   obtain⟨g',mo',mc',wo',wc',so',sc',go',gc',e',-,hk',-,-,-,-⟩:=(HP.out.bel HB3.out).lit;have hq:=hk'.perPhase;simp only[Value.agg.injEq,Array.mk.injEq,List.cons.injEq]at e';obtain⟨-,-,-,-,-,-,-,-,-,-,-,-,-,-,-,-,-,-,-,-,-,-,-,e23,e24,e25,-⟩:=e';rw[e23,e24,e25];exact hq
  obtain⟨x8,a8,n8,c8,k8,e8⟩:=hqp.cells
  have hmv:MoveV w3 (.agg #[.int .i64 nx,.slice co s.holds.length cc,.bool x8,.slice a8 n8 n8,.slice c8 k8 k8]) ⟨⟨nextP p s,s.holds⟩,p.walker.perPhase⟩:=
   ⟨_,x8,a8,n8,c8,k8,by rw[HNX.out],HC3.out,by rw[<-e8];exact hqp⟩
  obtain⟨fn,tmps,assign,body,hy,hR⟩:=HY.out [] _ _ w3 (HJ.out _ _ _ h0 HB3.out) hmv (by rw[HE.out];exact List.prefix_refl _);simp only[Value.agg.injEq,Array.mk.injEq,List.cons.injEq,and_true]at e8;obtain⟨e23',e24',e25'⟩:=e8;obtain⟨-,-,-,-,-,-,-,-,-,-,-,-,-,-,-,-,-,-,-,-,-,-,-,e23,e24,e25,-,-,-,-,-,-⟩:=row32 HK3.out;rw[e23']at e23;rw[e24']at e24;rw[e25']at e25;obtain⟨t0,t1,-,-⟩:=row2 hk63;have hbp3:=BlkT.lt ⟨_,_,HK3.out⟩
  have HR:=LH hR;clear hqp hmv hR e23' e24' e25' hk63;refine(wpIn_wide (n:=n)).1 ?_
  gi_wp2
  refine⟨fun h=>(by cases h),?_⟩;refine HR.out.mono ?_;rintro e w4 (⟨rfl,hj,-⟩|⟨rfl,hj⟩)
  .have HX:=LH hj;clear hj t0 t1 e23 e24 e25
   gi_wp2
   go_wp2;refine bodyPost_ret (results_none rfl _ _ _) rfl ?_;rw[<-HQ];exact⟨⟨_,rfl⟩,.inl ⟨_,rfl,by rw[HE.out];exact HX.out⟩⟩
  .have HX:=LH hj;clear hj t0 t1 e23 e24 e25
   gi_wp2
   go_wp2;refine bodyPost_ret (results_none rfl _ _ _) rfl ?_;rw[<-HQ];exact⟨⟨_,rfl⟩,.inr ⟨[⟨⟨nextP p s,s.holds⟩,p.walker.perPhase⟩],by rw[HE.out];exact List.prefix_refl _,HX.out⟩⟩
theorem tz_lt {t l:Nat}(ht:t<256)(h1:Lib.onesCount t=1)(hl:t/2^l=0)(h4:l<=4):Lib.trailingZeros8 t<l:=by
 have:∀t:Fin 256,∀l:Fin 5,Lib.onesCount t.val=1->t.val/2^l.val=0->Lib.trailingZeros8 t.val<l.val:=by decide+kernel
 exact this ⟨t,ht⟩ ⟨l,by omega⟩ h1 hl
theorem evt_leg {legs:Int}{W:List Nat}(h:ckWord legs W=0)(hW:∀k,W.getD k 0<256){k:Nat}(hk:k<W.length):∃j:Nat,j<legs.toNat/\(evt W k=(j:Int)+1\/evt W k=-((j:Int)+1)):=by
 have hz:=ckWord_zero h;have h1:=ckWord_ph h hk;have h2:=ckWord_ph h (Nat.mod_lt (k+1) (show 0<W.length by omega));unfold phOk at h1 h2;simp only[Bool.and_eq_true,Bool.not_eq_true',beq_eq_false_iff_ne,beq_iff_eq]at h1 h2;have hx:=hW k;have hy:=hW ((k+1)%W.length)
 have e1:W.getD k 0<2^legs.toNat:=by
  rcases Nat.div_eq_zero_iff.1 h1.1.2 with h0|h0
  .have:=Nat.two_pow_pos legs.toNat;omega
  .exact h0
 have e2:W.getD ((k+1)%W.length) 0<2^legs.toNat:=by
  rcases Nat.div_eq_zero_iff.1 h2.1.2 with h0|h0
  .have:=Nat.two_pow_pos legs.toNat;omega
  .exact h0
 refine⟨Lib.trailingZeros8 (W.getD k 0 ^^^ nxt W k),tz_lt (Nat.xor_lt_two_pow (n:=8) hx hy) h1.2 (Nat.div_eq_of_lt (Nat.xor_lt_two_pow e1 e2)) (by omega),?_⟩;unfold evt;dsimp only;split
 .exact .inl rfl
 .exact .inr rfl
theorem OwnS.open {T:TypeId}{base:Nat}{w:World}{v:Value}{n:Nat}{f:Nat->Value}(h:OwnS T 1 base w v n f)(h0:0<n):
 ∃g cap cur,v=.slice (some ⟨g,0,none⟩) n cap/\base<=g/\n<=cap/\w.heap[g]?=some (.cells cur T (0,0))/\∀k,k<n->cur[k]?=some (f k):=by
 obtain⟨xs,h1,h2⟩:=h;rcases h1.2 with⟨rfl,rfl⟩|⟨g,cap,cur,rfl,hg,hh,hn,hcap,hsz,ht⟩
 .have:=h1.1;simp at this;omega
 .refine⟨g,cap,cur,rfl,hg,hn,hh,fun k hk=>?_⟩;have:=h2 k (by omega);rw[<-ht,List.getElem?_take_of_lt (by omega)]at this
  simpa using this
theorem CellsAt.setOwn {T:TypeId}{w:World}{g n j:Nat}{cur:Array Value}{f:Nat->Value}{u:Value}(hh:w.heap[g]?=some (.cells cur T (0,0)))(hc:∀k,k<n->cur[k]?=some (f k)):
 CellsAt T (w.setCell ⟨g,j,none⟩ u) (some ⟨g,0,none⟩) n (fun k=>if k=j then u else f k):=by
 refine CellsAt.of_block (cur:=cur.setIfInBounds j u) (fr:=(0,0)) (off:=0) ?_ ?_
 .simp[World.setCell,Array.getElem?_modify,hh]
 .intro k hk;rw[Nat.zero_add,Array.getElem?_setIfInBounds];have:=hc k hk;have hlt:=(Array.getElem?_eq_some_iff.1 this).1
  by_cases e:j=k
  .subst e;simp[hlt]
  .rw[if_neg e,if_neg (Ne.symm e)];exact this
theorem intCells_set (E:List Int)(j:Nat)(y:Int)(k:Nat)(hk:k<E.length):(if k=j then Value.int .i64 y else intCells E k)=intCells (E.set j y) k:=by
 unfold intCells;rw[getD_get hk,getD_get (by rw[List.length_set];exact hk),List.getElem_set]
 by_cases e:j=k
 .subst e;simp
 .rw[if_neg e,if_neg (Ne.symm e)]
theorem movesK_far {p:ProbD}{s:StateD}{i:Nat}(h:farB p s i=true):movesK p s (i+1)=movesK p s i:=by
 rw[movesK,h];rfl
theorem movesK_not {p:ProbD}{s:StateD}{i:Nat}(h:standsB p (toS p s i)=false):movesK p s (i+1)=movesK p s i:=by
 rw[movesK,h];simp
theorem movesK_yes {p:ProbD}{s:StateD}{i:Nat}(h:farB p s i=false)(h2:standsB p (toS p s i)=true):movesK p s (i+1)=movesK p s i++[⟨toS p s i,costQ p s i⟩]:=by
 rw[movesK,h,h2];rfl
theorem movesK_prefix {p:ProbD}{s:StateD}{i:Nat}:∀{n},i<=n->movesK p s i<+:movesK p s n
 |0,h=>by obtain rfl:i=0:=by omega
          exact List.prefix_refl _
 |n+1,h=>by
  by_cases e:i=n+1
  .rw[e];exact List.prefix_refl _
  .refine(movesK_prefix (n:=n) (by omega)).trans ?_;rw[movesK];split
   .exact List.prefix_append _ _
   .exact List.prefix_refl _
theorem QS.four {w:World}{b:Nat}{v0 v1 v2 v3 v4 v5 v6 v7 v8 v9 v10 v11:Value}{x y z u:Rat}(hb:w.heap[b]?=some (.cells #[v0,v1,v2,v3,v4,v5,v6,v7,v8,v9,v10,v11] 39))(h0:QV w (.agg #[v0,v1,v2]) x)(h1:QV w (.agg #[v3,v4,v5]) y)(h2:QV w (.agg #[v6,v7,v8]) z)(h3:QV w (.agg #[v9,v10,v11]) u):
 QS w (some ⟨b,0,none⟩) 4 (fun j=>[x,y,z,u].getD j 0):=
 QS.lit hb rfl fun i hi=>by
  match i,hi with
  |0,_=>exact h0
  |1,_=>exact h1
  |2,_=>exact h2
  |3,_=>exact h3
theorem QF.four {L:Nat}{x y z u:Rat}(h0:QF L x)(h1:QF L y)(h2:QF L z)(h3:QF L u):∀i,i<4->QF L ((fun j=>[x,y,z,u].getD j 0) i):=fun i hi=>by
 match i,hi with
 |0,_=>exact h0
 |1,_=>exact h1
 |2,_=>exact h2
 |3,_=>exact h3
theorem QF.rise {L:Nat}{q:Rat}(h:QF L q)(h1:1<=L):QF L (rise q):=by
 unfold Go.Proofs.YtlgjakpoaelehaaGreat.rise;split
 .exact QF.zero _ h1
 .exact h
theorem PV.cells {w:World}{v:Value}{x z:Rat}(h:PV w v x z):∃(x0:Bool) (a0:Option Addr) (n0:Nat) (c0:Option Addr) (k0:Nat) (x1:Bool) (a1:Option Addr) (n1:Nat) (c1:Option Addr) (k1:Nat),
 v=.agg #[.bool x0,.slice a0 n0 n0,.slice c0 k0 k0,.bool x1,.slice a1 n1 n1,.slice c1 k1 k1]/\QV w (.agg #[.bool x0,.slice a0 n0 n0,.slice c0 k0 k0]) x/\QV w (.agg #[.bool x1,.slice a1 n1 n1,.slice c1 k1 k1]) z:=by
 obtain⟨m1,l1,m2,l2,rfl,h1,h2⟩:=h;obtain⟨b1,a1,n1,c1,k1,e1⟩:=h1.cells;obtain⟨b2,a2,n2,c2,k2,e2⟩:=h2.cells;rw[e1]at h1;rw[e2]at h2;simp only[Value.agg.injEq,Array.mk.injEq,List.cons.injEq,and_true]at e1 e2;obtain⟨e10,e11,e12⟩:=e1;obtain⟨e20,e21,e22⟩:=e2;exact⟨b1,a1,n1,c1,k1,b2,a2,n2,c2,k2,by rw[e10,e11,e12,e20,e21,e22],h1,h2⟩
theorem wpListIn_load_g {n:Nat}{ops:Array Oper}{rest:List Oper}{op:Oper}{a:Act}{w:World}{Q:Exit->Act->World->Prop}(ty:TypeId)(x:Operand)(ho:op.op=.load ty x)
 (b o:Nat) (hx:a.eval x=.pointer (some ⟨b,o,none⟩)) (cs:List Value) (d:TypeDesc) (hc:w.rangeAt b o cs)
 (hu:Tryz.prog.underlying ty=some d) (hd:d.isRow=true) (hi:(Tryz.prog.info? ty).map (·.size)=some cs.length) (hw:Region.wanted op (yielded ops a.tmps)=true)
 (h:wpListIn Fence.wide n Tryz.prog ops Q rest (a.put op.dst (.agg cs.toArray)) w):wpListIn Fence.wide n Tryz.prog ops Q (op::rest) a w:=
 wpListIn_step fun _ hK=>by
  rw[if_pos hw];refine⟨fun _ _=>trivial,?_⟩
  show op.uponIn Fence.wide n Tryz.prog a _ Q ((execOp a.eval op).run Tryz.prog w)
  unfold execOp;simp only[ho,hx,Instr.loadAt,Instr.sureAddr,Sem.run_bind,Sem.run_pure,Result.andThen_ok,run_loadVar_mid w b o ty cs d hc hu hd hi];exact hK _ _ h
structure Walks (w:World) (p:ProbD) (s:StateD) (Bs Bp:Nat):Prop where
 prob:∃pv cs,PVal w pv p/\pv=.agg cs/\w.heap[Bp]?=some (.cells cs 44)
 state:∃hv,IntsV w hv s.holds/\w.heap[Bs]?=some (.cells #[.int .i64 s.phase,hv] 88)
theorem Walks.keep {w w':World}{p:ProbD}{s:StateD}{Bs Bp:Nat}(h:Walks w p s Bs Bp)(k:KpI w w'):Walks w' p s Bs Bp:=by
 obtain⟨⟨pv,cs,h1,h2,h3⟩,⟨hv,h4,h5⟩⟩:=h;exact⟨⟨pv,cs,h1.keep k,h2,k.2 _ (by simp) _ _ _ h3⟩,⟨hv,h4.pres (k.2 _ (by simp)),k.2 _ (by simp) _ _ _ h5⟩⟩
theorem movesF_c {w:World}{pv sv:Value}{p:ProbD}{s:StateD}(hp:PVal w pv p)(hs:StateV w sv s):
 Calls Tryz.prog 94 #[pv,sv] w fun e w'=>e=.returned (.func (.func 146) #[] #[.pointer (some ⟨w.heap.size+1,0,none⟩),.pointer (some ⟨w.heap.size,0,none⟩)])/\Walks w' p s (w.heap.size+1) w.heap.size/\Bel w.heap.size w w':=by
 have HP:=LH hp;obtain⟨g,mo,mc,wo,wc,so,sc,go,gc,rfl,-,-,-,-,-,-⟩:=hp.lit;obtain⟨hv,rfl,hh⟩:=hs;have HH:=LH hh;clear hp hh
 go_enter Tryz.func94,Tryz.ntmps94
 go_wp2;go_ret;refine⟨rfl,⟨⟨_,_,HP.out.bel (Bel.new.alloc (by simp) _),rfl,(heap_old _ _ (by simp)).trans (heap_new _ _ rfl)⟩,⟨hv,HH.out.pres ((Pres.alloc _ _).trans (Pres.alloc _ _)),heap_new _ _ (by simp)⟩⟩,Bel.new.alloc (by simp) _⟩
def move0:MoveD:=⟨⟨0,[]⟩,0⟩
def MovesV (w:World)(v:Value)(ms:List MoveD):Prop:=∃(ao:Option Addr) (cap:Nat) (f:Nat->Value),v=.slice ao ms.length cap/\ms.length<=cap/\CellsAt 93 w ao (ms.length*5) f/\
 ∀i,i<ms.length->MoveV w (.agg #[f (i*5),f (i*5+1),f (i*5+2),f (i*5+3),f (i*5+4)]) (ms.getD i move0)
structure AppIn (w:World) (Bo:Nat) (pre:List MoveD) (W:World):Prop where
 row:∃v xs,W.heap[Bo]?=some (.cells #[v] 89)/\W.ownsRow w.heap.size 93 5 v pre.length xs/\
  ∀i,i<pre.length->∃v0 v1 v2 v3 v4,xs[i*5]?=some v0/\xs[i*5+1]?=some v1/\xs[i*5+2]?=some v2/\xs[i*5+3]?=some v3/\xs[i*5+4]?=some v4/\MoveV W (.agg #[v0,v1,v2,v3,v4]) (pre.getD i move0)
 bel:Bel w.heap.size w W
theorem AppIn.st {w A C:World}{Bo B:Nat}{pre:List MoveD}(h:AppIn w Bo pre A)(hs:St B A C)(hB:w.heap.size<=B):AppIn w Bo pre C:=by
 obtain⟨⟨v,xs,h1,h2,h3⟩,hb⟩:=h;refine⟨⟨v,xs,hs.cells _ _ _ _ h1,?_,fun i hi=>?_⟩,hb.trans (hs.bel.mono hB)⟩
 .refine⟨h2.1,?_⟩;rcases h2.2 with h|⟨g,cap,cur,e,hg,hh,r⟩
  .exact .inl h
  .exact .inr ⟨g,cap,cur,e,hg,hs.cells _ _ _ _ hh,r⟩
 .obtain⟨v0,v1,v2,v3,v4,a0,a1,a2,a3,a4,hm⟩:=h3 i hi;exact⟨v0,v1,v2,v3,v4,a0,a1,a2,a3,a4,hm.pres (hs.pres _) (hs.pres _)⟩
section
attribute [local go_sem] Oper.semAt_some
theorem infoMove:(Tryz.prog.info? 93).map (fun i=>(i.zero,i.size,i.bytes))=some (some (.agg #[.int .i64 0,.slice none 0 0,.bool false,.slice none 0 0,.slice none 0 0]),5,88):=by kernel_rfl
theorem row5 {w:World}{b:Nat}{v0 v1 v2 v3 v4:Value}{T:TypeId}(h:w.heap[b]?=some (.cells #[v0,v1,v2,v3,v4] T)):
 w.cell? ⟨b,0,none⟩=some v0/\w.cell? ⟨b,1,none⟩=some v1/\w.cell? ⟨b,2,none⟩=some v2/\w.cell? ⟨b,3,none⟩=some v3/\w.cell? ⟨b,4,none⟩=some v4:=by
 refine⟨?_,?_,?_,?_,?_⟩<;>simp[World.cell?,h]
theorem row1 {w:World}{b:Nat}{v0:Value}{T:TypeId}(h:w.heap[b]?=some (.cells #[v0] T)):w.cell? ⟨b,0,none⟩=some v0/\w.frozen? ⟨b,0,none⟩=false:=by
 constructor<;>simp[World.cell?,World.frozen?,h]
theorem MoveV.cells {w:World}{v:Value}{m:MoveD}(h:MoveV w v m):∃(ph:Int) (ho:Option Addr) (hl hc:Nat) (x:Bool) (a:Option Addr) (n:Nat) (c:Option Addr) (k:Nat),v=.agg #[.int .i64 ph,.slice ho hl hc,.bool x,.slice a n n,.slice c k k]:=by
 obtain⟨hv,x,a,n,c,k,rfl,⟨ho,hc,rfl,-,-⟩,-⟩:=h;exact⟨_,ho,_,hc,x,a,n,c,k,rfl⟩
theorem appBox {w W w1:World}{pre:List MoveD}{v0:Value}{xs:List Value}{o:Obj}
 (hk:W.heap[w.heap.size]?=some (.cells #[v0] 89)) (hr:W.ownsRow w.heap.size 93 5 v0 pre.length xs) (hgrow:(W.alloc o).grownBy w1 v0.ownBlock):
 w1.heap[w.heap.size]?=some (.cells #[v0] 89):=by
 have hlt:=BlkT.lt ⟨_,_,hk⟩;refine(hgrow.block _ (by simp;omega) (fun e=>?_)).trans ((heap_old _ _ hlt).trans hk);rcases hr.2 with⟨rfl,-⟩|⟨g,cap,cur,rfl,hg,hh,-⟩
 .simp[Value.ownBlock]at e
 .simp[Value.ownBlock]at e;subst e;rw[hk]at hh;simp at hh
theorem AppIn.step {w W w1:World}{pre:List MoveD}{x:MoveD}{v0 v':Value}{xs:List Value}{c0 c1 c2 c3 c4:Value}{o:Obj}
 (hk:W.heap[w.heap.size]?=some (.cells #[v0] 89)) (hr:W.ownsRow w.heap.size 93 5 v0 pre.length xs)
 (hm:∀i,i<pre.length->∃v0 v1 v2 v3 v4,xs[i*5]?=some v0/\xs[i*5+1]?=some v1/\xs[i*5+2]?=some v2/\xs[i*5+3]?=some v3/\xs[i*5+4]?=some v4/\MoveV W (.agg #[v0,v1,v2,v3,v4]) (pre.getD i move0))
 (hb:Bel w.heap.size w W) (hx:MoveV W (.agg #[c0,c1,c2,c3,c4]) x) (hown:w1.ownsRow w.heap.size 93 5 v' (pre.length+1) (xs++[c0,c1,c2,c3,c4])) (hgrow:(W.alloc o).grownBy w1 v0.ownBlock):
 AppIn w w.heap.size (pre++[x]) (w1.setCell ⟨w.heap.size,0,none⟩ v')/\KpI W (w1.setCell ⟨w.heap.size,0,none⟩ v')/\Others (w.heap.size+1) W (w1.setCell ⟨w.heap.size,0,none⟩ v'):=by
 have hlt:=BlkT.lt ⟨_,_,hk⟩
 have hrow:∀k,v0.ownBlock=some k->w.heap.size<=k/\k<W.heap.size/\∃cur,W.heap[k]?=some (.cells cur 93 (0,0)):=by
  intro k hk';rcases hr.2 with⟨rfl,-⟩|⟨g,cap,cur,rfl,hg,hh,-⟩
  .simp[Value.ownBlock]at hk'
  .simp[Value.ownBlock]at hk';subst hk';exact⟨hg,(Array.getElem?_eq_some_iff.1 hh).1,cur,hh⟩
 have hne:some w.heap.size≠v0.ownBlock:=fun e=>by
  obtain⟨-,-,cur,hh⟩:=hrow _ e.symm;rw[hk]at hh;simp at hh
 have hk1:w1.heap[w.heap.size]?=some (.cells #[v0] 89):=(hgrow.block _ (by simp;omega) hne).trans ((heap_old _ _ hlt).trans hk)
 have hp (T:TypeId) (h1:T≠93) (h2:T≠89):Pres T W (w1.setCell ⟨w.heap.size,0,none⟩ v'):=
  ((Pres.alloc W o).trans (Pres.grown (T':=93) hgrow (fun k e=>by
    obtain⟨-,hl,cur,hh⟩:=hrow k e;exact⟨cur,_,(heap_old _ _ hl).trans hh⟩) h1)).trans (Pres.setCell (a:=⟨w.heap.size,0,none⟩) hk1 h2 v')
 refine⟨⟨⟨v',xs++[c0,c1,c2,c3,c4],?_,?_,?_⟩,?_⟩,⟨?_,?_⟩,⟨?_,?_⟩⟩
 .simp[World.setCell,Array.getElem?_modify,hk1]
 .rw[List.length_append];refine⟨hown.1,?_⟩;rcases hown.2 with h|⟨g,cap,cur,e,hg,hh,r⟩
  .exact .inl h
  .refine .inr ⟨g,cap,cur,e,hg,?_,r⟩
   rw[Below.heap_setCell _ _ _ _ (fun e2=>by
    simp only at e2;rw[e2,hk1]at hh;simp at hh)]
   exact hh
 .intro i hi;have hxl:xs.length=pre.length*5:=hr.1
  by_cases e:i<pre.length
  .obtain⟨u0,u1,u2,u3,u4,a0,a1,a2,a3,a4,hmv⟩:=hm i e;refine⟨u0,u1,u2,u3,u4,?_,?_,?_,?_,?_,?_⟩
   .rw[List.getElem?_append_left (by omega)];exact a0
   .rw[List.getElem?_append_left (by omega)];exact a1
   .rw[List.getElem?_append_left (by omega)];exact a2
   .rw[List.getElem?_append_left (by omega)];exact a3
   .rw[List.getElem?_append_left (by omega)];exact a4
   .rw[List.getD_eq_getElem?_getD,List.getElem?_append_left e,<-List.getD_eq_getElem?_getD];exact hmv.pres (hp _ (by decide) (by decide)) (hp _ (by decide) (by decide))
  .have ei:i=pre.length:=by simp at hi;omega
   subst ei;refine⟨c0,c1,c2,c3,c4,?_,?_,?_,?_,?_,?_⟩
   .rw[List.getElem?_append_right (by omega),hxl];simp
   .rw[List.getElem?_append_right (by omega),hxl,show pre.length*5+1-pre.length*5=1 by omega];rfl
   .rw[List.getElem?_append_right (by omega),hxl,show pre.length*5+2-pre.length*5=2 by omega];rfl
   .rw[List.getElem?_append_right (by omega),hxl,show pre.length*5+3-pre.length*5=3 by omega];rfl
   .rw[List.getElem?_append_right (by omega),hxl,show pre.length*5+4-pre.length*5=4 by omega];rfl
   .rw[List.getD_eq_getElem?_getD,List.getElem?_append_right NL];simp only[Nat.sub_self,List.getElem?_cons_zero,Option.getD_some];exact hx.pres (hp _ (by decide) (by decide)) (hp _ (by decide) (by decide))
 .have h1:Bel w.heap.size w w1:=by
   have ha:=hb.alloc hb.size o;refine⟨⟨hgrow.os.trans ha.os,hgrow.tape.trans ha.tape,hgrow.output.trans ha.output,Nat.le_trans ha.size hgrow.size,fun k hk'=>?_⟩⟩;exact(hgrow.block k (by have:=ha.size;omega) (fun e=>by have:=(hrow k e.symm).1;omega)).trans (ha.block k hk')
  exact h1.setCell NL _
 .rw[World.size_setCell];have:=hgrow.size;simp at this;omega
 .intro T hT
  have:T≠93/\T≠89:=by
   constructor<;>intro e<;>subst e<;>revert hT<;>decide
  exact hp T this.1 this.2
 .rw[World.size_setCell];have:=hgrow.size;simp at this;omega
 .intro k ob hk2 hob hcl;have hkl:=(Array.getElem?_eq_some_iff.1 hob).1;rw[Below.heap_setCell _ _ _ _ (by simp;omega)];refine(hgrow.block k (by simp;omega) (fun e=>?_)).trans ((heap_old _ _ hkl).trans hob);obtain⟨-,-,cur,hh⟩:=hrow k e.symm;rw[hob]at hh
  cases hh
  cases hcl
theorem MovesV.of {W:World}{B:Nat}{v:Value}{xs:List Value}{ms:List MoveD}(hr:W.ownsRow B 93 5 v ms.length xs)
 (hm:∀i,i<ms.length->∃v0 v1 v2 v3 v4,xs[i*5]?=some v0/\xs[i*5+1]?=some v1/\xs[i*5+2]?=some v2/\xs[i*5+3]?=some v3/\xs[i*5+4]?=some v4/\MoveV W (.agg #[v0,v1,v2,v3,v4]) (ms.getD i move0)):MovesV W v ms:=by
 have ho:OwnS 93 5 B W v ms.length (fun j=>xs.getD j undef):=⟨xs,hr,fun j hj=>by
  show xs[j]?=some (xs.getD j undef)
  rw[List.getD_eq_getElem?_getD,List.getElem?_eq_getElem (by rw[hr.1];exact hj)];rfl⟩
 obtain⟨ao,cap,rfl,hc,hcells⟩:=ho.cells;refine⟨ao,cap,_,rfl,hc,hcells,fun i hi=>?_⟩;obtain⟨v0,v1,v2,v3,v4,a0,a1,a2,a3,a4,hmv⟩:=hm i hi;simp only[List.getD_eq_getElem?_getD,a0,a1,a2,a3,a4,Option.getD_some]at hmv|-;exact hmv
theorem MovesV.pres {w w':World}{v:Value}{ms:List MoveD}(h:MovesV w v ms)(h1:Pres 93 w w')(h2:Pres 3 w w')(h3:Pres 232 w w'):MovesV w' v ms:=by
 obtain⟨ao,cap,f,rfl,hc,hcells,hm⟩:=h;exact⟨ao,cap,f,rfl,hc,hcells.pres h1,fun i hi=>(hm i hi).pres h2 h3⟩
theorem appendSeq_c {w:World}{lb:Array Value}{ms:List MoveD}(hseq:∀W n,Bel w.heap.size w W->SeqM n Tryz.prog 146 lb MoveV KpI ms W)(hlen:ms.length<=1000000):
 Calls Tryz.prog 145 #[.slice none 0 0,.func (.func 146) #[] lb] w (Gives w fun v w'=>MovesV w' v ms):=by
 obtain⟨i0,hi,hz0,hz1,hz2⟩:=info_parts infoMove;refine(callsIn_wide (n:=9)).1 ?_;refine callsIn_of_wp_marks Tryz.func145 rfl trivial ?_ rfl;simp only[Tryz.ntmps145,List.size_toArray,List.length_cons,List.length_nil,Nat.reduceAdd,Nat.reduceSub,Array.replicate_succ,Array.replicate_zero,List.push_toArray,List.append_toArray,List.nil_append,List.cons_append]
 gi_wp2
 have hbw:Bel w.heap.size w (w.alloc (.cells #[.slice none 0 0] 89)):=(Bel.refl _ _).alloc NL _
 refine rangeM (gf:=146) (lb:=lb) (p:=7) rfl (enters_of Tryz.func146 (by kernel_rfl) rfl) (hseq _ _ hbw) (fun A C v x h k=>h.pres (k.pres _) (k.pres _)) (fun h k=>h.trans k) (fun h=>KpI.of_st h)
  (fun pre W=>AppIn w w.heap.size pre W) (fun _ _ _=>False) (fun s A C h k=>h.st k (by simp)) (fun _ _ _ _ h _=>h)
  ⟨⟨_,[],heap_new _ _ rfl,World.ownsRow_nil _ _ _ _,fun i hi=>(by simp at hi)⟩,hbw⟩
  (fun v a' W=>∃B5 cs,v=.agg cs/\W.heap[B5]?=some (.cells cs 93)/\a'={tmps:=#[.slice none 0 0,.func (.func 146) #[] lb,.pointer (some ⟨w.heap.size,0,none⟩),undef,.slice none 0 0,.pointer (some ⟨B5,0,none⟩),.func (.func 146) #[] lb,v,undef,undef,undef,undef,undef],defers:=[]})
  (fun v a' A C h k=>by obtain⟨B5,cs,h1,h2,h3⟩:=h;exact⟨B5,cs,h1,k.cells _ _ _ _ h2,h3⟩) ?assign ?body ?done ?stop
 case assign=>
  intro l pre v x W K hi hok hK;obtain⟨ph,ho,hl,hc,x0,a0,n0,c0,k0,rfl⟩:=hok.cells;have HK:=LH hK;clear hok hi hseq
  gi_wp2
  exact HK.out _ _ Bel.new ⟨W.heap.size,_,rfl,heap_new _ _ rfl,rfl⟩
 case body=>
  rintro l pre v x a' W hi0 hok ⟨B5,cs,rfl,hk5,rfl⟩ hpx;obtain⟨ph,ho,hl,hc,x0,a0,n0,c0,k0,e⟩:=hok.cells
  injection e with e
  subst e;obtain⟨⟨v0,xs,hk,hr,hm⟩,hb⟩:=hi0;obtain⟨r0,r1,r2,r3,r4⟩:=row5 hk5;obtain⟨b0,f0⟩:=row1 hk;have hl5:=BlkT.lt ⟨_,_,hk5⟩;have hlo:=BlkT.lt ⟨_,_,hk⟩
  have hpl:pre.length+1<=1000000:=by
   have:=hpx.length_le;simp at this;omega
  have hAx:=hr.1;have HK:=LH hk;have HR:=LH hr;have HM:=LH hm;have HB:=LH hb;have HX:=LH hok;have hbz:=hb.size;clear hk hr hm hb hok hk5 hpx hseq hAx
  have hcells:∀(W2:World) (j:Nat) (u:Value),W2.heap[W.heap.size]?=some (.cells #[.int .i64 ph,.slice ho hl hc,.bool x0,.slice a0 n0 n0,.slice c0 k0 k0] 93)->([.int .i64 ph,.slice ho hl hc,.bool x0,.slice a0 n0 n0,.slice c0 k0 k0]:List Value)[j]?=some u->W2.cell? ((⟨W.heap.size,0,none⟩:Addr).add j)=some u:=by
   intro W2 j u hW2 hj;have e:((⟨W.heap.size,0,none⟩:Addr).add j)=⟨W.heap.size,j,none⟩:=by simp[Addr.add];omega
   rw[e];simp only[World.cell?,hW2,Option.isSome_none,Bool.false_eq_true,if_false]
   simpa using hj
  have hone:∀u∈([.int .i64 ph,.slice ho hl hc,.bool x0,.slice a0 n0 n0,.slice c0 k0 k0]:List Value),u.oneCell'=true:=by
   intro u hu;simp at hu;rcases hu with rfl|rfl|rfl|rfl|rfl<;>rfl
  have hb1:pre.length+1<=maxLen:=by unfold maxLen;omega
  have hb2:(pre.length+1)*88<=140737488355328:=by omega
  have hb3 (o:Obj):w.heap.size<=(W.alloc o).heap.size:=by simp;omega
  gi_wp2_with (gi_at_builtin;refine(wpListIn_append_own (n:=7) (P:=Tryz.prog) _ rfl (.tmp 8) (.tmp 10) 89 rfl w.heap.size 93 i0 _ 5 88 Tryz.underlying89 hi hz0 hz1 hz2 rfl (by decide) v0 pre.length xs rfl (HR.out.alloc _) ⟨W.heap.size,0,none⟩ 1 1 [.int .i64 ph,.slice ho hl hc,.bool x0,.slice a0 n0 n0,.slice c0 k0 k0] rfl rfl (fun j u hj=>hcells _ j u (heap_new _ _ rfl) hj) hone hb1 hb2 (hb3 _) ?_);intro v' w1 hown hgrow _;obtain⟨g',cap',rfl⟩:=ownsRow_succ hown;obtain⟨b1,f1⟩:=row1 (appBox HK.out HR.out hgrow))
  obtain⟨r1,r2,r3⟩:=AppIn.step HK.out HR.out HM.out HB.out HX.out hown hgrow;exact⟨by simpa using r3,r2,r1⟩
 case done=>
  rintro D xs W hD rfl ⟨⟨v0,cur,hk,hr,hm⟩,hb⟩ hK;obtain⟨b0,f0⟩:=row1 hk
  have hv:∃so sl sc,v0=.slice so sl sc:=by
   rcases hr.2 with⟨rfl,-⟩|⟨g,cap,c,rfl,-⟩
   .exact⟨_,_,_,rfl⟩
   .exact⟨_,_,_,rfl⟩
  obtain⟨so,sl,sc,rfl⟩:=hv;have HR:=LH hr;have HM:=LH hm;have HB:=LH hb;clear hr hm hb hseq hi
  gi_wp2
  refine⟨by simp,.inl ⟨_,_,rfl,run_takeDeferred hK,?_⟩⟩;have hst:=St.put (B:=w.heap.size) (o':=.deferred none) (show w.heap.size<=D by simp at hD;omega) hK rfl;exact⟨_,results_tmp (t:=4) rfl _ _ _,⟨_,rfl,(MovesV.of HR.out HM.out).pres (hst.pres _) (hst.pres _) (hst.pres _),HB.out.trans hst.bel⟩⟩
 case stop=>
  rintro D c pre W _ _ h _;exact h.elim
end
theorem MoveV.bel {w w':World}{v:Value}{m:MoveD}(h:MoveV w v m)(hb:Bel w.heap.size w w'):MoveV w' v m:=h.pres hb.pb hb.pb
theorem MoveV.qv {w:World}{ph:Int}{ho:Option Addr}{hl hc:Nat}{x:Bool}{a:Option Addr}{n:Nat}{c:Option Addr}{k:Nat}{m:MoveD}(h:MoveV w (.agg #[.int .i64 ph,.slice ho hl hc,.bool x,.slice a n n,.slice c k k]) m):
 ph=m.dst.phase/\IntsV w (.slice ho hl hc) m.dst.holds/\QV w (.agg #[.bool x,.slice a n n,.slice c k k]) m.cost:=by
 obtain⟨hv,x',a',n',c',k',e,hi,hq⟩:=h;simp only[Value.agg.injEq,Array.mk.injEq,List.cons.injEq,and_true,Value.int.injEq,true_and]at e;obtain⟨e0,e1,e2,e3,e4⟩:=e;rw[<-e1]at hi;rw[<-e2,<-e3,<-e4]at hq;exact⟨e0,hi,hq⟩
structure MarksAt (w:World) (ao:Option Addr) (ms:List MoveD) (f:Nat->Value):Prop where
 cells:CellsAt 158 w ao (ms.length*5) f
 at':∀i,i<ms.length->MoveV w (.agg #[f (i*5),f (i*5+1),f (i*5+2),f (i*5+3),f (i*5+4)]) (ms.getD i move0)
def MarksV (w:World)(v:Value)(ms:List MoveD):Prop:=∃(ao:Option Addr) (cap:Nat) (f:Nat->Value),v=.slice ao ms.length cap/\ms.length<=cap/\MarksAt w ao ms f
theorem MarksAt.pres {w w':World}{ao:Option Addr}{ms:List MoveD}{f:Nat->Value}(h:MarksAt w ao ms f)(h1:Pres 158 w w')(h2:Pres 3 w w')(h3:Pres 232 w w'):MarksAt w' ao ms f:=
 ⟨h.cells.pres h1,fun i hi=>(h.at' i hi).pres h2 h3⟩
theorem MarksAt.bel {w w':World}{ao:Option Addr}{ms:List MoveD}{f:Nat->Value}(h:MarksAt w ao ms f)(hb:Bel w.heap.size w w'):MarksAt w' ao ms f:=h.pres hb.pb hb.pb hb.pb
theorem MarksAt.el {w:World}{ao:Option Addr}{ms:List MoveD}{f:Nat->Value}(h:MarksAt w ao ms f){i:Nat}(hi:i<ms.length):
 ∃bl o,ao=some ⟨bl,o,none⟩/\bl<w.heap.size/\∃(ph:Int) (ho:Option Addr) (hl hc:Nat) (x:Bool) (a:Option Addr) (n:Nat) (c:Option Addr) (k:Nat),
  w.cell? ⟨bl,o+i*5,none⟩=some (.int .i64 ph)/\w.cell? ⟨bl,o+i*5+1,none⟩=some (.slice ho hl hc)/\w.cell? ⟨bl,o+i*5+2,none⟩=some (.bool x)/\
  w.cell? ⟨bl,o+i*5+3,none⟩=some (.slice a n n)/\w.cell? ⟨bl,o+i*5+4,none⟩=some (.slice c k k)/\
  MoveV w (.agg #[.int .i64 ph,.slice ho hl hc,.bool x,.slice a n n,.slice c k k]) (ms.getD i move0):=by
 have hm:=h.at' i hi;obtain⟨ph,ho,hl,hc,x,a,n,c,k,e⟩:=hm.cells;obtain⟨bl,o,rfl,hb,hcell⟩:=h.cells.open (by omega);rw[e]at hm;simp only[Value.agg.injEq,Array.mk.injEq,List.cons.injEq,and_true]at e;obtain⟨e0,e1,e2,e3,e4⟩:=e
 have H:∀j v,j<5->f (i*5+j)=v->w.cell? ⟨bl,o+i*5+j,none⟩=some v:=fun j v hj e=>by
  rw[<-e,<-hcell (i*5+j) (by omega),Nat.add_assoc]
 exact⟨bl,o,rfl,hb,ph,ho,hl,hc,x,a,n,c,k,H 0 _ (by omega) e0,H 1 _ (by omega) e1,H 2 _ (by omega) e2,H 3 _ (by omega) e3,H 4 _ (by omega) e4,hm⟩
def firstK (ms:List MoveD):Nat->Int
 |0=>-1
 |i+1=>if firstK ms i<0\/cmpR (ms.getD i move0).cost (ms.getD (firstK ms i).toNat move0).cost<0 then i else firstK ms i
def firstI (ms:List MoveD):Int:=firstK ms ms.length
theorem firstK_lo (ms:List MoveD)(i:Nat):(i=0/\firstK ms i=-1)\/(0<i/\0<=firstK ms i/\firstK ms i<i):=by
 induction i with
 |zero=>exact .inl ⟨rfl,rfl⟩
 |succ i ih=>
  right;unfold firstK;split
  .omega
  .rcases ih with⟨-,h⟩|⟨-,h1,h2⟩<;>omega
def MarkCmp (K:Nat)(L:Nat):Prop:=∀(w:World) (v v':Value) (m m':MoveD),MoveV w v m->MoveV w v' m'->QF L m.cost->QF L m'.cost->
 Calls Tryz.prog K #[v,v'] w fun e w'=>e=.returned (.int .i64 (cmpR m.cost m'.cost))/\Bel w.heap.size w w'
def MovesSeqC:Prop:=∀(n Bs Bp L:Nat) (w:World) (p:ProbD) (s:StateD),Fine p s->ProbF L p->1<=L->Walks w p s Bs Bp->
 SeqM n Tryz.prog 146 #[.pointer (some ⟨Bs,0,none⟩),.pointer (some ⟨Bp,0,none⟩)] MoveV KpI (movesL p s) w
theorem Walks.bel {w w':World}{p:ProbD}{s:StateD}{Bs Bp:Nat}(h:Walks w p s Bs Bp)(hb:Bel w.heap.size w w'):Walks w' p s Bs Bp:=h.keep (KpI.of_bel hb)
theorem movesK_len (p:ProbD)(s:StateD)(i:Nat):(movesK p s i).length<=i:=by
 induction i with
 |zero=>simp[movesK]
 |succ i ih=>
  unfold movesK;split
  .simp;exact ih
  .omega
theorem worldB_map {p:ProbD}(h:worldB p=true):p.map.length<=64:=by
 unfold worldB ckMap at h;simp only[Bool.and_eq_true,decide_eq_true_eq]at h;have h1:=h.1.1;split at h1
 .omega
 .omega
theorem movesL_len {p:ProbD}{s:StateD}(h:worldB p=true):(movesL p s).length<=64:=by
 have:=worldB_map h;unfold movesL;split
 .split<;>simp
 .exact Nat.le_trans (movesK_len _ _ _) this
theorem fine_of {p:ProbD}{s:StateD}(hw:worldB p=true)(hp:possibleB p s=true):Fine p s:=by
 unfold possibleB at hp;simp only[Bool.and_eq_true,decide_eq_true_eq]at hp;exact⟨hw,hp.1,hp.2.1,hp.2.2.1⟩
theorem probB_world {p:ProbD}(h:probB p=true):worldB p=true:=by
 unfold probB at h;simp only[Bool.and_eq_true]at h;exact h.1
theorem collect_c (hms:MovesSeqC){w:World}{p:ProbD}{s:StateD}{Bs Bp L:Nat}(hfi:Fine p s)(hF:ProbF L p)(h1L:1<=L)(hw:Walks w p s Bs Bp):
 Calls Tryz.prog 93 #[.func (.func 146) #[] #[.pointer (some ⟨Bs,0,none⟩),.pointer (some ⟨Bp,0,none⟩)]] w (Gives w fun v w'=>MovesV w' v (movesL p s)):=by
 have HC:=LH (appendSeq_c (w:=w) (ms:=movesL p s) (fun W n hb=>hms n Bs Bp L W p s hfi hF h1L (hw.keep (KpI.of_bel hb))) (Nat.le_trans (movesL_len hfi.world) (by omega)));clear hfi hF hw
 go_enter Tryz.func93,Tryz.ntmps93
 go_wp2_with (go_at_call 145;refine HC.out.mono ?_;rintro e w' ⟨v,rfl,hv,hb⟩)
 go_wp2;go_ret;exact⟨_,rfl,hv,hb⟩
def movesE (p:ProbD)(s:StateD):Int:=if probB p then(if possibleB p s then 0 else 13) else 2
def movesR (p:ProbD)(s:StateD):List MoveD:=if probB p && possibleB p s then movesL p s else[]
theorem MovesV.nil (w:World):MovesV w (.slice none 0 0) []:=⟨none,0,fun _=>undef,rfl,Nat.le_refl _,CellsAt.zero _ _ _ _,fun i hi=>by simp at hi⟩
theorem Moves_c (hms:MovesSeqC){w:World}{pv sv:Value}{p:ProbD}{s:StateD}{L:Nat}(hp:PVal w pv p)(hs:StateV w sv s)(hF:ProbF L p)(h1L:1<=L)(hls:p.start.length<=1000000)(hlg:p.goal.length<=1000000)(hlen:s.holds.length<=1000000):
 Calls Tryz.prog 26 #[pv,sv] w fun e w'=>∃v,e=.returned (.tuple #[v,.int .i64 (movesE p s)])/\MovesV w' v (movesR p s)/\Bel w.heap.size w w':=by
 have HWC:Hid (∀W0,Bel w.heap.size w W0->Calls Tryz.prog 30 #[pv] W0 fun e w'=>e=.returned (.int .i64 (if probB p then 0 else 2))/\Bel W0.heap.size W0 w'):=fun W0 hb=>checkProblem_c (hp.bel hb) hF h1L hls hlg
 have HPC:Hid (∀W0,Bel w.heap.size w W0->probB p=true->Calls Tryz.prog 97 #[pv,sv] W0 fun e w'=>e=.returned (.bool (possibleB p s))/\Bel W0.heap.size W0 w'):=
  fun W0 hb hw=>worldPoss_c (hp.bel hb) (hs.pres hb.pb) hF h1L (probB_world hw) hlen
 have HMC:Hid (∀W0,Bel w.heap.size w W0->probB p=true->possibleB p s=true->Calls Tryz.prog 94 #[pv,sv] W0 fun e w'=>e=.returned (.func (.func 146) #[] #[.pointer (some ⟨W0.heap.size+1,0,none⟩),.pointer (some ⟨W0.heap.size,0,none⟩)])/\Walks w' p s (W0.heap.size+1) W0.heap.size/\Bel W0.heap.size W0 w'):=
  fun W0 hb _ _=>movesF_c (hp.bel hb) (hs.pres hb.pb)
 have HCC:Hid (∀W0 Bs Bp,Walks W0 p s Bs Bp->probB p=true->possibleB p s=true->Calls Tryz.prog 93 #[.func (.func 146) #[] #[.pointer (some ⟨Bs,0,none⟩),.pointer (some ⟨Bp,0,none⟩)]] W0 (Gives W0 fun v w'=>MovesV w' v (movesL p s))):=
  fun W0 Bs Bp hw hpb hps=>collect_c hms (fine_of (probB_world hpb) hps) hF h1L hw
 have HR:Hid (movesE p s=if probB p then(if possibleB p s then 0 else 13) else 2):=rfl;have HRM:Hid (movesR p s=if probB p && possibleB p s then movesL p s else[]):=rfl;obtain⟨g,mo,mc,wo,wc,so,sc,go,gc,rfl,-,-,-,-,-,-⟩:=hp.lit;obtain⟨hv,rfl,lo,lc,rfl,hlc,hlx⟩:=hs;clear hp hF hlx hlc hms;generalize movesE p s=R at HR|-;generalize movesR p s=RM at HRM|-;generalize possibleB p s=PB at HR HRM HPC HMC HCC|-
 generalize probB p=WB at HR HRM HWC HPC HMC HCC|-;generalize s.holds.length=nl at *;generalize s.phase=ph at *;generalize p.map.length=n at *;generalize p.word.length=n2 at *;generalize p.start.length=n3 at *;generalize p.goal.length=n4 at *;generalize p.walker.legs=legs at *
 go_enter Tryz.func26,Tryz.ntmps26
 go_upto_region 1 with fail
 refine name_world ?_;intro W1 hW1;have hk0:=at_world hW1 (b:=w.heap.size) ((heap_old _ _ (by simp)).trans (heap_new _ _ rfl));have hk1:=at_world hW1 (b:=w.heap.size+1) (heap_new _ _ (by simp));have hBW:Bel w.heap.size w W1:=by rw[hW1];exact Bel.new.alloc (by simp) _
 have hz1:W1.heap.size=w.heap.size+1+1:=by rw[hW1];simp
 have hb0:w.heap.size<W1.heap.size:=by omega
 have hb1:w.heap.size+1<W1.heap.size:=by omega
 have HBW:=LH hBW;have HK0:=LH hk0;have HK1:=LH hk1;clear hW1 hBW hk0 hk1;have HLD:=LH (loadP_range HK0.out)
 go_wp2_with (refine wpList_load_g 44 (.tmp 2) rfl _ _ rfl _ _ HLD.out Tryz.underlying44 rfl (by kernel_rfl) rfl ?_)
 refine(HWC.out _ HBW.out).mono ?_;rintro e w2 ⟨rfl,hb2⟩;have HB2:Hid (Bel w.heap.size w w2):=HBW.out.trans (hb2.mono HBW.out.size);have hk02:=(hb2.block _ hb0).trans HK0.out;have hk12:=(hb2.block _ hb1).trans HK1.out;have HK02:=LH hk02;have HK12:=LH hk12;have hl2:=BlkT.lt ⟨_,_,hk12⟩;have hl2':=BlkT.lt ⟨_,_,hk02⟩;clear hb2 HLD hk02 hk12;have HLD:=LH (loadP_range HK02.out);obtain⟨s0,s1,-,-⟩:=row2 HK12.out
 cases WB
 .have HE2:Hid (R=2):=by show _=_;rw[HR.out];rfl
  have HE3:Hid (RM=[]):=by show _=_;rw[HRM.out];rfl
  go_wp2
  go_ret2
  refine⟨_,by rw[HE2.out];rfl,?_,HB2.out⟩;rw[HE3.out];exact MovesV.nil _
 go_wp2_with (refine wpList_load_g 44 (.tmp 2) rfl _ _ rfl _ _ HLD.out Tryz.underlying44 rfl (by kernel_rfl) rfl ?_)
 refine(HPC.out _ HB2.out trivial).mono ?_;rintro e w3 ⟨rfl,hb3⟩;have HB3:Hid (Bel w.heap.size w w3):=HB2.out.trans (hb3.mono HB2.out.size);have HK03:=LH ((hb3.block _ hl2').trans HK02.out);have HK13:=LH ((hb3.block _ hl2).trans HK12.out);clear hb3 s0 s1 HLD;have HLD:=LH (loadP_range HK03.out);obtain⟨s0,s1,-,-⟩:=row2 HK13.out
 cases PB
 .have HE2:Hid (R=13):=by show _=_;rw[HR.out];rfl
  have HE3:Hid (RM=[]):=by show _=_;rw[HRM.out];rfl
  go_wp2
  go_ret2
  refine⟨_,by rw[HE2.out];rfl,?_,HB3.out⟩;rw[HE3.out];exact MovesV.nil _
 have HE2:Hid (R=0):=by show _=_;rw[HR.out];rfl
 have HE3:Hid (RM=movesL p s):=by show _=_;rw[HRM.out];rfl
 go_wp2_with (refine wpList_load_g 44 (.tmp 2) rfl _ _ rfl _ _ HLD.out Tryz.underlying44 rfl (by kernel_rfl) rfl ?_)
 refine(HMC.out _ HB3.out trivial trivial).mono ?_;rintro e w4 ⟨rfl,hwk,hb4⟩;have HB4:Hid (Bel w.heap.size w w4):=HB3.out.trans (hb4.mono HB3.out.size);have HW4:=LH hwk;clear hb4 s0 s1 HLD hwk
 go_wp2_with (go_at_call 93;refine(HCC.out _ _ _ HW4.out trivial trivial).mono ?_;rintro e w5 ⟨v,rfl,hv,hb5⟩)
 have HB5:Hid (Bel w.heap.size w w5):=HB4.out.trans (hb5.mono HB4.out.size);have HV:=LH hv;clear hb5 hv;go_wp2
 go_ret2
 refine⟨_,by rw[HE2.out];rfl,?_,HB5.out⟩;rw[HE3.out];exact HV.out
section
section
variable {P : Program} {ops : Array Oper} {Q : Exit → Act → World → Prop} {md : Region.Mode} {n l : Nat}
theorem op_round {o:Oper}{a:Act}{w:World}{K:Act->World->Prop}(hnd:∀c,o.op≠ .defer c)(h:o.wp P a w K Q):o.wpIn (Fence.wide.inRound l) n P a w K Q:=by
 refine⟨fun _ _=>trivial,?_⟩;rw[show(Fence.wide.inRound l).round=some l from rfl,Oper.semAt_some l _ _ hnd];unfold Oper.wp at h;generalize(execOp a.eval o).run P w=r at h|-
 cases r with
 |ok x w'=>
  cases x<;>simp only[Oper.upon,Oper.uponIn]at h|-<;>
   first
    |exact h
    |exact⟨fun h=>(by cases h),CallsIn.inRound l (callsIn_wide.2 h)⟩
    |exact⟨fun h=>(by cases h),fun c cs _=>by
     obtain⟨v,w2,hr,hs⟩:=h c cs;exact⟨v,w2,hr,stepsIn_wide.2 hs⟩⟩
    |exact h.elim
 |halt x w'=>cases x<;>simp only[Oper.upon,Oper.uponIn]at h|-<;>first|exact h|exact h.elim
def noDefer (ops:Array Oper):Bool:=ops.all fun o=>match o.op with| .defer _=>false|_=>true
theorem noDefer_at (h:noDefer ops=true){i:Nat}{o:Oper}(hi:ops[i]?=some o):∀c,o.op≠ .defer c:=fun c e=>by
 have h1:=Array.all_eq_true_iff_forall_mem.1 h o (Array.mem_of_getElem? hi);rw[e]at h1
 cases h1
theorem any_round (hnd:noDefer ops=true)(hL:¬LetsOut Q):∀(fuel:Nat) (listed:Array Bool) (a:Act) (w:World),wpAny P md ops Q fuel listed a w->wpAnyIn (Fence.wide.inRound l) n P md ops Q fuel listed a w
 |0,_,_,_,h=>h
 |fuel+1,listed,a,w,h=>⟨h.1,fun i hi=>by
  have h1:=h.2 i hi;unfold wpOp at h1;unfold wpOpIn
  cases ho:ops[i]? with
  |none=>
   simp only[ho]at h1|-;exact any_round hnd hL fuel _ _ _ h1
  |some o=>
   simp only[ho]at h1|-;split
   .rename_i hw
    simp only[hw,if_true]at h1;rcases h1 with h1|⟨-,h1⟩
    .exact Oper.wpIn_mono (fun a w=>any_round hnd hL fuel _ a w) (op_round (noDefer_at hnd ho) h1)
    .exact absurd h1 hL
   .rename_i hw
    rw[if_neg hw]at h1;exact⟨fun _ _=>trivial,any_round hnd hL fuel _ _ _ h1⟩⟩
theorem wpIn_region_round {id:Nat}{a:Act}{w:World}(hm:P.follows .mixedOrders=true)(hnd:noDefer ops=true)(hL:¬LetsOut Q)
 (h:wpAny P .any ops Q ops.size (Array.replicate ops.size false) a {w with drawn:=w.drawn+1}):(Code.region id ops true).wpIn (Fence.wide.inRound l) n P Q a w:=
 wpIn_region_any hm (any_round hnd hL _ _ _ _ h)
end
end
theorem searchCmp_c {L:Nat}(hL:L<=500000000):MarkCmp 122 L:=by
 intro w v v' m m' hm hm' hF hF';obtain⟨ph,ho,hl,hc,x,a,n,c,k,rfl⟩:=hm.cells;obtain⟨ph',ho',hl',hc',x',a',n',c',k',rfl⟩:=hm'.cells;have HQ:=LH hm.qv.2.2;have HQ':=LH hm'.qv.2.2;have HF:=LH hF;have HF':=LH hF';clear hm hm' hF hF'
 go_enter Tryz.func122,Tryz.ntmps122
 go_wp2_with fail
 refine(qcmp_c ((HQ.out.pres (Pres.alloc _ _)).pres (Pres.alloc _ _)) ((HQ'.out.pres (Pres.alloc _ _)).pres (Pres.alloc _ _)) HF.out HF'.out (by omega)).mono ?_;rintro e w2 ⟨rfl,hb⟩;go_wp2;go_ret;exact⟨rfl,(Bel.new.alloc (by simp) _).trans (hb.mono (by simp;omega))⟩
theorem searchFirst_c {w:World}{v:Value}{ms:List MoveD}{L:Nat}(hv:MarksV w v ms)(hF:∀i,i<ms.length->QF L (ms.getD i move0).cost)(hL:L<=500000000)(hlen:ms.length<=1000000):
 Calls Tryz.prog 69 #[v,.func (.func 122) #[] #[]] w fun e w'=>e=.returned (.int .i64 (firstI ms))/\Bel w.heap.size w w':=by
 have HCMP:=LH (searchCmp_c hL);obtain⟨ao,cap,f,rfl,hcap,hma⟩:=hv;obtain⟨n,hn⟩:∃n,n=ms.length:=⟨_,rfl⟩
 have HM:=LH hma;have HF:=LH hF;have HN:=LH hn;rw[<-hn]at hcap hlen|-;clear hma hF hn
 go_enter Tryz.func69,Tryz.ntmps69
 go_wp2
 go_loopg [5,10] n (fun g s5 s10 wr=>∃i:Nat,g=n-i/\i<=n/\s10=.int .i64 i/\s5=.int .i64 (firstK ms i)/\Bel w.heap.size w wr)
 case atStart=>exact⟨0,rfl,Nat.zero_le _,rfl,rfl,Bel.refl _ _⟩
 case round=>
  obtain⟨i,hg,hi,rfl,rfl,hbr⟩:=hrel;have HB:=LH hbr
  by_cases hlt:i<n
  .have HMR:=LH (HM.out.bel (by exact hbr));obtain⟨b,o,rfl,hbl,ph,ho,hl,hc,x,a,q,c,k,f0,f1,f2,f3,f4,hmv⟩:=HMR.out.el (i:=i) (by rw[<-HN.out];exact hlt);have HMV:=LH hmv;have HFI:=LH (HF.out i (by rw[<-HN.out];exact hlt));have hlo:=firstK_lo ms i;obtain⟨at',hat⟩:∃z,z=firstK ms i:=⟨_,rfl⟩
   rw[<-hat]at hlo|-;have HAT:=LH hat;clear hmv hbr hat
   go_upto_region 5 with fail
   refine name_world ?_;intro W1 hW1;have hB1:Bel wr.heap.size wr W1:=by rw[hW1];exact(Bel.refl _ _).alloc NL _
   have hk7:=at_world hW1 (b:=wr.heap.size) (heap_new _ _ rfl);obtain⟨r0,r1,r2,r3,r4⟩:=row5 hk7;have HB1:=LH hB1;clear hW1 hk7 f0 f1 f2 f3 f4;have HB2:Hid (Bel wr.heap.size wr W1.drew):=HB1.out.drew
   by_cases h0:at'<0
   .have hd:decide (at'<0)=true:=decide_eq_true h0;have HS:Hid (firstK ms (i+1)=i):=by show _=_;rw[firstK,if_pos (.inl (by rw[<-HAT.out];exact h0))]
    clear hB1 hlo HM HMR HF hbl
    go_wp2_with fail
    go_still_tail 9,(by kernel_rfl)
    change wpList _ _ _ _ _ (World.drew _);clear r0 r1 r2 r3 r4;generalize W1.drew=W2 at HB2|-
    go_wp2_with fail
    go_roundg (n-(i+1))
    case rel=>exact⟨i+1,rfl,by omega,by push_cast;rfl,by rw[HS.out],HB.out.trans (HB2.out.mono HB.out.size)⟩
    case measure=>omega
   .have hd:decide (at'<0)=false:=decide_eq_false h0;obtain⟨j,rfl⟩:∃j:Nat,at'=j:=⟨at'.toNat,by omega⟩
    have hji:j<n:=by omega
    obtain⟨b',o',eb,hbl',ph',ho',hl',hc',x',a',q',c',k',g0,g1,g2,g3,g4,hmv'⟩:=HMR.out.el (i:=j) (by rw[<-HN.out];exact hji);obtain⟨rfl,rfl⟩:b=b'/\o=o':=by cases eb;exact⟨rfl,rfl⟩
    have HMV':=LH hmv';have HFJ:=LH (HF.out j (by rw[<-HN.out];exact hji));obtain⟨j0,-⟩:=bcell hB1;rw[<-j0 b _ hbl]at g0 g1 g2 g3 g4;obtain⟨z,hz⟩:∃z,z=cmpR (ms.getD i move0).cost (ms.getD j move0).cost:=⟨_,rfl⟩
    have HZ:=LH hz
    have HS:Hid (firstK ms (i+1)=if z<0 then(i:Int) else j):=by
     show _=_
     have h1:¬((j:Int)<0):=by omega
     rw[firstK,<-HAT.out,HZ.out];simp[h1]
    clear eb hmv' hbl' hz hB1 j0
    go_wp2_with fail
    go_still_tail 9,(by kernel_rfl)
    change wpList _ _ _ _ _ (World.drew _);clear g0 g1 g2 g3 g4 r0 r1 r2 r3 r4;generalize W1.drew=W2 at HB2|-
    go_wp2_with (go_at_call 122;refine(HCMP.out _ _ _ _ _ (HMV.out.bel HB2.out) (HMV'.out.bel HB2.out) HFI.out HFJ.out).mono ?_;rintro e w3 ⟨rfl,hb3⟩;rw[<-HZ.out])
    .rename_i hc0
     go_roundg (n-(i+1))
     case rel=>exact⟨i+1,rfl,by omega,by push_cast;rfl,by rw[HS.out,if_pos (by omega)],HB.out.trans ((HB2.out.trans (hb3.mono HB2.out.size)).mono HB.out.size)⟩
     case measure=>omega
    .rename_i hc0
     go_roundg (n-(i+1))
     case rel=>exact⟨i+1,rfl,by omega,by push_cast;rfl,by rw[HS.out,if_neg (by omega)],HB.out.trans ((HB2.out.trans (hb3.mono HB2.out.size)).mono HB.out.size)⟩
     case measure=>omega
  .obtain rfl:i=n:=by omega
   have HE:Hid (firstK ms i=firstI ms):=by show _=_;rw[HN.out];rfl
   clear hbr;go_wp2;go_ret;exact⟨by rw[<-HE.out];rfl,HB.out⟩
theorem findCmp_c {L:Nat}(hL:L<=500000000):MarkCmp 70 L:=by
 intro w v v' m m' hm hm' hF hF';obtain⟨ph,ho,hl,hc,x,a,n,c,k,rfl⟩:=hm.cells;obtain⟨ph',ho',hl',hc',x',a',n',c',k',rfl⟩:=hm'.cells;have HQ:=LH hm.qv.2.2;have HQ':=LH hm'.qv.2.2;have HF:=LH hF;have HF':=LH hF';clear hm hm' hF hF'
 go_enter Tryz.func70,Tryz.ntmps70
 go_wp2_with fail
 refine(qcmp_c ((HQ.out.pres (Pres.alloc _ _)).pres (Pres.alloc _ _)) ((HQ'.out.pres (Pres.alloc _ _)).pres (Pres.alloc _ _)) HF.out HF'.out (by omega)).mono ?_;rintro e w2 ⟨rfl,hb⟩;go_wp2;go_ret;exact⟨rfl,(Bel.new.alloc (by simp) _).trans (hb.mono (by simp;omega))⟩
theorem findFirst_c {w:World}{v:Value}{ms:List MoveD}{L:Nat}(hv:MarksV w v ms)(hF:∀i,i<ms.length->QF L (ms.getD i move0).cost)(hL:L<=500000000)(hlen:ms.length<=1000000):
 Calls Tryz.prog 69 #[v,.func (.func 70) #[] #[]] w fun e w'=>e=.returned (.int .i64 (firstI ms))/\Bel w.heap.size w w':=by
 have HCMP:=LH (findCmp_c hL);obtain⟨ao,cap,f,rfl,hcap,hma⟩:=hv;obtain⟨n,hn⟩:∃n,n=ms.length:=⟨_,rfl⟩
 have HM:=LH hma;have HF:=LH hF;have HN:=LH hn;rw[<-hn]at hcap hlen|-;clear hma hF hn
 go_enter Tryz.func69,Tryz.ntmps69
 go_wp2
 go_loopg [5,10] n (fun g s5 s10 wr=>∃i:Nat,g=n-i/\i<=n/\s10=.int .i64 i/\s5=.int .i64 (firstK ms i)/\Bel w.heap.size w wr)
 case atStart=>exact⟨0,rfl,Nat.zero_le _,rfl,rfl,Bel.refl _ _⟩
 case round=>
  obtain⟨i,hg,hi,rfl,rfl,hbr⟩:=hrel;have HB:=LH hbr
  by_cases hlt:i<n
  .have HMR:=LH (HM.out.bel (by exact hbr));obtain⟨b,o,rfl,hbl,ph,ho,hl,hc,x,a,q,c,k,f0,f1,f2,f3,f4,hmv⟩:=HMR.out.el (i:=i) (by rw[<-HN.out];exact hlt);have HMV:=LH hmv;have HFI:=LH (HF.out i (by rw[<-HN.out];exact hlt));have hlo:=firstK_lo ms i;obtain⟨at',hat⟩:∃z,z=firstK ms i:=⟨_,rfl⟩
   rw[<-hat]at hlo|-;have HAT:=LH hat;clear hmv hbr hat
   go_upto_region 5 with fail
   refine name_world ?_;intro W1 hW1;have hB1:Bel wr.heap.size wr W1:=by rw[hW1];exact(Bel.refl _ _).alloc NL _
   have hk7:=at_world hW1 (b:=wr.heap.size) (heap_new _ _ rfl);obtain⟨r0,r1,r2,r3,r4⟩:=row5 hk7;have HB1:=LH hB1;clear hW1 hk7 f0 f1 f2 f3 f4;have HB2:Hid (Bel wr.heap.size wr W1.drew):=HB1.out.drew
   by_cases h0:at'<0
   .have hd:decide (at'<0)=true:=decide_eq_true h0;have HS:Hid (firstK ms (i+1)=i):=by show _=_;rw[firstK,if_pos (.inl (by rw[<-HAT.out];exact h0))]
    clear hB1 hlo HM HMR HF hbl
    go_wp2_with fail
    go_still_tail 9,(by kernel_rfl)
    change wpList _ _ _ _ _ (World.drew _);clear r0 r1 r2 r3 r4;generalize W1.drew=W2 at HB2|-
    go_wp2_with fail
    go_roundg (n-(i+1))
    case rel=>exact⟨i+1,rfl,by omega,by push_cast;rfl,by rw[HS.out],HB.out.trans (HB2.out.mono HB.out.size)⟩
    case measure=>omega
   .have hd:decide (at'<0)=false:=decide_eq_false h0;obtain⟨j,rfl⟩:∃j:Nat,at'=j:=⟨at'.toNat,by omega⟩
    have hji:j<n:=by omega
    obtain⟨b',o',eb,hbl',ph',ho',hl',hc',x',a',q',c',k',g0,g1,g2,g3,g4,hmv'⟩:=HMR.out.el (i:=j) (by rw[<-HN.out];exact hji);obtain⟨rfl,rfl⟩:b=b'/\o=o':=by cases eb;exact⟨rfl,rfl⟩
    have HMV':=LH hmv';have HFJ:=LH (HF.out j (by rw[<-HN.out];exact hji));obtain⟨j0,-⟩:=bcell hB1;rw[<-j0 b _ hbl]at g0 g1 g2 g3 g4;obtain⟨z,hz⟩:∃z,z=cmpR (ms.getD i move0).cost (ms.getD j move0).cost:=⟨_,rfl⟩
    have HZ:=LH hz
    have HS:Hid (firstK ms (i+1)=if z<0 then(i:Int) else j):=by
     show _=_
     have h1:¬((j:Int)<0):=by omega
     rw[firstK,<-HAT.out,HZ.out];simp[h1]
    clear eb hmv' hbl' hz hB1 j0
    go_wp2_with fail
    go_still_tail 9,(by kernel_rfl)
    change wpList _ _ _ _ _ (World.drew _);clear g0 g1 g2 g3 g4 r0 r1 r2 r3 r4;generalize W1.drew=W2 at HB2|-
    go_wp2_with (go_at_call 70;refine(HCMP.out _ _ _ _ _ (HMV.out.bel HB2.out) (HMV'.out.bel HB2.out) HFI.out HFJ.out).mono ?_;rintro e w3 ⟨rfl,hb3⟩;rw[<-HZ.out])
    .rename_i hc0
     go_roundg (n-(i+1))
     case rel=>exact⟨i+1,rfl,by omega,by push_cast;rfl,by rw[HS.out,if_pos (by omega)],HB.out.trans ((HB2.out.trans (hb3.mono HB2.out.size)).mono HB.out.size)⟩
     case measure=>omega
    .rename_i hc0
     go_roundg (n-(i+1))
     case rel=>exact⟨i+1,rfl,by omega,by push_cast;rfl,by rw[HS.out,if_neg (by omega)],HB.out.trans ((HB2.out.trans (hb3.mono HB2.out.size)).mono HB.out.size)⟩
     case measure=>omega
  .obtain rfl:i=n:=by omega
   have HE:Hid (firstK ms i=firstI ms):=by show _=_;rw[HN.out];rfl
   clear hbr;go_wp2;go_ret;exact⟨by rw[<-HE.out];rfl,HB.out⟩
end Go.Proofs.YtlgjakpoaelehaaGreat
