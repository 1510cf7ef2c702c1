/- Contracts and plain laws, merged: WA WB WC WK -/
import Derived.Great.BuildSlice
import Derived.Test.YtlgjakpoaelehaaGreatSB09
import Derived.Test.YtlgjakpoaelehaaGreatSB12
import Derived.Test.YtlgjakpoaelehaaGreatSB15
import Derived.Test.YtlgjakpoaelehaaGreatSB22
import Derived.Test.YtlgjakpoaelehaaGreatSB24
namespace Go.Proofs.YtlgjakpoaelehaaGreat
open Go.RowKit
set_option maxRecDepth 100000
set_option maxHeartbeats 8000000
theorem load12 {w:World}{b:Nat}{T:TypeId}{a0 a1 a2 a3 a4 a5 a6 a7 a8 a9 a10 a11:Value}(h:w.heap[b]?=some (.cells #[a0,a1,a2,a3,a4,a5,a6,a7,a8,a9,a10,a11] T)):(loadVar 97 ⟨b,0,none⟩).run Tryz.prog w=.ok (.agg #[a0,a1,a2,a3,a4,a5,a6,a7,a8,a9,a10,a11]) w:=by
 have c0:w.cell? ⟨b,0,none⟩=some a0:=by simp[World.cell?,h]
 have c1:w.cell? ⟨b,1,none⟩=some a1:=by simp[World.cell?,h]
 have c2:w.cell? ⟨b,2,none⟩=some a2:=by simp[World.cell?,h]
 have c3:w.cell? ⟨b,3,none⟩=some a3:=by simp[World.cell?,h]
 have c4:w.cell? ⟨b,4,none⟩=some a4:=by simp[World.cell?,h]
 have c5:w.cell? ⟨b,5,none⟩=some a5:=by simp[World.cell?,h]
 have c6:w.cell? ⟨b,6,none⟩=some a6:=by simp[World.cell?,h]
 have c7:w.cell? ⟨b,7,none⟩=some a7:=by simp[World.cell?,h]
 have c8:w.cell? ⟨b,8,none⟩=some a8:=by simp[World.cell?,h]
 have c9:w.cell? ⟨b,9,none⟩=some a9:=by simp[World.cell?,h]
 have c10:w.cell? ⟨b,10,none⟩=some a10:=by simp[World.cell?,h]
 have c11:w.cell? ⟨b,11,none⟩=some a11:=by simp[World.cell?,h]
 clear h;go_simp
theorem post_box1 {P:Program}{fn:Func}{Qp:Ending->World->Prop}{a:Act}{w:World}{p:Tmp}{ty:TypeId}{b:Nat}{v:Value}(hr:fn.results=#[.cell p ty])(hp:a.tmps.getD p undef=.pointer (some ⟨b,0,none⟩))(hd:a.defers=[])
 (hl:(loadVar ty ⟨b,0,none⟩).run P w=.ok v w) (h:Qp (.returned v) w):bodyPost P fn Qp Exit.ret a w:=
 bodyPost_ret (results_c1 hr _ hp hl) hd h
def LV (w:World)(v:Value)(k:Rat):Prop:=∃(x:Bool) (a:Option Addr) (n:Nat) (c:Option Addr) (m:Nat),
 v=.agg #[.bool x,.slice a n n,.slice c m m,.bool false,.slice none 0 0,.slice none 0 0,.bool false,.slice none 0 0,.slice none 0 0,.bool false,.slice none 0 0,.slice none 0 0]/\QV w (.agg #[.bool x,.slice a n n,.slice c m m]) k
theorem level_c {w:World}{k:Int}(h1:-9223372036854775808<=k)(h2:k<9223372036854775808):Calls Tryz.prog 118 #[.int .i64 k] w (Gives w fun v w'=>LV w' v (k:Rat)):=by
 go_enter Tryz.func118,Tryz.ntmps118
 go_wp2_with fail
 obtain⟨W1,hW1⟩:∃W1,W1=w.alloc (.cells #[.bool false,.slice none 0 0,.slice none 0 0,.bool false,.slice none 0 0,.slice none 0 0,.bool false,.slice none 0 0,.slice none 0 0,.bool false,.slice none 0 0,.slice none 0 0] 97):=⟨_,rfl⟩
 rw[<-hW1];have hk2:W1.heap[w.heap.size]?=some (.cells #[.bool false,.slice none 0 0,.slice none 0 0,.bool false,.slice none 0 0,.slice none 0 0,.bool false,.slice none 0 0,.slice none 0 0,.bool false,.slice none 0 0,.slice none 0 0] 97):=by rw[hW1];exact heap_new _ _ rfl
 have hB1:Bel w.heap.size w W1:=by rw[hW1];exact(Bel.refl _ _).alloc NL _
 have hz1:=BlkT.lt ⟨_,_,hk2⟩;clear hW1;refine(Int_c h1 h2).mono ?_;rintro e w2 ⟨vq,rfl,hq,hb2⟩;obtain⟨x,a,n,c,m,rfl⟩:=QV.cells hq;have hk22:=(hb2.block _ hz1).trans hk2;have HB2:Hid (Bel w.heap.size w w2):=hB1.trans (hb2.mono hB1.size);have HQ:=LH hq;have HK2:=LH hk22;have hz2:=BlkT.lt ⟨_,_,hk22⟩;clear hq hb2 hk2 hk22 hB1 hz1
 go_wp2_with (refine wpList_store_row rfl 97 (.tmp 2) (.tmp 6) rfl w.heap.size _ rfl rfl 97 _ HK2.out (by kernel_rfl) rfl (by kernel_rfl) ?_)
 exact post_box1 rfl rfl rfl (load12 (setRow_heap _ _ _ _ _ _ HK2.out)) ⟨_,rfl,⟨_,_,_,_,_,rfl,HQ.out.pres (Pres.setRow' ⟨_,_,HK2.out⟩ (by decide) _)⟩,HB2.out.setRow NL _⟩
def exV (j:Nat)(w:World)(v:Value):Prop:=
 match j with
 |0=>LV w v (0:Int)
 |1=>LV w v (1:Int)
 |2=>LV w v (2:Int)
 |3=>LV w v (3:Int)
 |4=>∃ao g,v=.slice ao 4 4/\HoldsV w ao exP.map g
 |5=>QV w v (2:Int)
 |6=>QV w v (1:Int)
 |7=>QV w v (1:Int)
 |8=>QV w v (1:Int)
 |9=>∃g:Nat->Value,v=.agg #[g 1,g 2,g 3,g 4,g 5,g 6,g 7,g 8,g 9,g 10,g 11,g 12,g 13,g 14,g 15,g 16,g 17,g 18,g 19,g 20,g 21,g 22,g 23,g 24,g 25]/\WalkAt w g 1 exP.walker
 |10=>WordV w v [3,1,3,2]
 |11=>IntsV w v [0,1]
 |12=>QV w v (2:Int)
 |13=>PVal w v exP
 |_=>True
theorem exV.bel {w w':World}(hb:Bel w.heap.size w w'):∀{j:Nat} {v:Value},exV j w v->exV j w' v:=by
 have hp (T:TypeId):Pres T w w':=Pres.below hb.toBelow;intro j v h;unfold exV at h|-;split at h
 all_goals first
  |(obtain⟨x,a,n,c,m,e,hq⟩:=h;exact⟨x,a,n,c,m,e,hq.pres (hp _)⟩)
  |exact QV.pres h (hp _)
  |exact WordT.pres h (hp _)
  |exact IntsV.pres h (hp _)
  |exact PVal.bel h hb
  |(obtain⟨ao,g,e,hh⟩:=h;exact⟨ao,g,e,hh.bel hb⟩)
  |(obtain⟨g,e,hh⟩:=h;exact⟨g,e,hh.pres (hp _)⟩)
  |trivial
def exF (B0 B1:Nat)(u2:Value)(ds:List Deferred)(v:Nat->Value):Act:={tmps:=#[.pointer (some ⟨B0,0,none⟩),.pointer (some ⟨B1,0,none⟩),u2,v 0,v 1,v 2,v 3,v 4,v 5,v 6,v 7,v 8,v 9,v 10,v 11,v 12,v 13],defers:=ds}
def exInv (W8:World)(B0 B1:Nat)(u2:Value)(ds:List Deferred)(L:Array Bool)(a:Act)(w:World):Prop:=
 L.size=15/\∃v,a=exF B0 B1 u2 ds v/\((L.getD 14 true=false/\Bel W8.heap.size W8 w/\∀j,j<14->L.getD j false=true->exV j w (v j))\/
  ((∀j,L.getD j true=true)/\∃cs,w.heap[B0]?=some (.cells cs 44)/\PVal w (.agg cs) exP/\W8.grownBy w (some B0)))
theorem exInv.next {W8 w w':World}{B0 B1:Nat}{u2 val:Value}{ds:List Deferred}{L:Array Bool}{v:Nat->Value}{i:Nat}(hi:i<14)(hs:L.size=15)(h14:L.getD 14 true=false)(hb:Bel W8.heap.size W8 w)(hv:∀j,j<14->L.getD j false=true->exV j w (v j))
 (hb':Bel w.heap.size w w') (hval:exV i w' val):exInv W8 B0 B1 u2 ds (L.setIfInBounds i true) (exF B0 B1 u2 ds (updV v i val)) w':=by
 refine⟨by simpa using hs,_,rfl,.inl ⟨by rw[getD_set_ne true (by omega)];exact h14,hb.trans (hb'.mono hb.size),fun j hj hl=>?_⟩⟩;unfold updV
 by_cases e:j=i
 .subst e;rw[if_pos rfl];exact hval
 .rw[if_neg e];rw[getD_set_ne false (Ne.symm e)]at hl;exact(hv j hj hl).bel hb'
theorem keepL {L:Array Bool}{i j:Nat}(hij:i≠j)(h:(L.setIfInBounds i true).getD j false=true):L.getD j false=true:=by rw[getD_set_ne false hij]at h;exact h
theorem CellsAt.row_new (w:World)(cs:Array Value)(T:TypeId)(n:Nat)(hn:cs.size=n):CellsAt T (w.alloc (.cells cs T)) (some ⟨w.heap.size,0,none⟩) n (fun k=>cs.getD k undef):=
 CellsAt.of_block (heap_new _ _ rfl) fun k hk=>by
  rw[Nat.zero_add,Array.getD_eq_getD_getElem?,Array.getElem?_eq_getElem (show k<cs.size by omega)];rfl
theorem wordLit (w:World):WordV (w.alloc (.cells #[.int .u8 3,.int .u8 1,.int .u8 3,.int .u8 2] 5)) (.slice (some ⟨w.heap.size,0,none⟩) 4 4) [3,1,3,2]:=
 ⟨fun k=>by rcases k with _|_|_|_|k<;>simp,_,4,rfl,Nat.le_refl _,(CellsAt.row_new w #[.int .u8 3,.int .u8 1,.int .u8 3,.int .u8 2] 5 4 rfl).congr fun k hk=>by
  rcases k with _|_|_|_|k
  .rfl
  .rfl
  .rfl
  .rfl
  .omega⟩
theorem QV.one {w:World}{a b c:Value}{q:Rat}(h:QV w (.agg #[a,b,c]) q):a.oneCell'=true/\b.oneCell'=true/\c.oneCell'=true:=by
 obtain⟨x,a',n,c',m,e⟩:=QV.cells h;simp only[Value.agg.injEq,Array.mk.injEq,List.cons.injEq,and_true]at e;obtain⟨rfl,rfl,rfl⟩:=e;exact⟨rfl,rfl,rfl⟩
theorem pbox_one {w:World}{g:Nat->Value}{p:ProbD}(h:ProbV w g p):(pbox g).all (·.oneCell')=true:=by
 obtain⟨ao,cap,mg,e0,-,-⟩:=h.map;obtain⟨wo,wc,e26⟩:=WordT.len h.word;obtain⟨so,sc,e27,-,-⟩:=h.start;obtain⟨go,gc,e28,-,-⟩:=h.goal;have e1:=h.walker.legs;obtain⟨a1,a2,a3⟩:=QV.one h.walker.long;obtain⟨b1,b2,b3⟩:=QV.one h.walker.up;obtain⟨c1,c2,c3⟩:=QV.one h.walker.down;obtain⟨d1,d2,d3⟩:=QV.one h.walker.span;obtain⟨f1,f2,f3⟩:=QV.one h.walker.weight;obtain⟨i1,i2,i3⟩:=QV.one h.walker.perLength;obtain⟨j1,j2,j3⟩:=QV.one h.walker.perRise
 obtain⟨k1,k2,k3⟩:=QV.one h.walker.perPhase;obtain⟨t1,t2,t3⟩:=QV.one h.target;simp only[Nat.reduceAdd]at a1 a2 a3 b1 b2 b3 c1 c2 c3 d1 d2 d3 f1 f2 f3 i1 i2 i3 j1 j2 j3 k1 k2 k3;have s0:(g 0).oneCell'=true:=by rw[e0];rfl
 have s1:(g 1).oneCell'=true:=by rw[e1];rfl
 have s26:(g 26).oneCell'=true:=by rw[e26];rfl
 have s27:(g 27).oneCell'=true:=by rw[e27];rfl
 have s28:(g 28).oneCell'=true:=by rw[e28];rfl
 simp[pbox, *];exact⟨rfl,rfl,rfl,rfl,rfl⟩
theorem grown_setRow {w w1:World}{B:Nat}{cs:Array Value}(h:Bel w.heap.size w w1):w.grownBy (w1.setRow B cs) (some B):=
 ⟨h.os,h.tape,h.output,by simp;exact h.size,fun k hk hB=>by
  have hne:k≠B:=fun e=>hB (by rw[e]);rw[setRow_other _ _ _ _ hne];exact h.block k hk⟩
noncomputable def exReg:Code:=((Tryz.f57.body.bind (regionOf 2)).getD .skip)
theorem LV.lit {w:World}{v:Value}{k:Rat}(h:LV w v k):∃(x:Bool) (a:Option Addr) (n:Nat) (c:Option Addr) (m:Nat),
 v=.agg #[.bool x,.slice a n n,.slice c m m,.bool false,.slice none 0 0,.slice none 0 0,.bool false,.slice none 0 0,.slice none 0 0,.bool false,.slice none 0 0,.slice none 0 0]/\QV w (.agg #[.bool x,.slice a n n,.slice c m m]) k:=h
theorem exReg_c {W8:World}{B0 B1:Nat}{z0:Array Value}{x1:Bool}{a1:Option Addr}{n1:Nat}{c1:Option Addr}{k1:Nat}{K:Act->World->Prop}{Q0:Exit->Act->World->Prop}{ds:List Deferred}(u2:Value)(v:Nat->Value)
 (HK0:Hid (W8.heap[B0]?=some (.cells z0 44))) (hz0:z0.size=32) (HK1:Hid (W8.heap[B1]?=some (.cells #[.bool x1,.slice a1 n1 n1,.slice c1 k1 k1] 39))) (HQ1:Hid (QV W8 (.agg #[.bool x1,.slice a1 n1 n1,.slice c1 k1 k1]) (1:Int)))
 (hK:∀(v:Nat->Value) (wx:World) (cs:Array Value),wx.heap[B0]?=some (.cells cs 44)->PVal wx (.agg cs) exP->W8.grownBy wx (some B0)->K (exF B0 B1 u2 ds v) wx):
 Code.wp Tryz.prog exReg (Exit.then K Q0) (exF B0 B1 u2 ds v) W8:=by
 have l0:=BlkT.lt ⟨_,_,HK0.out⟩;have l1:=BlkT.lt ⟨_,_,HK1.out⟩
 conv=>arg 2;whnf
 refine wp_region_noPanic ?_;refine wp_region_inv (Inv:=exInv W8 B0 B1 u2 ds) (by kernel_rfl) (by kernel_rfl) (fun L a w h=>h.1) ?_ ?_ ?_
 .exact⟨by simp,v,rfl,.inl ⟨by kernel_rfl,Bel.drew (Bel.refl _ _),fun j hj hl=>by
   exfalso
   have:(Array.replicate 15 false).getD j false=false:=by
    simp only[Array.getD_eq_getD_getElem?,Array.getElem?_replicate];split<;>rfl
   rw[show(Array.replicate 15 false).getD j false=true from hl]at this
   cases this⟩⟩
 .refine StepsI.cons rfl rfl (fun L a w hI hi hd K' hK'=>?_) ?_
  .obtain⟨hs,v,rfl,⟨h14,hb,hv⟩|⟨h,-⟩⟩:=hI
   .unfold exF;go_simp;refine(level_c (k:=0) (by decide) (by decide)).mono ?_;rintro e w' ⟨v',rfl,hlv,hb'⟩;refine hK'.out _ _ ?_;have hN:=exInv.next (B0:=B0) (B1:=B1) (u2:=u2) (ds:=ds) (i:=0) (val:=v') (by decide) hs h14 hb hv hb' hlv;exact hN
   .rw[h]at hi;cases hi
  .refine StepsI.cons rfl rfl (fun L a w hI hi hd K' hK'=>?_) ?_
   .obtain⟨hs,v,rfl,⟨h14,hb,hv⟩|⟨h,-⟩⟩:=hI
    .unfold exF;go_simp;refine(level_c (k:=1) (by decide) (by decide)).mono ?_;rintro e w' ⟨v',rfl,hlv,hb'⟩;refine hK'.out _ _ ?_;have hN:=exInv.next (B0:=B0) (B1:=B1) (u2:=u2) (ds:=ds) (i:=1) (val:=v') (by decide) hs h14 hb hv hb' hlv;exact hN
    .rw[h]at hi;cases hi
   .refine StepsI.cons rfl rfl (fun L a w hI hi hd K' hK'=>?_) ?_
    .obtain⟨hs,v,rfl,⟨h14,hb,hv⟩|⟨h,-⟩⟩:=hI
     .unfold exF;go_simp;refine(level_c (k:=2) (by decide) (by decide)).mono ?_;rintro e w' ⟨v',rfl,hlv,hb'⟩;refine hK'.out _ _ ?_;have hN:=exInv.next (B0:=B0) (B1:=B1) (u2:=u2) (ds:=ds) (i:=2) (val:=v') (by decide) hs h14 hb hv hb' hlv;exact hN
     .rw[h]at hi;cases hi
    .refine StepsI.cons rfl rfl (fun L a w hI hi hd K' hK'=>?_) ?_
     .obtain⟨hs,v,rfl,⟨h14,hb,hv⟩|⟨h,-⟩⟩:=hI
      .unfold exF;go_simp;refine(level_c (k:=3) (by decide) (by decide)).mono ?_;rintro e w' ⟨v',rfl,hlv,hb'⟩;refine hK'.out _ _ ?_;have hN:=exInv.next (B0:=B0) (B1:=B1) (u2:=u2) (ds:=ds) (i:=3) (val:=v') (by decide) hs h14 hb hv hb' hlv;exact hN
      .rw[h]at hi;cases hi
     .refine StepsI.cons rfl rfl (fun L a w hI hi hd K' hK'=>?_) ?_
      .obtain⟨hs,v,rfl,⟨h14,hb,hv⟩|⟨h,-⟩⟩:=hI
       .unfold exF;obtain⟨x0,a0,n0,c0,m0,e0,q0⟩:=hv 0 (by decide) (hd 0 (by decide));obtain⟨x1,a1,n1,c1,m1,e1,q1⟩:=hv 1 (by decide) (hd 1 (by decide));obtain⟨x2,a2,n2,c2,m2,e2,q2⟩:=hv 2 (by decide) (hd 2 (by decide));obtain⟨x3,a3,n3,c3,m3,e3,q3⟩:=hv 3 (by decide) (hd 3 (by decide));rw[e0,e1,e2,e3];go_simp;have hbw:Bel w.heap.size w (w.alloc (.cells #[.bool x0,.slice a0 n0 n0,.slice c0 m0 m0,.bool false,.slice none 0 0,.slice none 0 0,.bool false,.slice none 0 0,.slice none 0 0,.bool false,.slice none 0 0,.slice none 0 0,.bool x1,.slice a1 n1 n1,.slice c1 m1 m1,.bool false,.slice none 0 0,.slice none 0 0,.bool false,.slice none 0 0,.slice none 0 0,.bool false,.slice none 0 0,.slice none 0 0,.bool x2,.slice a2 n2 n2,.slice c2 m2 m2,.bool false,.slice none 0 0,.slice none 0 0,.bool false,.slice none 0 0,.slice none 0 0,.bool false,.slice none 0 0,.slice none 0 0,.bool x3,.slice a3 n3 n3,.slice c3 m3 m3,.bool false,.slice none 0 0,.slice none 0 0,.bool false,.slice none 0 0,.slice none 0 0,.bool false,.slice none 0 0,.slice none 0 0] 97)):=(Bel.refl _ _).alloc NL _
        have q0':=QV.pres q0 hbw.pb;have q1':=QV.pres q1 hbw.pb;have q2':=QV.pres q2 hbw.pb;have q3':=QV.pres q3 hbw.pb
        have hv4:exV 4 (w.alloc (.cells #[.bool x0,.slice a0 n0 n0,.slice c0 m0 m0,.bool false,.slice none 0 0,.slice none 0 0,.bool false,.slice none 0 0,.slice none 0 0,.bool false,.slice none 0 0,.slice none 0 0,.bool x1,.slice a1 n1 n1,.slice c1 m1 m1,.bool false,.slice none 0 0,.slice none 0 0,.bool false,.slice none 0 0,.slice none 0 0,.bool false,.slice none 0 0,.slice none 0 0,.bool x2,.slice a2 n2 n2,.slice c2 m2 m2,.bool false,.slice none 0 0,.slice none 0 0,.bool false,.slice none 0 0,.slice none 0 0,.bool false,.slice none 0 0,.slice none 0 0,.bool x3,.slice a3 n3 n3,.slice c3 m3 m3,.bool false,.slice none 0 0,.slice none 0 0,.bool false,.slice none 0 0,.slice none 0 0,.bool false,.slice none 0 0,.slice none 0 0] 97)) (.slice (some ⟨w.heap.size,0,none⟩) 4 4):=⟨_,fun k=>(#[.bool x0,.slice a0 n0 n0,.slice c0 m0 m0,.bool false,.slice none 0 0,.slice none 0 0,.bool false,.slice none 0 0,.slice none 0 0,.bool false,.slice none 0 0,.slice none 0 0,.bool x1,.slice a1 n1 n1,.slice c1 m1 m1,.bool false,.slice none 0 0,.slice none 0 0,.bool false,.slice none 0 0,.slice none 0 0,.bool false,.slice none 0 0,.slice none 0 0,.bool x2,.slice a2 n2 n2,.slice c2 m2 m2,.bool false,.slice none 0 0,.slice none 0 0,.bool false,.slice none 0 0,.slice none 0 0,.bool false,.slice none 0 0,.slice none 0 0,.bool x3,.slice a3 n3 n3,.slice c3 m3 m3,.bool false,.slice none 0 0,.slice none 0 0,.bool false,.slice none 0 0,.slice none 0 0,.bool false,.slice none 0 0,.slice none 0 0]:Array Value).getD k undef,rfl,CellsAt.row_new w _ _ _ rfl,fun i hi=>by
         have hi4:i<4:=hi;rcases i with _|_|_|_|i
         .exact⟨q0',QV.zero _,QV.zero _,QV.zero _⟩
         .exact⟨q1',QV.zero _,QV.zero _,QV.zero _⟩
         .exact⟨q2',QV.zero _,QV.zero _,QV.zero _⟩
         .exact⟨q3',QV.zero _,QV.zero _,QV.zero _⟩
         .omega⟩
        refine hK'.out _ _ ?_;have hN:=exInv.next (B0:=B0) (B1:=B1) (u2:=u2) (ds:=ds) (i:=4) (val:=.slice (some ⟨w.heap.size,0,none⟩) 4 4) (by decide) hs h14 hb hv hbw hv4;simp only[exF,updV,Nat.reduceEqDiff,if_true,if_false,reduceCtorEq,e0,e1,e2,e3]at hN;exact hN
       .rw[h]at hi;cases hi
      .refine StepsI.cons rfl rfl (fun L a w hI hi hd K' hK'=>?_) ?_
       .obtain⟨hs,v,rfl,⟨h14,hb,hv⟩|⟨h,-⟩⟩:=hI
        .unfold exF;go_simp;refine(Int_c (n:=2) (by decide) (by decide)).mono ?_;rintro e w' ⟨v',rfl,hlv,hb'⟩;refine hK'.out _ _ ?_;have hN:=exInv.next (B0:=B0) (B1:=B1) (u2:=u2) (ds:=ds) (i:=5) (val:=v') (by decide) hs h14 hb hv hb' hlv;exact hN
        .rw[h]at hi;cases hi
       .refine StepsI.cons rfl rfl (fun L a w hI hi hd K' hK'=>?_) ?_
        .obtain⟨hs,v,rfl,⟨h14,hb,hv⟩|⟨h,-⟩⟩:=hI
         .unfold exF;obtain⟨b0,b1,b2,-,-,-⟩:=row3 ((hb.block _ l1).trans HK1.out);go_simp;refine hK'.out _ _ ?_;have hN:=exInv.next (B0:=B0) (B1:=B1) (u2:=u2) (ds:=ds) (i:=6) (val:=.agg #[.bool x1,.slice a1 n1 n1,.slice c1 k1 k1]) (by decide) hs h14 hb hv (Bel.refl _ _) (HQ1.out.pres hb.pb);exact hN
         .rw[h]at hi;cases hi
        .refine StepsI.cons rfl rfl (fun L a w hI hi hd K' hK'=>?_) ?_
         .obtain⟨hs,v,rfl,⟨h14,hb,hv⟩|⟨h,-⟩⟩:=hI
          .unfold exF;obtain⟨b0,b1,b2,-,-,-⟩:=row3 ((hb.block _ l1).trans HK1.out);go_simp;refine hK'.out _ _ ?_;have hN:=exInv.next (B0:=B0) (B1:=B1) (u2:=u2) (ds:=ds) (i:=7) (val:=.agg #[.bool x1,.slice a1 n1 n1,.slice c1 k1 k1]) (by decide) hs h14 hb hv (Bel.refl _ _) (HQ1.out.pres hb.pb);exact hN
          .rw[h]at hi;cases hi
         .refine StepsI.cons rfl rfl (fun L a w hI hi hd K' hK'=>?_) ?_
          .obtain⟨hs,v,rfl,⟨h14,hb,hv⟩|⟨h,-⟩⟩:=hI
           .unfold exF;obtain⟨b0,b1,b2,-,-,-⟩:=row3 ((hb.block _ l1).trans HK1.out);go_simp;refine hK'.out _ _ ?_;have hN:=exInv.next (B0:=B0) (B1:=B1) (u2:=u2) (ds:=ds) (i:=8) (val:=.agg #[.bool x1,.slice a1 n1 n1,.slice c1 k1 k1]) (by decide) hs h14 hb hv (Bel.refl _ _) (HQ1.out.pres hb.pb);exact hN
           .rw[h]at hi;cases hi
          .refine StepsI.cons rfl rfl (fun L a w hI hi hd K' hK'=>?_) ?_
           .obtain⟨hs,v,rfl,⟨h14,hb,hv⟩|⟨h,-⟩⟩:=hI
            .unfold exF;have q5:QV w (v 5) _:=hv 5 (by decide) (hd 5 (by decide));have q6:QV w (v 6) _:=hv 6 (by decide) (hd 6 (by decide));have q7:QV w (v 7) _:=hv 7 (by decide) (hd 7 (by decide));have q8:QV w (v 8) _:=hv 8 (by decide) (hd 8 (by decide));obtain⟨x5,a5,n5,c5,m5,e5⟩:=QV.cells q5;obtain⟨x6,a6,n6,c6,m6,e6⟩:=QV.cells q6;obtain⟨x7,a7,n7,c7,m7,e7⟩:=QV.cells q7;obtain⟨x8,a8,n8,c8,m8,e8⟩:=QV.cells q8
             rw[e5,e6,e7,e8];go_simp;rw[e5]at q5;rw[e6]at q6;rw[e7]at q7;rw[e8]at q8;have hv9:exV 9 w (.agg #[.int .i64 2,.bool x5,.slice a5 n5 n5,.slice c5 m5 m5,.bool false,.slice none 0 0,.slice none 0 0,.bool false,.slice none 0 0,.slice none 0 0,.bool x6,.slice a6 n6 n6,.slice c6 m6 m6,.bool false,.slice none 0 0,.slice none 0 0,.bool x7,.slice a7 n7 n7,.slice c7 m7 m7,.bool false,.slice none 0 0,.slice none 0 0,.bool x8,.slice a8 n8 n8,.slice c8 m8 m8]):=⟨fun k=>(#[undef,.int .i64 2,.bool x5,.slice a5 n5 n5,.slice c5 m5 m5,.bool false,.slice none 0 0,.slice none 0 0,.bool false,.slice none 0 0,.slice none 0 0,.bool x6,.slice a6 n6 n6,.slice c6 m6 m6,.bool false,.slice none 0 0,.slice none 0 0,.bool x7,.slice a7 n7 n7,.slice c7 m7 m7,.bool false,.slice none 0 0,.slice none 0 0,.bool x8,.slice a8 n8 n8,.slice c8 m8 m8]:Array Value).getD k undef,rfl,⟨rfl,q5,QV.zero _,QV.zero _,q6,QV.zero _,q7,QV.zero _,q8⟩⟩
             refine hK'.out _ _ ?_;have hN:=exInv.next (B0:=B0) (B1:=B1) (u2:=u2) (ds:=ds) (i:=9) (val:=.agg #[.int .i64 2,.bool x5,.slice a5 n5 n5,.slice c5 m5 m5,.bool false,.slice none 0 0,.slice none 0 0,.bool false,.slice none 0 0,.slice none 0 0,.bool x6,.slice a6 n6 n6,.slice c6 m6 m6,.bool false,.slice none 0 0,.slice none 0 0,.bool x7,.slice a7 n7 n7,.slice c7 m7 m7,.bool false,.slice none 0 0,.slice none 0 0,.bool x8,.slice a8 n8 n8,.slice c8 m8 m8]) (by decide) hs h14 hb hv (Bel.refl _ _) hv9
             simp only[exF,updV,Nat.reduceEqDiff,if_true,if_false,reduceCtorEq,e5,e6,e7,e8]at hN;exact hN
            .rw[h]at hi;cases hi
           .refine StepsI.cons rfl rfl (fun L a w hI hi hd K' hK'=>?_) ?_
            .obtain⟨hs,v,rfl,⟨h14,hb,hv⟩|⟨h,-⟩⟩:=hI
             .unfold exF;go_simp;have hbw:Bel w.heap.size w (w.alloc (.cells #[.int .u8 3,.int .u8 1,.int .u8 3,.int .u8 2] 5)):=(Bel.refl _ _).alloc NL _;have hvw:exV 10 (w.alloc (.cells #[.int .u8 3,.int .u8 1,.int .u8 3,.int .u8 2] 5)) (.slice (some ⟨w.heap.size,0,none⟩) 4 4):=wordLit w;refine hK'.out _ _ ?_;have hN:=exInv.next (B0:=B0) (B1:=B1) (u2:=u2) (ds:=ds) (i:=10) (val:=.slice (some ⟨w.heap.size,0,none⟩) 4 4) (by decide) hs h14 hb hv hbw hvw
              exact hN
             .rw[h]at hi;cases hi
            .refine StepsI.cons rfl rfl (fun L a w hI hi hd K' hK'=>?_) ?_
             .obtain⟨hs,v,rfl,⟨h14,hb,hv⟩|⟨h,-⟩⟩:=hI
              .unfold exF;go_simp;have hbw:Bel w.heap.size w (w.alloc (.cells #[.int .i64 0,.int .i64 1] 3)):=(Bel.refl _ _).alloc NL _
               have hvw:exV 11 (w.alloc (.cells #[.int .i64 0,.int .i64 1] 3)) (.slice (some ⟨w.heap.size,0,none⟩) 2 2):=⟨_,2,rfl,Nat.le_refl _,(CellsAt.row_new w #[.int .i64 0,.int .i64 1] 3 2 rfl).congr fun k hk=>by
                have hk2:k<2:=hk;rcases k with _|_|k
                .rfl
                .rfl
                .omega⟩
               refine hK'.out _ _ ?_;have hN:=exInv.next (B0:=B0) (B1:=B1) (u2:=u2) (ds:=ds) (i:=11) (val:=.slice (some ⟨w.heap.size,0,none⟩) 2 2) (by decide) hs h14 hb hv hbw hvw;exact hN
              .rw[h]at hi;cases hi
             .refine StepsI.cons rfl rfl (fun L a w hI hi hd K' hK'=>?_) ?_
              .obtain⟨hs,v,rfl,⟨h14,hb,hv⟩|⟨h,-⟩⟩:=hI
               .unfold exF;go_simp;refine(Int_c (n:=2) (by decide) (by decide)).mono ?_;rintro e w' ⟨v',rfl,hlv,hb'⟩;refine hK'.out _ _ ?_;have hN:=exInv.next (B0:=B0) (B1:=B1) (u2:=u2) (ds:=ds) (i:=12) (val:=v') (by decide) hs h14 hb hv hb' hlv;exact hN
               .rw[h]at hi;cases hi
              .refine StepsI.cons rfl rfl (fun L a w hI hi hd K' hK'=>?_) ?_
               .obtain⟨hs,v,rfl,⟨h14,hb,hv⟩|⟨h,-⟩⟩:=hI
                .unfold exF;obtain⟨ao4,g4,e4,h4⟩:=hv 4 (by decide) (hd 4 (by decide));obtain⟨g,e9,h9⟩:=hv 9 (by decide) (hd 9 (by decide));have h10:WordV w (v 10) [3,1,3,2]:=hv 10 (by decide) (hd 10 (by decide));obtain⟨a10,c10,e10⟩:=WordT.len h10;have h11:IntsV w (v 11) [0,1]:=hv 11 (by decide) (hd 11 (by decide));obtain⟨a11,c11,e11,-,-⟩:=id h11;have q12:QV w (v 12) _:=hv 12 (by decide) (hd 12 (by decide))
                 obtain⟨x12,a12,n12,c12,m12,e12⟩:=QV.cells q12;have g1:=h9.legs;rw[e4,e9,e10,e11,e12];go_simp;rw[e10]at h10;rw[e11]at h11;rw[e12]at q12;have hv13:exV 13 w (.agg #[.slice ao4 4 4,.int .i64 exP.walker.legs,g 2,g 3,g 4,g 5,g 6,g 7,g 8,g 9,g 10,g 11,g 12,g 13,g 14,g 15,g 16,g 17,g 18,g 19,g 20,g 21,g 22,g 23,g 24,g 25,.slice a10 4 c10,.slice a11 2 c11,.slice none 0 0,.bool x12,.slice a12 n12 n12,.slice c12 m12 m12]):=⟨fun k=>(#[.slice ao4 4 4,.int .i64 exP.walker.legs,g 2,g 3,g 4,g 5,g 6,g 7,g 8,g 9,g 10,g 11,g 12,g 13,g 14,g 15,g 16,g 17,g 18,g 19,g 20,g 21,g 22,g 23,g 24,g 25,.slice a10 4 c10,.slice a11 2 c11,.slice none 0 0,.bool x12,.slice a12 n12 n12,.slice c12 m12 m12]:Array Value).getD k undef,rfl,⟨⟨ao4,4,g4,rfl,Nat.le_refl _,h4⟩,⟨rfl,h9.long,h9.up,h9.down,h9.span,h9.weight,h9.perLength,h9.perRise,h9.perPhase⟩,h10,h11,⟨none,0,rfl,Nat.le_refl _,CellsAt.zero _ _ _ _⟩,q12⟩⟩
                 refine hK'.out _ _ ?_;have hN:=exInv.next (B0:=B0) (B1:=B1) (u2:=u2) (ds:=ds) (i:=13) (val:=.agg #[.slice ao4 4 4,.int .i64 exP.walker.legs,g 2,g 3,g 4,g 5,g 6,g 7,g 8,g 9,g 10,g 11,g 12,g 13,g 14,g 15,g 16,g 17,g 18,g 19,g 20,g 21,g 22,g 23,g 24,g 25,.slice a10 4 c10,.slice a11 2 c11,.slice none 0 0,.bool x12,.slice a12 n12 n12,.slice c12 m12 m12]) (by decide) hs h14 hb hv (Bel.refl _ _) hv13
                 simp only[exF,updV,Nat.reduceEqDiff,if_true,if_false,reduceCtorEq,e4,e9,e10,e11,e12,g1]at hN;exact hN
                .rw[h]at hi;cases hi
               .refine StepsI.cons rfl rfl (fun L a w hI hi hd K' hK'=>?_) ?_
                .obtain⟨hs,v,rfl,⟨h14,hb,hv⟩|⟨h,-⟩⟩:=hI
                 .unfold exF;have h13:PVal w (v 13) exP:=hv 13 (by decide) (hd 13 (by decide));obtain⟨g,e13,hpv⟩:=id h13;have hk0:=(hb.block _ l0).trans HK0.out;have h1:=pbox_one hpv;rw[if_pos (by kernel_rfl)];refine wp_store_row 44 (.tmp 0) (.tmp 16) rfl B0 (pbox g) rfl e13 44 z0 hk0 (by kernel_rfl) hz0 h1 ?_;have hg:=grown_setRow (B:=B0) (cs:=pbox g) hb;have hkp:=KpT.of_grown (grown_setRow (B:=B0) (cs:=pbox g) (Bel.refl w.heap.size w)) hk0
                  refine hK'.out _ _ ⟨by simpa using hs,v,rfl,.inr ⟨fun j=>?_,pbox g,setRow_heap _ _ _ _ _ _ hk0,by rw[<-e13];exact h13.keep4 hkp (by decide) (by decide) (by decide) (by decide),hg⟩⟩
                  by_cases e:14=j
                  .subst e;simp[hs]
                  .rw[getD_set_ne true e]
                   by_cases h15:j<15
                   .have hj14:j<14:=by omega
                    have:=hd j (by clear e h15;revert hj14;revert j;decide);simp only[Array.getD_eq_getD_getElem?]at this|-;rw[Array.getElem?_eq_getElem (show j<L.size by omega)]at this|-;exact this
                   .rw[Array.getD_eq_getD_getElem?,Array.getElem?_eq_none (by omega)];rfl
                 .rw[h]at hi;cases hi
                .exact StepsI.nil
 .intro L a w hI hall;obtain⟨hs,v,rfl,h|⟨-,cs,hc,hp,hg⟩⟩:=hI
  .have h1:=hall 14 (by decide);have h2:=h.1;exfalso;have hlt:14<L.size:=by omega
   simp[hlt]at h1 h2;rw[h1]at h2
   cases h2
  .exact NoPanic.normal (hK v w cs hc hp hg)
theorem PVal.load {w:World}{b:Nat}{cs:Array Value}{p:ProbD}{T:TypeId}(hp:PVal w (.agg cs) p)(h:w.heap[b]?=some (.cells cs T)):(loadVar 44 ⟨b,0,none⟩).run Tryz.prog w=.ok (.agg cs) w:=by
 obtain⟨g,e,-⟩:=hp
 injection e with e
 refine run_loadVar_row w b T 44 cs (0,0) _ h Tryz.underlying44 rfl ?_;rw[e]
 kernel_rfl
theorem example_c {w:World}:Calls Tryz.prog 57 #[] w fun e w'=>∃pv,e=.returned pv/\PVal w' pv exP/\Bel w.heap.size w w':=by
 go_enter Tryz.func57,Tryz.ntmps57
 go_wp2_with fail
 refine D4.name_call ?_;intro W1 hW1;have hk0:=at_world hW1 (b:=w.heap.size) (heap_new _ _ rfl);have hB1:Bel w.heap.size w W1:=by rw[hW1];exact(Bel.refl _ _).alloc NL _
 have HK0:=LH hk0;have l0:=BlkT.lt ⟨_,_,hk0⟩;clear hW1 hk0;refine(Int_c (n:=1) (by decide) (by decide)).mono ?_;rintro e w2 ⟨vq,rfl,hq,hb2⟩;obtain⟨x,a,n,c,m,rfl⟩:=QV.cells hq;have HQ:=LH hq;have HB2:Hid (Bel w.heap.size w w2):=hB1.trans (hb2.mono hB1.size);have HK02:=LH ((hb2.block _ l0).trans HK0.out);have l02:=BlkT.lt ⟨_,_,HK02.out⟩;clear hq hb2 hB1 HK0 l0
 go_upto_region 2 with fail
 refine name_world ?_;intro W8 hW8;have hb8:Bel w2.heap.size w2 W8:=by rw[hW8];exact(Bel.refl _ _).alloc NL _
 have HK1:=LH (at_world hW8 (b:=w2.heap.size) (heap_new _ _ rfl));have HK08:=LH ((hb8.block _ l02).trans HK02.out);have HQ8:Hid (QV W8 (.agg #[.bool x,.slice a n n,.slice c m m]) (1:Int)):=HQ.out.pres hb8.pb;have HB8:Hid (Bel w.heap.size w W8):=HB2.out.trans (hb8.mono HB2.out.size);clear hW8 hb8 HK02 l02 HQ HB2;refine exReg_c _ (fun _=>undef) HK08 rfl HK1 HQ8 (fun v wx cs h0 hp hg=>?_)
 have HB:Hid (Bel w.heap.size w wx):=HB8.out.trans (Bel.of_grown hg NL (BlkT.lt ⟨_,_,HK08.out⟩));unfold exF;have HP:=LH hp;have H0:=LH h0;clear hp h0 hg;go_wp2;exact post_box1 rfl rfl rfl (HP.out.load H0.out) ⟨_,rfl,HP.out,HB.out⟩
noncomputable def wkReg4:Code:=((Tryz.f11.body.bind (regionOf 4)).getD .skip)
theorem txt12:ratTxt 12=(⟨#[49,50]⟩:ByteArray):=by
 have h:digsR 12=[50,49]:=by
  rw[digsR_pos (by decide),show 12/10=1 from rfl,digsR_pos (by decide),show 1/10=0 from rfl,digsR_zero];rfl
 unfold ratTxt decL;simp[h]
theorem wkReg4_c {W8:World}{b o cap bn o2 cn BP L:Nat}{x:Bool}{a:Option Addr}{n:Nat}{c:Option Addr}{k:Nat}{wao:Option Addr}{wcap:Nat}{mv:Value}{pl:PlanD}{K:Act->World->Prop}{Q0:Exit->Act->World->Prop}{ds:List Deferred}
 (u0 u7 u8 u9 u10 u11 u12 u13 u14 u15 u16 u17 u18 u19 u20 u21 u22 u23 u24 u25 u26 u27 u28 u29 u30 u31 u32 u33 u34 u35 u36 u37 u38 u39 u40 u41 u42 u43 u44 u45 u46 u47 u48 u49 u50 u51 u52 u53 u54 u55 u56 u57 u58 u59 u60 u61 u62 u63 u64 u65 u66 u67 u68 u69 u70 u71 u72 u73 u74 u75 u76 u77 u78 u79 u80 u81 u82 u83 u84 u85 u86 u87 u88 u89 u90 u91 u92:Value)
 (c0:W8.cell? ⟨b,o,none⟩=some (.int .i64 (-2))) (c1:W8.cell? ⟨b,o+1,none⟩=some (.int .i64 2)) (c2:W8.cell? ⟨b,o+2,none⟩=some (.int .i64 (-1))) (c3:W8.cell? ⟨b,o+3,none⟩=some (.int .i64 1)) (n0:W8.cell? ⟨bn,o2,none⟩=some (.int .u8 1)) (hbl:b<W8.heap.size) (hbn:bn<W8.heap.size)
 (HKP:Hid (W8.heap[BP]?=some (.cells #[.bool true,.bool x,.slice a n n,.slice c k k,.slice wao 9 wcap,mv] 61))) (HQ:Hid (QV W8 (.agg #[.bool x,.slice a n n,.slice c k k]) 12)) (HQF:Hid (QF L 12)) (hL:L<=1000) (HPV:Hid (PlanV W8 (.agg #[.bool true,.bool x,.slice a n n,.slice c k k,.slice wao 9 wcap,mv]) pl)) (HPI:Hid (PlanIs 10 exP pl))
 (hK:∀(v22 v23 v24 v25 v26 v27 v28 v29 v30 v31 v32 v33 v34 v35 v36 v37 v38 v39 v40 v41 v42 v43 v44 v45 v46 v47 v48 v49 v50 v51 v52 v53 v54 v55 v56 v57 v58 v59 v60 v61 v62 v63 v64 v65 v66 v67 v68 v69 v70 v71 v72 v73 v74 v75 v76 v77 v78 v79 v80 v81 v82 v83 v84 v85 v86 v87 v88 v89 v90 v91 v92:Value) (wx:World),Bel W8.heap.size W8 wx->K {tmps:=#[.bool true,.slice (some ⟨b,o,none⟩) 4 cap,.int .i64 0,.slice (some ⟨bn,o2,none⟩) 4 cn,.int .i64 0,.pointer (some ⟨BP,0,none⟩),.int .i64 0,u7,u8,u9,u10,u11,u12,u13,u14,u15,u16,u17,u18,u19,u20,u21,v22,v23,v24,v25,v26,v27,v28,v29,v30,v31,v32,v33,v34,v35,v36,v37,v38,v39,v40,v41,v42,v43,v44,v45,v46,v47,v48,v49,v50,v51,v52,v53,v54,v55,v56,v57,v58,v59,v60,v61,v62,v63,v64,v65,v66,v67,v68,v69,v70,v71,v72,v73,v74,v75,v76,v77,v78,v79,v80,v81,v82,v83,v84,v85,v86,v87,v88,v89,v90,v91,v92],defers:=ds} wx):
 Code.wp Tryz.prog wkReg4 (Exit.then K Q0) {tmps:=#[u0,.slice (some ⟨b,o,none⟩) 4 cap,.int .i64 0,.slice (some ⟨bn,o2,none⟩) 4 cn,.int .i64 0,.pointer (some ⟨BP,0,none⟩),.int .i64 0,u7,u8,u9,u10,u11,u12,u13,u14,u15,u16,u17,u18,u19,u20,u21,u22,u23,u24,u25,u26,u27,u28,u29,u30,u31,u32,u33,u34,u35,u36,u37,u38,u39,u40,u41,u42,u43,u44,u45,u46,u47,u48,u49,u50,u51,u52,u53,u54,u55,u56,u57,u58,u59,u60,u61,u62,u63,u64,u65,u66,u67,u68,u69,u70,u71,u72,u73,u74,u75,u76,u77,u78,u79,u80,u81,u82,u83,u84,u85,u86,u87,u88,u89,u90,u91,u92],defers:=ds} W8:=by
 obtain⟨p0,p1,p2,p3,p4,p5,-,-,-,-,-,-⟩:=row6 HKP.out;have lp:=BlkT.lt ⟨_,_,HKP.out⟩;obtain⟨w,hw⟩:∃w:World,w=W8:=⟨_,rfl⟩
 have hst:SHs w W8 W8.heap.size W8:=by rw[hw];exact SHs.start NL NL (Bel.refl _ _)
 clear hw
 conv=>arg 2;whnf
 refine wp_region_noPanic ?_;refine wp_region_K (S:=(fun w'=>(∀(b o:Nat),b<W8.heap.size->w'.cell? ⟨b,o,none⟩=W8.cell? ⟨b,o,none⟩)/\SHs w W8 (W8.heap.size) w')) (k:=71) (by kernel_rfl) ?_ (fun hHeld=>?_)
 . ((try dsimp only);(exact K2s))
 refine TK 0 [] ?_;refine TK 1 [] ?_;refine TK 2 [] ?_;refine TK 3 [] ?_;refine TK 4 [] ?_;refine TK 5 [] ?_;refine TK 6 [] ?_;refine TK 7 [] ?_;refine TK 8 [] ?_;refine TK 9 [] ?_;refine TK 10 [] ?_;refine TK 11 [] ?_;refine TK 12 [] ?_;refine TK 13 [] ?_;refine TK 14 [] ?_;refine TK 15 [] ?_;refine TK 16 [] ?_;refine TK 17 [] ?_;refine TK 18 [] ?_;refine TK 19 [] ?_;refine TK 20 [] ?_;refine TK 21 [] ?_
 refine TK 22 [] ?_;refine TK 23 [] ?_;refine TK 24 [] ?_;refine TK 25 [] ?_;refine TK 26 [] ?_;refine TK 27 [] ?_;refine TK 28 [] ?_;refine TK 29 [] ?_;refine TK 30 [] ?_;refine TK 31 [] ?_;refine TK 32 [] ?_;refine TK 33 [] ?_;refine TK 34 [] ?_;refine TK 35 [] ?_;refine TK 36 [] ?_;refine TK 37 [] ?_;refine TK 38 [] ?_;refine TK 39 [] ?_;refine TK 40 [] ?_;refine TK 41 [] ?_;refine TK 42 [] ?_;refine TK 43 [] ?_
 refine TK 44 [] ?_;refine TK 45 [] ?_;refine TK 46 [] ?_;refine TK 47 [] ?_;refine TK 48 [] ?_;refine TK 49 [] ?_;refine TK 50 [] ?_;refine TK 51 [] ?_;refine TK 52 [] ?_;refine TK 53 [] ?_;refine TK 54 [] ?_;refine TK 55 [] ?_;refine TK 56 [] ?_;refine TK 57 [] ?_;refine TK 58 [] ?_;refine TK 59 [] ?_;refine TK 60 [] ?_;refine TK 61 [] ?_;refine TK 62 [] ?_;refine KRs [63] ?_;refine KCs (fun K hK=>?_) ?_
 .go_simp;refine(Text_c (HQ.out.pres hHeld.2.near.pb) HQF.out (by omega)).mono ?_;rintro e w20 ⟨rfl,hb1⟩;rw[txt12];have hy1:=hb1.size
  (try simp at hy1)
  (try go_wp2_with fail)
  refine SA hK (hHeld.2.call hb1).hold fun hHeld=>?_;clear hK K
  refine TK 64 [] ?_;refine TK 65 [] ?_;refine TK 66 [] ?_;refine TK 68 [] ?_;refine KRs [67] ?_;refine KCs (fun K hK=>?_) ?_
  .go_simp;refine example_c.mono ?_;rintro e w21 ⟨pv2,rfl,hp2,hb2⟩;have hy2:=hb2.size
   (try simp at hy2)
   (try go_wp2_with fail)
   refine SA hK (hHeld.2.call hb2).hold fun hHeld=>?_;clear hK K
   refine KRs [69] ?_;refine KCs (fun K hK=>?_) ?_
   .go_simp;refine(prove_c (fun _ _ _ _ _ _ _=>moves_seq) hp2 exProbF (by decide) (by decide) (by decide) (by decide) exProb (HPV.out.pres hHeld.2.near.pb hHeld.2.near.pb hHeld.2.near.pb hHeld.2.near.pb) HPI.out).mono ?_;rintro e w22 ⟨rfl,hb3⟩;have hy3:=hb3.size
    (try simp at hy3)
    (try go_wp2_with fail)
    refine SA hK (hHeld.2.call hb3).hold fun hHeld=>?_;clear hK K
    refine TK 70 [] ?_;refine KRs [71] ?_;refine KCs (fun K hK=>?_) ?_
    .go_simp;refine SE hK ?_;clear hK K
     refine wpAnyK_done (by kernel_rfl) ?_ _;refine NoPanic.normal ?_;exact hK _ _ _ _ _ _ _ _ _ _ _ _ _ _ _ _ _ _ _ _ _ _ _ _ _ _ _ _ _ _ _ _ _ _ _ _ _ _ _ _ _ _ _ _ _ _ _ _ _ _ _ _ _ _ _ _ _ _ _ _ _ _ _ _ _ _ _ _ _ _ _ _ hHeld.2.near
    exact KNs
   exact KNs
  exact KNs
 exact KNs
theorem wakes_ok:WakesOk:=by
 intro w
 go_enter Tryz.func11,Tryz.ntmps11
 go_wp2_with fail
 refine(events_good (legs:=2) (wordLit w) (by kernel_rfl)).mono ?_;rintro e w1 ⟨ve,rfl,hve,hb1⟩;have hb0:Bel w.heap.size w (w.alloc (.cells #[.int .u8 3,.int .u8 1,.int .u8 3,.int .u8 2] 5)):=(Bel.refl _ _).alloc NL _;have HB1:Hid (Bel w.heap.size w w1):=hb0.trans (hb1.mono hb0.size);rw[show evts [3,1,3,2]=[-2,2,-1,1]by kernel_rfl]at hve;obtain⟨ao,cap,rfl,hcap,hcl⟩:=hve;obtain⟨b,o,rfl,hbl,hc⟩:=hcl.open (by decide)
 have c0:w1.cell? ⟨b,o,none⟩=some (.int .i64 (-2)):=hc 0 (by decide);have c1:w1.cell? ⟨b,o+1,none⟩=some (.int .i64 2):=hc 1 (by decide);have c2:w1.cell? ⟨b,o+2,none⟩=some (.int .i64 (-1)):=hc 2 (by decide);have c3:w1.cell? ⟨b,o+3,none⟩=some (.int .i64 1):=hc 3 (by decide);clear hb0 hb1 hcl hc
 go_wp2_with fail
 refine(normal_good (legs:=2) (wordLit w1) (by kernel_rfl)).mono ?_;rintro e w2 ⟨vn,rfl,hon,hb2⟩;obtain⟨an,cn,rfl,hcn,hxn⟩:=hon.cells;obtain⟨bn,o2,rfl,hbn,hcn2⟩:=hxn.open (by decide);have n0:w2.cell? ⟨bn,o2,none⟩=some (.int .u8 1):=(hcn2 0 (by decide)).trans (by kernel_rfl);have hb0:Bel w1.heap.size w1 (w1.alloc (.cells #[.int .u8 3,.int .u8 1,.int .u8 3,.int .u8 2] 5)):=(Bel.refl _ _).alloc NL _
 have hb12:Bel w1.heap.size w1 w2:=hb0.trans (hb2.mono hb0.size);have HB2:Hid (Bel w.heap.size w w2):=HB1.out.trans (hb12.mono HB1.out.size);have d0:=(hb12.cell (p:=⟨b,o,none⟩) hbl).trans c0;have d1:=(hb12.cell (p:=⟨b,o+1,none⟩) hbl).trans c1;have d2:=(hb12.cell (p:=⟨b,o+2,none⟩) hbl).trans c2;have d3:=(hb12.cell (p:=⟨b,o+3,none⟩) hbl).trans c3;have hbl2:b<w2.heap.size:=Nat.lt_of_lt_of_le hbl hb12.size
 clear hb0 hb2 hb12 hon hxn hcn2 c0 c1 c2 c3 hbl HB1 hcn
 go_wp2_with fail
 refine example_c.mono ?_;rintro e w3 ⟨pv,rfl,hp,hb3⟩;have HB3:Hid (Bel w.heap.size w w3):=HB2.out.trans (hb3.mono HB2.out.size);have HBX:=LH hb3;have HP:=LH hp;clear hp hb3
 go_wp2_with fail
 refine(find_c (fun _ _ _ _ _ _ _=>moves_seq) HP.out exProbF (by decide) (by decide) (by decide) (by decide)).mono ?_;rintro e w4 ⟨v,er,pl,rfl,hpv,hfe,hb4⟩;obtain⟨rfl,hpi⟩:=exFind hfe;obtain⟨hfo,hco,hle⟩:=exPlan hpi;have HPI:=LH hpi;have HPV:=LH hpv;obtain⟨x,a,n,c,k,wv,mv,rfl,hq,⟨wao,wcap,wf,rfl,hwc,-⟩,mao,mcap,mf,rfl,hmc,-⟩:=hpv;rw[hco]at hq;rw[hfo,hle]at HPV|-;have HQ:=LH hq;have hbx:Bel w2.heap.size w2 w4:=HBX.out.trans (hb4.mono HBX.out.size)
 have HB4:Hid (Bel w.heap.size w w4):=HB2.out.trans (hbx.mono HB2.out.size);have c0:=(hbx.cell (p:=⟨b,o,none⟩) hbl2).trans d0;have c1:=(hbx.cell (p:=⟨b,o+1,none⟩) hbl2).trans d1;have c2:=(hbx.cell (p:=⟨b,o+2,none⟩) hbl2).trans d2;have c3:=(hbx.cell (p:=⟨b,o+3,none⟩) hbl2).trans d3;have m0:=(hbx.cell (p:=⟨bn,o2,none⟩) hbn).trans n0;have hbl4:b<w4.heap.size:=Nat.lt_of_lt_of_le hbl2 hbx.size;have hbn4:bn<w4.heap.size:=Nat.lt_of_lt_of_le hbn hbx.size
 have hqf:QF 11 12:=by
  have h3:QF 3 2:=by have:=QF.add QF.one1 QF.one1;rw[show(1:Rat)+1=2 by grind]at this;exact this
  have h5:QF 5 3:=by have:=QF.add h3 QF.one1;rw[show(2:Rat)+1=3 by grind]at this;exact this
  have h6:=QF.mul (QF.mul h3 h3) h5;rw[show(2:Rat)*2*3=12 by grind]at h6;exact h6
 have HQF:=LH hqf;clear hq hfe hpi hfo hco hle hqf hb4 hbx d0 d1 d2 d3 n0 hbl2 hbn HBX HP HB2 HB3
 go_wp2_with fail
 refine name_world ?_;intro W5 hW5;have hb5:Bel w4.heap.size w4 W5:=by rw[hW5];exact(Bel.refl _ _).alloc NL _
 have hkp:=at_world hW5 (b:=w4.heap.size) (heap_new _ _ rfl);have HB5:Hid (Bel w.heap.size w W5):=HB4.out.trans (hb5.mono HB4.out.size);have HKP:=LH hkp;have d0:=(hb5.cell (p:=⟨b,o,none⟩) hbl4).trans c0;have d1:=(hb5.cell (p:=⟨b,o+1,none⟩) hbl4).trans c1;have d2:=(hb5.cell (p:=⟨b,o+2,none⟩) hbl4).trans c2;have d3:=(hb5.cell (p:=⟨b,o+3,none⟩) hbl4).trans c3;have n0:=(hb5.cell (p:=⟨bn,o2,none⟩) hbn4).trans m0
 have hbl5:b<W5.heap.size:=Nat.lt_of_lt_of_le hbl4 hb5.size;have hbn5:bn<W5.heap.size:=Nat.lt_of_lt_of_le hbn4 hb5.size;have HQ5:Hid (QV W5 (.agg #[.bool x,.slice a n n,.slice c k k]) 12):=HQ.out.pres hb5.pb;have HPV5:Hid (PlanV W5 _ pl):=HPV.out.pres hb5.pb hb5.pb hb5.pb hb5.pb;clear hW5 hkp hb5 c0 c1 c2 c3 m0 hbl4 hbn4 HQ HPV HB4
 refine wkReg4_c _ _ _ _ _ _ _ _ _ _ _ _ _ _ _ _ _ _ _ _ _ _ _ _ _ _ _ _ _ _ _ _ _ _ _ _ _ _ _ _ _ _ _ _ _ _ _ _ _ _ _ _ _ _ _ _ _ _ _ _ _ _ _ _ _ _ _ _ _ _ _ _ _ _ _ _ _ _ _ _ _ _ _ _ _ _ _ d0 d1 d2 d3 n0 hbl5 hbn5 HKP HQ5 HQF (by decide) HPV5 HPI (fun v22 v23 v24 v25 v26 v27 v28 v29 v30 v31 v32 v33 v34 v35 v36 v37 v38 v39 v40 v41 v42 v43 v44 v45 v46 v47 v48 v49 v50 v51 v52 v53 v54 v55 v56 v57 v58 v59 v60 v61 v62 v63 v64 v65 v66 v67 v68 v69 v70 v71 v72 v73 v74 v75 v76 v77 v78 v79 v80 v81 v82 v83 v84 v85 v86 v87 v88 v89 v90 v91 v92 wx hbx=>?_)
 have HBX:Hid (Bel w.heap.size w wx):=HB5.out.trans (hbx.mono HB5.out.size);clear hbx d0 d1 d2 d3 n0;go_wp2;go_ret;exact⟨rfl,HBX.out⟩
end Go.Proofs.YtlgjakpoaelehaaGreat
