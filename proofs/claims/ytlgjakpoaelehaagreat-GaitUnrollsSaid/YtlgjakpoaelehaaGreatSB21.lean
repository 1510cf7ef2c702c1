/- Contracts and plain laws, merged: O1 O2 O6 P5 -/
import Derived.Shelf.SlSortCmp.WholeK
import Derived.Shelf.SlicesQ.Reverse
import Derived.Test.YtlgjakpoaelehaaGreatSB18
import Derived.Test.YtlgjakpoaelehaaGreatSB19
import Derived.Test.YtlgjakpoaelehaaGreatSB20
namespace Go.Proofs.YtlgjakpoaelehaaGreat
open Go.RowKit
section
open Go.RowKit Go.Shelf Go.Lib Go.Sort
def sortM_ren:Go.Shelf.Ren:=⟨fun|6=>62|14=>123|15=>124|20=>166|21=>167|22=>168|23=>169|24=>170|25=>171|26=>172|27=>173|28=>174|29=>175|46=>197|47=>198|48=>199|49=>200|50=>201|57=>206|n=>n,fun|0=>0|3=>3|4=>4|5=>5|9=>9|22=>59|24=>158|25=>161|39=>204|45=>253|46=>254|50=>258|53=>232|55=>231|66=>276|70=>279|76=>281|77=>282|n=>n,fun n=>n⟩
theorem sortM_lays:Go.Proofs.SlLaysF0.n6 Tryz.prog sortM_ren:={
 mixed:=by kernel_rfl
 f6:=⟨ "slices.SortFunc[[]amble/gait.Mark,amble/gait.Mark]",by decide,Tryz.func62.trans (congrArg some (by kernel_rfl))⟩
 f14:=⟨ "slices.pdqsortCmpFunc[amble/gait.Mark]",by decide,Tryz.func123.trans (congrArg some (by kernel_rfl))⟩
 f15:=Tryz.func124.trans (congrArg some (by kernel_rfl))
 f20:=⟨ "slices.insertionSortCmpFunc[amble/gait.Mark]",by decide,Tryz.func166.trans (congrArg some (by kernel_rfl))⟩
 f21:=⟨ "slices.heapSortCmpFunc[amble/gait.Mark]",by decide,Tryz.func167.trans (congrArg some (by kernel_rfl))⟩
 f22:=⟨ "slices.breakPatternsCmpFunc[amble/gait.Mark]",by decide,Tryz.func168.trans (congrArg some (by kernel_rfl))⟩
 f23:=⟨ "slices.choosePivotCmpFunc[amble/gait.Mark]",by decide,Tryz.func169.trans (congrArg some (by kernel_rfl))⟩
 f24:=⟨ "slices.reverseRangeCmpFunc[amble/gait.Mark]",by decide,Tryz.func170.trans (congrArg some (by kernel_rfl))⟩
 f25:=⟨ "slices.partialInsertionSortCmpFunc[amble/gait.Mark]",by decide,Tryz.func171.trans (congrArg some (by kernel_rfl))⟩
 f26:=⟨ "slices.partitionEqualCmpFunc[amble/gait.Mark]",by decide,Tryz.func172.trans (congrArg some (by kernel_rfl))⟩
 f27:=⟨ "slices.partitionCmpFunc[amble/gait.Mark]",by decide,Tryz.func173.trans (congrArg some (by kernel_rfl))⟩
 f28:=Tryz.func174.trans (congrArg some (by kernel_rfl))
 f29:=Tryz.func175.trans (congrArg some (by kernel_rfl))
 f46:=⟨ "slices.siftDownCmpFunc[amble/gait.Mark]",by decide,Tryz.func197.trans (congrArg some (by kernel_rfl))⟩
 f47:=Tryz.func198.trans (congrArg some (by kernel_rfl))
 f48:=Tryz.func199.trans (congrArg some (by kernel_rfl))
 f49:=⟨ "slices.medianAdjacentCmpFunc[amble/gait.Mark]",by decide,Tryz.func200.trans (congrArg some (by kernel_rfl))⟩
 f50:=⟨ "slices.medianCmpFunc[amble/gait.Mark]",by decide,Tryz.func201.trans (congrArg some (by kernel_rfl))⟩
 f57:=⟨ "slices.order2CmpFunc[amble/gait.Mark]",by decide,Tryz.func206.trans (congrArg some (by kernel_rfl))⟩
 t0:=Tryz.underlying0
 a0:=Tryz.isAgg0
 z0:=Tryz.sizeOf0
 v0:=Tryz.zeroValue0
 t3:=Tryz.underlying3
 a3:=Tryz.isAgg3
 z3:=Tryz.sizeOf3
 v3:=Tryz.zeroValue3
 t4:=Tryz.underlying4
 a4:=Tryz.isAgg4
 z4:=Tryz.sizeOf4
 v4:=Tryz.zeroValue4
 t5:=Tryz.underlying5
 a5:=Tryz.isAgg5
 z5:=Tryz.sizeOf5
 v5:=Tryz.zeroValue5
 t9:=Tryz.underlying9
 a9:=Tryz.isAgg9
 z9:=Tryz.sizeOf9
 v9:=Tryz.zeroValue9
 t22:=Tryz.underlying59
 a22:=Tryz.isAgg59
 z22:=Tryz.sizeOf59
 v22:=Tryz.zeroValue59
 t25:=Tryz.underlying161
 a25:=Tryz.isAgg161
 z25:=Tryz.sizeOf161
 v25:=Tryz.zeroValue161
 t39:=Tryz.underlying204
 a39:=Tryz.isAgg204
 z39:=Tryz.sizeOf204
 v39:=Tryz.zeroValue204
 t45:=Tryz.underlying253
 a45:=Tryz.isAgg253
 z45:=Tryz.sizeOf253
 v45:=Tryz.zeroValue253
 t46:=Tryz.underlying254
 a46:=Tryz.isAgg254
 z46:=Tryz.sizeOf254
 v46:=Tryz.zeroValue254
 t50:=Tryz.underlying258
 a50:=Tryz.isAgg258
 z50:=Tryz.sizeOf258
 v50:=Tryz.zeroValue258
 t53:=Tryz.underlying232
 a53:=Tryz.isAgg232
 z53:=Tryz.sizeOf232
 v53:=Tryz.zeroValue232
 t55:=Tryz.underlying231
 a55:=Tryz.isAgg231
 z55:=Tryz.sizeOf231
 v55:=Tryz.zeroValue231
 t66:=Tryz.underlying276
 a66:=Tryz.isAgg276
 z66:=Tryz.sizeOf276
 v66:=Tryz.zeroValue276
 t70:=Tryz.underlying279
 a70:=Tryz.isAgg279
 z70:=Tryz.sizeOf279
 v70:=Tryz.zeroValue279
 t76:=Tryz.underlying281
 a76:=Tryz.isAgg281
 z76:=Tryz.sizeOf281
 v76:=Tryz.zeroValue281
 t77:=Tryz.underlying282
 a77:=Tryz.isAgg282
 z77:=Tryz.sizeOf282
 v77:=Tryz.zeroValue282
}
end
section
open Go.RowKit Go.Shelf Go.Lib
open Go.Sort
structure Tok (w:World) where
 cs:List Value
 m:MoveD
 len:cs.length=5
 ok:MoveV w (.agg cs.toArray) m
 sh:m.dst.holds.length<=1000000
instance (w:World):Inhabited (Tok w):=⟨⟨[.int .i64 0,.slice none 0 0,.bool false,.slice none 0 0,.slice none 0 0],move0,rfl,⟨_,_,_,_,_,_,rfl,⟨none,0,rfl,Nat.le_refl _,fun h=>by simp[move0]at h⟩,QV.zero _⟩,by simp[move0]⟩⟩
def tokC {w:World}(x y:Tok w):Int:=befS x.m.dst y.m.dst
theorem tokS (w:World):SWO (ltOf (tokC (w:=w))) where
 irrefl x:=by
  unfold ltOf tokC;rw[befS_eq.2 rfl];rfl
 trans x y z h1 h2:=by
  unfold ltOf tokC at *;simp only[decide_eq_true_eq]at *;exact befS_trans h1 h2
 ntrans x y z h1 h2:=by
  unfold ltOf tokC at *;simp only[decide_eq_false_iff_not]at *;intro h3;have h4:=befS_anti x.m.dst y.m.dst
  by_cases h5:befS x.m.dst y.m.dst=0
  .rw[befS_eq.1 h5]at h3;exact h2 h3
  .exact h2 (befS_trans (by omega) h3)
theorem Tok.one {w:World}(x:Tok w):∀v∈x.cs,v.oneCell'=true:=by
 obtain⟨ph,ho,hl,hc,y,a,n,c,k,e⟩:=x.ok.cells
 have e2:x.cs=[.int .i64 ph,.slice ho hl hc,.bool y,.slice a n n,.slice c k k]:=by
  injection e with e
  have:=congrArg Array.toList e
  simpa using this
 rw[e2];intro v hv;simp at hv;rcases hv with rfl|rfl|rfl|rfl|rfl<;>rfl
theorem sortW_old {α:Type}[Inhabited α]{enc:α->List Value}{k:Nat}{w:World}{g n j:Nat}{d:Array α}{os:Array Obj}(hj:j<w.heap.size)(hg:j≠g):(sortWorldK enc k w g 0 n d os).heap[j]?=w.heap[j]?:=by
 unfold sortWorldK;rw[Go.Sort.heap_grow_old _ _ (by simpa[putRowK,Go.Sort.ahead]using hj)];unfold putRowK Go.Sort.putRow Go.Sort.mapBlock Go.Sort.ahead;simp[Array.getElem?_modify,Ne.symm hg]
theorem sortW_new {α:Type}[Inhabited α]{enc:α->List Value}{k:Nat}{w:World}{g n:Nat}{d:Array α}{os:Array Obj}{cur:Array Value}{T:TypeId}{fr:Nat×Nat}(hg:w.heap[g]?=some (.cells cur T fr)):
 (sortWorldK enc k w g 0 n d os).heap[g]?=some (.cells (Go.Sort.putCells id 0 (flatK enc k d) cur) T fr):=by
 have hlt:=(Array.getElem?_eq_some_iff.1 hg).1;unfold sortWorldK;rw[Go.Sort.heap_grow_old _ _ (by simpa[putRowK,Go.Sort.ahead]using hlt)];unfold putRowK Go.Sort.putRow Go.Sort.mapBlock Go.Sort.ahead;simp[Array.getElem?_modify,hg,Go.Sort.onCells]
theorem sortW_pres {α:Type}[Inhabited α]{enc:α->List Value}{k:Nat}{w:World}{g n:Nat}{d:Array α}{os:Array Obj}{cur:Array Value}{T T':TypeId}{fr:Nat×Nat}(hg:w.heap[g]?=some (.cells cur T fr))(hT:T'≠T):Pres T' w (sortWorldK enc k w g 0 n d os):=fun j c f hj=>by
 refine(sortW_old (Array.getElem?_eq_some_iff.1 hj).1 (fun e=>?_)).trans hj;subst e;rw[hg]at hj
 cases hj
 exact hT rfl
theorem getD_any {α:Type}{l:List α}{i:Nat}(h:i<l.length)(d:α):l[i]=l.getD i d:=by rw[List.getD_eq_getElem?_getD,List.getElem?_eq_getElem h];rfl
theorem sortM_c {w:World}{base:Nat}{v:Value}{ms:List MoveD}(hr:RowM 158 w base v ms)(h0:ms≠[])(hlen:ms.length<=1000000)(hsh:∀m∈ms,m.dst.holds.length<=1000000):
 Calls Tryz.prog 62 #[v,.func (.func 63) #[] #[]] w fun e w'=>e=.returned (.tuple #[])/\∃ms',ms.Perm ms'/\(∀i j,i<j->j<ms'.length->¬befS (ms'.getD j move0).dst (ms'.getD i move0).dst<0)/\RowM 158 w' base v ms'/\KpT 158 w w'/\Bel base w w':=by
 obtain⟨xs,⟨hxl,hrow⟩,hm⟩:=hr;have hpos:0<ms.length:=List.length_pos_iff.2 h0;rcases hrow with⟨-,h⟩|⟨g,cap,cur,rfl,hg,hh,hcap,hcm,hcs,htk⟩
 .omega
 have hcur:∀j,j<ms.length*5->cur[j]?=xs[j]?:=fun j hj=>by
  rw[<-htk,List.getElem?_take,if_pos hj];simp
 have htok:∀i:Fin ms.length,∃t:Tok w,t.m=ms.getD i move0/\∀c,c<5->xs[i.1*5+c]?=some (t.cs[c]!):=fun i=>by
  obtain⟨v0,v1,v2,v3,v4,a0,a1,a2,a3,a4,hmv⟩:=hm i i.2;refine⟨⟨[v0,v1,v2,v3,v4],ms.getD i move0,rfl,hmv,hsh _ ?_⟩,rfl,fun c hc=>?_⟩
  .rw[List.getD_eq_getElem?_getD,List.getElem?_eq_getElem i.2];exact List.getElem_mem _
  .obtain rfl|rfl|rfl|rfl|rfl:c=0\/c=1\/c=2\/c=3\/c=4:=by omega
   all_goals assumption
 obtain⟨d,hd,hdm⟩:∃d:Array (Tok w),d.size=ms.length/\∀i,i<ms.length->(d[i]!).m=ms.getD i move0/\∀c,c<5->xs[i*5+c]?=some ((d[i]!).cs[c]!):=by
  refine⟨Array.ofFn fun i=>Classical.choose (htok i),by simp,fun i hi=>?_⟩;have:=Classical.choose_spec (htok ⟨i,hi⟩);rw[getElem!_pos _ i (by simpa using hi),Array.getElem_ofFn];exact this
 have hH:HoldsK Tok.cs 5 w g 0 d:=by
  intro j hj;simp only[Go.Sort.size_flatK,hd]at hj;have h5:j/5<ms.length:=by omega
  have h6:=(hdm _ h5).2 (j%5) (Nat.mod_lt _ (by omega));rw[show j/5*5+j%5=j by omega]at h6;refine⟨?_,?_⟩
  .rw[Go.Sort.get_flatK _ _ _ _ (by rw[hd];exact hj),Nat.zero_add];simp only[World.cell?,hh,Option.isSome_none,Bool.false_eq_true,if_false];rw[hcur j hj,h6];rfl
  .simp[World.frozen?,hh]
 have eg:∀args w,(callFunc 63 args).run Tryz.prog w=.ok (.enter 63 args) w:=enters_of Tryz.func63 (by kernel_rfl) rfl
 have hcmp:CmpLays Tryz.prog 63 #[] Tok.cs 5 (tokC (w:=w)) g 0 d.size w:=fun m os dk _ x y=>by
  refine(find1_g (x.ok.pres (sortW_pres hh (by decide)) (sortW_pres hh (by decide))) (y.ok.pres (sortW_pres hh (by decide)) (sortW_pres hh (by decide))) x.sh).mono ?_;rintro e w' ⟨rfl,hb,hdr⟩;exact⟨rfl,grow_of hb hdr⟩
 have hcon:=AnyQ.slices_SortFunc sortM_lays 5 Tryz.isAgg158 Tryz.sizeOf158 Tok.cs Tok.len (fun x=>x.one) tokC (tokS w) 63 #[] g 0 cap d w eg hcmp hH (Array.getElem?_eq_some_iff.1 hh).1 (by rw[hd];omega);rw[hd]at hcon;change Calls Tryz.prog 62 _ _ _ at hcon;refine hcon.mono ?_;rintro e w' ⟨rfl,d',n,os,⟨hps,-,hpp⟩,hso,rfl⟩;have hds:d'.size=ms.length:=by rw[hps,hd]
 have hall:∀a:Array (Tok w),a.size=ms.length->a.extract 0 ms.length=a:=fun a ha=>by rw[<-ha];simp
 rw[hall _ hd,hall _ hds]at hpp
 have hgd:∀a:Array (Tok w),∀i,i<a.size->((a.toList.map Tok.m).getD i move0)=(a[i]!).m:=fun a i hi=>by
  rw[List.getD_eq_getElem?_getD,List.getElem?_map,Array.getElem?_toList,Array.getElem?_eq_getElem hi,getElem!_pos _ i hi];rfl
 have hms:ms=d.toList.map Tok.m:=by
  refine List.ext_getElem (by simp[hd]) fun i h1 h2=>?_;rw[getD_any h1 move0,getD_any h2 move0,hgd d i (by rw[hd];exact h1),(hdm i h1).1]
 have hml:(d'.toList.map Tok.m).length=ms.length:=by simp[hds]
 have hsz:w.heap.size<=(sortWorldK Tok.cs 5 w g 0 n d' os).heap.size:=by simp[sortWorldK,putRowK,Go.Sort.grow,Go.Sort.ahead]
 refine⟨rfl,d'.toList.map Tok.m,?_,?_,?_,⟨hsz,fun k o hk ho=>?_⟩,⟨⟨rfl,rfl,rfl,hsz,fun k hk=>sortW_old (Nat.lt_trans (Nat.lt_of_lt_of_le hk hg) (Array.getElem?_eq_some_iff.1 hh).1) (by omega)⟩⟩⟩
 .rw[hms];exact(hpp.map _).symm
 .intro i j hij hj;rw[hml]at hj;have:=hso i j (Nat.zero_le _) hij hj;unfold ltOf tokC at this;rw[hgd d' j (by rw[hds];exact hj),hgd d' i (by rw[hds];omega)]
  simpa using this
 .refine⟨(List.range (ms.length*5)).map fun j=>((d'[j/5]!).cs)[j%5]!,⟨by rw[hml];simp,.inr ⟨g,cap,_,by rw[hml],hg,sortW_new hh,by rw[hml];exact hcap,hcm,?_,?_⟩⟩,fun i hi=>?_⟩
  .simp[Go.Sort.putCells,hcs]
  .rw[hml];refine List.ext_getElem? fun j=>?_;rw[List.getElem?_take]
   by_cases hj:j<ms.length*5
   .rw[if_pos hj,List.getElem?_map,List.getElem?_range hj];have hjc:j<cur.size:=by rw[hcs];exact Nat.lt_of_lt_of_le hj (Nat.mul_le_mul_right _ hcap)
    simp only[Go.Sort.putCells,Array.toList_mapIdx,List.getElem?_mapIdx,Array.getElem?_toList,Array.getElem?_eq_getElem hjc,Option.map_some,Nat.zero_le,true_and,Go.Sort.size_flatK,hds,Nat.zero_add,Nat.sub_zero,if_pos hj,id];rw[Go.Sort.get_flatK _ _ _ _ (by rw[hds];exact hj)]
   .rw[if_neg hj,List.getElem?_eq_none (by simp;omega)]
  .rw[hml]at hi
   have hx:∀c,c<5->((List.range (ms.length*5)).map fun j=>((d'[j/5]!).cs)[j%5]!)[i*5+c]?=some ((d'[i]!).cs[c]!):=fun c hc=>by
    rw[List.getElem?_map,List.getElem?_range (by omega),Option.map_some,show(i*5+c)/5=i by omega,show(i*5+c)%5=c by omega]
   refine⟨_,_,_,_,_,hx 0 (by omega),hx 1 (by omega),hx 2 (by omega),hx 3 (by omega),hx 4 (by omega),?_⟩;rw[hgd d' i (by rw[hds];exact hi)];generalize d'[i]! =t;have h2:=t.ok.pres (sortW_pres (n:=n) (d:=d') (os:=os) (enc:=Tok.cs) (k:=5) hh (T':=3) (by decide)) (sortW_pres hh (T':=232) (by decide));obtain⟨cs,m,hl,ok,sh⟩:=t
   obtain⟨c0,c1,c2,c3,c4,rfl⟩:∃c0 c1 c2 c3 c4,cs=[c0,c1,c2,c3,c4]:=by
    rcases cs with _|⟨c0,_|⟨c1,_|⟨c2,_|⟨c3,_|⟨c4,_|⟨c5,l⟩⟩⟩⟩⟩⟩<;>simp at hl
    exact⟨_,_,_,_,_,rfl⟩
   exact h2
 .refine(sortW_old (Array.getElem?_eq_some_iff.1 hk).1 (fun e=>?_)).trans hk;subst e;rw[hh]at hk
  cases hk
  exact ho _ _ rfl
end
section
open Go.RowKit Go.Shelf Go.Lib
open Go.Sort
def revS_ren:Go.Shelf.Ren:=⟨fun|35=>132|n=>n,fun|0=>0|3=>3|4=>4|22=>58|23=>88|n=>n,fun n=>n⟩
theorem revS_lays:Go.Proofs.SlLaysE0.n35 Tryz.prog revS_ren:={
 mixed:=by kernel_rfl
 f35:=⟨ "slices.Reverse[[]amble/gait.State,amble/gait.State]",by decide,Tryz.func132.trans (congrArg some (by kernel_rfl))⟩
 t0:=Tryz.underlying0
 a0:=Tryz.isAgg0
 z0:=Tryz.sizeOf0
 v0:=Tryz.zeroValue0
 t3:=Tryz.underlying3
 a3:=Tryz.isAgg3
 z3:=Tryz.sizeOf3
 v3:=Tryz.zeroValue3
 t4:=Tryz.underlying4
 a4:=Tryz.isAgg4
 z4:=Tryz.sizeOf4
 v4:=Tryz.zeroValue4
 t22:=Tryz.underlying58
 a22:=Tryz.isAgg58
 z22:=Tryz.sizeOf58
 v22:=Tryz.zeroValue58
}
def state0:StateD:=⟨0,[]⟩
theorem infoState:(Tryz.prog.info? 88).map (fun i=>(i.zero,i.size,i.bytes))=some (some (.agg #[.int .i64 0,.slice none 0 0]),2,32):=by kernel_rfl
def RowS (w:World)(base:Nat)(v:Value)(ss:List StateD):Prop:=∃xs,w.ownsRow base 88 2 v ss.length xs/\∀i,i<ss.length->∃v0 v1,xs[i*2]?=some v0/\xs[i*2+1]?=some v1/\StateV w (.agg #[v0,v1]) (ss.getD i state0)
theorem RowS.nil (w:World)(base:Nat):RowS w base (.slice none 0 0) []:=⟨[],World.ownsRow_nil _ _ _ _,fun i hi=>by simp at hi⟩
theorem RowS.keep {w w':World}{base:Nat}{v:Value}{ss:List StateD}(h:RowS w base v ss)(h0:Pres 88 w w')(h1:Pres 3 w w'):RowS w' base v ss:=by
 obtain⟨xs,hr,hm⟩:=h;refine⟨xs,⟨hr.1,?_⟩,fun i hi=>?_⟩
 .rcases hr.2 with h|⟨g,cap,cur,e,hg,hh,r⟩
  .exact .inl h
  .exact .inr ⟨g,cap,cur,e,hg,h0 _ _ _ hh,r⟩
 .obtain⟨v0,v1,a0,a1,hv⟩:=hm i hi;exact⟨v0,v1,a0,a1,hv.pres h1⟩
theorem RowS.bel {w w':World}{base:Nat}{v:Value}{ss:List StateD}(h:RowS w base v ss)(hb:Bel w.heap.size w w'):RowS w' base v ss:=h.keep hb.pb hb.pb
theorem StateV.two {w:World}{v:Value}{s:StateD}(h:StateV w v s):∃(ph:Int) (ho:Option Addr) (hl hc:Nat),v=.agg #[.int .i64 ph,.slice ho hl hc]:=by
 obtain⟨hv,rfl,ao,cap,rfl,-⟩:=h;exact⟨_,_,_,_,rfl⟩
theorem wpList_app2 {w:World}{ops:Array Oper}{rest:List Oper}{o:Oper}{a:Act}{Q:Exit->Act->World->Prop}(hgd:o.guard=none)(s x:Operand)
 (ho:o.op=.call {callee:=.builtin .append,args:=#[s,x],argTypes:=#[58,58]}) {base b:Nat} {v:Value} {ss:List StateD} {m:StateD} {c0 c1:Value}
 (hs:a.eval s=v) (hrow:RowS w base v ss) (hx:a.eval x=.slice (some ⟨b,0,none⟩) 1 1) (hb:∃T',w.heap[b]?=some (.cells #[c0,c1] T')) (hm:StateV w (.agg #[c0,c1]) m) (hlen:ss.length<=1000000) (hbase:base<=w.heap.size)
 (hK:∀g cap w',RowS w' base (.slice (some ⟨g,0,none⟩) (ss.length+1) cap) (ss++[m])->KpT 88 w w'->Bel base w w'->w.grownBy w' v.ownBlock->wpList Tryz.prog ops Q rest (a.put o.dst (.slice (some ⟨g,0,none⟩) (ss.length+1) cap)) w'):
 wpList Tryz.prog ops Q (o::rest) a w:=by
 obtain⟨i0,hi0,hz0,hz1,hz2⟩:=info_parts infoState;obtain⟨xs,hr,hmm⟩:=hrow;obtain⟨T',hb⟩:=hb;obtain⟨ph,hoo,hl,hc,e⟩:=hm.two
 injection e with e
 simp only[Array.mk.injEq,List.cons.injEq,and_true]at e;obtain⟨rfl,rfl⟩:=e;refine wpList_append_own w hgd s x 58 ho base 88 i0 _ 2 32 Tryz.underlying58 hi0 hz0 hz1 hz2 rfl (by decide) v ss.length xs hs hr ⟨b,0,none⟩ 1 1 [.int .i64 ph,.slice hoo hl hc] hx rfl (fun j u hj=>?_) (fun u hu=>?_) (by unfold maxLen;omega) (by omega) hbase (fun v' w' hown hgrow _=>?_)
 .have e:((⟨b,0,none⟩:Addr).add j)=⟨b,j,none⟩:=by simp[Addr.add];omega
  rw[e];simp only[World.cell?,hb,Option.isSome_none,Bool.false_eq_true,if_false]
  simpa using hj
 .simp at hu;rcases hu with rfl|rfl<;>rfl
 .obtain⟨g',cap',rfl⟩:=ownsRow_succ hown
  have hrw:∀k,v.ownBlock=some k->base<=k/\∃cur,w.heap[k]?=some (.cells cur 88 (0,0)):=by
   intro k hk';rcases hr.2 with⟨rfl,-⟩|⟨g,cap,cur,rfl,hg,hh,-⟩
   .simp[Value.ownBlock]at hk'
   .simp[Value.ownBlock]at hk';subst hk';exact⟨hg,cur,hh⟩
  have hkp:KpT 88 w w':=⟨hgrow.size,fun k o hk ho=>(hgrow.block k (Array.getElem?_eq_some_iff.1 hk).1 (fun e=>by
   obtain⟨-,cur,hh⟩:=hrw k e.symm;rw[hh]at hk
   cases hk
   exact ho _ _ rfl)).trans hk⟩
  refine hK g' cap' w' ⟨xs++[.int .i64 ph,.slice hoo hl hc],by rw[List.length_append];exact hown,fun i hi=>?_⟩ hkp ⟨⟨hgrow.os,hgrow.tape,hgrow.output,hgrow.size,fun k hk=>hgrow.block k (by omega) (fun e=>by have:=(hrw k e.symm).1;omega)⟩⟩ hgrow;have hxl:xs.length=ss.length*2:=hr.1
  by_cases e:i<ss.length
  .obtain⟨u0,u1,a0,a1,hmv⟩:=hmm i e;refine⟨u0,u1,?_,?_,?_⟩
   .rw[List.getElem?_append_left (by omega)];exact a0
   .rw[List.getElem?_append_left (by omega)];exact a1
   .rw[List.getD_eq_getElem?_getD,List.getElem?_append_left e,<-List.getD_eq_getElem?_getD];exact hmv.pres (hkp.pres (by decide))
  .have ei:i=ss.length:=by simp at hi;omega
   subst ei;refine⟨.int .i64 ph,.slice hoo hl hc,?_,?_,?_⟩
   .rw[List.getElem?_append_right (by omega),hxl];simp
   .rw[List.getElem?_append_right (by omega),hxl,show ss.length*2+1-ss.length*2=1 by omega];rfl
   .rw[List.getD_eq_getElem?_getD,List.getElem?_append_right NL];simp only[Nat.sub_self,List.getElem?_cons_zero,Option.getD_some];exact hm.pres (hkp.pres (by decide))
structure TokS (w:World) where
 cs:List Value
 s:StateD
 len:cs.length=2
 ok:StateV w (.agg cs.toArray) s
instance (w:World):Inhabited (TokS w):=⟨⟨[.int .i64 0,.slice none 0 0],state0,rfl,⟨_,rfl,⟨none,0,rfl,Nat.le_refl _,fun h=>by simp[state0]at h⟩⟩⟩⟩
theorem TokS.one {w:World}(x:TokS w):∀v∈x.cs,v.oneCell'=true:=by
 obtain⟨ph,ho,hl,hc,e⟩:=x.ok.two
 have e2:x.cs=[.int .i64 ph,.slice ho hl hc]:=by
  injection e with e
  have:=congrArg Array.toList e
  simpa using this
 rw[e2];intro v hv;simp at hv;rcases hv with rfl|rfl<;>rfl
theorem reverseS_c {w:World}{base:Nat}{v:Value}{ss:List StateD}(hr:RowS w base v ss)(h0:ss≠[])(hlen:ss.length<=1000000):
 Calls Tryz.prog 132 #[v] w fun e w'=>e=.returned (.tuple #[])/\RowS w' base v ss.reverse/\KpT 88 w w'/\Bel base w w':=by
 obtain⟨xs,⟨hxl,hrow⟩,hm⟩:=hr;have hpos:0<ss.length:=List.length_pos_iff.2 h0;rcases hrow with⟨-,h⟩|⟨g,cap,cur,rfl,hg,hh,hcap,hcm,hcs,htk⟩
 .omega
 have hcur:∀j,j<ss.length*2->cur[j]?=xs[j]?:=fun j hj=>by
  rw[<-htk,List.getElem?_take,if_pos hj];simp
 have htok:∀i:Fin ss.length,∃t:TokS w,t.s=ss.getD i state0/\∀c,c<2->xs[i.1*2+c]?=some (t.cs[c]!):=fun i=>by
  obtain⟨v0,v1,a0,a1,hmv⟩:=hm i i.2;refine⟨⟨[v0,v1],ss.getD i state0,rfl,hmv⟩,rfl,fun c hc=>?_⟩;obtain rfl|rfl:c=0\/c=1:=by omega
  all_goals assumption
 obtain⟨d,hd,hdm⟩:∃d:Array (TokS w),d.size=ss.length/\∀i,i<ss.length->(d[i]!).s=ss.getD i state0/\∀c,c<2->xs[i*2+c]?=some ((d[i]!).cs[c]!):=by
  refine⟨Array.ofFn fun i=>Classical.choose (htok i),by simp,fun i hi=>?_⟩;have:=Classical.choose_spec (htok ⟨i,hi⟩);rw[getElem!_pos _ i (by simpa using hi),Array.getElem_ofFn];exact this
 have hH:HoldsK TokS.cs 2 w g 0 d:=by
  intro j hj;simp only[Go.Sort.size_flatK,hd]at hj;have h6:=(hdm (j/2) (by omega)).2 (j%2) (Nat.mod_lt _ (by omega));rw[show j/2*2+j%2=j by omega]at h6;refine⟨?_,?_⟩
  .rw[Go.Sort.get_flatK _ _ _ _ (by rw[hd];exact hj),Nat.zero_add];simp only[World.cell?,hh,Option.isSome_none,Bool.false_eq_true,if_false];rw[hcur j hj,h6];rfl
  .simp[World.frozen?,hh]
 have hcon:=AnyQ.slices_Reverse revS_lays 2 Tryz.isAgg88 Tryz.sizeOf88 TokS.cs TokS.len (fun x=>x.one) g 0 cap d w hH (by rw[hd];omega);rw[hd]at hcon;change Calls Tryz.prog 132 _ _ _ at hcon;refine hcon.mono ?_;rintro e w' ⟨rfl,n,hw⟩;have hw':w'=sortWorldK TokS.cs 2 w g 0 n d.reverse #[]:=by rw[hw];simp[sortWorldK]
 subst hw';clear hw;have hrl:ss.reverse.length=ss.length:=by simp
 have hsz:w.heap.size<=(sortWorldK TokS.cs 2 w g 0 n d.reverse #[]).heap.size:=by simp[sortWorldK,putRowK,Go.Sort.ahead]
 refine⟨rfl,⟨(List.range (ss.length*2)).map fun j=>((d.reverse[j/2]!).cs)[j%2]!,⟨by rw[hrl];simp,.inr ⟨g,cap,_,by rw[hrl],hg,sortW_new hh,by rw[hrl];exact hcap,hcm,?_,?_⟩⟩,fun i hi=>?_⟩,⟨hsz,fun k o hk ho=>?_⟩,⟨⟨rfl,rfl,rfl,hsz,fun k hk=>sortW_old (Nat.lt_trans (Nat.lt_of_lt_of_le hk hg) (Array.getElem?_eq_some_iff.1 hh).1) (by omega)⟩⟩⟩
 .simp[Go.Sort.putCells,hcs]
 .rw[hrl];refine List.ext_getElem? fun j=>?_;rw[List.getElem?_take]
  by_cases hj:j<ss.length*2
  .rw[if_pos hj,List.getElem?_map,List.getElem?_range hj];have hjc:j<cur.size:=by rw[hcs];exact Nat.lt_of_lt_of_le hj (Nat.mul_le_mul_right _ hcap)
   simp only[Go.Sort.putCells,Array.toList_mapIdx,List.getElem?_mapIdx,Array.getElem?_toList,Array.getElem?_eq_getElem hjc,Option.map_some,Nat.zero_le,true_and,Go.Sort.size_flatK,Array.size_reverse,hd,Nat.zero_add,Nat.sub_zero,if_pos hj,id];rw[Go.Sort.get_flatK _ _ _ _ (by simp[hd];exact hj)]
  .rw[if_neg hj,List.getElem?_eq_none (by simp;omega)]
 .rw[hrl]at hi
  have hx:∀c,c<2->((List.range (ss.length*2)).map fun j=>((d.reverse[j/2]!).cs)[j%2]!)[i*2+c]?=some ((d.reverse[i]!).cs[c]!):=fun c hc=>by
   rw[List.getElem?_map,List.getElem?_range (by omega),Option.map_some,show(i*2+c)/2=i by omega,show(i*2+c)%2=c by omega]
  have hri:d.reverse[i]! =d[ss.length-1-i]!:=by
   rw[getElem!_pos _ i (by simp[hd];exact hi),getElem!_pos _ (ss.length-1-i) (by rw[hd];omega),Array.getElem_reverse]
   congr 1
   rw[hd]
  refine⟨_,_,hx 0 (by omega),hx 1 (by omega),?_⟩
  have hg2:ss.reverse.getD i state0=ss.getD (ss.length-1-i) state0:=by
   rw[List.getD_eq_getElem?_getD,List.getElem?_reverse hi,<-List.getD_eq_getElem?_getD]
  rw[hri,hg2,<-(hdm (ss.length-1-i) (by omega)).1];generalize d[ss.length-1-i]! =t;have h2:=t.ok.pres (sortW_pres (n:=n) (d:=d.reverse) (os:=#[]) (enc:=TokS.cs) (k:=2) hh (T':=3) (by decide));obtain⟨cs,s,hl,ok⟩:=t
  obtain⟨c0,c1,rfl⟩:∃c0 c1,cs=[c0,c1]:=by
   rcases cs with _|⟨c0,_|⟨c1,_|⟨c2,l⟩⟩⟩<;>simp at hl
   exact⟨_,_,rfl⟩
  exact h2
 .refine(sortW_old (Array.getElem?_eq_some_iff.1 hk).1 (fun e=>?_)).trans hk;subst e;rw[hh]at hk
  cases hk
  exact ho _ _ rfl
end
theorem leg_in {p:ProbD}{s:StateD}(h:Fine p s)(hB:∀k,p.word.getD k 0<256)(hpos:¬legOf p s<0):(legOf p s-1).toNat<s.holds.length:=by
 have hw2:=h.world;have hlen:=h.len;have hlo:=h.lo;have hhi:=h.hi;unfold worldB at hw2;simp only[Bool.and_eq_true,decide_eq_true_eq]at hw2;obtain⟨j,hj,e⟩:=evt_leg (k:=s.phase.toNat) hw2.2 hB (by omega);have e2:legOf p s=evt p.word s.phase.toNat:=rfl;rw[e2]at hpos|-;omega
theorem toS_inj {p:ProbD}{s:StateD}{i j:Nat}(h:(legOf p s-1).toNat<s.holds.length)(e:toS p s i=toS p s j):i=j:=by
 unfold toS at e;simp only[StateD.mk.injEq,true_and]at e;have h1:=congrArg (fun l:List Int=>l.getD (legOf p s-1).toNat 0) e;simp only[List.getD_eq_getElem?_getD,List.getElem?_set_self h,Option.getD_some]at h1;omega
theorem movesL_inj {p:ProbD}{s:StateD}{x y:MoveD}(h:Fine p s)(hB:∀k,p.word.getD k 0<256)(hx:x∈movesL p s)(hy:y∈movesL p s)(e:x.dst=y.dst):x=y:=by
 unfold movesL at hx hy;split at hx
 .rename_i hn
  rw[if_pos hn]at hy;split at hx
  .rename_i hs
   rw[if_pos hs]at hy;rw[List.mem_singleton]at hx hy;rw[hx,hy]
  .simp at hx
 .rename_i hn
  rw[if_neg hn]at hy;obtain⟨i,-,rfl,-,-⟩:=mem_movesK hx;obtain⟨j,-,rfl,-,-⟩:=mem_movesK hy;have:=toS_inj (leg_in h hB hn) e;subst this;rfl
theorem Reach.zero {p:ProbD}(h:probB p=true){s:StateD}{c:Rat}(hr:Reach p s c)(h0:¬0<c):s=⟨0,p.start⟩/\c=0:=by
 cases hr with
 |start=>exact⟨rfl,rfl⟩
 |step hr hx=>
  have h1:=(hr.fine h)
  have h2:=(movesL_ok h1.1 hx).2.2;exfalso
  apply h0
  have:=h1.2.2
  grind
structure WayM (p:ProbD) (ms:List MoveD) (way:List StateD):Prop where
 some:0<way.length
 start:way.getD 0 state0=⟨0,p.start⟩
 at':∀i,i<way.length->∃m∈ms,m.dst=way.getD i state0
 zero:∀m∈ms,m.dst=⟨0,p.start⟩->m.cost=0
 step:∀i,i+1<way.length->∃a∈ms,a.dst=way.getD i state0/\∃m∈ms,m.dst=way.getD (i+1) state0/\∃x∈movesL p a.dst,x.dst=m.dst/\a.cost+x.cost=m.cost
theorem WayB.marks {p:ProbD}{ms:List MoveD}(h:IsMarks p ms)(hpos:∀m∈ms,∀x∈movesL p m.dst,0<x.cost){s:StateD}{c:Rat}{l:List StateD}(hw:WayB p ms s c l):∀m∈ms,m.dst=s->m.cost=c->
 0<l.length/\l.getD 0 state0=s/\(∀i,i<l.length->∃m∈ms,m.dst=l.getD i state0)/\(∃m∈ms,m.dst=l.getD (l.length-1) state0/\¬0<m.cost)/\
 (∀i,i+1<l.length->∃a∈ms,a.dst=l.getD (i+1) state0/\∃m∈ms,m.dst=l.getD i state0/\∃x∈movesL p a.dst,x.dst=m.dst/\a.cost+x.cost=m.cost):=by
 induction hw with
 |@base s c h0=>
  intro m hm e1 e2;refine⟨by simp,rfl,fun i hi=>?_,⟨m,hm,e1,by rw[e2];exact h0⟩,fun i hi=>by simp at hi⟩;obtain rfl:i=0:=by simp at hi;omega
  exact⟨m,hm,e1⟩
 |@step s c a l h0 hp hw ih=>
  intro m hm e1 e2;subst e1 e2;obtain⟨a',hp',ha,x,hx,hxd,hxc,-⟩:=h.prev hpos hm h0;rw[hp]at hp'
  cases hp'
  obtain⟨i1,i2,i3,i4,i5⟩:=ih a ha rfl rfl;refine⟨by simp,rfl,fun i hi=>?_,?_,fun i hi=>?_⟩
  .cases i with
   |zero=>exact⟨m,hm,rfl⟩
   |succ i=>exact i3 i (by simpa using hi)
  .obtain⟨m',h1,h2,h3⟩:=i4;refine⟨m',h1,?_,h3⟩;rw[h2];have:(m.dst::l).length-1=(l.length-1)+1:=by simp;omega
   rw[this];rfl
  .cases i with
   |zero=>exact⟨a,ha,by simpa using i2.symm,m,hm,rfl,x,hx,hxd,hxc⟩
   |succ i=>exact i5 i (by simpa using hi)
theorem getD_rev {l:List StateD}{i:Nat}(h:i<l.length):l.reverse.getD i state0=l.getD (l.length-1-i) state0:=by
 rw[List.getD_eq_getElem?_getD,List.getElem?_reverse h,List.getD_eq_getElem?_getD]
theorem WayM.of {p:ProbD}{ms:List MoveD}(hpr:probB p=true)(h:IsMarks p ms){g:MoveD}(hg:g∈ms){l:List StateD}(hw:WayB p ms g.dst g.cost l):WayM p ms l.reverse/\l.reverse.getD (l.length-1) state0=g.dst:=by
 have hpos:∀m∈ms,∀x∈movesL p m.dst,0<x.cost:=fun m hm x hx=>(movesL_ok ((h.reach m hm).fine hpr).1 hx).2.2;obtain⟨h1,h2,h3,⟨m,hm,h4,h5⟩,h6⟩:=hw.marks h hpos g hg rfl rfl;have hz:=(h.reach m hm).zero hpr h5;refine⟨⟨by simpa using h1,?_,fun i hi=>?_,fun m' hm' e=>?_,fun i hi=>?_⟩,?_⟩
 .rw[getD_rev (by omega),<-hz.1,h4];rfl
 .rw[getD_rev (by simpa using hi)];exact h3 _ (by simp at hi;omega)
 .obtain rfl:=dst_inj h.nodup hm hm' (by rw[hz.1,e]);exact hz.2
 .simp only[List.length_reverse]at hi;rw[getD_rev (by omega),getD_rev (by omega)];obtain⟨a,ha,e1,m1,hm1,e2,r⟩:=h6 (l.length-1-(i+1)) (by omega);refine⟨a,ha,?_,m1,hm1,e2,r⟩;rw[e1]
  congr 1
  omega
 .rw[getD_rev (by omega)];have:l.length-1-(l.length-1)=0:=by omega
  rw[this,h2]
end Go.Proofs.YtlgjakpoaelehaaGreat
