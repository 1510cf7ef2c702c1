/- Contracts and plain laws, merged: KR -/
import Derived.Deep.RegionHeld3
import Derived.StillTail
import Derived.StillTailTactics
import Derived.Test.YtlgjakpoaelehaaGreatSB08
namespace Go.Proofs.YtlgjakpoaelehaaGreat
open Go.RowKit
section
section
variable {P : Program} {ops : Array Oper} {Q : Exit → Act → World → Prop} {md : Region.Mode} {S : World → Prop} {k : Nat}
theorem kNo {b:Bool}{p:Prop}(hb:b=true)(h:b=false):p:=by rw[hb]at h;cases h
def Closed (md:Region.Mode)(ops:Array Oper)(listed:Array Bool):Prop:=∀j oj,ops[j]?=some oj->listed.getD j false=true->∀e∈oj.after,Region.binds md e=true->listed.getD e.on false=true
def closedB (md:Region.Mode)(ops:Array Oper)(listed:Array Bool):Bool:=
 (List.range ops.size).all fun j=>!listed.getD j false||((ops[j]?).map (·.after.all fun e=>!Region.binds md e||listed.getD e.on false)).getD true
theorem Closed.of {listed:Array Bool}(h:closedB md ops listed=true):Closed md ops listed:=fun j oj hj hl e he hb=>by
 have h1:=List.all_eq_true.1 h j (List.mem_range.2 (Array.getElem?_eq_some_iff.1 hj).1);simp only[hl,hj,Bool.not_true,Bool.false_or,Option.map_some,Option.getD_some]at h1;have h2:=Array.all_eq_true_iff_forall_mem.1 h1 e he
 simpa[hb]using h2
theorem Closed.set {i:Nat}{listed:Array Bool}(inv:Closed md ops listed)(hi:i∈Region.ready md ops listed):Closed md ops (listed.setIfInBounds i true):=by
 obtain⟨_,oi,hoi,hall⟩:=mem_ready.1 hi;intro j oj hj hl e he hb
 by_cases hij:i=j
 .subst hij;have:oj=oi:=Option.some.inj (hj.symm.trans hoi);subst this;exact getD_set_true (hall e he hb)
 .rw[getD_set_ne false hij]at hl;exact getD_set_true (inv j oj hj hl e he hb)
def pathB (md:Region.Mode)(ops:Array Oper):Nat->List Nat->Nat->Bool
 |x,[],i=>Region.waitsFor md ops x i
 |x,y::l,i=>Region.waitsFor md ops x y && pathB md ops y l i
theorem path_listed {listed:Array Bool}(hc:Closed md ops listed){i:Nat}:∀(l:List Nat) (x:Nat),pathB md ops x l i=true->listed.getD x false=true->listed.getD i false=true
 |[],x,h,hx=>by
  obtain⟨ox,hox,e,he,hb,rfl⟩:=Region.waitsFor_spec h;exact hc x ox hox hx e he hb
 |y::l,x,h,hx=>by
  simp only[pathB,Bool.and_eq_true]at h;obtain⟨ox,hox,e,he,hb,rfl⟩:=Region.waitsFor_spec h.1;exact path_listed hc l _ h.2 (hc x ox hox hx e he hb)
theorem path_ready {listed:Array Bool}(hc:Closed md ops listed){i:Nat}(l:List Nat)(x:Nat)(h:pathB md ops x l i=true)(hr:x∈Region.ready md ops listed):listed.getD i false=true:=by
 obtain⟨_,ox',hox',hall⟩:=mem_ready.1 hr
 cases l with
 |nil=>
  obtain⟨ox,hox,e,he,hb,rfl⟩:=Region.waitsFor_spec h;have:ox=ox':=Option.some.inj (hox.symm.trans hox');subst this;exact hall e he hb
 |cons y l=>
  simp only[pathB,Bool.and_eq_true]at h;obtain⟨ox,hox,e,he,hb,rfl⟩:=Region.waitsFor_spec h.1;have:ox=ox':=Option.some.inj (hox.symm.trans hox');subst this;exact path_listed hc l _ h.2 (hall e he hb)
def wpAnyK (P:Program)(md:Region.Mode)(ops:Array Oper)(Q:Exit->Act->World->Prop)(S:World->Prop)(k:Nat):Nat->Array Bool->Act->World->Prop
 |0,listed,a,w=>Region.ready md ops listed=[]/\Q .normal a w
 |fuel+1,listed,a,w=>
  (Region.ready md ops listed=[]->Q .normal a w)/\
  ∀i∈Region.ready md ops listed,wpOp P ops Q i (fun a' w'=>((listed.setIfInBounds i true).getD k false=false->S w')/\wpAnyK P md ops Q S k fuel (listed.setIfInBounds i true) a' w') a w
theorem wpAny_of_K:∀(fuel:Nat) (listed:Array Bool) (a:Act) (w:World),wpAnyK P md ops Q S k fuel listed a w->wpAny P md ops Q fuel listed a w
 |0,_,_,_,h=>h
 |fuel+1,_,_,_,h=>⟨h.1,fun i hi=>wpOp_mono (fun a' w' h'=>wpAny_of_K fuel _ a' w' h'.2) (h.2 i hi)⟩
theorem wpAnyK_first {i:Nat}{oi:Oper}{v:Value}(path:List Nat)(hi:ops[i]?=some oi)(hwt:pathB md ops k path i=true)(hik:i≠k)
 (hsel:∀(j:Nat) (o:Oper) cs b,ops[j]?=some o->o.op≠ .select cs b) (hQ:∀c a w,Q (.panic c) (a.put oi.dst v) w->Q (.panic c) a w):
 ∀(fuel:Nat) (listed:Array Bool) (a:Act) (w:World),
  (∀j oj,ops[j]?=some oj->j≠i->listed.getD j true=false->(∀e∈oj.after,Region.binds md e=true->e.on≠i)->oi.apart ops oj=true)->
  i∈Region.ready md ops listed->YieldsIf P ops S oi v a->S w->listed.getD k false=false->Closed md ops listed->
  wpAnyK P md ops Q S k fuel (listed.setIfInBounds i true) (a.put oi.dst v) w->wpAnyK P md ops Q S k (fuel+1) listed a w:=by
 intro fuel
 induction fuel with
 |zero=>
  intro listed a w _ hr hy hS _ _ H;refine⟨fun h=>(by rw[h]at hr;cases hr),fun j hj=>?_⟩
  by_cases hji:j=i
  .subst hji;exact hy.wpOp hi hS ⟨fun _=>hS,H⟩
  .have:=ready_mono hj hji;rw[H.1]at this
   cases this
 |succ fuel ih=>
  intro listed a w hfree hr hy hS hkl hcl H;refine⟨fun h=>(by rw[h]at hr;cases hr),fun j hj=>?_⟩
  by_cases hji:j=i
  .subst hji;exact hy.wpOp hi hS ⟨fun _=>hS,H⟩
  .have h1:=H.2 j (ready_mono hj hji);obtain⟨hjun,oj,hoj,hall⟩:=mem_ready.1 hj
   have hnot:∀e∈oj.after,Region.binds md e=true->e.on≠i:=fun e he hb heq=>by
    have h1:=hall e he hb;have h0:=(mem_ready.1 hr).1;rw[heq]at h1;rcases Nat.lt_or_ge i listed.size with h'|h'
    .simp[h']at h0 h1;rw[h0]at h1;cases h1
    .simp[Array.getElem?_eq_none h']at h1
   have hjk:j≠k:=fun e=>by
    subst e;have h1:=path_ready hcl path _ hwt hj;have h0:=(mem_ready.1 hr).1;rcases Nat.lt_or_ge i listed.size with h'|h'
    .simp[h']at h0 h1;rw[h0]at h1;cases h1
    .simp[Array.getElem?_eq_none h']at h1
   have hkl':(listed.setIfInBounds j true).getD k false=false:=by rw[getD_set_ne false hjk];exact hkl
   have h2:=wpOp_putIf hoj (hfree j oj hoj hji hjun hnot) (fun cs b=>hsel i oi cs b hi) (fun cs b=>hsel j oj cs b hoj) hQ hy h1
   have hfree':∀k ok,ops[k]?=some ok->k≠i->(listed.setIfInBounds j true).getD k true=false->
    (∀e∈ok.after,Region.binds md e=true->e.on≠i)->oi.apart ops ok=true:=fun k ok hk hki hun hno=>by
    refine hfree k ok hk hki ?_ hno
    by_cases hjk:j=k
    .subst hjk;exact hjun
    .rw[getD_set_ne true hjk]at hun;exact hun
   have hset:((listed.setIfInBounds i true).setIfInBounds j true).getD k false=false:=by rw[getD_set_ne false hjk,getD_set_ne false hik];exact hkl
   refine wpOp_mono (fun a' w' h3=>⟨fun _=>h3.2.1 hset,ih (listed.setIfInBounds j true) a' w' hfree' (ready_mono hr (Ne.symm hji)) h3.1 (h3.2.1 hset) hkl' (hcl.set hj) ?_⟩) h2;rw[Array.setIfInBounds_comm _ _ hji];exact h3.2.2
theorem wpAnyK_take (i:Nat)(path:List Nat){oi:Oper}{v:Value}{fuel:Nat}{listed:Array Bool}{a:Act}{w:World}(hi:ops.toList[i]?=some oi)(hwt:(decide (i≠k) && pathB md ops k path i && closedB md ops listed)=true)
 (hs:Region.noSelect ops=true) (hf:Region.free md ops listed i=true) (hr:((Region.ready md ops listed).contains i && !listed.getD k false)=true)
 (hQ:∀c a w,Q (.panic c) (a.put oi.dst v) w->Q (.panic c) a w) (hy:YieldsIf P ops S oi v a) (hS:S w)
 (h:wpAnyK P md ops Q S k fuel (listed.setIfInBounds i true) (a.put oi.dst v) w):wpAnyK P md ops Q S k (fuel+1) listed a w:=by
 rw[Array.getElem?_toList]at hi;simp only[Bool.and_eq_true,decide_eq_true_eq,Bool.not_eq_true']at hwt hr;exact wpAnyK_first path hi hwt.1.2 hwt.1.1 (Region.noSelect_spec hs) hQ fuel listed a w (Region.free_spec hi hf) (by simpa using hr.1) hy hS hr.2 (Closed.of hwt.2) h
def AllReadyK (P:Program)(md:Region.Mode)(ops:Array Oper)(Q:Exit->Act->World->Prop)(S:World->Prop)(k fuel:Nat)(listed:Array Bool)(a:Act)(w:World)(rs:List Nat):Prop:=
 ∀i∈rs,wpOp P ops Q i (fun a' w'=>((listed.setIfInBounds i true).getD k false=false->S w')/\wpAnyK P md ops Q S k fuel (listed.setIfInBounds i true) a' w') a w
theorem AllReadyK.nil {fuel:Nat}{listed:Array Bool}{a:Act}{w:World}:AllReadyK P md ops Q S k fuel listed a w []:=fun _ h=>by cases h
theorem AllReadyK.cons {fuel:Nat}{listed:Array Bool}{a:Act}{w:World}{i:Nat}{o:Oper}{rs:List Nat}(ho:ops.toList[i]?=some o)
 (h:∀K':Act->World->Prop,Shut (∀a w,((listed.setIfInBounds i true).getD k false=false->S w)->(((listed.setIfInBounds i true).getD k false=false->S w)->wpAnyK P md ops Q S k fuel (listed.setIfInBounds i true) a w)->K' a w)->if Region.wanted o (yielded ops a.tmps)=true then Oper.wp P o a w K' Q else K' (a.put o.dst undef) w)
 (hs:AllReadyK P md ops Q S k fuel listed a w rs):AllReadyK P md ops Q S k fuel listed a w (i::rs):=fun j hj=>by
 rcases List.mem_cons.1 hj with rfl|hj
 .exact wpOp_step (by rw[<-Array.getElem?_toList];exact ho) (fun K' hK=>h K' (fun a w hS hW=>hK a w ⟨hS,hW hS⟩))
 .exact hs j hj
theorem wpAnyK_ready {rs:List Nat}{fuel:Nat}{listed:Array Bool}{a:Act}{w:World}(hr:Region.ready md ops listed=rs)(hne:rs≠[])
 (h:AllReadyK P md ops Q S k fuel listed a w rs):wpAnyK P md ops Q S k (fuel+1) listed a w:=⟨fun h0=>absurd (hr▸h0) hne,hr▸h⟩
theorem wpAnyK_done {listed:Array Bool}{a:Act}{w:World}(hr:Region.ready md ops listed=[])(h:Q .normal a w):∀fuel,wpAnyK P md ops Q S k fuel listed a w
 |0=>⟨hr,h⟩
 |_+1=>⟨fun _=>h,by rw[hr];simp⟩
theorem wp_region_K {id:Nat}{a:Act}{w:World}(hm:P.follows .mixedOrders=true)(hS:S w.drew)
 (h:S w.drew->wpAnyK P .any ops Q S k ops.size (Array.replicate ops.size false) a w.drew):(Code.region id ops true).wp P Q a w:=
 wp_region_any hm (wpAny_of_K _ _ _ _ (h hS))
theorem TK (i:Nat)(path:List Nat){oi:Oper}{v:Value}{fuel:Nat}{listed:Array Bool}{a a':Act}{w:World}(h:wpAnyK P md ops Q S k fuel (listed.setIfInBounds i true) a' w)
 (hi:ops.toList[i]?=some oi:=by rfl) (hwt:(decide (i≠k) && pathB md ops k path i && closedB md ops listed)=true:=by kernel_rfl)
 (hs:Region.noSelect ops=true:=by kernel_rfl) (hf:Region.free md ops listed i=true:=by kernel_rfl) (hr:((Region.ready md ops listed).contains i && !listed.getD k false)=true:=by kernel_rfl)
 (hw:Region.wanted oi (yielded ops a.tmps)=true:=by rfl)
 (hy:∀w,S w->(execOp a.eval oi).run P w=.ok (.value v) w:=by(intro w hSw;(try dsimp only at hSw);go_simp;try with_reducible rfl))
 (hQ:∀c a w,Q (.panic c) (a.put oi.dst v) w->Q (.panic c) a w:=by exact fun _ _ _ h=>h)
 (hS:S w:=by assumption) (hfr:a.put oi.dst v=a':=by((try simp only[Act.put,List.setIfInBounds_toArray,List.set_cons_zero,List.set_cons_succ]);rfl)):wpAnyK P md ops Q S k (fuel+1) listed a w:=
 wpAnyK_take i path hi hwt hs hf hr hQ (.inl ⟨hw,hy⟩) hS (hfr▸h)
theorem TX (i:Nat)(path:List Nat){oi:Oper}{fuel:Nat}{listed:Array Bool}{a a':Act}{w:World}(h:wpAnyK P md ops Q S k fuel (listed.setIfInBounds i true) a' w)
 (hi:ops.toList[i]?=some oi:=by rfl) (hwt:(decide (i≠k) && pathB md ops k path i && closedB md ops listed)=true:=by kernel_rfl)
 (hs:Region.noSelect ops=true:=by kernel_rfl) (hf:Region.free md ops listed i=true:=by kernel_rfl) (hr:((Region.ready md ops listed).contains i && !listed.getD k false)=true:=by kernel_rfl)
 (hw:Region.wanted oi (yielded ops a.tmps)=false:=by rfl)
 (hQ:∀c a w,Q (.panic c) (a.put oi.dst undef) w->Q (.panic c) a w:=by exact fun _ _ _ h=>h)
 (hS:S w:=by assumption) (hfr:a.put oi.dst undef=a':=by((try simp only[Act.put,List.setIfInBounds_toArray,List.set_cons_zero,List.set_cons_succ]);rfl)):wpAnyK P md ops Q S k (fuel+1) listed a w:=
 wpAnyK_take i path hi hwt hs hf hr hQ (.inr ⟨hw,rfl⟩) hS (hfr▸h)
theorem KRs (rs:List Nat){fuel:Nat}{listed:Array Bool}{a:Act}{w:World}(h:AllReadyK P md ops Q S k fuel listed a w rs)(hr:Region.ready md ops listed=rs:=by kernel_rfl)(hne:rs≠[]:=by simp):wpAnyK P md ops Q S k (fuel+1) listed a w:=wpAnyK_ready hr hne h
theorem KCs {fuel:Nat}{listed:Array Bool}{a:Act}{w:World}{i:Nat}{o:Oper}{rs:List Nat}
 (h:∀K':Act->World->Prop,Shut (∀a w,((listed.setIfInBounds i true).getD k false=false->S w)->(((listed.setIfInBounds i true).getD k false=false->S w)->wpAnyK P md ops Q S k fuel (listed.setIfInBounds i true) a w)->K' a w)->if Region.wanted o (yielded ops a.tmps)=true then Oper.wp P o a w K' Q else K' (a.put o.dst undef) w)
 (hs:AllReadyK P md ops Q S k fuel listed a w rs) (ho:ops.toList[i]?=some o:=by rfl):AllReadyK P md ops Q S k fuel listed a w (i::rs):=AllReadyK.cons ho h hs
theorem KNs {fuel:Nat}{listed:Array Bool}{a:Act}{w:World}:AllReadyK P md ops Q S k fuel listed a w []:=AllReadyK.nil
theorem SA {C:Prop}{S:World->Prop}{R K':Act->World->Prop}{a a':Act}{w:World}(hK:Shut (∀a w,(C->S w)->((C->S w)->R a w)->K' a w))(hS:S w)(h:S w->R a' w)(hC:C:=by kernel_rfl)(hfr:a=a':=by((try simp only[Act.put,List.setIfInBounds_toArray,List.set_cons_zero,List.set_cons_succ]);rfl)):K' a w:=
 hK.out a w (fun _=>hS) fun g=>hfr▸h (g hC)
theorem SS {C:Prop}{S:World->Prop}{R K':Act->World->Prop}{a a':Act}{w:World}(hK:Shut (∀a w,(C->S w)->((C->S w)->R a w)->K' a w))(h:S w->R a' w)(hS:S w:=by((try dsimp only);exact K2s))(hC:C:=by kernel_rfl)(hfr:a=a':=by((try simp only[Act.put,List.setIfInBounds_toArray,List.set_cons_zero,List.set_cons_succ]);rfl)):K' a w:=
 hK.out a w (fun _=>hS) fun g=>hfr▸h (g hC)
theorem SE {X:Bool}{S:World->Prop}{R K':Act->World->Prop}{a a':Act}{w:World}(hK:Shut (∀a w,(X=false->S w)->((X=false->S w)->R a w)->K' a w))(h:R a' w)(hX:X=true:=by kernel_rfl)(hfr:a=a':=by((try simp only[Act.put,List.setIfInBounds_toArray,List.set_cons_zero,List.set_cons_succ]);rfl)):K' a w:=
 hK.out a w (fun h=>kNo hX h) fun _=>hfr▸h
end
end
end Go.Proofs.YtlgjakpoaelehaaGreat
