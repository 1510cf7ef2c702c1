/- Contracts and plain laws, merged: KI -/
import Derived.Laws.CopyOwn
import Derived.Test.YtlgjakpoaelehaaGreatSB11
namespace Go.Proofs.YtlgjakpoaelehaaGreat
open Go.RowKit
section
section
variable {P : Program} {ops : Array Oper} {Q : Exit → Act → World → Prop} {md : Region.Mode} {Inv : Array Bool → Act → World → Prop}
def unlisted (L:Array Bool):Nat->Nat
 |0=>0
 |n+1=>unlisted L n+if L.getD n true then 0 else 1
theorem unlisted_out {L:Array Bool}{i:Nat}:∀{n:Nat},n<=i->unlisted (L.setIfInBounds i true) n=unlisted L n
 |0,_=>rfl
 |n+1,h=>by
  unfold unlisted;rw[unlisted_out (by omega),getD_set_ne true (by omega)]
theorem unlisted_set {L:Array Bool}{i:Nat}(h:L.getD i true=false):∀{n:Nat},i<n->unlisted (L.setIfInBounds i true) n+1=unlisted L n
 |0,hi=>by omega
 |n+1,hi=>by
  unfold unlisted
  by_cases e:i=n
  .subst e
   have h2:(L.setIfInBounds i true).getD i true=true:=by
    rcases Nat.lt_or_ge i L.size with h'|h'
    .simp[h']
    .simp[Array.getElem?_eq_none h']at h
   rw[unlisted_out NL,h,h2];simp
  .have:=unlisted_set h (n:=n) (by omega);rw[getD_set_ne true e];omega
theorem unlisted_pos {L:Array Bool}{i:Nat}(h:L.getD i true=false):∀{n:Nat},i<n->0<unlisted L n
 |0,hi=>by omega
 |n+1,hi=>by
  unfold unlisted
  by_cases e:i=n
  .subst e;rw[h];simp
  .have:=unlisted_pos h (n:=n) (by omega);omega
def upward (ops:Array Oper):Bool:=(List.range ops.size).all fun j=>((ops[j]?).map (·.after.all fun e=>decide (e.on<j))).getD true
theorem all_listed {L:Array Bool}(hu:upward ops=true)(hs:L.size=ops.size)(h:Region.ready md ops L=[]):∀n,∀j,j<n->j<ops.size->L.getD j false=true
 |0,j,hj,_=>by omega
 |n+1,j,hj,hjs=>by
  by_cases e:j<n
  .exact all_listed hu hs h n j e hjs
  .have hjn:j=n:=by omega
   subst hjn
   cases hl:L.getD j false with
   |true=>rfl
   |false=>
    exfalso
    have hr:j∈Region.ready md ops L:=by
     refine mem_ready.2 ⟨?_,ops[j],Array.getElem?_eq_getElem hjs,fun e he hb=>?_⟩
     .have h':j<L.size:=by omega
      simp[h']at hl|-;exact hl
     .have h1:=List.all_eq_true.1 hu j (List.mem_range.2 hjs);rw[Array.getElem?_eq_getElem hjs]at h1;simp only[Option.map_some,Option.getD_some]at h1;have h2:=Array.all_eq_true_iff_forall_mem.1 h1 e he;simp only[decide_eq_true_eq]at h2;exact all_listed hu hs h j e.on h2 (by omega)
    rw[h]at hr
    cases hr
theorem wpAny_inv (hu:upward ops=true)(hsz:∀L a w,Inv L a w->L.size=ops.size)
 (hstep:∀i L a w,Inv L a w->i∈Region.ready md ops L->wpOp P ops Q i (Inv (L.setIfInBounds i true)) a w)
 (hend:∀L a w,Inv L a w->(∀j,j<ops.size->L.getD j false=true)->Q .normal a w):∀(fuel:Nat) (L:Array Bool) (a:Act) (w:World),Inv L a w->unlisted L ops.size<=fuel->wpAny P md ops Q fuel L a w
 |0,L,a,w,h,hf=>by
  have hr:Region.ready md ops L=[]:=by
   cases hr:Region.ready md ops L with
   |nil=>rfl
   |cons j l=>
    have hj:j∈Region.ready md ops L:=by rw[hr];simp
    obtain⟨h1,o,ho,-⟩:=mem_ready.1 hj;have:=unlisted_pos h1 (Array.getElem?_eq_some_iff.1 ho).1;omega
  exact⟨hr,hend L a w h fun j hj=>all_listed hu (hsz L a w h) hr _ j hj hj⟩
 |fuel+1,L,a,w,h,hf=>by
  refine⟨fun hr=>hend L a w h fun j hj=>all_listed hu (hsz L a w h) hr _ j hj hj,fun i hi=>?_⟩;obtain⟨h1,o,ho,-⟩:=mem_ready.1 hi;have h2:=unlisted_set h1 (Array.getElem?_eq_some_iff.1 ho).1;exact wpOp_mono (fun a' w' h'=>wpAny_inv hu hsz hstep hend fuel _ a' w' h' (by omega)) (hstep i L a w h hi)
theorem unlisted_le (L:Array Bool):∀n,unlisted L n<=n
 |0=>Nat.le_refl _
 |n+1=>by
  have:=unlisted_le L n;unfold unlisted;split<;>omega
def depsOf (md:Region.Mode)(o:Oper):List Nat:=(o.after.toList.filter fun e=>Region.binds md e).map (·.on)
def StepsI (P:Program)(md:Region.Mode)(ops:Array Oper)(Q:Exit->Act->World->Prop)(Inv:Array Bool->Act->World->Prop)(rs:List Nat):Prop:=
 ∀i∈rs,∀L a w,Inv L a w->i∈Region.ready md ops L->wpOp P ops Q i (Inv (L.setIfInBounds i true)) a w
theorem StepsI.nil:StepsI P md ops Q Inv []:=fun _ h=>by cases h
theorem StepsI.cons {i:Nat}{o:Oper}{rs ds:List Nat}(ho:ops.toList[i]?=some o)(hd:depsOf md o=ds)
 (h:∀L a w,Inv L a w->L.getD i true=false->(∀j∈ds,L.getD j false=true)->∀K':Act->World->Prop,Shut (∀a w,Inv (L.setIfInBounds i true) a w->K' a w)->if Region.wanted o (yielded ops a.tmps)=true then Oper.wp P o a w K' Q else K' (a.put o.dst undef) w)
 (hs:StepsI P md ops Q Inv rs):StepsI P md ops Q Inv (i::rs):=fun j hj=>by
 rcases List.mem_cons.1 hj with rfl|hj
 .intro L a w hI hr;obtain⟨h1,o',ho',h2⟩:=mem_ready.1 hr;rw[Array.getElem?_toList]at ho;obtain rfl:o=o':=Option.some.inj (ho.symm.trans ho');refine wpOp_step ho fun K' hK=>h L a w hI h1 (fun j hj=>?_) K' hK;rw[<-hd]at hj;unfold depsOf at hj;obtain⟨e,he,rfl⟩:=List.mem_map.1 hj;obtain⟨h3,h4⟩:=List.mem_filter.1 he;exact h2 e (by simpa using h3) h4
 .exact hs j hj
theorem wpAnyK_inv {S:World->Prop}{k:Nat}(hu:upward ops=true)(hsz:∀L a w,Inv L a w->L.size=ops.size)
 {rs:List Nat} (hcov:∀L a w,Inv L a w->∀i,i<ops.size->L.getD i true=false->i∈rs) (hstep:StepsI P md ops Q Inv rs) (hS:∀L a w,Inv L a w->L.getD k false=false->S w)
 (hend:∀L a w,Inv L a w->(∀j,j<ops.size->L.getD j false=true)->Q .normal a w):∀(fuel:Nat) (L:Array Bool) (a:Act) (w:World),Inv L a w->unlisted L ops.size<=fuel->wpAnyK P md ops Q S k fuel L a w
 |0,L,a,w,h,hf=>by
  have hr:Region.ready md ops L=[]:=by
   cases hr:Region.ready md ops L with
   |nil=>rfl
   |cons j l=>
    have hj:j∈Region.ready md ops L:=by rw[hr];simp
    obtain⟨h1,o,ho,-⟩:=mem_ready.1 hj;have:=unlisted_pos h1 (Array.getElem?_eq_some_iff.1 ho).1;omega
  exact⟨hr,hend L a w h fun j hj=>all_listed hu (hsz L a w h) hr _ j hj hj⟩
 |fuel+1,L,a,w,h,hf=>by
  refine⟨fun hr=>hend L a w h fun j hj=>all_listed hu (hsz L a w h) hr _ j hj hj,fun i hi=>?_⟩;obtain⟨h1,o,ho,-⟩:=mem_ready.1 hi;have hlt:=(Array.getElem?_eq_some_iff.1 ho).1;have h2:=unlisted_set h1 hlt;exact wpOp_mono (fun a' w' h'=>⟨fun hk=>hS _ _ _ h' hk,wpAnyK_inv hu hsz hcov hstep hS hend fuel _ a' w' h' (by omega)⟩) (hstep i (hcov L a w h i hlt h1) L a w h hi)
theorem wp_region_inv {id:Nat}{a:Act}{w:World}(hm:P.follows .mixedOrders=true)(hu:upward ops=true)(hsz:∀L a w,Inv L a w->L.size=ops.size)
 (h0:Inv (Array.replicate ops.size false) a w.drew) (hstep:StepsI P .any ops Q Inv (List.range ops.size)) (hend:∀L a w,Inv L a w->(∀j,j<ops.size->L.getD j false=true)->Q .normal a w):(Code.region id ops true).wp P Q a w:=
 wp_region_any hm (wpAny_inv hu hsz (fun i L a w hI hr=>hstep i (by obtain⟨-,o,ho,-⟩:=mem_ready.1 hr;exact List.mem_range.2 (Array.getElem?_eq_some_iff.1 ho).1) L a w hI hr) hend _ _ _ _ h0 (unlisted_le _ _))
end
def updV (v:Nat->Value)(i:Nat)(x:Value):Nat->Value:=fun j=>if j=i then x else v j
def InvF (n k:Nat)(pr:List Nat)(S:World->Prop)(Fr:(Nat->Value)->Act)(Pd:Nat->World->Value->Prop)(Fin:Act->World->Prop)(L:Array Bool)(a:Act)(w:World):Prop:=
 L.size=n/\(∀j∈pr,L.getD j true=true)/\((∃v,a=Fr v/\L.getD k true=false/\S w/\∀j,j<k->L.getD j false=true->Pd j w (v j))\/((∀j,L.getD j true=true)/\Fin a w))
section
variable {n k : Nat} {pr : List Nat} {S : World → Prop} {Fr : (Nat → Value) → Act} {Pd : Nat → World → Value → Prop} {Fin : Act → World → Prop} {L : Array Bool} {a : Act} {w w' : World}
theorem setL {L:Array Bool}{i j:Nat}(h:L.getD j true=true):(L.setIfInBounds i true).getD j true=true:=by
 by_cases e:i=j
 .subst e;rcases Nat.lt_or_ge i L.size with h'|h'
  .simp[h']
  .simp
 .rw[getD_set_ne true e];exact h
theorem InvF.next {v:Nat->Value}{i:Nat}(val:Value)(hs:L.size=n)(hpr:∀j∈pr,L.getD j true=true)(hk:L.getD k true=false)(hv:∀j,j<k->L.getD j false=true->Pd j w (v j))(hi:i<k)(hS:S w')(hst:∀j v,Pd j w v->Pd j w' v)(hval:Pd i w' val):
 InvF n k pr S Fr Pd Fin (L.setIfInBounds i true) (Fr (updV v i val)) w':=by
 refine⟨by simpa using hs,fun j hj=>setL (hpr j hj),.inl ⟨_,rfl,by rw[getD_set_ne true (by omega)];exact hk,hS,fun j hj hl=>?_⟩⟩;unfold updV
 by_cases e:j=i
 .subst e;rw[if_pos rfl];exact hval
 .rw[if_neg e];rw[getD_set_ne false (Ne.symm e)]at hl;exact hst j _ (hv j hj hl)
theorem InvF.stop (h:InvF n k pr S Fr Pd Fin L a w)(hall:L.getD k false=true)(hk:k<n):Fin a w:=by
 obtain⟨hs,-,⟨v,-,h2,-⟩|⟨-,h⟩⟩:=h
 .have hlt:k<L.size:=by omega
  simp[hlt]at hall h2;rw[hall]at h2
  cases h2
 .exact h
theorem InvF.held (h:InvF n k pr S Fr Pd Fin L a w)(hk:L.getD k false=false)(hkn:k<n):S w:=by
 obtain⟨hs,-,⟨v,-,-,h,-⟩|⟨h,-⟩⟩:=h
 .exact h
 .have h2:=h k;have hlt:k<L.size:=by omega
  simp[hlt]at hk h2;rw[hk]at h2
  cases h2
theorem InvF.cov (h:InvF n k pr S Fr Pd Fin L a w){rs:List Nat}(hb:((List.range n).all fun i=>pr.contains i||rs.contains i)=true){i:Nat}(hi:i<n)(hl:L.getD i true=false):i∈rs:=by
 have h1:=List.all_eq_true.1 hb i (List.mem_range.2 hi);simp only[Bool.or_eq_true,List.contains_iff_mem]at h1;rcases h1 with h1|h1
 .rw[h.2.1 i h1]at hl;cases hl
 .exact h1
theorem InvF.last (hs:L.size=n)(hpr:∀j∈pr,L.getD j true=true)(hn:n=k+1)(hd:∀j,j<k->L.getD j false=true)(h:Fin a w):InvF n k pr S Fr Pd Fin (L.setIfInBounds k true) a w:=by
 refine⟨by simpa using hs,fun j hj=>setL (hpr j hj),.inr ⟨fun j=>?_,h⟩⟩
 by_cases e:k=j
 .subst e;simp[hs,hn]
 .rw[getD_set_ne true e]
  by_cases hj:j<k
  .have:=hd j hj;simp only[Array.getD_eq_getD_getElem?]at this|-;rw[Array.getElem?_eq_getElem (show j<L.size by omega)]at this|-;exact this
  .rw[Array.getD_eq_getD_getElem?,Array.getElem?_eq_none (by omega)];rfl
end
theorem Pres.setRow' {T T':TypeId}{w:World}{b:Nat}(h:BlkT T' w b)(hT:T≠T')(cs:Array Value):Pres T w (w.setRow b cs):=fun k cur fr hk=>by
 obtain⟨cur',fr',h'⟩:=h
 have hne:k≠b:=fun e=>by
  rw[e,h']at hk
  cases hk
  exact hT rfl
 unfold World.setRow;rw[show(w.heap.modify b _)[k]?=w.heap[k]? from by simp[Array.getElem?_modify,Ne.symm hne]];exact hk
theorem Bel.setRow {N:Nat}{w w':World}{b:Nat}(h:Bel N w w')(hB:N<=b)(cs:Array Value):Bel N w (w'.setRow b cs):=⟨below_setRow h.toBelow hB cs⟩
end
end Go.Proofs.YtlgjakpoaelehaaGreat
