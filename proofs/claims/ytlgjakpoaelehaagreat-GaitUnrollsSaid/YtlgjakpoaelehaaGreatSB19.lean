/- Contracts and plain laws, merged: C5 P1 P2 P3 C6 C8 P4 C7 O3 O4 O5 -/
import Derived.Carry
import Derived.Deep.LoopGhost
import Derived.Deep.RegionHeld3
import Derived.Lib.SliceRun
import Derived.Test.YtlgjakpoaelehaaGreatSB16
import Derived.Test.YtlgjakpoaelehaaGreatSB17
import Derived.Test.YtlgjakpoaelehaaGreatSB18
namespace Go.Proofs.YtlgjakpoaelehaaGreat
open Go.RowKit
set_option maxRecDepth 100000
set_option maxHeartbeats 16000000
section
open Go.Maps (Keyed)
structure Trn (b:Nat) (w w':World):Prop where
 os:w'.os=w.os
 tape:w'.tape=w.tape
 output:w'.output=w.output
 size:w'.heap.size=w.heap.size
 other:∀k,k≠b->w'.heap[k]?=w.heap[k]?
 pres:∀T,Pres T w w'
theorem Trn.of {b:Nat}{w w':World}(h:w.mapTurned w' b):Trn b w w':=by
 obtain⟨es,c,es',c',hb,rfl⟩:=h;refine⟨rfl,rfl,rfl,by simp[Go.ChangeMaps.setBlock],fun k hk=>Go.ChangeMaps.heap_setBlock_other hb _ hk,fun T k cur fr hk=>?_⟩
 by_cases e:k=b
 .subst e;rw[hb]at hk;cases hk
 .exact(Go.ChangeMaps.heap_setBlock_other hb _ e).trans hk
theorem Trn.bel {b N:Nat}{w w':World}(h:Trn b w w')(hN:N<=b):Bel N w w':=⟨⟨h.os,h.tape,h.output,by rw[h.size];exact Nat.le_refl _,fun k hk=>h.other k (by omega)⟩⟩
theorem Trn.kpi {b:Nat}{w w':World}(h:Trn b w w'):KpI w w':=⟨by rw[h.size];exact Nat.le_refl _,fun T _=>h.pres T⟩
theorem Trn.others {b N:Nat}{w w':World}(h:Trn b w w')(hN:b<N):Others N w w':=⟨by rw[h.size];exact Nat.le_refl _,fun k o hk ho _=>(h.other k (by omega)).trans ho⟩
section
variable {ε : Type} {Ok : World → Value → ε → Prop} {ky : ε → StateD} {n : Nat} {b : Nat} {l : List ε} {s : StateD}
 {F:Fence} {nF:Nat} (w:World) {ops:Array Oper} {rest:List Oper} {o:Oper} {a:Act} {Q:Exit->Act->World->Prop}
theorem MapG.look {E t:TypeId}{z key:Value}{w:World}(h:MapG Ok ky n w b l)(ht:Tryz.prog.underlying t=some (.map 156 E))(hz:(zeroValue E).run Tryz.prog w=.ok z w)(hs:SOk n s)(hx:key=keyV s):
 (∃v,(∃e∈l,ky e=s/\Ok w v e)/\(Instr.lookup t (.map (some b)) key true).run Tryz.prog w=.ok (.tuple #[v,.bool true]) w/\(Instr.lookup t (.map (some b)) key false).run Tryz.prog w=.ok v w)\/
 ((∀e∈l,ky e≠s)/\(Instr.lookup t (.map (some b)) key true).run Tryz.prog w=.ok (.tuple #[z,.bool false]) w/\(Instr.lookup t (.map (some b)) key false).run Tryz.prog w=.ok z w):=by
 subst hx;obtain⟨es,h1,h2⟩:=h;obtain⟨v,ps,hr,hv⟩:=h1.look_ok keyK ht hz (zd:=.held z) (zp:=[]) rfl (keyS hs);obtain⟨v2,ps2,hr2,hv2⟩:=h1.lookup keyK ht hz (zd:=.held z) (zp:=[]) rfl (keyS hs);unfold RV at hv hv2;simp only[Option.some.injEq,Prod.mk.injEq]at hv hv2;have ev:v2=v:=by have:=hv2.1.trans hv.1.symm;cases this;rfl
 rw[ev]at hr2
 cases hh:Maps.has (.map es) (litS s)
 .right;have e1:=hv.1;rw[Maps.atKey_of_not_has hh]at e1
  cases e1
  rw[hh]at hr;refine⟨fun e he e2=>?_,hr,hr2⟩;have:=(h2.has hs).2 ⟨e,he,e2⟩;rw[hh]at this;cases this
 .left;obtain⟨e,he,e1,v',hv',ho⟩:=h2.at hs hh;rw[hv']at hv;have e2:=hv.1
  cases e2
  rw[hh]at hr;exact⟨v,⟨e,he,e1,ho⟩,hr,hr2⟩
theorem MapG.upd {E t:TypeId}{key val:Value}{w:World}{e:ε}(h:MapG Ok ky n w b l)(ht:Tryz.prog.underlying t=some (.map 156 E))(hl:l.length<maxLen)(hs:SOk n (ky e))(hx:key=keyV (ky e))(ho:Ok w val e)
 (hk:∀w' v e,Trn b w w'->Ok w v e->Ok w' v e):
 ∃w',(Instr.mapUpdate t (.map (some b)) key val).run Tryz.prog w=.ok () w'/\MapG Ok ky n w' b (e::l.filter fun x=>decide (ky x≠ky e))/\Trn b w w':=by
 subst hx;obtain⟨es,h1,h2⟩:=h;obtain⟨w',hr,h3,h4⟩:=h1.store keyK ht (by rw[h2.len];exact hl) (keyS hs) (d:=.held val) (ps:=[]) rfl;refine⟨w',hr,⟨_,tight h3,(h2.put hs ho).pres fun v e=>hk _ _ _ (Trn.of h4)⟩,Trn.of h4⟩
theorem wpList_look_ok (hg:o.guard=none)(m x:Operand)(t E:TypeId)(hop:o.op=Op.lookup t m x true)(ht:Tryz.prog.underlying t=some (.map 156 E)){z:Value}(hz:(zeroValue E).run Tryz.prog w=.ok z w)(hm:a.eval m=.map (some b))
 (h:MapG Ok ky n w b l) (hs:SOk n s) (hx:a.eval x=keyV s) (hY:∀v,(∃e∈l,ky e=s/\Ok w v e)->wpList Tryz.prog ops Q rest (a.put o.dst (.tuple #[v,.bool true])) w)
 (hN:(∀e∈l,ky e≠s)->wpList Tryz.prog ops Q rest (a.put o.dst (.tuple #[z,.bool false])) w):wpList Tryz.prog ops Q (o::rest) a w:=by
 refine wpList_plain hg fun K' hK'=>?_;unfold Oper.wp;rcases h.look ht hz hs hx with⟨v,he,hr,-⟩|⟨he,hr,-⟩
 .simp[execOp,hop,hm,hr,Result.andThen];exact hK' _ _ (hY v he)
 .simp[execOp,hop,hm,hr,Result.andThen];exact hK' _ _ (hN he)
theorem wpListIn_look_ok (hg:o.guard=none)(m x:Operand)(t E:TypeId)(hop:o.op=Op.lookup t m x true)(ht:Tryz.prog.underlying t=some (.map 156 E)){z:Value}(hz:(zeroValue E).run Tryz.prog w=.ok z w)(hm:a.eval m=.map (some b))
 (h:MapG Ok ky n w b l) (hs:SOk n s) (hx:a.eval x=keyV s) (hY:∀v,(∃e∈l,ky e=s/\Ok w v e)->wpListIn F nF Tryz.prog ops Q rest (a.put o.dst (.tuple #[v,.bool true])) w)
 (hN:(∀e∈l,ky e≠s)->wpListIn F nF Tryz.prog ops Q rest (a.put o.dst (.tuple #[z,.bool false])) w):wpListIn F nF Tryz.prog ops Q (o::rest) a w:=by
 refine wpListIn_plain hg fun K' hK'=>?_;unfold Oper.wpIn;refine⟨by simp[Oper.about,hop],?_⟩;rw[Oper.semAt_plain F _ _ (by rw[hop];intro c hc';cases hc')];rcases h.look ht hz hs hx with⟨v,he,hr,-⟩|⟨he,hr,-⟩
 .simp[execOp,hop,hm,hr,Result.andThen];exact hK' _ _ (hY v he)
 .simp[execOp,hop,hm,hr,Result.andThen];exact hK' _ _ (hN he)
theorem wpListIn_upd (hg:o.guard=none)(m x v:Operand)(t E:TypeId)(hop:o.op=Op.mapUpdate t m x v)(ht:Tryz.prog.underlying t=some (.map 156 E))(hm:a.eval m=.map (some b))
 (h:MapG Ok ky n w b l) (hl:l.length<maxLen) {e:ε} (hs:SOk n (ky e)) (hx:a.eval x=keyV (ky e)) (ho:Ok w (a.eval v) e) (hk:∀w' v e,Trn b w w'->Ok w v e->Ok w' v e)
 (hK:∀w',MapG Ok ky n w' b (e::l.filter fun x=>decide (ky x≠ky e))->Trn b w w'->wpListIn F nF Tryz.prog ops Q rest (a.put o.dst undef) w'):wpListIn F nF Tryz.prog ops Q (o::rest) a w:=by
 refine wpListIn_plain hg fun K' hK'=>?_;obtain⟨w',hr,h3,h4⟩:=h.upd ht hl hs hx ho hk;unfold Oper.wpIn;refine⟨by simp[Oper.about,hop],?_⟩;rw[Oper.semAt_plain F _ _ (by rw[hop];intro c hc';cases hc')];simp[execOp,hop,hm,hr,Result.andThen];exact hK' _ _ (hK w' h3 h4)
theorem step_upd {K:Act->World->Prop}{G:Prop}(hg:o.guard=none)(m x v:Operand)(t E:TypeId)(hop:o.op=Op.mapUpdate t m x v)(ht:Tryz.prog.underlying t=some (.map 156 E))(hm:a.eval m=.map (some b))
 (h:MapG Ok ky n w b l) (hl:l.length<maxLen) {e:ε} (hs:SOk n (ky e)) (hx:a.eval x=keyV (ky e)) {val:Value} (hv:a.eval v=val) (ho:Ok w val e) (hk:∀w' v e,Trn b w w'->Ok w v e->Ok w' v e)
 (hK:∀w',MapG Ok ky n w' b (e::l.filter fun x=>decide (ky x≠ky e))->Trn b w w'->K (a.put o.dst undef) w'):if Region.wanted o (yielded ops a.tmps)=true then Oper.wp Tryz.prog o a w K Q else G:=by
 have hw:Region.wanted o (yielded ops a.tmps)=true:=by simp[Region.wanted,hg]
 rw[if_pos hw];obtain⟨w',hr,h3,h4⟩:=h.upd ht hl hs hx ho hk;unfold Oper.wp;simp[execOp,hop,hm,hv,hr,Result.andThen];exact hK w' h3 h4
theorem MapG.drop {E t ty:TypeId}{key:Value}{w:World}(h:MapG Ok ky n w b l)(ht:Tryz.prog.underlying t=some (.map 156 E))(hs:SOk n s)(hx:key=keyV s)(hk:∀w' v e,Trn b w w'->Ok w v e->Ok w' v e):
 ∃w',(Builtin.delete_ #[t,156] ty #[.map (some b),key]).run Tryz.prog w=.ok (.tuple #[]) w'/\MapG Ok ky n w' b (l.filter fun x=>decide (ky x≠s))/\Trn b w w':=by
 subst hx;obtain⟨es,h1,h2⟩:=h;obtain⟨w',hr,h3,h4⟩:=h1.drop keyK ht (keyS hs) ty;exact⟨w',hr,⟨_,tight h3,(h2.del hs).pres fun v e=>hk _ _ _ (Trn.of h4)⟩,Trn.of h4⟩
theorem step_del {K:Act->World->Prop}{G:Prop}(hg:o.guard=none)(m x:Operand)(t E:TypeId)(hop:o.op=Op.call {callee:=Callee.builtin Builtin.delete,args:=#[m,x],argTypes:=#[t,156]})(ht:Tryz.prog.underlying t=some (.map 156 E))
 (hm:a.eval m=.map (some b)) (h:MapG Ok ky n w b l) (hs:SOk n s) (hx:a.eval x=keyV s) (hk:∀w' v e,Trn b w w'->Ok w v e->Ok w' v e)
 (hK:∀w',MapG Ok ky n w' b (l.filter fun x=>decide (ky x≠s))->Trn b w w'->K (a.put o.dst (.tuple #[])) w'):if Region.wanted o (yielded ops a.tmps)=true then Oper.wp Tryz.prog o a w K Q else G:=by
 have hw:Region.wanted o (yielded ops a.tmps)=true:=by simp[Region.wanted,hg]
 rw[if_pos hw];obtain⟨w',hr,h3,h4⟩:=h.drop (ty:=o.type) ht hs hx hk;unfold Oper.wp;simp[execOp,hop,resolve,invoke,builtin,hm,hr,Result.andThen];exact hK w' h3 h4
theorem wpList_len_g (hg:o.guard=none)(m:Operand)(t E:TypeId)(hop:o.op=Op.call {callee:=Callee.builtin Builtin.len,args:=#[m],argTypes:=#[t]})(ht:Tryz.prog.underlying t=some (.map 156 E))(hm:a.eval m=.map (some b))(h:MapG Ok ky n w b l)
 (hK:wpList Tryz.prog ops Q rest (a.put o.dst (.int .i64 l.length)) w):wpList Tryz.prog ops Q (o::rest) a w:=by
 obtain⟨es,h1,h2⟩:=h;refine wpList_len_own w hg m t hop _ _ ht RV b _ _ hm h1 ?_;rw[Maps.size_eq,h2.len];exact hK
theorem wpList_range_g (hg:o.guard=none)(m:Operand)(t E:TypeId)(hop:o.op=Op.range t m)(ht:Tryz.prog.underlying t=some (.map 156 E))(hm:a.eval m=.map (some b))(h:MapG Ok ky n w b l)(hk:∀w' v e,Bel w.heap.size w w'->Ok w v e->Ok w' v e)
 (hK:∀w',RangeG Ok ky n w' b w.heap.size l []->Bel w.heap.size w w'->w'.heap.size=w.heap.size+1->wpList Tryz.prog ops Q rest (a.put o.dst (.pointer (some ⟨w.heap.size,0,none⟩))) w'):wpList Tryz.prog ops Q (o::rest) a w:=by
 obtain⟨es,h1,h2⟩:=h;refine wpList_range_own w hg m t hop _ _ keyK ht RV b _ _ hm h1 fun w' r1 r2 r3=>?_;have hb:Bel w.heap.size w w':=⟨⟨r2.os,r2.tape,r2.output,r2.size,fun k hk=>r2.block k hk (by simp)⟩⟩
 refine hK w' ⟨es,_,_,r1,h2.pres fun v e=>hk _ _ _ hb,fun e he=>.inl ((h2.has (h2.ok e he)).2 ⟨e,he,rfl⟩),fun kl h=>h,fun e he=>by simp at he,by simp⟩ hb r3
theorem wpList_next_g (hg:o.guard=none)(it:Operand)(hop:o.op=Op.next it false){r:Nat}{acc:List ε}(hit:a.eval it=.pointer (some ⟨r,0,none⟩))(h:RangeG Ok ky n w b r l acc)(hk:∀w' v e,Bel r w w'->(∀T,Pres T w w')->Ok w v e->Ok w' v e)
 (hDone:acc.Perm l->wpList Tryz.prog ops Q rest (a.put o.dst (.tuple #[.bool false])) w)
 (hMore:∀(kv v:Value) (e:ε) (w':World),e∈l->Ok w' v e->RangeG Ok ky n w' b r l (acc++[e])->w.grownBy w' (some r)->w'.heap.size=w.heap.size->(∀T,Pres T w w')->(Instr.entry (.pointer (some ⟨r,0,none⟩))).run Tryz.prog w'=.ok (.tuple #[kv,v]) w'->
  wpList Tryz.prog ops Q rest (a.put o.dst (.tuple #[.bool true,kv,v])) w'):wpList Tryz.prog ops Q (o::rest) a w:=by
 have hall:=h.all;obtain⟨es,left,cnt,h1,h2,h3,h4,h5,h6⟩:=h
 have hri:∃m s q c,w.heap[r]?=some (.mapIter m s q c):=by
  obtain⟨E,clock,since,seen,c0,-,-,-,-,hr,-⟩:=h1;exact⟨_,_,_,_,hr⟩
 refine wpList_next_ranges (α:=Value) (β:=Value) w hg it hop _ keyK RV id id (fun key kl _=>⟨key,rfl⟩) (fun v y _=>⟨v,rfl⟩) b r _ _ left cnt hit h1 (fun _ hl=>?_) (fun x c kl y w' cnt' hx hlx hy hat hrg _ hgr hsz hen=>?_)
 .exact hDone (hall fun e he=>(h3 e he).resolve_left (by rw[hl];simp))
 .have hhas:=h4 kl hlx;rw[Maps.has_eq,List.any_eq_true]at hhas;obtain⟨p,hp,hpk⟩:=hhas;obtain⟨e0,he0,e1,-⟩:=h2.ent p hp;have ek:litS (ky e0)=kl:=by rw[<-e1];exact WideAt.sameKey_eq hpk
  subst ek;have hs0:=h2.ok e0 he0;obtain⟨e,he,ee,v,hv,ho⟩:=h2.at hs0 (h4 _ hlx);have hkl:litS (ky e)=litS (ky e0):=by rw[ee]
  unfold RV at hy
  cases hy
  have hc:v=c:=by
   have:=hv (.held undef);rw[hat]at this
   cases this
   rfl
  subst hc
  have hpT:∀T,Pres T w w':=fun T k cur fr hkk=>by
   refine(hgr.block k (Array.getElem?_eq_some_iff.1 hkk).1 (fun e=>?_)).trans hkk
   cases e
   obtain⟨_,_,_,_,hr⟩:=hri;rw[hr]at hkk;cases hkk
  have hbel:Bel r w w':=⟨⟨hgr.os,hgr.tape,hgr.output,hgr.size,fun k hkr=>hgr.block k (by have:=(Array.getElem?_eq_some_iff.1 hri.choose_spec.choose_spec.choose_spec.choose_spec).1;omega) (fun e=>by cases e;omega)⟩⟩
  have hK2:∀v e,Ok w v e->Ok w' v e:=fun v e=>hk w' v e hbel hpT
  have hna:e ∉ acc:=fun ha=>by
   have:=(h5 e ha).2;rw[hkl,hlx]at this;cases this
  refine hMore x v e w' he (hK2 _ _ ho) ⟨es,_,cnt',hrg,h2.pres hK2,fun x hx=>?_,fun kl h=>h4 kl (by simp at h;exact h.1),fun x hx=>?_,?_⟩ hgr hsz hpT hen
  .rcases h3 x hx with h|h
   .by_cases c:litS (ky x)=litS (ky e0)
    .have:x=e:=by
      have hnd:(l.map ky).Nodup:=MapG.nodup (b:=b) ⟨es,h1.owns,h2⟩;have ex:=litS_inj (h2.ok x hx) hs0 c;exact ky_inj hnd hx he (ex.trans ee.symm)
     subst this;exact .inr (by simp)
    .left;rw[h]
     have:(litS (ky x)).sameKey (litS (ky e0))=false:=by
      cases hh:(litS (ky x)).sameKey (litS (ky e0))
      .rfl
      .exact absurd (WideAt.sameKey_eq hh) c
     simp[this]
   .exact .inr (by simp[h])
  .rcases List.mem_append.1 hx with h|h
   .obtain⟨a1,a2⟩:=h5 x h;exact⟨a1,by simp[a2]⟩
   .rw[List.mem_singleton]at h;subst h;exact⟨he,by rw[hkl];simp[WideAt.sameKey_self (isKey hs0)]⟩
  .rw[List.map_append];refine List.nodup_append.2 ⟨h6,by simp,fun a1 ha1 b1 hb1=>?_⟩;obtain⟨x,hx,rfl⟩:=List.mem_map.1 ha1;simp at hb1;subst hb1;intro e2;have:=(h5 x hx).2;rw[show ky x=ky e from e2,hkl,hlx]at this
   cases this
theorem upon_mk {t:TypeId}{next:Act->World->Prop}{f:Value->World->Result Next}(hf:∀v w',f v w'=.ok (.value v) w')(h:∀w',MapG Ok ky n w' w.heap.size []->Bel w.heap.size w w'->w.heap.size<w'.heap.size->next (a.put o.dst (.map (some w.heap.size))) w'):
 Oper.upon Tryz.prog o a next Q (((Instr.makeMap t none).run Tryz.prog w).andThen f):=by
 rw[run_makeMap];rw[Result.andThen_ok,hf];unfold Oper.upon;exact h _ (MapG.made w) Bel.new (by simp)
theorem upon_upd {t E:TypeId}{key val:Value}{e:ε}{next:Act->World->Prop}{f:Unit->World->Result Next}(hf:∀v w',f v w'=.ok .skip w')(hm:MapG Ok ky n w b l)(ht:Tryz.prog.underlying t=some (.map 156 E))(hl:l.length<maxLen)(hs:SOk n (ky e))(hx:key=keyV (ky e))(ho:Ok w val e)
 (hk:∀w' v e,Trn b w w'->Ok w v e->Ok w' v e) (h:∀w',MapG Ok ky n w' b (e::l.filter fun x=>decide (ky x≠ky e))->Trn b w w'->next (a.put o.dst undef) w'):
 Oper.upon Tryz.prog o a next Q (((Instr.mapUpdate t (.map (some b)) key val).run Tryz.prog w).andThen f):=by
 have hu:=hm.upd (w:=w) ht hl hs hx ho hk;generalize((Instr.mapUpdate t (.map (some b)) key val).run Tryz.prog w)=r at hu|-;obtain⟨w',hr,h3,h4⟩:=hu;subst hr;rw[Result.andThen_ok,hf];unfold Oper.upon;exact h _ h3 h4
end
end
theorem cmpZ_lt {x y:Int}:cmpZ x y<0 ↔ x<y:=by unfold cmpZ;split<;>(try split)<;>omega
theorem cmpZ_gt {x y:Int}:0<cmpZ x y ↔ y<x:=by unfold cmpZ;split<;>(try split)<;>omega
theorem cmpZ_eq {x y:Int}:cmpZ x y=0 ↔ x=y:=by unfold cmpZ;split<;>(try split)<;>omega
theorem cmpR_lt {a b:Rat}:cmpR a b<0 ↔ a<b:=by unfold cmpR;rw[cmpZ_lt,Rat.lt_iff]
theorem cmpR_gt {a b:Rat}:0<cmpR a b ↔ b<a:=by unfold cmpR;rw[cmpZ_gt,Rat.lt_iff]
theorem cmpR_eq {a b:Rat}:cmpR a b=0 ↔ a=b:=by
 constructor
 .intro h;have h1:¬a<b:=fun e=>by have:=cmpR_lt.2 e;omega
  have h2:¬b<a:=fun e=>by have:=cmpR_gt.2 e;omega
  grind
 .rintro rfl;unfold cmpR;exact cmpZ_eq.2 rfl
theorem num_neg {q:Rat}:q.num<0 ↔ q<0:=by rw[Rat.lt_iff];simp
theorem ratSign_neg {q:Rat}:ratSign q<0 ↔ q<0:=by
 rw[<-num_neg];unfold ratSign intSign;split<;>(try split)<;>omega
theorem ratSign_pos {q:Rat}:0<ratSign q ↔ 0<q:=by
 have h:0<q ↔ 0<q.num:=by rw[Rat.lt_iff];simp
 rw[h];unfold ratSign intSign;split<;>(try split)<;>omega
theorem ratAbs_nonneg (q:Rat):0<=ratAbs q:=by
 unfold ratAbs;split
 .rename_i h;have:=num_neg.1 h;grind
 .rename_i h
  have:¬q<0:=fun e=>h (num_neg.2 e)
  grind
theorem rise_nonneg (q:Rat):0<=rise q:=by
 unfold rise gtB;split
 .grind
 .rename_i h
  simp only[decide_eq_true_eq,cmpR_gt]at h
  grind
structure WorldF (p:ProbD):Prop where
 phase:0<p.walker.perPhase
 long:0<=p.walker.perLength
 rise:0<=p.walker.perRise
 cost:∀i,i<p.map.length->0<=(p.map.getD i hold0).c
theorem worldF {p:ProbD}(h:worldB p=true):WorldF p:=by
 unfold worldB at h;simp only[Bool.and_eq_true,decide_eq_true_eq]at h;obtain⟨⟨h1,h2⟩,-⟩:=h;unfold ckWalker at h2;split at h2
 .omega
 rename_i hw
 simp only[not_or,Bool.not_eq_true]at hw;obtain⟨-,-,hpp,hneg⟩:=hw
 have hN:∀i,i<7->0<=wkQ p.walker i:=fun i hi=>by
  unfold anyNeg at hneg;rw[List.any_eq_false]at hneg;have:=hneg i (List.mem_range.2 hi);unfold negQ at this;simp only[decide_eq_true_eq,ratSign_neg]at this
  grind
 refine⟨ratSign_pos.1 (by omega),hN 5 (by omega),hN 6 (by omega),fun i hi=>?_⟩;unfold ckMap at h1;split at h1
 .omega
 unfold mapRes at h1;split at h1
 .rename_i ha
  rw[List.all_eq_true]at ha;have:=ha i (List.mem_range.2 hi);unfold holdOk at this;simp only[Bool.and_eq_true,Bool.not_eq_true',decide_eq_false_iff_not,ratSign_neg]at this;have:=this.1.2
  grind
 .omega
theorem costQ_pos {p:ProbD}{s:StateD}{i:Nat}(h:worldB p=true)(hi:i<p.map.length):0<costQ p s i:=by
 have hw:=worldF h;have h1:=Rat.mul_nonneg hw.long (ratAbs_nonneg (dX p s i));have h2:=Rat.mul_nonneg hw.rise (rise_nonneg (dZ p s i));have h3:=hw.cost i hi;have h4:=hw.phase
 show 0<0+p.walker.perPhase+p.walker.perLength*ratAbs (dX p s i)+p.walker.perRise*rise (dZ p s i)+(p.map.getD i hold0).c
 grind
theorem mem_movesK {p:ProbD}{s:StateD}{x:MoveD}:∀{n:Nat},x∈movesK p s n->∃i,i<n/\x=⟨toS p s i,costQ p s i⟩/\farB p s i=false/\standsB p (toS p s i)=true
 |0,h=>by simp[movesK]at h
 |n+1,h=>by
  unfold movesK at h;split at h
  .rename_i hc
   simp only[Bool.and_eq_true,Bool.not_eq_true']at hc;rcases List.mem_append.1 h with h|h
   .obtain⟨i,hi,r⟩:=mem_movesK h;exact⟨i,by omega,r⟩
   .rw[List.mem_singleton]at h;exact⟨n,by omega,h,hc.1,hc.2⟩
  .obtain⟨i,hi,r⟩:=mem_movesK h;exact⟨i,by omega,r⟩
theorem nextP_in {p:ProbD}{s:StateD}(h:Fine p s):0<=nextP p s/\nextP p s<(p.word.length:Int):=by
 have:=h.len;unfold nextP;have:=Nat.mod_lt (s.phase.toNat+1) (show 0<p.word.length by omega);omega
theorem holdsB_set {p:ProbD}{l:List Int}{k i:Nat}(h:holdsB p l=true)(hi:i<p.map.length):holdsB p (l.set k i)=true:=by
 unfold holdsB at h|-;simp only[Bool.and_eq_true,decide_eq_true_eq,Bool.not_eq_true',List.length_set,List.any_eq_false]at h|-;refine⟨h.1,fun x hx=>?_⟩;rcases List.mem_or_eq_of_mem_set hx with hx|rfl
 .exact h.2 x hx
 .unfold outB;simp;omega
theorem movesL_ok {p:ProbD}{s:StateD}{x:MoveD}(h:Fine p s)(hx:x∈movesL p s):Fine p x.dst/\standsB p x.dst=true/\0<x.cost:=by
 have hn:=nextP_in h;unfold movesL at hx;split at hx
 .split at hx
  .rename_i hs
   rw[List.mem_singleton]at hx;subst hx;exact⟨⟨h.world,hn.1,hn.2,h.holds⟩,hs,(worldF h.world).phase⟩
  .simp at hx
 .obtain⟨i,hi,rfl,-,hs⟩:=mem_movesK hx;exact⟨⟨h.world,hn.1,hn.2,holdsB_set h.holds hi⟩,hs,costQ_pos h.world hi⟩
theorem QF.cost {p:ProbD}{s:StateD}{x:MoveD}{L:Nat}(_h:Fine p s)(hF:ProbF L p)(h1:1<=L)(hx:x∈movesL p s):QF (20*L+20) x.cost:=by
 have hW:=hF.walker;unfold movesL at hx;split at hx
 .split at hx
  .rw[List.mem_singleton]at hx;subst hx;exact hW.perPhase.mono (by omega)
  .simp at hx
 .obtain⟨i,hi,rfl,-,hs⟩:=mem_movesK hx
  have hfr:HoldF L (fromH p s):=by
   unfold fromH holdN
   by_cases hk:(s.holds.getD (legOf p s-1).toNat 0).toNat<p.map.length
   .exact hF.map _ hk
   .rw[getD_out (by omega)];exact⟨QF.zero _ h1,QF.zero _ h1,QF.zero _ h1,QF.zero _ h1⟩
  have hx1:QF (2*L+1) (dX p s i):=((hF.map i hi).x.sub hfr.x).mono (by omega);have hz1:QF (2*L+1) (dZ p s i):=((hF.map i hi).z.sub hfr.z).mono (by omega);have:=QF.sum (q:=fun j=>(costL p s i).getD j 0) (L:=3*L+2) (n:=4) (QF.four (hW.perPhase.mono (by omega)) ((hW.perLength.mul hx1.abs).mono (by omega)) ((hW.perRise.mul (hz1.rise (by omega))).mono (by omega)) ((hF.map i hi).c.mono (by omega))) 4 NL
  exact this.mono (by omega)
inductive Reach (p:ProbD):StateD->Rat->Prop
 |start:Reach p ⟨0,p.start⟩ 0
 |step {s:StateD} {c:Rat} {x:MoveD}:Reach p s c->x∈movesL p s->Reach p x.dst (c+x.cost)
theorem start_fine {p:ProbD}(h:probB p=true):Fine p ⟨0,p.start⟩:=by
 have hw:=probB_world h;unfold probB at h;simp only[Bool.and_eq_true]at h;exact fine_of hw h.2.1
theorem start_stands {p:ProbD}(h:probB p=true):standsB p ⟨0,p.start⟩=true:=by
 unfold probB possibleB at h;simp only[Bool.and_eq_true]at h;exact h.2.1.2.2.2
theorem Reach.fine {p:ProbD}(h:probB p=true){s:StateD}{c:Rat}(hr:Reach p s c):Fine p s/\standsB p s=true/\0<=c:=by
 induction hr with
 |start=>exact⟨start_fine h,start_stands h,by grind⟩
 |step hr hx ih=>
  obtain⟨h1,h2,h3⟩:=movesL_ok ih.1 hx;exact⟨h1,h2,by have:=ih.2.2;grind⟩
structure IsMarks (p:ProbD) (l:List MoveD):Prop where
 nodup:(l.map (·.dst)).Nodup
 reach:∀m∈l,Reach p m.dst m.cost
 start:∃m∈l,m.dst=⟨0,p.start⟩/\m.cost<=0
 closed:∀m∈l,∀x∈movesL p m.dst,∃m'∈l,m'.dst=x.dst/\m'.cost<=m.cost+x.cost
theorem IsMarks.least {p:ProbD}{l:List MoveD}(h:IsMarks p l){s:StateD}{c:Rat}(hr:Reach p s c):∃m∈l,m.dst=s/\m.cost<=c:=by
 induction hr with
 |start=>exact h.start
 |step hr hx ih=>
  obtain⟨m,hm,rfl,hc⟩:=ih;obtain⟨m',hm',e,hc'⟩:=h.closed m hm _ hx;exact⟨m',hm',e,by grind⟩
theorem dst_inj {l:List MoveD}(h:(l.map (·.dst)).Nodup){a b:MoveD}(ha:a∈l)(hb:b∈l)(e:a.dst=b.dst):a=b:=by
 induction l with
 |nil=>cases ha
 |cons y r ih=>
  simp only[List.map_cons,List.nodup_cons,List.mem_map,not_exists,not_and]at h;rcases List.mem_cons.1 ha with rfl|ha'
  .rcases List.mem_cons.1 hb with rfl|hb'
   .rfl
   .exact absurd e.symm (h.1 b hb')
  .rcases List.mem_cons.1 hb with rfl|hb'
   .exact absurd e (h.1 a ha')
   .exact ih h.2 ha' hb'
theorem IsMarks.mem {p:ProbD}{l r:List MoveD}(h:IsMarks p l)(k:IsMarks p r){m:MoveD}(hm:m∈l):m∈r:=by
 obtain⟨m1,h1,e1,c1⟩:=k.least (h.reach m hm);obtain⟨m2,h2,e2,c2⟩:=h.least (k.reach m1 h1);obtain rfl:=dst_inj h.nodup hm h2 (by rw[e2,e1])
 have:m1=m:=by
  cases m1;cases m;simp only[MoveD.mk.injEq]at *
  exact⟨e1,by grind⟩
 exact this▸h1
theorem IsMarks.perm {p:ProbD}{l r:List MoveD}(h:IsMarks p l)(k:IsMarks p r):l.Perm r:=by
 have nd:∀{l:List MoveD},(l.map (·.dst)).Nodup->l.Nodup:=fun {l} h=>by
  unfold List.Nodup at h|-;rw[List.pairwise_map]at h;exact h.imp (fun h e=>h (by rw[e]))
 exact(List.perm_ext_iff_of_nodup (nd h.nodup) (nd k.nodup)).2 fun m=>⟨h.mem k,k.mem h⟩
theorem IsMarks.of_perm {p:ProbD}{l r:List MoveD}(h:IsMarks p l)(hp:l.Perm r):IsMarks p r:=by
 refine⟨(hp.map _).nodup_iff.1 h.nodup,fun m hm=>h.reach m (hp.mem_iff.2 hm),?_,fun m hm x hx=>?_⟩
 .obtain⟨m,hm,r⟩:=h.start;exact⟨m,hp.mem_iff.1 hm,r⟩
 .obtain⟨m',hm',r⟩:=h.closed m (hp.mem_iff.2 hm) x hx;exact⟨m',hp.mem_iff.1 hm',r⟩
def delL (s:StateD)(l:List MoveD):List MoveD:=l.filter fun x=>decide (x.dst≠s)
def putL (m:MoveD)(l:List MoveD):List MoveD:=m::delL m.dst l
def hasL (s:StateD)(l:List MoveD):Bool:=l.any fun x=>decide (x.dst=s)
def NdL (l:List MoveD):Prop:=(l.map (·.dst)).Nodup
theorem hasL_iff {s:StateD}{l:List MoveD}:hasL s l=true ↔ ∃m∈l,m.dst=s:=by simp[hasL]
theorem mem_delL {s:StateD}{l:List MoveD}{m:MoveD}:m∈delL s l ↔ m∈l/\m.dst≠s:=by simp[delL]
theorem delL_not {s:StateD}{l:List MoveD}(h:∀m∈l,m.dst≠s):delL s l=l:=List.filter_eq_self.2 fun m hm=>by simpa using h m hm
theorem delL_len (s:StateD)(l:List MoveD):(delL s l).length<=l.length:=List.length_filter_le _ _
theorem perm_del {l:List MoveD}(h:NdL l){m:MoveD}(hm:m∈l):l.Perm (m::delL m.dst l):=by
 induction l with
 |nil=>cases hm
 |cons y r ih=>
  have h1:(∀x∈r,x.dst≠y.dst)/\NdL r:=by unfold NdL at h|-;simpa using h
  rcases List.mem_cons.1 hm with rfl|hm
  .have e:delL m.dst (m::r)=r:=by
    show List.filter _ (m::r)=r
    rw[List.filter_cons_of_neg (by simp)];exact delL_not h1.1
   rw[e]
  .have hne:y.dst≠m.dst:=fun e=>h1.1 m hm e.symm
   have e:delL m.dst (y::r)=y::delL m.dst r:=by
    show List.filter _ (y::r)=_
    rw[List.filter_cons_of_pos (by simpa using hne)];rfl
   rw[e];exact((ih h1.2 hm).cons y).trans (List.Perm.swap _ _ _)
theorem NdL.perm {l r:List MoveD}(h:NdL l)(hp:l.Perm r):NdL r:=(hp.map _).nodup_iff.1 h
theorem NdL.right {l r:List MoveD}(h:NdL (l++r)):NdL r:=by unfold NdL at h|-;rw[List.map_append]at h;exact(List.nodup_append.1 h).2.1
theorem NdL.left {l r:List MoveD}(h:NdL (l++r)):NdL l:=by unfold NdL at h|-;rw[List.map_append]at h;exact(List.nodup_append.1 h).1
theorem NdL.apart {l r:List MoveD}(h:NdL (l++r)){a b:MoveD}(ha:a∈l)(hb:b∈r):b.dst≠a.dst:=by
 unfold NdL at h;rw[List.map_append]at h;exact fun e=>(List.nodup_append.1 h).2.2 a.dst (List.mem_map.2 ⟨a,ha,rfl⟩) b.dst (List.mem_map.2 ⟨b,hb,rfl⟩) e.symm
structure Mid (p:ProbD) (K:Nat) (D O:List MoveD) (least:Rat) (cur:StateD) (rest:List MoveD):Prop where
 nodup:NdL (D++O)
 reach:∀m∈D++O,Reach p m.dst m.cost
 size:∀m∈D++O,QF (K*(D.length+1)) m.cost
 start:∃m∈D++O,m.dst=⟨0,p.start⟩/\m.cost<=0
 lo:∀m∈D,m.cost<=least
 hi:∀m∈O,least<=m.cost
 closed:∀m∈D,∀x∈movesL p m.dst,(∃m'∈D++O,m'.dst=x.dst/\m'.cost<=m.cost+x.cost)\/(m.dst=cur/\x∈rest)
theorem Mid.begin (p:ProbD){K:Nat}(hK:1<=K):Mid p K [] [⟨⟨0,p.start⟩,0⟩] 0 ⟨0,[]⟩ []:=by
 refine⟨by simp[NdL],fun m hm=>?_,fun m hm=>?_,⟨_,List.mem_singleton.2 rfl,rfl,by grind⟩,fun m hm=>by simp at hm,fun m hm=>?_,fun m hm=>by simp at hm⟩
 .simp at hm;subst hm;exact .start
 .simp at hm;subst hm;exact QF.zero _ (by simpa using hK)
 .simp at hm;subst hm;grind
theorem Mid.marks {p:ProbD}{K:Nat}{D:List MoveD}{least:Rat}{cur:StateD}(h:Mid p K D [] least cur []):IsMarks p D:=by
 obtain⟨h1,h2,-,h3,-,-,h4⟩:=h;rw[List.append_nil]at h1 h2 h3 h4;exact⟨h1,h2,h3,fun m hm x hx=>(h4 m hm x hx).resolve_right (by simp)⟩
theorem Mid.least {p:ProbD}{K:Nat}{D O:List MoveD}{a b:Rat}{cur cur':StateD}(h:Mid p K D O a cur [])(h1:a<=b)(h2:∀m∈O,b<=m.cost):Mid p K D O b cur' []:=
 ⟨h.nodup,h.reach,h.size,h.start,fun m hm=>Rat.le_trans (h.lo m hm) h1,h2,fun m hm x hx=>.inl ((h.closed m hm x hx).resolve_right (by simp))⟩
theorem Mid.pop {p:ProbD}{K:Nat}{D O:List MoveD}{least:Rat}{cur:StateD}(h:Mid p K D O least cur []){m:MoveD}(hm:m∈O)(hc:m.cost=least):
 putL m D=m::D/\Mid p K (m::D) (delL m.dst O) least m.dst (movesL p m.dst)/\QF (K*(m::D).length) m.cost:=by
 have e:putL m D=m::D:=by unfold putL;rw[delL_not fun x hx e=>h.nodup.apart hx hm e.symm]
 have hp:(D++O).Perm (m::D++delL m.dst O):=((List.Perm.append_left D (perm_del h.nodup.right hm))).trans List.perm_middle;have hS:∀x∈D++O,QF (K*((m::D).length)) x.cost:=fun x hx=>by simpa using h.size x hx
 refine⟨e,⟨h.nodup.perm hp,fun x hx=>h.reach x (hp.mem_iff.2 hx),fun x hx=>(hS x (hp.mem_iff.2 hx)).mono (Nat.mul_le_mul_left _ (by omega)),?_,fun x hx=>?_,fun x hx=>h.hi x (mem_delL.1 hx).1,fun x hx y hy=>?_⟩,hS m (by simp[hm])⟩
 .obtain⟨x,hx,r⟩:=h.start;exact⟨x,hp.mem_iff.1 hx,r⟩
 .rcases List.mem_cons.1 hx with rfl|hx
  .rw[hc];exact Rat.le_refl
  .exact h.lo x hx
 .rcases List.mem_cons.1 hx with rfl|hx
  .exact .inr ⟨rfl,hy⟩
  .obtain⟨m',hm',r⟩:=(h.closed x hx y hy).resolve_right (by simp);exact .inl ⟨m',hp.mem_iff.1 hm',r⟩
theorem Mid.have {p:ProbD}{K:Nat}{D O:List MoveD}{least:Rat}{cur:StateD}{x:MoveD}{rest:List MoveD}(h:Mid p K D O least cur (x::rest)){m m':MoveD}(hm:m∈D)(e:m.dst=cur)(hm':m'∈D++O)(e':m'.dst=x.dst)(hc:m'.cost<=m.cost+x.cost):
 Mid p K D O least cur rest:=by
 refine⟨h.nodup,h.reach,h.size,h.start,h.lo,h.hi,fun y hy z hz=>?_⟩;rcases h.closed y hy z hz with h1|⟨h1,h2⟩
 .exact .inl h1
 .rcases List.mem_cons.1 h2 with rfl|h2
  .obtain rfl:=dst_inj h.nodup.left hm hy (by rw[e,h1]);exact .inl ⟨m',hm',e',hc⟩
  .exact .inr ⟨h1,h2⟩
theorem Mid.seen {p:ProbD}{K:Nat}{D O:List MoveD}{least:Rat}{cur:StateD}{x:MoveD}{rest:List MoveD}(h:Mid p K D O least cur (x::rest)){m:MoveD}(hm:m∈D)(e:m.dst=cur)(hc:m.cost=least)(hx:0<x.cost)(hh:hasL x.dst D=true):
 Mid p K D O least cur rest:=by
 obtain⟨m',hm',e'⟩:=hasL_iff.1 hh;refine h.have hm e (List.mem_append_left _ hm') e' ?_;have:=h.lo m' hm'
 grind
theorem Mid.keep {p:ProbD}{K:Nat}{D O:List MoveD}{least:Rat}{cur:StateD}{x:MoveD}{rest:List MoveD}(h:Mid p K D O least cur (x::rest)){m o:MoveD}(hm:m∈D)(e:m.dst=cur)(ho:o∈O)(e':o.dst=x.dst)(hc:o.cost<=m.cost+x.cost):
 Mid p K D O least cur rest:=h.have hm e (List.mem_append_right _ ho) e' hc
theorem Mid.put {p:ProbD}{K:Nat}{D O:List MoveD}{least:Rat}{cur:StateD}{x:MoveD}{rest:List MoveD}(h:Mid p K D O least cur (x::rest)){m:MoveD}(hm:m∈D)(e:m.dst=cur)(hc:m.cost=least)(hx:0<x.cost)(hxm:x∈movesL p m.dst)
 (hq:QF (K*(D.length+1)) (m.cost+x.cost)) (hD:hasL x.dst D=false) (hO:∀o∈O,o.dst=x.dst->m.cost+x.cost<o.cost):
 Mid p K D (putL ⟨x.dst,m.cost+x.cost⟩ O) least cur rest/\∀o∈O,o.cost=least->o∈putL ⟨x.dst,m.cost+x.cost⟩ O:=by
 have hDn:∀y∈D,y.dst≠x.dst:=fun y hy e=>by have:hasL x.dst D=true:=hasL_iff.2 ⟨y,hy,e⟩;rw[hD]at this;cases this
 have hmem:∀{y:MoveD},y∈putL ⟨x.dst,m.cost+x.cost⟩ O->y=⟨x.dst,m.cost+x.cost⟩\/(y∈O/\y.dst≠x.dst):=fun {y} hy=>by
  rcases List.mem_cons.1 hy with h|h
  .exact .inl h
  .exact .inr (mem_delL.1 h)
 have hnew:(⟨x.dst,m.cost+x.cost⟩:MoveD)∈putL ⟨x.dst,m.cost+x.cost⟩ O:=List.mem_cons_self;have hold:∀{y:MoveD},y∈O->y.dst≠x.dst->y∈putL ⟨x.dst,m.cost+x.cost⟩ O:=fun {y} hy hn=>List.mem_cons_of_mem _ (mem_delL.2 ⟨hy,hn⟩)
 have hup:∀y∈D++O,∃y'∈D++putL ⟨x.dst,m.cost+x.cost⟩ O,y'.dst=y.dst/\y'.cost<=y.cost:=fun y hy=>by
  rcases List.mem_append.1 hy with hy|hy
  .exact⟨y,List.mem_append_left _ hy,rfl,Rat.le_refl⟩
  .by_cases hn:y.dst=x.dst
   .exact⟨_,List.mem_append_right _ hnew,hn.symm,Rat.le_of_lt (hO y hy hn)⟩
   .exact⟨y,List.mem_append_right _ (hold hy hn),rfl,Rat.le_refl⟩
 refine⟨⟨?_,fun y hy=>?_,fun y hy=>?_,?_,h.lo,fun y hy=>?_,fun y hy z hz=>?_⟩,fun o ho hoc=>?_⟩
 .have h1:=h.nodup;unfold NdL at h1|-;rw[List.map_append,List.nodup_append]at h1|-;obtain⟨n1,n2,n3⟩:=h1;refine⟨n1,?_,fun a ha b hb=>?_⟩
  .show(x.dst::(delL x.dst O).map (·.dst)).Nodup
   refine List.nodup_cons.2 ⟨fun hc=>?_,?_⟩
   .obtain⟨y,hy,e⟩:=List.mem_map.1 hc;exact(mem_delL.1 hy).2 e
   .exact(List.Sublist.map _ List.filter_sublist).nodup n2
  .obtain⟨y,hy,rfl⟩:=List.mem_map.1 ha;obtain⟨z,hz,rfl⟩:=List.mem_map.1 hb;rcases hmem hz with rfl|⟨hz,-⟩
   .exact hDn y hy
   .exact n3 _ ha _ (List.mem_map.2 ⟨z,hz,rfl⟩)
 .rcases List.mem_append.1 hy with hy|hy
  .exact h.reach y (List.mem_append_left _ hy)
  .rcases hmem hy with rfl|⟨hy,-⟩
   .exact .step (h.reach m (List.mem_append_left _ hm)) hxm
   .exact h.reach y (List.mem_append_right _ hy)
 .rcases List.mem_append.1 hy with hy|hy
  .exact h.size y (List.mem_append_left _ hy)
  .rcases hmem hy with rfl|⟨hy,-⟩
   .exact hq
   .exact h.size y (List.mem_append_right _ hy)
 .obtain⟨y,hy,e1,c1⟩:=h.start;obtain⟨y',hy',e2,c2⟩:=hup y hy;exact⟨y',hy',by rw[e2,e1],Rat.le_trans c2 c1⟩
 .rcases hmem hy with rfl|⟨hy,-⟩
  .show least<=m.cost+x.cost;grind
  .exact h.hi y hy
 .rcases h.closed y hy z hz with⟨m',hm',e1,c1⟩|⟨h1,h2⟩
  .obtain⟨y',hy',e2,c2⟩:=hup m' hm';exact .inl ⟨y',hy',by rw[e2,e1],Rat.le_trans c2 c1⟩
  .rcases List.mem_cons.1 h2 with rfl|h2
   .obtain rfl:=dst_inj h.nodup.left hm hy (by rw[e,h1]);exact .inl ⟨_,List.mem_append_right _ hnew,rfl,Rat.le_refl⟩
   .exact .inr ⟨h1,h2⟩
 .refine hold ho fun e=>?_;have:=hO o ho e
  grind
structure Batch (p:ProbD) (K:Nat) (D O:List MoveD) (least:Rat) (cur:StateD) (rest l:List MoveD) (n i:Nat):Prop extends Mid p K D O least cur rest where
 still:∀j,i<=j->j<l.length->(l.getD j move0).cost=least->l.getD j move0∈O
 few:D.length<=n+i
 more:n<=D.length/\((∃j,j<i/\(l.getD j move0).cost=least)->n<D.length)
theorem Batch.next {p:ProbD}{K:Nat}{D O:List MoveD}{least:Rat}{cur:StateD}{l:List MoveD}{n i:Nat}(h:Batch p K D O least cur [] l n i)(hne:(l.getD i move0).cost≠least):Batch p K D O least cur [] l n (i+1):=
 ⟨h.toMid,fun j hj=>h.still j (by omega),by have:=h.few;omega,h.more.1,fun⟨j,hj,e⟩=>h.more.2 ⟨j,by
  by_cases hji:j=i
  .subst hji;exact absurd e hne
  .omega,e⟩⟩
theorem getD_dst {l:List MoveD}(h:NdL l){i j:Nat}(hi:i<l.length)(hj:j<l.length)(e:(l.getD i move0).dst=(l.getD j move0).dst):i=j:=by
 have h1:∀{i},i<l.length->(l.map (·.dst))[i]?=some (l.getD i move0).dst:=fun {i} hi=>by
  rw[List.getElem?_map,List.getD_eq_getElem?_getD,List.getElem?_eq_getElem hi];rfl
 exact(List.getElem?_inj (by simpa using hi) h).1 (by rw[h1 hi,h1 hj,e])
theorem Batch.pop {p:ProbD}{K:Nat}{D O:List MoveD}{least:Rat}{cur:StateD}{l:List MoveD}{n i:Nat}(h:Batch p K D O least cur [] l n i)(hl:NdL l)(hi:i<l.length)(hc:(l.getD i move0).cost=least):
 putL (l.getD i move0) D=l.getD i move0::D/\Batch p K (l.getD i move0::D) (delL (l.getD i move0).dst O) least (l.getD i move0).dst (movesL p (l.getD i move0).dst) l n (i+1)/\QF (K*(D.length+1)) (l.getD i move0).cost:=by
 obtain⟨h1,h2,h3⟩:=h.toMid.pop (h.still i NL hi hc) hc;exact⟨h1,⟨h2,fun j hj hjl hjc=>mem_delL.2 ⟨h.still j (by omega) hjl hjc,fun e=>by have:=getD_dst hl hjl hi e;omega⟩,by have:=h.few;simp;omega,by have:=h.more.1;simp;omega,fun _=>by have:=h.more.1;simp;omega⟩,h3⟩
theorem Batch.of {p:ProbD}{K:Nat}{D O O':List MoveD}{least:Rat}{cur:StateD}{rest rest' l:List MoveD}{n i:Nat}(h:Batch p K D O least cur rest l n i)(hm:Mid p K D O' least cur rest')(hs:∀o∈O,o.cost=least->o∈O'):Batch p K D O' least cur rest' l n i:=
 ⟨hm,fun j h1 h2 h3=>hs _ (h.still j h1 h2 h3) h3,h.few,h.more⟩
theorem cmpZ_anti (x y:Int):cmpZ y x=-cmpZ x y:=by unfold cmpZ;split<;>split<;>(try split)<;>(try split)<;>omega
theorem cmpL_anti:∀a b:List Int,cmpL b a=-cmpL a b
 |[],[]=>rfl
 |[],_::_=>rfl
 |_::_,[]=>rfl
 |x::l,y::r=>by
  unfold cmpL;have h1:=cmpZ_anti x y;have h2:=cmpL_anti l r
  by_cases h:cmpZ x y=0
  .rw[if_neg (by omega),if_neg (by omega)];exact h2
  .rw[if_pos (by omega),if_pos (by omega)];exact h1
theorem cmpL_eq:∀{a b:List Int},cmpL a b=0 ↔ a=b
 |[],[]=>by simp[cmpL]
 |[],_::_=>by simp[cmpL]
 |_::_,[]=>by simp[cmpL]
 |x::l,y::r=>by
  unfold cmpL
  by_cases h:cmpZ x y=0
  .rw[if_neg (by omega),cmpL_eq,cmpZ_eq.1 h];simp
  .rw[if_pos (by omega)];constructor
   .intro e;exact absurd e h
   .intro e;simp at e;exact absurd (cmpZ_eq.2 e.1) h
theorem cmpL_trans:∀{a b c:List Int},cmpL a b<0->cmpL b c<0->cmpL a c<0
 |[],[],_,h,_=>by simp[cmpL]at h
 |_::_,[],_,h,_=>by simp[cmpL]at h
 |_,_::_,[],_,h=>by simp[cmpL]at h
 |[],_::_,_::_,_,_=>by simp[cmpL]
 |x::l,y::r,z::k,h1,h2=>by
  unfold cmpL at h1 h2|-;have a1:=@cmpZ_lt x y;have a2:=@cmpZ_lt y z;have a3:=@cmpZ_lt x z;have b1:=@cmpZ_eq x y;have b2:=@cmpZ_eq y z;have b3:=@cmpZ_eq x z;split at h1
  .split at h2
   .rw[if_pos (by omega)];omega
   .rw[if_pos (by omega)];omega
  .split at h2
   .rw[if_pos (by omega)];omega
   .rw[if_neg (by omega)];exact cmpL_trans h1 h2
theorem befS_eq {a b:StateD}:befS a b=0 ↔ a=b:=by
 unfold befS or2;have:=@cmpZ_eq a.phase b.phase;have h2:=@cmpL_eq a.holds b.holds
 cases a;cases b
 simp only[StateD.mk.injEq]at *;split
 .constructor
  .intro e;omega
  .intro e;omega
 .rw[h2];constructor
  .intro e;exact⟨by omega,e⟩
  .exact fun e=>e.2
theorem befS_anti (a b:StateD):befS b a=-befS a b:=by
 unfold befS or2;have:=cmpZ_anti a.phase b.phase;have:=cmpL_anti a.holds b.holds;split<;>split<;>omega
theorem befS_trans {a b c:StateD}(h1:befS a b<0)(h2:befS b c<0):befS a c<0:=by
 unfold befS or2 at *;have a1:=@cmpZ_lt a.phase b.phase;have a2:=@cmpZ_lt b.phase c.phase;have a3:=@cmpZ_lt a.phase c.phase;have b1:=@cmpZ_eq a.phase b.phase;have b2:=@cmpZ_eq b.phase c.phase;have b3:=@cmpZ_eq a.phase c.phase;split at h1
 .split at h2
  .rw[if_pos (by omega)];omega
  .rw[if_pos (by omega)];omega
 .split at h2
  .rw[if_pos (by omega)];omega
  .rw[if_neg (by omega)];exact cmpL_trans h1 h2
def SortedM (l:List MoveD):Prop:=l.Pairwise fun a b=>befS a.dst b.dst<0
theorem SortedM.unique {l r:List MoveD}(h:SortedM l)(k:SortedM r)(hp:l.Perm r):l=r:=
 List.Perm.eq_of_pairwise (le:=fun a b:MoveD=>befS a.dst b.dst<0) (fun a b _ _ h1 h2=>by have:=befS_anti a.dst b.dst;omega) h k hp
theorem IsMarks.unique {p:ProbD}{l r:List MoveD}(h:IsMarks p l)(k:IsMarks p r)(hl:SortedM l)(hr:SortedM r):l=r:=hl.unique hr (h.perm k)
theorem firstK_min (ms:List MoveD):∀i,∀j,j<i->(ms.getD (firstK ms i).toNat move0).cost<=(ms.getD j move0).cost
 |0,j,h=>by omega
 |i+1,j,h=>by
  have ih:=firstK_min ms i;have hlo:=firstK_lo ms i;unfold firstK;split
  .rename_i hc
   have hn:∀j,j<i->(ms.getD i move0).cost<=(ms.getD j move0).cost:=fun j hj=>by
    rcases hc with hc|hc
    .omega
    .have:=cmpR_lt.1 hc;have:=ih j hj
     grind
   simp only[Int.toNat_natCast]
   by_cases e:j=i
   .subst e;exact Rat.le_refl
   .exact hn j (by omega)
  .rename_i hc
   simp only[not_or,cmpR_lt]at hc
   by_cases e:j=i
   .subst e;have:=hc.2
    grind
   .exact ih j (by omega)
theorem firstI_in {ms:List MoveD}(h:ms≠[]):∃k:Nat,k<ms.length/\firstI ms=k/\∀j,j<ms.length->(ms.getD k move0).cost<=(ms.getD j move0).cost:=by
 have h0:0<ms.length:=List.length_pos_iff.2 h;have hlo:=firstK_lo ms ms.length;refine⟨(firstI ms).toNat,?_,?_,fun j hj=>firstK_min ms _ j hj⟩<;>unfold firstI<;>omega
theorem firstI_nil:firstI []=-1:=rfl
def fromB (p:ProbD)(s:StateD)(c:Rat)(a:MoveD):Bool:=(movesL p a.dst).any fun x=>decide (x.dst=s) && decide (a.cost+x.cost=c)
def prevL (p:ProbD)(ms:List MoveD)(s:StateD)(c:Rat):Option MoveD:=ms.find? (fromB p s c)
inductive WayB (p:ProbD) (ms:List MoveD):StateD->Rat->List StateD->Prop
 |base {s:StateD} {c:Rat}:¬0<c->WayB p ms s c [s]
 |step {s:StateD} {c:Rat} {a:MoveD} {l:List StateD}:0<c->prevL p ms s c=some a->WayB p ms a.dst a.cost l->WayB p ms s c (s::l)
theorem WayB.unique {p:ProbD}{ms:List MoveD}{s:StateD}{c:Rat}{l r:List StateD}(h:WayB p ms s c l)(k:WayB p ms s c r):l=r:=by
 induction h generalizing r with
 |base h=>cases k with
  |base=>rfl
  |step h'=>exact absurd h' h
 |step h0 h1 h2 ih=>cases k with
  |base h'=>exact absurd h0 h'
  |step h0' h1' h2'=>rw[h1]at h1';cases h1';rw[ih h2']
theorem IsMarks.prev {p:ProbD}{ms:List MoveD}(h:IsMarks p ms)(hpos:∀m∈ms,∀x∈movesL p m.dst,0<x.cost){m:MoveD}(hm:m∈ms)(h0:0<m.cost):
 ∃a,prevL p ms m.dst m.cost=some a/\a∈ms/\∃x∈movesL p a.dst,x.dst=m.dst/\a.cost+x.cost=m.cost/\a.cost<m.cost:=by
 have hex:∃a∈ms,fromB p m.dst m.cost a=true:=by
  have hr:=h.reach m hm;generalize hS:m.dst=S at hr;generalize hC:m.cost=C at hr
  cases hr with
  |start=>rw[hC]at h0;exact absurd h0 (by grind)
  |@step s c x hr hx=>
   obtain⟨a,ha,rfl,hca⟩:=h.least hr;obtain⟨m',hm',e,hcm⟩:=h.closed a ha x hx;obtain rfl:=dst_inj h.nodup hm hm' (by rw[e,hS]);refine⟨a,ha,?_⟩;unfold fromB;rw[List.any_eq_true];refine⟨x,hx,?_⟩;simp only[Bool.and_eq_true,decide_eq_true_eq];exact⟨by first|trivial|exact hS.symm,by grind⟩
 obtain⟨a0,ha0,hb0⟩:=hex
 cases hf:prevL p ms m.dst m.cost with
 |none=>exact absurd hb0 (by simpa using List.find?_eq_none.1 hf a0 ha0)
 |some a=>
  have hb:=List.find?_some hf;have ha:=List.mem_of_find?_eq_some hf;unfold fromB at hb;rw[List.any_eq_true]at hb;obtain⟨x,hx,hxx⟩:=hb;simp only[Bool.and_eq_true,decide_eq_true_eq]at hxx;have:=hpos a ha x hx;exact⟨a,rfl,ha,x,hx,hxx.1,hxx.2,by grind⟩
section
open Go.Maps (Keyed)
def KpT (T:TypeId)(A C:World):Prop:=A.heap.size<=C.heap.size/\∀(k:Nat) (o:Obj),A.heap[k]?=some o->(∀cur fr,o≠ .cells cur T fr)->C.heap[k]?=some o
theorem KpT.of_bel {T:TypeId}{A C:World}(h:Bel A.heap.size A C):KpT T A C:=⟨h.size,fun k _o hk _=>(h.block k (Array.getElem?_eq_some_iff.1 hk).1).trans hk⟩
theorem KpT.trans {T:TypeId}{A B C:World}(h:KpT T A B)(k:KpT T B C):KpT T A C:=⟨Nat.le_trans h.1 k.1,fun i o hi ho=>k.2 i o (h.2 i o hi ho) ho⟩
theorem KpT.pres {T T':TypeId}{A C:World}(h:KpT T A C)(hT:T'≠T):Pres T' A C:=fun k cur fr hk=>h.2 k _ hk fun c f e=>by cases e;exact hT rfl
theorem KpT.others {T:TypeId}{N:Nat}{A C:World}(h:KpT T A C):Others N A C:=⟨h.1,fun k o _ hk ho=>h.2 k o hk fun c f e=>by subst e;cases ho⟩
theorem KpT.kpi {A C:World}(h:KpT 158 A C):KpI A C:=⟨h.1,fun T hT=>h.pres (by rintro rfl;revert hT;decide)⟩
theorem SOk.of_fine {p:ProbD}{s:StateD}(h:Fine p s):SOk p.walker.legs.toNat s:=by
 obtain⟨h1,h2,h3,h4⟩:=h.len;have hw:=worldB_map h.world;refine⟨by omega,by omega,⟨h.lo,by have:=h.hi;omega⟩,fun i hi=>?_⟩;have hh:=h.holds;unfold holdsB at hh;simp only[Bool.and_eq_true,decide_eq_true_eq,Bool.not_eq_true',List.any_eq_false]at hh;have hi:i<s.holds.length:=by omega
 have:=hh.2 (s.holds.getD i 0) (by rw[getD_get hi];exact List.getElem_mem hi);unfold outB at this;simp only[Bool.or_eq_true,decide_eq_true_eq,not_or]at this;omega
def RowM (T:TypeId)(w:World)(base:Nat)(v:Value)(ms:List MoveD):Prop:=∃xs,w.ownsRow base T 5 v ms.length xs/\
 ∀i,i<ms.length->∃v0 v1 v2 v3 v4,xs[i*5]?=some v0/\xs[i*5+1]?=some v1/\xs[i*5+2]?=some v2/\xs[i*5+3]?=some v3/\xs[i*5+4]?=some v4/\MoveV w (.agg #[v0,v1,v2,v3,v4]) (ms.getD i move0)
theorem RowM.nil (T:TypeId)(w:World)(base:Nat):RowM T w base (.slice none 0 0) []:=⟨[],World.ownsRow_nil _ _ _ _,fun i hi=>by simp at hi⟩
theorem RowM.keep {T:TypeId}{w w':World}{base:Nat}{v:Value}{ms:List MoveD}(h:RowM T w base v ms)(h0:Pres T w w')(h1:Pres 3 w w')(h2:Pres 232 w w'):RowM T w' base v ms:=by
 obtain⟨xs,hr,hm⟩:=h;refine⟨xs,⟨hr.1,?_⟩,fun i hi=>?_⟩
 .rcases hr.2 with h|⟨g,cap,cur,e,hg,hh,r⟩
  .exact .inl h
  .exact .inr ⟨g,cap,cur,e,hg,h0 _ _ _ hh,r⟩
 .obtain⟨v0,v1,v2,v3,v4,a0,a1,a2,a3,a4,hv⟩:=hm i hi;exact⟨v0,v1,v2,v3,v4,a0,a1,a2,a3,a4,hv.pres h1 h2⟩
theorem RowM.marks {w:World}{base:Nat}{v:Value}{ms:List MoveD}(h:RowM 158 w base v ms):MarksV w v ms:=by
 obtain⟨xs,hr,hm⟩:=h
 have ho:OwnS 158 5 base w v ms.length (fun j=>xs.getD j undef):=⟨xs,hr,fun j hj=>by
  show xs[j]?=some (xs.getD j undef)
  rw[List.getD_eq_getElem?_getD,List.getElem?_eq_getElem (by rw[hr.1];exact hj)];rfl⟩
 obtain⟨ao,cap,rfl,hc,hcells⟩:=ho.cells;refine⟨ao,cap,_,rfl,hc,hcells,fun i hi=>?_⟩;obtain⟨v0,v1,v2,v3,v4,a0,a1,a2,a3,a4,hmv⟩:=hm i hi;simp only[List.getD_eq_getElem?_getD,a0,a1,a2,a3,a4,Option.getD_some]at hmv|-;exact hmv
theorem RowM.shape {T:TypeId}{w:World}{base:Nat}{v:Value}{ms:List MoveD}(h:RowM T w base v ms):∃ao cap,v=.slice ao ms.length cap:=by
 obtain⟨xs,hr,-⟩:=h;rcases hr.2 with⟨h,h0⟩|⟨g,cap,cur,e,-⟩
 .exact⟨none,0,by rw[h,h0]⟩
 .exact⟨_,cap,e⟩
theorem wpList_app5 {T tS:TypeId}{w:World}{ops:Array Oper}{rest:List Oper}{o:Oper}{a:Act}{Q:Exit->Act->World->Prop}(hgd:o.guard=none)(s x:Operand)
 (ho:o.op=.call {callee:=.builtin .append,args:=#[s,x],argTypes:=#[tS,tS]}) (ht:Tryz.prog.underlying tS=some (.slice T))
 (hi:(Tryz.prog.info? T).map (fun i=>(i.zero,i.size,i.bytes))=some (some (.agg #[.int .i64 0,.slice none 0 0,.bool false,.slice none 0 0,.slice none 0 0]),5,88)) (hT:T≠3/\T≠232)
 {base b:Nat} {v:Value} {ms:List MoveD} {m:MoveD} {c0 c1 c2 c3 c4:Value} (hs:a.eval s=v) (hrow:RowM T w base v ms) (hx:a.eval x=.slice (some ⟨b,0,none⟩) 1 1) (hb:∃T',w.heap[b]?=some (.cells #[c0,c1,c2,c3,c4] T'))
 (hm:MoveV w (.agg #[c0,c1,c2,c3,c4]) m) (hlen:ms.length<=1000000) (hbase:base<=w.heap.size)
 (hK:∀g cap w',RowM T w' base (.slice (some ⟨g,0,none⟩) (ms.length+1) cap) (ms++[m])->KpT T w w'->Bel base w w'->wpList Tryz.prog ops Q rest (a.put o.dst (.slice (some ⟨g,0,none⟩) (ms.length+1) cap)) w'):
 wpList Tryz.prog ops Q (o::rest) a w:=by
 obtain⟨i0,hi0,hz0,hz1,hz2⟩:=info_parts hi;obtain⟨xs,hr,hmm⟩:=hrow;obtain⟨T',hb⟩:=hb;obtain⟨ph,hoo,hl,hc,x0,a0,n0,cc0,k0,e⟩:=hm.cells
 injection e with e
 simp only[Array.mk.injEq,List.cons.injEq,and_true]at e;obtain⟨rfl,rfl,rfl,rfl,rfl⟩:=e;refine wpList_append_own w hgd s x tS ho base T i0 _ 5 88 ht hi0 hz0 hz1 hz2 rfl (by decide) v ms.length xs hs hr ⟨b,0,none⟩ 1 1 [.int .i64 ph,.slice hoo hl hc,.bool x0,.slice a0 n0 n0,.slice cc0 k0 k0] hx rfl (fun j u hj=>?_) (fun u hu=>?_) (by unfold maxLen;omega) (by omega) hbase (fun v' w' hown hgrow _=>?_)
 .have e:((⟨b,0,none⟩:Addr).add j)=⟨b,j,none⟩:=by simp[Addr.add];omega
  rw[e];simp only[World.cell?,hb,Option.isSome_none,Bool.false_eq_true,if_false]
  simpa using hj
 .simp at hu;rcases hu with rfl|rfl|rfl|rfl|rfl<;>rfl
 .obtain⟨g',cap',rfl⟩:=ownsRow_succ hown
  have hrw:∀k,v.ownBlock=some k->base<=k/\∃cur,w.heap[k]?=some (.cells cur T (0,0)):=by
   intro k hk';rcases hr.2 with⟨rfl,-⟩|⟨g,cap,cur,rfl,hg,hh,-⟩
   .simp[Value.ownBlock]at hk'
   .simp[Value.ownBlock]at hk';subst hk';exact⟨hg,cur,hh⟩
  have hkp:KpT T w w':=⟨hgrow.size,fun k o hk ho=>(hgrow.block k (Array.getElem?_eq_some_iff.1 hk).1 (fun e=>by
   obtain⟨-,cur,hh⟩:=hrw k e.symm;rw[hh]at hk
   cases hk
   exact ho _ _ rfl)).trans hk⟩
  refine hK g' cap' w' ⟨xs++[.int .i64 ph,.slice hoo hl hc,.bool x0,.slice a0 n0 n0,.slice cc0 k0 k0],by rw[List.length_append];exact hown,fun i hi=>?_⟩ hkp ⟨⟨hgrow.os,hgrow.tape,hgrow.output,hgrow.size,fun k hk=>hgrow.block k (by omega) (fun e=>by have:=(hrw k e.symm).1;omega)⟩⟩;have hxl:xs.length=ms.length*5:=hr.1
  by_cases e:i<ms.length
  .obtain⟨u0,u1,u2,u3,u4,a0,a1,a2,a3,a4,hmv⟩:=hmm i e;refine⟨u0,u1,u2,u3,u4,?_,?_,?_,?_,?_,?_⟩
   .rw[List.getElem?_append_left (by omega)];exact a0
   .rw[List.getElem?_append_left (by omega)];exact a1
   .rw[List.getElem?_append_left (by omega)];exact a2
   .rw[List.getElem?_append_left (by omega)];exact a3
   .rw[List.getElem?_append_left (by omega)];exact a4
   .rw[List.getD_eq_getElem?_getD,List.getElem?_append_left e,<-List.getD_eq_getElem?_getD];exact hmv.pres (hkp.pres hT.1.symm) (hkp.pres hT.2.symm)
  .have ei:i=ms.length:=by simp at hi;omega
   subst ei;refine⟨.int .i64 ph,.slice hoo hl hc,.bool x0,.slice a0 n0 n0,.slice cc0 k0 k0,?_,?_,?_,?_,?_,?_⟩
   .rw[List.getElem?_append_right (by omega),hxl];simp
   .rw[List.getElem?_append_right (by omega),hxl,show ms.length*5+1-ms.length*5=1 by omega];rfl
   .rw[List.getElem?_append_right (by omega),hxl,show ms.length*5+2-ms.length*5=2 by omega];rfl
   .rw[List.getElem?_append_right (by omega),hxl,show ms.length*5+3-ms.length*5=3 by omega];rfl
   .rw[List.getElem?_append_right (by omega),hxl,show ms.length*5+4-ms.length*5=4 by omega];rfl
   .rw[List.getD_eq_getElem?_getD,List.getElem?_append_right NL];simp only[Nat.sub_self,List.getElem?_cons_zero,Option.getD_some];exact hm.pres (hkp.pres hT.1.symm) (hkp.pres hT.2.symm)
abbrev MapM (n:Nat) (w:World) (b:Nat) (l:List MoveD):Prop:=MapG MoveV MoveD.dst n w b l
theorem MapM.ndl {n:Nat}{w:World}{b:Nat}{l:List MoveD}(h:MapM n w b l):NdL l:=h.nodup
theorem MapG.obj {ε:Type}{Ok:World->Value->ε->Prop}{ky:ε->StateD}{n:Nat}{w:World}{b:Nat}{l:List ε}(h:MapG Ok ky n w b l):∃es c,w.heap[b]?=some (.map es c):=by
 obtain⟨es,⟨E,c,h1,-⟩,-⟩:=h;exact⟨E,c,h1⟩
theorem MapM.kp {T:TypeId}{n:Nat}{w w':World}{b:Nat}{l:List MoveD}(h:MapM n w b l)(k:KpT T w w')(hT:T≠3/\T≠232):MapM n w' b l:=by
 obtain⟨es,c,hb⟩:=h.obj;exact h.heap ((k.2 _ _ hb (fun _ _ e=>by cases e)).trans hb.symm) fun v e he=>he.pres (k.pres hT.1.symm) (k.pres hT.2.symm)
theorem MapM.trn {n:Nat}{w w':World}{b b':Nat}{l:List MoveD}(h:MapM n w b l)(k:Trn b' w w')(hb:b≠b'):MapM n w' b l:=h.heap (k.other b hb) fun _v _e he=>he.pres (k.pres _) (k.pres _)
theorem moveTrn {b:Nat}{w w':World}{v:Value}{e:MoveD}(h:Trn b w w')(ho:MoveV w v e):MoveV w' v e:=ho.pres (h.pres _) (h.pres _)
theorem MoveV.stateV {w:World}{ph:Int}{ho:Option Addr}{hl hc:Nat}{x:Bool}{a:Option Addr}{n:Nat}{c:Option Addr}{k:Nat}{m:MoveD}(h:MoveV w (.agg #[.int .i64 ph,.slice ho hl hc,.bool x,.slice a n n,.slice c k k]) m):StateV w (.agg #[.int .i64 ph,.slice ho hl hc]) m.dst:=⟨_,by rw[h.qv.1],h.qv.2.1⟩
def MarksD (base:Nat):Nat->List Deferred->World->Prop
 |_,[],_=>True
 |top,d::ds,W=>∃D,d={target:=.collected D,args:=#[]}/\base<=D/\D<top/\W.heap[D]?=some (.deferred (some []))/\MarksD base D ds W
theorem MarksD.keep {base:Nat}{W W':World}:∀{ds:List Deferred} {top:Nat},MarksD base top ds W->(∀k,k<top->W.heap[k]?=some (.deferred (some []))->W'.heap[k]?=some (.deferred (some [])))->MarksD base top ds W'
 |[],_,_,_=>trivial
 |_::_,_,⟨D,h1,h2,h3,h4,h5⟩,h=>⟨D,h1,h2,h3,h D h3 h4,h5.keep fun k hk=>h k (by omega)⟩
theorem MarksD.mono {base:Nat}{W:World}:∀{ds:List Deferred} {top top':Nat},MarksD base top ds W->top<=top'->MarksD base top' ds W
 |[],_,_,_,_=>trivial
 |_::_,_,_,⟨D,h1,h2,h3,h4,h5⟩,h=>⟨D,h1,h2,by omega,h4,h5⟩
theorem MarksD.kp {T:TypeId}{base top:Nat}{ds:List Deferred}{W W':World}(h:MarksD base top ds W)(k:KpT T W W'):MarksD base top ds W':=h.keep fun _ _ hd=>k.2 _ _ hd (fun _ _ e=>by cases e)
theorem MarksD.st {B base top:Nat}{ds:List Deferred}{W W':World}(h:MarksD base top ds W)(k:St B W W')(hB:top<=B):MarksD base top ds W':=h.keep fun j hj hd=>(k.bel.block j (by omega)).trans hd
theorem MarksD.trn {b base top:Nat}{ds:List Deferred}{W W':World}(h:MarksD base top ds W)(k:Trn b W W')(hb:∃es c,W.heap[b]?=some (.map es c)):MarksD base top ds W':=h.keep fun j _ hd=>by
 refine(k.other j (fun e=>?_)).trans hd;subst e;obtain⟨es,c,hb⟩:=hb;rw[hb]at hd;cases hd
theorem leaves_all {n:Nat}{fn:Func}{tmps:Array Value}{R:Ending->World->Prop}{base:Nat}:∀{ds:List Deferred} {top:Nat} {W:World},MarksD base top ds W->
 (∀(W':World),St base W W'->(∀(k:Nat) (o:Obj),W.heap[k]?=some o->o≠Obj.deferred (some [])->W'.heap[k]?=some o)->LeavesInM Fence.wide n Tryz.prog fn tmps R [] .returning W')->LeavesInM Fence.wide n Tryz.prog fn tmps R ds .returning W
 |[],_,_,_,h=>h _ (St.refl _ _) fun _ _ hk _=>hk
 |_::_,_,W,⟨D,h1,h2,h3,h4,h5⟩,h=>by
  subst h1;have hst:St base W (W.putObj D (.deferred none)):=St.put h2 h4 rfl _;refine⟨by simp,.inl ⟨_,_,rfl,run_takeDeferred h4,leaves_all (h5.keep fun k hk hd=>(World.putObj_heap_other (by omega)).trans hd) fun W' h' hk'=>h W' (hst.trans h') fun k o hk ho=>hk' k o ((World.putObj_heap_other (fun e=>?_)).trans hk) ho⟩⟩;subst e;rw[h4]at hk
  cases hk
  exact ho rfl
structure SW (w wr:World) (p:ProbD) (pv:Value) (nl B1 B4 B6 bD bO:Nat) (ds:List Deferred) (tp:Nat) (D O:List MoveD):Prop where
 bel:Bel w.heap.size w wr
 low:w.heap.size<=bD/\w.heap.size<=bO/\bD≠bO
 b1:∃cs,pv=.agg cs/\wr.heap[B1]?=some (.cells cs 44)
 prob:PVal wr pv p
 b4:wr.heap[B4]?=some (.cells #[.map (some bD)] 151)
 b6:wr.heap[B6]?=some (.cells #[.map (some bO)] 151)
 done:MapM nl wr bD D
 opn:MapM nl wr bO O
 mkd:MarksD w.heap.size tp ds wr/\tp<=wr.heap.size
theorem SW.kp {w wr wr':World}{p:ProbD}{pv:Value}{nl B1 B4 B6 bD bO tp:Nat}{ds:List Deferred}{D O:List MoveD}(h:SW w wr p pv nl B1 B4 B6 bD bO ds tp D O)(k:KpT 158 wr wr')(hb:Bel w.heap.size wr wr'):SW w wr' p pv nl B1 B4 B6 bD bO ds tp D O:=by
 obtain⟨cs,e,h1⟩:=h.b1;exact⟨h.bel.trans hb,h.low,⟨cs,e,k.pres (by decide) _ _ _ h1⟩,h.prob.keep k.kpi,k.pres (by decide) _ _ _ h.b4,k.pres (by decide) _ _ _ h.b6,h.done.kp k (by decide),h.opn.kp k (by decide),h.mkd.1.kp k,Nat.le_trans h.mkd.2 k.1⟩
theorem SW.call {w wr wr':World}{p:ProbD}{pv:Value}{nl B1 B4 B6 bD bO tp:Nat}{ds:List Deferred}{D O:List MoveD}(h:SW w wr p pv nl B1 B4 B6 bD bO ds tp D O)(hb:Bel wr.heap.size wr wr'):SW w wr' p pv nl B1 B4 B6 bD bO ds tp D O:=h.kp (KpT.of_bel hb) (hb.mono h.bel.size)
theorem SW.lt {w wr:World}{p:ProbD}{pv:Value}{nl B1 B4 B6 bD bO tp:Nat}{ds:List Deferred}{D O:List MoveD}(h:SW w wr p pv nl B1 B4 B6 bD bO ds tp D O):bD<wr.heap.size/\bO<wr.heap.size/\B1<wr.heap.size/\B4<wr.heap.size/\B6<wr.heap.size:=by
 obtain⟨cs,-,h1⟩:=h.b1;exact⟨h.done.lt,h.opn.lt,(Array.getElem?_eq_some_iff.1 h1).1,(Array.getElem?_eq_some_iff.1 h.b4).1,(Array.getElem?_eq_some_iff.1 h.b6).1⟩
theorem SW.st {B:Nat}{w wr wr':World}{p:ProbD}{pv:Value}{nl B1 B4 B6 bD bO tp:Nat}{ds:List Deferred}{D O:List MoveD}(h:SW w wr p pv nl B1 B4 B6 bD bO ds tp D O)(hs:St B wr wr')(hB:bD<B/\bO<B/\tp<=B)(hw:w.heap.size<=B):SW w wr' p pv nl B1 B4 B6 bD bO ds tp D O:=by
 obtain⟨cs,e,h1⟩:=h.b1
 exact⟨h.bel.trans (hs.bel.mono hw),h.low,⟨cs,e,hs.cells _ _ _ _ h1⟩,h.prob.keep (KpI.of_st hs),hs.cells _ _ _ _ h.b4,hs.cells _ _ _ _ h.b6,
  h.done.heap (hs.bel.block _ hB.1) fun v e he=>he.pres (hs.pres _) (hs.pres _),h.opn.heap (hs.bel.block _ hB.2.1) fun v e he=>he.pres (hs.pres _) (hs.pres _),h.mkd.1.st hs hB.2.2,Nat.le_trans h.mkd.2 hs.bel.size⟩
theorem SW.turnO {w wr wr':World}{p:ProbD}{pv:Value}{nl B1 B4 B6 bD bO tp:Nat}{ds:List Deferred}{D O O':List MoveD}(h:SW w wr p pv nl B1 B4 B6 bD bO ds tp D O)(ht:Trn bO wr wr')(hO:MapM nl wr' bO O'):SW w wr' p pv nl B1 B4 B6 bD bO ds tp D O':=by
 obtain⟨cs,e,h1⟩:=h.b1;exact⟨h.bel.trans (ht.bel h.low.2.1),h.low,⟨cs,e,ht.pres _ _ _ _ h1⟩,h.prob.keep ht.kpi,ht.pres _ _ _ _ h.b4,ht.pres _ _ _ _ h.b6,h.done.trn ht h.low.2.2,hO,h.mkd.1.trn ht h.opn.obj,by rw[ht.size];exact h.mkd.2⟩
theorem SW.turnD {w wr wr':World}{p:ProbD}{pv:Value}{nl B1 B4 B6 bD bO tp:Nat}{ds:List Deferred}{D O D':List MoveD}(h:SW w wr p pv nl B1 B4 B6 bD bO ds tp D O)(ht:Trn bD wr wr')(hD:MapM nl wr' bD D'):SW w wr' p pv nl B1 B4 B6 bD bO ds tp D' O:=by
 obtain⟨cs,e,h1⟩:=h.b1;exact⟨h.bel.trans (ht.bel h.low.1),h.low,⟨cs,e,ht.pres _ _ _ _ h1⟩,h.prob.keep ht.kpi,ht.pres _ _ _ _ h.b4,ht.pres _ _ _ _ h.b6,hD,h.opn.trn ht h.low.2.2.symm,h.mkd.1.trn ht h.done.obj,by rw[ht.size];exact h.mkd.2⟩
structure Upd (b:Nat) (f:List MoveD->List MoveD) (nl:Nat) (l:List MoveD) (w W0 w':World):Prop where
 base:Bel w.heap.size w w'
 size:W0.heap.size<=w'.heap.size
 low:w.heap.size<=b
 other:∀k,k<W0.heap.size->k≠b->w'.heap[k]?=W0.heap[k]?
 map0:∃es c,W0.heap[b]?=some (.map es c)
 map:∃l0,MapM nl w' b l0/\f l0=f l/\l0.length<=l.length+1
theorem Upd.hold {b:Nat}{f:List MoveD->List MoveD}{nl:Nat}{l:List MoveD}{w W0 w':World}(h:Upd b f nl l w W0 w'):(∀(k o:Nat),k<W0.heap.size->w'.cell? ⟨k,o,none⟩=W0.cell? ⟨k,o,none⟩)/\Upd b f nl l w W0 w':=by
 refine⟨fun k o hk=>?_,h⟩
 by_cases e:k=b
 .subst e;obtain⟨es,c,h0⟩:=h.map0;obtain⟨l0,h1,-⟩:=h.map;obtain⟨es',c',h1⟩:=h1.obj;simp[World.cell?,h0,h1]
 .simp[World.cell?,h.other k hk e]
theorem Upd.start {b:Nat}{f:List MoveD->List MoveD}{nl:Nat}{l:List MoveD}{w W0:World}(hb:Bel w.heap.size w W0)(h1:w.heap.size<=b)(h:MapM nl W0 b l):Upd b f nl l w W0 W0:=⟨hb,Nat.le_refl _,h1,fun _ _ _=>rfl,h.obj,l,h,rfl,by omega⟩
theorem Upd.pres {b:Nat}{f:List MoveD->List MoveD}{nl:Nat}{l:List MoveD}{w W0 w':World}(h:Upd b f nl l w W0 w')(T:TypeId):Pres T W0 w':=fun k cur fr hk=>by
 refine(h.other k (Array.getElem?_eq_some_iff.1 hk).1 (fun e=>?_)).trans hk;subst e;obtain⟨es,c,h0⟩:=h.map0;rw[hk]at h0;cases h0
theorem Upd.call {b:Nat}{f:List MoveD->List MoveD}{nl:Nat}{l:List MoveD}{w W0 w' w9:World}(h:Upd b f nl l w W0 w')(hb:Bel w'.heap.size w' w9):Upd b f nl l w W0 w9:=by
 obtain⟨l0,h1,h2⟩:=h.map;exact⟨h.base.next h.base.size hb,Nat.le_trans h.size hb.size,h.low,fun k hk hkb=>(hb.block k (by have:=h.size;omega)).trans (h.other k hk hkb),h.map0,l0,h1.kp (T:=158) (KpT.of_bel hb) (by decide),h2⟩
theorem Upd.drew {b:Nat}{f:List MoveD->List MoveD}{nl:Nat}{l:List MoveD}{w W0 w':World}(h:Upd b f nl l w W0 w'):Upd b f nl l w W0 w'.drew:=h.call (Bel.refl _ _).drew
theorem Upd.turn {b:Nat}{f:List MoveD->List MoveD}{nl:Nat}{l l0:List MoveD}{w W0 w' w9:World}(h:Upd b f nl l w W0 w')(ht:Trn b w' w9)(hm:MapM nl w9 b (f l0))(e:f l0=f l)(hf:∀l,f (f l)=f l)(hlen:(f l).length<=l.length+1):Upd b f nl l w W0 w9:=
 ⟨h.base.trans (ht.bel h.low),by rw[ht.size];exact h.size,h.low,fun k hk hkb=>(ht.other k hkb).trans (h.other k hk hkb),h.map0,f l0,hm,by rw[hf];exact e,by rw[e];exact hlen⟩
theorem Upd.marks {b base top:Nat}{f:List MoveD->List MoveD}{nl:Nat}{l:List MoveD}{w W0 w':World}{ds:List Deferred}(h:Upd b f nl l w W0 w')(hm:MarksD base top ds W0/\top<=W0.heap.size):MarksD base top ds w':=hm.1.keep fun j hj hd=>by
 refine(h.other j (by have:=hm.2;omega) (fun e=>?_)).trans hd;subst e;obtain⟨es,c,hb⟩:=h.map0;rw[hb]at hd;cases hd
theorem SW.mark {D:Nat}{w wr:World}{p:ProbD}{pv:Value}{nl B1 B4 B6 bD bO tp:Nat}{ds:List Deferred}{Dn O:List MoveD}(h:SW w wr p pv nl B1 B4 B6 bD bO ds tp Dn O)(h1:tp<=D)(h2:w.heap.size<=D)(h3:wr.heap[D]?=some (.deferred (some []))):SW w wr p pv nl B1 B4 B6 bD bO ({target:=.collected D,args:=#[]}::ds) wr.heap.size Dn O:=
 ⟨h.bel,h.low,h.b1,h.prob,h.b4,h.b6,h.done,h.opn,⟨D,rfl,h2,(Array.getElem?_eq_some_iff.1 h3).1,h3,h.mkd.1.mono h1⟩,Nat.le_refl _⟩
theorem SW.updD {f:List MoveD->List MoveD}{ls:List MoveD}{w W0 w':World}{p:ProbD}{pv:Value}{nl B1 B4 B6 bD bO tp:Nat}{ds:List Deferred}{D O D':List MoveD}(h:SW w W0 p pv nl B1 B4 B6 bD bO ds tp D O)(k:Upd bD f nl ls w W0 w')(hD:MapM nl w' bD D'):SW w w' p pv nl B1 B4 B6 bD bO ds tp D' O:=by
 obtain⟨cs,e,h1⟩:=h.b1;exact⟨k.base,h.low,⟨cs,e,k.pres _ _ _ _ h1⟩,h.prob.keep ⟨k.size,fun T _=>k.pres T⟩,k.pres _ _ _ _ h.b4,k.pres _ _ _ _ h.b6,hD,h.opn.heap (k.other bO h.lt.2.1 h.low.2.2.symm) fun v e he=>he.pres (k.pres _) (k.pres _),k.marks h.mkd,Nat.le_trans h.mkd.2 k.size⟩
theorem SW.updO {f:List MoveD->List MoveD}{ls:List MoveD}{w W0 w':World}{p:ProbD}{pv:Value}{nl B1 B4 B6 bD bO tp:Nat}{ds:List Deferred}{D O O':List MoveD}(h:SW w W0 p pv nl B1 B4 B6 bD bO ds tp D O)(k:Upd bO f nl ls w W0 w')(hO:MapM nl w' bO O'):SW w w' p pv nl B1 B4 B6 bD bO ds tp D O':=by
 obtain⟨cs,e,h1⟩:=h.b1;exact⟨k.base,h.low,⟨cs,e,k.pres _ _ _ _ h1⟩,h.prob.keep ⟨k.size,fun T _=>k.pres T⟩,k.pres _ _ _ _ h.b4,k.pres _ _ _ _ h.b6,h.done.heap (k.other bD h.lt.1 h.low.2.2) fun v e he=>he.pres (k.pres _) (k.pres _),hO,k.marks h.mkd,Nat.le_trans h.mkd.2 k.size⟩
structure SB (w wr:World) (p:ProbD) (nl B1 B4 B6 bD bO:Nat) (ds:List Deferred) (tp B10:Nat) (ao:Option Addr) (f:Nat->Value) (l:List MoveD) (least:Rat) (D O:List MoveD):Prop where
 sw:∃pv,SW w wr p pv nl B1 B4 B6 bD bO ds tp D O
 row:MarksAt wr ao l f
 b10:∃cs,QV wr (.agg cs) least/\wr.heap[B10]?=some (.cells cs 39)
theorem SB.call {w wr wr':World}{p:ProbD}{nl B1 B4 B6 bD bO B10 tp:Nat}{ds:List Deferred}{ao:Option Addr}{f:Nat->Value}{l:List MoveD}{least:Rat}{D O:List MoveD}(h:SB w wr p nl B1 B4 B6 bD bO ds tp B10 ao f l least D O)(hb:Bel wr.heap.size wr wr'):SB w wr' p nl B1 B4 B6 bD bO ds tp B10 ao f l least D O:=by
 obtain⟨⟨pv,h1⟩,h2,⟨cs,h3,h4⟩⟩:=h;exact⟨⟨pv,h1.call hb⟩,h2.bel hb,⟨cs,h3.pres hb.pb,hb.pb _ _ _ h4⟩⟩
theorem SB.st {B:Nat}{w wr wr':World}{p:ProbD}{nl B1 B4 B6 bD bO B10 tp:Nat}{ds:List Deferred}{ao:Option Addr}{f:Nat->Value}{l:List MoveD}{least:Rat}{D O:List MoveD}(h:SB w wr p nl B1 B4 B6 bD bO ds tp B10 ao f l least D O)(hs:St B wr wr')(hB:bD<B/\bO<B/\tp<=B)(hw:w.heap.size<=B):SB w wr' p nl B1 B4 B6 bD bO ds tp B10 ao f l least D O:=by
 obtain⟨⟨pv,h1⟩,h2,⟨cs,h3,h4⟩⟩:=h;exact⟨⟨pv,h1.st hs hB hw⟩,h2.pres (hs.pres _) (hs.pres _) (hs.pres _),⟨cs,h3.pres (hs.pres _),hs.cells _ _ _ _ h4⟩⟩
theorem SB.updD {g:List MoveD->List MoveD}{ls D':List MoveD}{w W0 w':World}{p:ProbD}{nl B1 B4 B6 bD bO B10 tp:Nat}{ds:List Deferred}{ao:Option Addr}{f:Nat->Value}{l:List MoveD}{least:Rat}{D O:List MoveD}(h:SB w W0 p nl B1 B4 B6 bD bO ds tp B10 ao f l least D O)(k:Upd bD g nl ls w W0 w')(hD:MapM nl w' bD D'):SB w w' p nl B1 B4 B6 bD bO ds tp B10 ao f l least D' O:=by
 obtain⟨⟨pv,h1⟩,h2,⟨cs,h3,h4⟩⟩:=h;exact⟨⟨pv,h1.updD k hD⟩,h2.pres (k.pres _) (k.pres _) (k.pres _),⟨cs,h3.pres (k.pres _),k.pres _ _ _ _ h4⟩⟩
theorem SB.updO {g:List MoveD->List MoveD}{ls O':List MoveD}{w W0 w':World}{p:ProbD}{nl B1 B4 B6 bD bO B10 tp:Nat}{ds:List Deferred}{ao:Option Addr}{f:Nat->Value}{l:List MoveD}{least:Rat}{D O:List MoveD}(h:SB w W0 p nl B1 B4 B6 bD bO ds tp B10 ao f l least D O)(k:Upd bO g nl ls w W0 w')(hO:MapM nl w' bO O'):SB w w' p nl B1 B4 B6 bD bO ds tp B10 ao f l least D O':=by
 obtain⟨⟨pv,h1⟩,h2,⟨cs,h3,h4⟩⟩:=h;exact⟨⟨pv,h1.updO k hO⟩,h2.pres (k.pres _) (k.pres _) (k.pres _),⟨cs,h3.pres (k.pres _),k.pres _ _ _ _ h4⟩⟩
theorem SB.turnO {O':List MoveD}{w W0 w':World}{p:ProbD}{nl B1 B4 B6 bD bO B10 tp:Nat}{ds:List Deferred}{ao:Option Addr}{f:Nat->Value}{l:List MoveD}{least:Rat}{D O:List MoveD}(h:SB w W0 p nl B1 B4 B6 bD bO ds tp B10 ao f l least D O)(k:Trn bO W0 w')(hO:MapM nl w' bO O'):SB w w' p nl B1 B4 B6 bD bO ds tp B10 ao f l least D O':=by
 obtain⟨⟨pv,h1⟩,h2,⟨cs,h3,h4⟩⟩:=h;exact⟨⟨pv,h1.turnO k hO⟩,h2.pres (k.pres _) (k.pres _) (k.pres _),⟨cs,h3.pres (k.pres _),k.pres _ _ _ _ h4⟩⟩
theorem SB.mark {D:Nat}{w wr:World}{p:ProbD}{nl B1 B4 B6 bD bO B10 tp:Nat}{ds:List Deferred}{ao:Option Addr}{f:Nat->Value}{l:List MoveD}{least:Rat}{Dn O:List MoveD}(h:SB w wr p nl B1 B4 B6 bD bO ds tp B10 ao f l least Dn O)(h1:tp<=D)(h2:w.heap.size<=D)(h3:wr.heap[D]?=some (.deferred (some []))):SB w wr p nl B1 B4 B6 bD bO ({target:=.collected D,args:=#[]}::ds) wr.heap.size B10 ao f l least Dn O:=by
 obtain⟨⟨pv,k1⟩,k2,k3⟩:=h;exact⟨⟨pv,k1.mark h1 h2 h3⟩,k2,k3⟩
theorem RangeG.kp {T:TypeId}{n:Nat}{w w':World}{b r:Nat}{l acc:List MoveD}(h:RangeG MoveV MoveD.dst n w b r l acc)(k:KpT T w w')(hT:T≠3/\T≠232):RangeG MoveV MoveD.dst n w' b r l acc:=by
 obtain⟨es,c,hb⟩:=h.map.obj
 have hr:∃m s q c,w.heap[r]?=some (.mapIter m s q c):=by
  obtain⟨es,left,cnt,⟨E,clock,since,seen,c0,-,-,-,-,hr,-⟩,-⟩:=h;exact⟨_,_,_,_,hr⟩
 obtain⟨m,s,q,c',hr⟩:=hr;exact h.heap ((k.2 _ _ hb (fun _ _ e=>by cases e)).trans hb.symm) ((k.2 _ _ hr (fun _ _ e=>by cases e)).trans hr.symm) fun v e he=>he.pres (k.pres hT.1.symm) (k.pres hT.2.symm)
theorem St.next {r:Nat}{w w':World}(hg:w.grownBy w' (some r))(hP:∀T,Pres T w w')(hr:r<w.heap.size):St r w w':=
 ⟨⟨⟨hg.os,hg.tape,hg.output,hg.size,fun k hk=>hg.block k (by omega) (fun e=>by cases e;omega)⟩⟩,fun k cur T fr hk=>hP T k cur fr hk⟩
theorem wpList_next_m {n b r:Nat}{l acc:List MoveD}{w:World}{ops:Array Oper}{rest:List Oper}{o:Oper}{a:Act}{Q:Exit->Act->World->Prop}(hg:o.guard=none)(it:Operand)(hop:o.op=Op.next it false)(hit:a.eval it=.pointer (some ⟨r,0,none⟩))(h:RangeG MoveV MoveD.dst n w b r l acc)
 (hDone:acc.Perm l->wpList Tryz.prog ops Q rest (a.put o.dst (.tuple #[.bool false])) w)
 (hMore:∀(kv:Value) (e:MoveD) (ph:Int) (ho:Option Addr) (hl hc:Nat) (x:Bool) (a1:Option Addr) (q:Nat) (c:Option Addr) (k:Nat) (w':World),e∈l->MoveV w' (.agg #[.int .i64 ph,.slice ho hl hc,.bool x,.slice a1 q q,.slice c k k]) e->RangeG MoveV MoveD.dst n w' b r l (acc++[e])->St r w w'->w.heap.size<=w'.heap.size->
  (Instr.entry (.pointer (some ⟨r,0,none⟩))).run Tryz.prog w'=.ok (.tuple #[kv,.agg #[.int .i64 ph,.slice ho hl hc,.bool x,.slice a1 q q,.slice c k k]]) w'->
  wpList Tryz.prog ops Q rest (a.put o.dst (.tuple #[.bool true,kv,.agg #[.int .i64 ph,.slice ho hl hc,.bool x,.slice a1 q q,.slice c k k]])) w'):wpList Tryz.prog ops Q (o::rest) a w:=by
 refine wpList_next_g w hg it hop hit h (fun w' v e _ hP he=>he.pres (hP _) (hP _)) hDone fun kv v e w' he hm hrg hgr hsz hP hen=>?_;obtain⟨ph,ho,hl,hc,x,a1,q,c,k,rfl⟩:=hm.cells;exact hMore kv e ph ho hl hc x a1 q c k w' he hm hrg (St.next hgr hP h.lt.1) (Nat.le_of_eq hsz.symm) hen
theorem perm_getD {l r:List MoveD}(h:l.Perm r){P:MoveD->Prop}(hP:∀m∈r,P m){i:Nat}(hi:i<l.length):P (l.getD i move0):=by
 rw[List.getD_eq_getElem?_getD,List.getElem?_eq_getElem hi];exact hP _ (h.mem_iff.1 (List.getElem_mem hi))
theorem wpListIn_look_m {F:Fence}{nF n b:Nat}{l:List MoveD}{s:StateD}{w:World}{ops:Array Oper}{rest:List Oper}{o:Oper}{a:Act}{Q:Exit->Act->World->Prop}(hg:o.guard=none)(m x:Operand)(hop:o.op=Op.lookup 151 m x true)(hm:a.eval m=.map (some b))(h:MapM n w b l)(hs:SOk n s)(hx:a.eval x=keyV s)
 (hY:∀(e:MoveD) (ph:Int) (ho:Option Addr) (hl hc:Nat) (y:Bool) (a1:Option Addr) (q:Nat) (c:Option Addr) (k:Nat),e∈l->e.dst=s->MoveV w (.agg #[.int .i64 ph,.slice ho hl hc,.bool y,.slice a1 q q,.slice c k k]) e->
  wpListIn F nF Tryz.prog ops Q rest (a.put o.dst (.tuple #[.agg #[.int .i64 ph,.slice ho hl hc,.bool y,.slice a1 q q,.slice c k k],.bool true])) w)
 (hN:(∀e∈l,e.dst≠s)->wpListIn F nF Tryz.prog ops Q rest (a.put o.dst (.tuple #[.agg #[.int .i64 0,.slice none 0 0,.bool false,.slice none 0 0,.slice none 0 0],.bool false])) w):wpListIn F nF Tryz.prog ops Q (o::rest) a w:=by
 refine wpListIn_look_ok w hg m x _ 158 hop Tryz.underlying151 (Tryz.zeroValue158 _) hm h hs hx (fun v ⟨e,he,hes,ho⟩=>?_) hN;obtain⟨ph,hoo,hl,hc,y,a1,q,c,k,rfl⟩:=ho.cells;exact hY e ph hoo hl hc y a1 q c k he hes ho
theorem keyV_cells (s:StateD):∃z0 z1 z2 z3 z4:Int,keyV s=.agg #[.int .i64 z0,.int .i64 z1,.int .i64 z2,.int .i64 z3,.int .i64 z4]:=⟨_,_,_,_,_,rfl⟩
theorem drop_pre {α:Type}{pre M:List α}{x:α}(h:pre++[x]<+:M):M.drop pre.length=x::M.drop (pre++[x]).length/\x∈M:=by
 obtain⟨t,rfl⟩:=h;simp
theorem Batch.cur {p:ProbD}{K:Nat}{D O:List MoveD}{least:Rat}{c c':StateD}{l:List MoveD}{n i:Nat}(h:Batch p K D O least c [] l n i):Batch p K D O least c' [] l n i:=
 ⟨⟨h.nodup,h.reach,h.size,h.start,h.lo,h.hi,fun m hm x hx=>.inl ((h.closed m hm x hx).resolve_right (by simp))⟩,h.still,h.few,h.more⟩
theorem rangeM_box {α:Type}{P:Program}{n:Nat}{g:Operand}{p q:Tmp}{assign body:Code}{Q:Exit->Act->World->Prop}{a:Act}{w:World}{gf:Nat}{lb:Array Value}(ty:TypeId)
 (hg:a.eval g=.func (.func gf) #[] lb) (eg:∀args w,(callFunc gf args).run P w=.ok (.enter gf args) w)
 {Ok:World->Value->α->Prop} {Kp:World->World->Prop} {M:List α} (hseq:SeqM (n-1) P gf lb Ok Kp M w)
 (hOk:∀A C v x,Ok A v x->St w.heap.size A C->Ok C v x) (hKt:∀{A B C:World},Kp A B->Kp B C->Kp A C) (hKs:∀{A C:World},St w.heap.size A C->Kp A C)
 (I:List α->World->Prop) (Ix:Code->List α->World->Prop) (hI:∀s A C,I s A->St w.heap.size A C->I s C) (hIx:∀c s A C,Ix c s A->St w.heap.size A C->Ix c s C) (h0:I [] w)
 (hassign:∀(l:Nat) (v:Value) (x:α) (W:World) (K:Act->World->Prop),Ok W v x->(∀cs,v=.agg cs->K {tmps:=(a.tmps.setIfInBounds p v).setIfInBounds q (.pointer (some ⟨W.heap.size,0,none⟩)),defers:=[]} (W.alloc (.cells cs ty)))->
  assign.wpIn (Fence.wide.inRound l) (n-1-1) P (Exit.then K (fun _ _ _=>False)) {tmps:=a.tmps.setIfInBounds p v,defers:=[]} W)
 (hbody:∀(l:Nat) (pre:List α) (cs:Array Value) (x:α) (B:Nat) (W:World),I pre W->Ok W (.agg cs) x->W.heap[B]?=some (.cells cs ty)->pre++[x]<+:M->
  body.wpIn (Fence.wide.inRound l) (n-1-1) P (roundQ w.heap.size Kp I Ix (pre++[x]) W) {tmps:=(a.tmps.setIfInBounds p (.agg cs)).setIfInBounds q (.pointer (some ⟨B,0,none⟩)),defers:=[]} W)
 (hdone:∀(D:Nat) (xs:List α) (W:World),w.heap.size<=D->xs=M->I xs W->W.heap[D]?=some (.deferred (some []))->Q .normal {a with defers:={target:=.collected D,args:=#[]}::a.defers} W)
 (hstop:∀(D:Nat) (c:Code) (pre:List α) (W:World),w.heap.size<=D->pre<+:M->Ix c pre W->W.heap[D]?=some (.deferred (some []))->c.wpIn Fence.wide n P Q {a with defers:={target:=.collected D,args:=#[]}::a.defers} W):
 (Code.rangeFunc g #[p] assign body).wpIn Fence.wide n P Q a w:=
 rangeM hg eg hseq hOk hKt hKs I Ix hI hIx h0
  (fun v a' W=>∃B cs,v=.agg cs/\W.heap[B]?=some (.cells cs ty)/\a'={tmps:=(a.tmps.setIfInBounds p v).setIfInBounds q (.pointer (some ⟨B,0,none⟩)),defers:=[]})
  (fun v a' A C h k=>by obtain⟨B,cs,h1,h2,h3⟩:=h;exact⟨B,cs,h1,k.cells _ _ _ _ h2,h3⟩)
  (fun l pre v x W K _ hok hK=>hassign l v x W K hok fun cs e=>by
   subst e;exact hK _ _ Bel.new ⟨W.heap.size,cs,rfl,heap_new _ _ rfl,rfl⟩)
  (fun l pre v x a' W hi hok hax hpx=>by
   obtain⟨B,cs,rfl,h2,rfl⟩:=hax;exact hbody l pre cs x B W hi hok h2 hpx)
  hdone hstop
theorem delL_delL (s:StateD)(l:List MoveD):delL s (delL s l)=delL s l:=delL_not fun _m hm=>(mem_delL.1 hm).2
theorem putL_len (m:MoveD)(l:List MoveD):(putL m l).length<=l.length+1:=by
 have:=delL_len m.dst l;unfold putL;simp;omega
theorem putL_putL (m:MoveD)(l:List MoveD):putL m (putL m l)=putL m l:=by
 show m::delL m.dst (m::delL m.dst l)=m::delL m.dst l
 have e:delL m.dst (m::delL m.dst l)=delL m.dst (delL m.dst l):=List.filter_cons_of_neg (by simp);rw[e,delL_delL]
end
section
open Go.Maps (Keyed)
attribute [local go_sem] Oper.semAt_some
def firstRange:Code->Option Code
 | .rangeFunc _ _ _ c=>some c
 | .loop c=>firstRange c
 | .seq a b=>match firstRange a with
   |some c=>some c
   |none=>firstRange b
 | .block _ c=>firstRange c
 | .cond _ a b=>match firstRange a with
   |some c=>some c
   |none=>firstRange b
 |_=>none
noncomputable def srBody:Code:=((Tryz.f61.body.bind firstRange).getD .skip)
def SearchI (w:World)(p:ProbD)(L B1 B4 B6 bD bO:Nat)(ds:List Deferred)(tp B10 B12:Nat)(ao:Option Addr)(f:Nat->Value)(acc:List MoveD)(le:Rat)(m:MoveD)(D':List MoveD)(n i:Nat)(cs:Array Value)(pre:List MoveD)(W:World):Prop:=
 ∃O'',SB w W p p.walker.legs.toNat B1 B4 B6 bD bO ds tp B10 ao f acc le (m::D') O''/\Batch p (20*L+21) (m::D') O'' le m.dst ((movesL p m.dst).drop pre.length) acc n (i+1)/\(m::D').length+O''.length<=5000+65*i+1+pre.length/\W.heap[B12]?=some (.cells cs 158)/\MoveV W (.agg cs) m
theorem searchBody_c {w W:World}{p:ProbD}{L B1 B4 B6 bD bO tp B10 B12 B13 n i N l:Nat}{ds:List Deferred}{ao:Option Addr}{f:Nat->Value}{acc:List MoveD}{le:Rat}{m y:MoveD}{D' pre:List MoveD}{csx:Array Value}{ph:Int}{ho:Option Addr}{hl hc:Nat}{x:Bool}{a:Option Addr}{q:Nat}{c:Option Addr}{k':Nat}
 (u0 u1 u2 u3 u5 u7 u8 u9 u10 u11 u14 u15 u16 u17 u18 u19 u20 u21 u22 u23 u24 u25 u26 u27 u28 u29 u30 u31 u32 u33 u34 u35 u36 u37 u38 u39 u40 u41 u42 u43 u44 u45 u46 u47 u48 u49 u50 u51 u52 u53 u54 u55 u56 u57 u58 u59 u60 u61 u62 u63 u64 u65 u66 u67 u68 u69 u70 u71 u72 u73 u74 u75 u76 u77 u78 u79 u80 u81 u82 u83 u84 u85 u86 u87 u88 u89 u90 u91 u92 u93 u94 u95 u96 u97 u98 u99 u100 u101 u102 u103 u104 u105 u106 u107 u108 u109 u110 u111 u112 u113 u114 u115 u116 u117 u118:Value) (hfi:Fine p m.dst) (hF:ProbF L p) (h1L:1<=L) (hL:L<=1000) (hne:m.cost=le) (hp3:QF ((20*L+21)*(D'.length+1)) m.cost) (hbO:bO<N) (hlt:i<acc.length) (hn:n+acc.length<=5000)
 (hI:SearchI w p L B1 B4 B6 bD bO ds tp B10 B12 ao f acc le m D' n i #[.int .i64 ph,.slice ho hl hc,.bool x,.slice a q q,.slice c k' k'] pre W) (hok:MoveV W (.agg csx) y) (hk13:W.heap[B13]?=some (.cells csx 93)) (hpx:pre++[y]<+:movesL p m.dst):
 srBody.wpIn (Fence.wide.inRound l) (9-1-1) Tryz.prog (roundQ N KpI (SearchI w p L B1 B4 B6 bD bO ds tp B10 B12 ao f acc le m D' n i #[.int .i64 ph,.slice ho hl hc,.bool x,.slice a q q,.slice c k' k']) (fun _ _ _=>False) (pre++[y]) W)
  {tmps:=#[u0,u1,u2,u3,.pointer (some ⟨B4,0,none⟩),u5,.pointer (some ⟨B6,0,none⟩),u7,u8,u9,u10,u11,.pointer (some ⟨B12,0,none⟩),.pointer (some ⟨B13,0,none⟩),u14,u15,u16,u17,u18,u19,u20,u21,u22,u23,u24,u25,u26,u27,u28,u29,u30,u31,u32,u33,u34,u35,u36,u37,u38,u39,u40,u41,u42,u43,u44,u45,u46,u47,u48,u49,u50,u51,u52,u53,u54,u55,u56,u57,u58,u59,u60,u61,u62,u63,u64,u65,u66,u67,u68,u69,u70,u71,u72,u73,u74,u75,u76,u77,u78,u79,u80,u81,u82,u83,u84,u85,u86,u87,u88,u89,u90,u91,u92,u93,u94,u95,u96,u97,u98,u99,u100,u101,u102,u103,u104,u105,u106,u107,u108,u109,u110,u111,u112,u113,u114,u115,u116,u117,u118],defers:=[]} W:=by
 have hpb:pre.length+1<=64:=by
  have h1:=hpx.length_le;have h2:=movesL_len (s:=m.dst) hfi.world;simp at h1;omega
 obtain⟨O'',h1,h2,h3,h4,h5⟩:=hI;obtain⟨hdr,hyM⟩:=drop_pre hpx;obtain⟨hyF,-,hyc⟩:=movesL_ok hfi hyM;have hyQ:=QF.cost hfi hF h1L hyM;rw[hdr]at h2;obtain⟨ph2,ho2,hl2,hc2,x2,a2,n2',c2,k2,e⟩:=hok.cells
 injection e with e
 subst e;obtain⟨z0,z1,z2,z3,z4,hkv⟩:=keyV_cells y.dst;have HKV:=LH hkv;have HSO:Hid (SOk p.walker.legs.toNat y.dst):=SOk.of_fine hyF;have hy4:y.dst.holds.length<=4:=hyF.len.1;have HS:=LH h1;have HB:=LH h2;have HMM:=LH h5;have HY:=LH hok;have HYV:=LH hok.stateV;have HYM:=LH hyM;have HYQ:=LH hyQ;have HYC:=LH hyc;obtain⟨pv2,hsw2⟩:=h1.sw;obtain⟨r60,r61⟩:=row1 hsw2.b6
 obtain⟨r40,r41⟩:=row1 hsw2.b4;have HSW2:=LH hsw2;obtain⟨lD,lO,l1,l4,l6⟩:=hsw2.lt;obtain⟨r0,r1,r2,r3,r4⟩:=row5 h4;obtain⟨t0,t1,t2,t3,t4⟩:=row5 hk13;have hz12:=BlkT.lt ⟨_,_,h4⟩;have hz13:=BlkT.lt ⟨_,_,hk13⟩;have HK12b:=LH h4;have HK13:=LH hk13;clear h1 h2 h4 h5 hok hk13 hpx hdr hyM hyF hyc hyQ hkv hsw2
 conv=>arg 4;whnf
 gi_wp2_with fail
 refine⟨trivial,(CallsIn.inRound l (callsIn_wide.2 (key_c HYV.out hy4))).mono ?_⟩;rintro e w2 ⟨rfl,hb2⟩;rw[HKV.out];have HSB2:=LH (HS.out.call hb2);have HSW3:=LH (HSW2.out.call hb2);have hk12:=(hb2.block _ hz12).trans HK12b.out;have hk13:=(hb2.block _ hz13).trans HK13.out;have HMM2:=LH (HMM.out.bel hb2);have HY2:=LH (HY.out.bel hb2);have HW2:Hid (Bel W.heap.size W w2):=hb2;have hz2:=hb2.size
 clear r0 r1 r2 r3 r4 t0 t1 t2 t3 t4 r60 r61 r40 r41 hb2 HS HSW2 HMM HY HYV HK12b HK13;obtain⟨r60,r61⟩:=row1 HSW3.out.b6;obtain⟨r40,r41⟩:=row1 HSW3.out.b4;obtain⟨lD,lO,l1,l4,l6⟩:=HSW3.out.lt;obtain⟨r0,r1,r2,r3,r4⟩:=row5 hk12;obtain⟨t0,t1,t2,t3,t4⟩:=row5 hk13;have hz12:=BlkT.lt ⟨_,_,hk12⟩;have hz13:=BlkT.lt ⟨_,_,hk13⟩;have HK12b:=LH hk12;have HK13:=LH hk13;clear hk12 hk13
 gi_wp2_with (gi_at_lookup;refine wpListIn_look_m rfl (.tmp 79) (.tmp 80) rfl rfl (HSW3.out.call Bel.new).done HSO.out HKV.out.symm (fun e9 ph9 ho9 hl9 hc9 y9 a9 q9 c9 k9 he9 hes9 hm9=>?_) (fun hno=>?_))
 .have hbE:=((Bel.refl w2.heap.size w2).alloc NL (.cells #[.int .i64 z0,.int .i64 z1,.int .i64 z2,.int .i64 z3,.int .i64 z4] 156)).alloc (by simp) (.cells #[.int .i64 ph9,.slice ho9 hl9 hc9,.bool y9,.slice a9 q9 q9,.slice c9 k9 k9] 158);have hbF:=HW2.out.trans (hbE.mono hz2);exact⟨Others.of_bel hbF,KpI.of_bel hbF,O'',HSB2.out.call hbE,HB.out.of (HB.out.toMid.seen (m:=m) List.mem_cons_self rfl hne HYC.out (hasL_iff.2 ⟨e9,he9,hes9⟩)) (fun _ ho _=>ho),by simp at h3|-;omega,(hbE.block _ hz12).trans HK12b.out,HMM2.out.bel hbE⟩
 .obtain⟨wa,hwa⟩:∃wa,wa=(w2.alloc (.cells #[.int .i64 z0,.int .i64 z1,.int .i64 z2,.int .i64 z3,.int .i64 z4] 156)).alloc (.cells #[.int .i64 0,.slice none 0 0,.bool false,.slice none 0 0,.slice none 0 0] 158):=⟨_,rfl⟩
  have hbE:Bel w2.heap.size w2 wa:=by rw[hwa];exact((Bel.refl w2.heap.size w2).alloc NL _).alloc (by simp) _
  have hk14:wa.heap[w2.heap.size]?=some (.cells #[.int .i64 z0,.int .i64 z1,.int .i64 z2,.int .i64 z3,.int .i64 z4] 156):=by rw[hwa];exact(heap_old _ _ (by simp)).trans (heap_new _ _ rfl)
  rw[<-hwa];have hza:w2.heap.size<wa.heap.size:=by rw[hwa];simp;omega
  clear hwa r0 r1 r2 r3 r4 t0 t1 t2 t3 t4 r60 r61 r40 r41;refine⟨trivial,(CallsIn.inRound l (callsIn_wide.2 (qadd_c (L:=(20*L+21)*(D'.length+1)) (M:=20*L+20) (HMM2.out.bel hbE).qv.2.2 (HY2.out.bel hbE).qv.2.2 hp3 HYQ.out (by have:=Nat.mul_le_mul_left (20*L+21) (show D'.length+1<=5001 by have:=HB.out.few;simp at this;omega);omega)))).mono ?_⟩;rintro e w3 ⟨vq,rfl,hq,hb3⟩;obtain⟨xq,aq,nq,cq,kq,rfl⟩:=hq.cells
  have hbG:Bel w2.heap.size w2 w3:=hbE.trans (hb3.mono hbE.size);have HSB3:=LH (HSB2.out.call hbG);have HSW4:=LH (HSW3.out.call hbG);have hk12:=(hbG.block _ hz12).trans HK12b.out;have hk13:=(hbG.block _ hz13).trans HK13.out;have hk14':=(hb3.block _ hza).trans hk14;have HMM3:=LH (HMM2.out.bel hbG);have HY3:=LH (HY2.out.bel hbG);have HW3:Hid (Bel W.heap.size W w3):=HW2.out.trans (hbG.mono hz2)
  have HQ3:=LH hq;have hz3:=hbG.size;have HVQ:Hid (QF ((20*L+21)*((m::D').length+1)) (m.cost+y.cost)):=(hp3.add HYQ.out).mono (by rw[show(m::D').length+1=(D'.length+1)+1 by simp,Nat.mul_succ,Nat.add_assoc];exact Nat.le_refl _);have hKB:Hid ((20*L+21)*((m::D').length+1)<=100145042):=by show _<=20021*5002;exact Nat.mul_le_mul (by omega) (by have:=HB.out.few;simp at this|-;omega)
  clear hbE hk14 hb3 hbG HSB2 HSW3 HK12b HK13 HMM2 HY2 HW2 hq hz12 hz13 lD lO l1 l4 l6;obtain⟨r60,r61⟩:=row1 HSW4.out.b6;obtain⟨r40,r41⟩:=row1 HSW4.out.b4;obtain⟨lD,lO,l1,l4,l6⟩:=HSW4.out.lt;obtain⟨r0,r1,r2,r3,r4⟩:=row5 hk12;obtain⟨t0,t1,t2,t3,t4⟩:=row5 hk13;obtain⟨k0,k1,k2,k3,k4⟩:=row5 hk14';have hz12:=BlkT.lt ⟨_,_,hk12⟩;have hz13:=BlkT.lt ⟨_,_,hk13⟩;have hz14:=BlkT.lt ⟨_,_,hk14'⟩;have HK12b:=LH hk12
  have HK13:=LH hk13;have HK14:=LH hk14';clear hk12 hk13 hk14' hza
  gi_wp2_with (gi_at_lookup;refine wpListIn_look_m rfl (.tmp 91) (.tmp 92) rfl rfl (HSW4.out.call Bel.new).opn HSO.out HKV.out.symm (fun e9 ph9 ho9 hl9 hc9 y9 a9 q9 c9 k9 he9 hes9 hm9=>?_) (fun hno9=>?_))
  .obtain⟨wb,hwb⟩:∃wb,wb=(w3.alloc (.cells #[.bool xq,.slice aq nq nq,.slice cq kq kq] 39)).alloc (.cells #[.int .i64 ph9,.slice ho9 hl9 hc9,.bool y9,.slice a9 q9 q9,.slice c9 k9 k9] 158):=⟨_,rfl⟩
   have hbB:Bel w3.heap.size w3 wb:=by rw[hwb];exact((Bel.refl w3.heap.size w3).alloc NL _).alloc (by simp) _
   have hk17:wb.heap[w3.heap.size]?=some (.cells #[.bool xq,.slice aq nq nq,.slice cq kq kq] 39):=by rw[hwb];exact(heap_old _ _ (by simp)).trans (heap_new _ _ rfl)
   have hm9':=hm9.pres (Pres.alloc _ (.cells #[.int .i64 ph9,.slice ho9 hl9 hc9,.bool y9,.slice a9 q9 q9,.slice c9 k9 k9] 158)) (Pres.alloc _ _);rw[<-hwb]at hm9';have hzb:w3.heap.size<wb.heap.size:=by rw[hwb];simp;omega
   rw[<-hwb];clear hwb;refine⟨trivial,(CallsIn.inRound l (callsIn_wide.2 (qcmp_c (HQ3.out.pres hbB.pb) hm9'.qv.2.2 HVQ.out (HB.out.size e9 (List.mem_append_right _ he9)) (by have:=hKB.out;omega)))).mono ?_⟩;rintro e w4 ⟨rfl,hb4⟩;have hbz:Bel w3.heap.size w3 w4:=hbB.trans (hb4.mono hbB.size);have hk17:=(hb4.block _ hzb).trans hk17;obtain⟨z,hz⟩:∃z,z=cmpR (m.cost+y.cost) e9.cost:=⟨_,rfl⟩
   rw[<-hz];have HZ:=LH hz;clear hz hm9 hm9' hb4 hbB;have HSB5:=LH (HSB3.out.call hbz);have HSW5:=LH (HSW4.out.call hbz);have hk12:=(hbz.block _ hz12).trans HK12b.out;have hk13:=(hbz.block _ hz13).trans HK13.out;have hk14:=(hbz.block _ hz14).trans HK14.out;have HMM5:=LH (HMM3.out.bel hbz);have HY5:=LH (HY3.out.bel hbz);have HW5:Hid (Bel W.heap.size W w4):=HW3.out.trans (hbz.mono (Nat.le_trans hz2 hz3))
   have HQ5:=LH (HQ3.out.pres hbz.pb);clear r0 r1 r2 r3 r4 t0 t1 t2 t3 t4 k0 k1 k2 k3 k4 r60 r61 r40 r41 HSB3 HSW4 HK12b HK13 HK14 HMM3 HY3 HW3 HQ3 hbz lD lO l1 l4 l6;obtain⟨r60,r61⟩:=row1 HSW5.out.b6;obtain⟨r0,r1,r2,r3,r4⟩:=row5 hk12;obtain⟨t0,t1,t2,t3,t4⟩:=row5 hk13;obtain⟨k0,k1,k2,k3,k4⟩:=row5 hk14;obtain⟨j0,j1,j2,-,-,-⟩:=row3 hk17;have HK12b:=LH hk12;have HPV:Hid (MoveV w4 (.agg #[.int .i64 ph2,.slice ho2 hl2 hc2,.bool xq,.slice aq nq nq,.slice cq kq kq]) ⟨y.dst,m.cost+y.cost⟩):=⟨_,_,_,_,_,_,by rw[HY5.out.qv.1],HY5.out.qv.2.1,HQ5.out⟩
   clear hk12 hk13 hk14 hk17
   by_cases hz0:z<0
   .have hzd:decide (z<0)=true:=decide_eq_true hz0
    gi_wp2_with (gi_at_mapUpdate;refine wpListIn_upd (e:=⟨y.dst,m.cost+y.cost⟩) (l:=O'') (Ok:=MoveV) (ky:=MoveD.dst) _ rfl (.tmp 105) (.tmp 106) (.tmp 110) 151 158 rfl Tryz.underlying151 rfl HSW5.out.opn (by unfold maxLen;simp at h3;omega) HSO.out HKV.out.symm HPV.out (fun _ _ _=>moveTrn) ?_;intro w5 hm5 ht5)
    obtain⟨hmid,hstl⟩:=HB.out.toMid.put (m:=m) List.mem_cons_self rfl hne HYC.out HYM.out HVQ.out (by
     cases hh:hasL y.dst (m::D')
     .rfl
     .obtain⟨e,he,hee⟩:=hasL_iff.1 hh;exact absurd hee (hno e he)) (fun o ho hoe=>by
     obtain rfl:=dst_inj HB.out.nodup.right ho he9 (by rw[hoe,hes9]);exact cmpR_lt.1 (by rw[<-HZ.out];exact hz0))
    have hpl:=putL_len ⟨y.dst,m.cost+y.cost⟩ O'';exact⟨(Others.of_bel HW5.out).trans (ht5.others hbO),(KpI.of_bel HW5.out).trans ht5.kpi,putL ⟨y.dst,m.cost+y.cost⟩ O'',HSB5.out.turnO ht5 hm5,HB.out.of hmid hstl,by simp at h3|-;omega,ht5.pres _ _ _ _ HK12b.out,HMM5.out.pres (ht5.pres _) (ht5.pres _)⟩
   .have hzd:decide (z<0)=false:=decide_eq_false hz0
    gi_wp2
    exact⟨Others.of_bel HW5.out,KpI.of_bel HW5.out,O'',HSB5.out,HB.out.of (HB.out.toMid.keep (m:=m) List.mem_cons_self rfl he9 hes9 (by
     have h1:¬m.cost+y.cost<e9.cost:=fun e=>by have h2:z<0:=(by rw[HZ.out];exact cmpR_lt.2 e);omega
     grind)) (fun _ ho _=>ho),by simp at h3|-;omega,HK12b.out,HMM5.out⟩
  .refine⟨trivial,?_⟩;obtain⟨wb,hwb⟩:∃wb,wb=(w3.alloc (.cells #[.bool xq,.slice aq nq nq,.slice cq kq kq] 39)).alloc (.cells #[.int .i64 0,.slice none 0 0,.bool false,.slice none 0 0,.slice none 0 0] 158):=⟨_,rfl⟩
   have hbz:Bel w3.heap.size w3 wb:=by rw[hwb];exact((Bel.refl w3.heap.size w3).alloc NL _).alloc (by simp) _
   have hk17:wb.heap[w3.heap.size]?=some (.cells #[.bool xq,.slice aq nq nq,.slice cq kq kq] 39):=by rw[hwb];exact(heap_old _ _ (by simp)).trans (heap_new _ _ rfl)
   rw[<-hwb];clear hwb;have HSB5:=LH (HSB3.out.call hbz);have HSW5:=LH (HSW4.out.call hbz);have hk12:=(hbz.block _ hz12).trans HK12b.out;have hk13:=(hbz.block _ hz13).trans HK13.out;have hk14:=(hbz.block _ hz14).trans HK14.out;have HMM5:=LH (HMM3.out.bel hbz);have HY5:=LH (HY3.out.bel hbz);have HW5:Hid (Bel W.heap.size W wb):=HW3.out.trans (hbz.mono (Nat.le_trans hz2 hz3));have HQ5:=LH (HQ3.out.pres hbz.pb)
   clear r0 r1 r2 r3 r4 t0 t1 t2 t3 t4 k0 k1 k2 k3 k4 r60 r61 r40 r41 HSB3 HSW4 HK12b HK13 HK14 HMM3 HY3 HW3 HQ3 hbz lD lO l1 l4 l6;obtain⟨r60,r61⟩:=row1 HSW5.out.b6;obtain⟨r0,r1,r2,r3,r4⟩:=row5 hk12;obtain⟨t0,t1,t2,t3,t4⟩:=row5 hk13;obtain⟨k0,k1,k2,k3,k4⟩:=row5 hk14;obtain⟨j0,j1,j2,-,-,-⟩:=row3 hk17;have HK12b:=LH hk12;have HPV:Hid (MoveV wb (.agg #[.int .i64 ph2,.slice ho2 hl2 hc2,.bool xq,.slice aq nq nq,.slice cq kq kq]) ⟨y.dst,m.cost+y.cost⟩):=⟨_,_,_,_,_,_,by rw[HY5.out.qv.1],HY5.out.qv.2.1,HQ5.out⟩
   clear hk12 hk13 hk14 hk17
   gi_wp2_with (gi_at_mapUpdate;refine wpListIn_upd (e:=⟨y.dst,m.cost+y.cost⟩) (l:=O'') (Ok:=MoveV) (ky:=MoveD.dst) _ rfl (.tmp 105) (.tmp 106) (.tmp 110) 151 158 rfl Tryz.underlying151 rfl HSW5.out.opn (by unfold maxLen;simp at h3;omega) HSO.out HKV.out.symm HPV.out (fun _ _ _=>moveTrn) ?_;intro w5 hm5 ht5)
   obtain⟨hmid,hstl⟩:=HB.out.toMid.put (m:=m) List.mem_cons_self rfl hne HYC.out HYM.out HVQ.out (by
    cases hh:hasL y.dst (m::D')
    .rfl
    .obtain⟨e,he,hee⟩:=hasL_iff.1 hh;exact absurd hee (hno e he)) (fun o ho hoe=>absurd hoe (hno9 o ho))
   have hpl:=putL_len ⟨y.dst,m.cost+y.cost⟩ O'';exact⟨(Others.of_bel HW5.out).trans (ht5.others hbO),(KpI.of_bel HW5.out).trans ht5.kpi,putL ⟨y.dst,m.cost+y.cost⟩ O'',HSB5.out.turnO ht5 hm5,HB.out.of hmid hstl,by simp at h3|-;omega,ht5.pres _ _ _ _ HK12b.out,HMM5.out.pres (ht5.pres _) (ht5.pres _)⟩
end
def atL (s:StateD)(l:List MoveD):Rat:=((l.find? fun x=>decide (x.dst=s)).map (·.cost)).getD 0
theorem atL_of {l:List MoveD}(h:NdL l){m:MoveD}(hm:m∈l):atL m.dst l=m.cost:=by
 unfold atL
 cases hf:l.find? fun x=>decide (x.dst=m.dst)with
 |none=>exact absurd (List.find?_eq_none.1 hf m hm) (by simp)
 |some y=>
  have h1:=List.find?_some hf;simp only[decide_eq_true_eq]at h1;obtain rfl:=dst_inj h (List.mem_of_find?_eq_some hf) hm h1;rfl
def hitE (D:List MoveD)(t:StateD)(e:MoveD×MoveD):Bool:=decide (e.2.dst=t) && decide (e.1.cost+e.2.cost=atL t D)
def FromI (D:List MoveD)(evs:List (MoveD×MoveD))(F:List (StateD×StateD)):Prop:=∀t s,(t,s)∈F ↔ ∃e,evs.find? (hitE D t)=some e/\s=e.1.dst
theorem FromI.nil (D:List MoveD):FromI D [] []:=fun t s=>by simp
theorem FromI.skip {D:List MoveD}{evs:List (MoveD×MoveD)}{F:List (StateD×StateD)}{e:MoveD×MoveD}(h:FromI D evs F)(hs:(∃s,(e.2.dst,s)∈F)\/e.1.cost+e.2.cost≠atL e.2.dst D):FromI D (evs++[e]) F:=fun t s=>by
 rw[h t s,List.find?_append]
 cases hf:evs.find? (hitE D t)with
 |some e'=>simp
 |none=>
  have hn:hitE D t e=false:=by
   unfold hitE
   by_cases ht:e.2.dst=t
   .subst ht;rcases hs with⟨s',hs'⟩|hs'
    .obtain⟨e',he',-⟩:=(h e.2.dst s').1 hs';rw[hf]at he';cases he'
    .simp[hs']
   .simp[ht]
  simp[hn]
theorem FromI.put {D:List MoveD}{evs:List (MoveD×MoveD)}{F:List (StateD×StateD)}{e:MoveD×MoveD}(h:FromI D evs F)(hn:∀s,(e.2.dst,s) ∉ F)(hh:e.1.cost+e.2.cost=atL e.2.dst D):
 FromI D (evs++[e]) ((e.2.dst,e.1.dst)::F.filter fun x=>decide (x.1≠e.2.dst)):=fun t s=>by
 rw[List.mem_cons,List.mem_filter,List.find?_append]
 by_cases ht:t=e.2.dst
 .subst ht
  have hf:evs.find? (hitE D e.2.dst)=none:=by
   cases hf:evs.find? (hitE D e.2.dst)with
   |none=>rfl
   |some e'=>exact absurd ((h _ _).2 ⟨e',hf,rfl⟩) (hn _)
  have hx:hitE D e.2.dst e=true:=by simp[hitE,hh]
  simp[hf,hx]
 .have hx:hitE D t e=false:=by simp[hitE,Ne.symm ht]
  have h1:=h t s
  cases hf:evs.find? (hitE D t)with
  |none=>
   rw[hf]at h1;simp[hx,ht,h1]
  |some e'=>
   rw[hf]at h1;simp[ht,h1]
def evsOf (p:ProbD)(ms:List MoveD):List (MoveD×MoveD):=ms.flatMap fun a=>(movesL p a.dst).map fun x=>(a,x)
theorem find_evs {p:ProbD}{q:MoveD×MoveD->Bool}:∀{ms:List MoveD} {a:MoveD},ms.find? (fun a=>(movesL p a.dst).any fun x=>q (a,x))=some a->∃e,(evsOf p ms).find? q=some e/\e.1=a
 |[],_,h=>by simp at h
 |m::r,a,h=>by
  unfold evsOf;rw[List.flatMap_cons,List.find?_append];rw[List.find?_cons]at h
  cases hc:(movesL p m.dst).any fun x=>q (m,x)with
  |true=>
   rw[hc]at h
   cases h
   obtain⟨x,hx,hqx⟩:=List.any_eq_true.1 hc
   cases hf:((movesL p m.dst).map fun x=>(m,x)).find? q with
   |none=>exact absurd hqx (by simpa using List.find?_eq_none.1 hf (m,x) (List.mem_map.2 ⟨x,hx,rfl⟩))
   |some e=>
    obtain⟨y,-,rfl⟩:=List.mem_map.1 (List.mem_of_find?_eq_some hf);exact⟨(m,y),rfl,rfl⟩
  |false=>
   rw[hc]at h
   have hf:((movesL p m.dst).map fun x=>(m,x)).find? q=none:=List.find?_eq_none.2 fun e he=>by
    obtain⟨x,hx,rfl⟩:=List.mem_map.1 he;have:=List.any_eq_false.1 hc x hx
    simpa using this
   rw[hf];obtain⟨e,he,h2⟩:=find_evs h;exact⟨e,he,h2⟩
theorem FromI.prev {p:ProbD}{D ms:List MoveD}{F:List (StateD×StateD)}(h:FromI D (evsOf p ms) F){m a:MoveD}(hm:atL m.dst D=m.cost)(ha:prevL p ms m.dst m.cost=some a):(m.dst,a.dst)∈F:=by
 have h1:ms.find? (fun a=>(movesL p a.dst).any fun x=>hitE D m.dst (a,x))=some a:=by
  rw[<-ha];unfold prevL
  congr 1
  funext b;unfold fromB hitE;simp only[hm]
 obtain⟨e,he,rfl⟩:=find_evs h1;exact(h _ _).2 ⟨e,he,rfl⟩
def lessN (ms:List MoveD)(c:Rat):Nat:=ms.countP fun x=>decide (x.cost<c)
theorem lessN_lt {ms:List MoveD}{a:MoveD}{c:Rat}(ha:a∈ms)(h:a.cost<c):lessN ms a.cost<lessN ms c:=by
 unfold lessN
 induction ms with
 |nil=>cases ha
 |cons m r ih=>
  have hle:∀r:List MoveD,r.countP (fun x=>decide (x.cost<a.cost))<=r.countP (fun x=>decide (x.cost<c)):=fun r=>List.countP_mono_left fun x _ hx=>by
   simp only[decide_eq_true_eq]at hx|-;grind
  rw[List.countP_cons,List.countP_cons];rcases List.mem_cons.1 ha with rfl|ha
  .have h1:¬a.cost<a.cost:=by grind
   have:=hle r;simp[h,h1];omega
  .have:=ih ha
   have h3:(if decide (m.cost<a.cost)=true then 1 else 0)<=(if decide (m.cost<c)=true then(1:Nat) else 0):=by
    by_cases h4:m.cost<a.cost
    .have h5:m.cost<c:=by grind
     simp[h4,h5]
    .simp[h4]
   omega
theorem lessN_le (ms:List MoveD)(c:Rat):lessN ms c<=ms.length:=List.countP_le_length
def WayIn (p:ProbD)(ms:List MoveD)(m c:MoveD)(out:List StateD):Prop:=∃pre,out=pre++[c.dst]/\∀l,WayB p ms c.dst c.cost l->WayB p ms m.dst m.cost (pre++l)
theorem WayIn.start (p:ProbD)(ms:List MoveD)(m:MoveD):WayIn p ms m m [m.dst]:=⟨[],rfl,fun _l h=>h⟩
theorem WayIn.step {p:ProbD}{ms:List MoveD}{m c a:MoveD}{out:List StateD}(h:WayIn p ms m c out)(h0:0<c.cost)(ha:prevL p ms c.dst c.cost=some a):WayIn p ms m a (out++[a.dst]):=by
 obtain⟨pre,rfl,hl⟩:=h;refine⟨pre++[c.dst],rfl,fun l hw=>?_⟩;rw[List.append_assoc];exact hl _ (.step h0 ha hw)
theorem WayIn.done {p:ProbD}{ms:List MoveD}{m c:MoveD}{out:List StateD}(h:WayIn p ms m c out)(h0:¬0<c.cost):WayB p ms m.dst m.cost out:=by
 obtain⟨pre,rfl,hl⟩:=h;exact hl _ (.base h0)
section
open Go.Maps (Keyed)
attribute [local go_sem] Oper.semAt_some
theorem infoMark:(Tryz.prog.info? 158).map (fun i=>(i.zero,i.size,i.bytes))=some (some (.agg #[.int .i64 0,.slice none 0 0,.bool false,.slice none 0 0,.slice none 0 0]),5,88):=by kernel_rfl
theorem row1_then {w:World}{b:Nat}{x:Value}{T:TypeId}{G:Prop}(h:w.heap[b]?=some (.cells #[x] T))(k:w.cell? ⟨b,0,none⟩=some x->w.frozen? ⟨b,0,none⟩=false->w.heap[b]?=some (.cells #[x] T)->G):G:=k (row1 h).1 (row1 h).2 h
theorem set1_heap {w:World}{b:Nat}{x v:Value}{T:TypeId}(h:w.heap[b]?=some (.cells #[x] T)):(w.setCell ⟨b,0,none⟩ v).heap[b]?=some (.cells #[v] T):=by simp[World.setCell,Array.getElem?_modify,h]
theorem MapM.setBox {n:Nat}{w:World}{b B:Nat}{l:List MoveD}{x:Value}{T:TypeId}(h:MapM n w b l)(hB:w.heap[B]?=some (.cells #[x] T))(hT:T≠3/\T≠232)(v:Value):MapM n (w.setCell ⟨B,0,none⟩ v) b l:=by
 obtain⟨es,c,hb⟩:=h.obj;refine h.heap (Below.heap_setCell _ _ _ _ (fun e=>?_)) fun v e he=>he.pres (Pres.setCell (a:=⟨B,0,none⟩) hB hT.1.symm _) (Pres.setCell (a:=⟨B,0,none⟩) hB hT.2.symm _);simp only at e;rw[e,hB]at hb
 cases hb
def Many (p:ProbD):Prop:=∃l:List StateD,l.Nodup/\5000<l.length/\∀s∈l,∃c,Reach p s c
theorem wpList_mk_g {w:World}{ops:Array Oper}{rest:List Oper}{o:Oper}{a:Act}{Q:Exit->Act->World->Prop}(hg:o.guard=none)(t:TypeId)(hop:o.op=Op.makeMap t none)
 (hK:wpList Tryz.prog ops Q rest (a.put o.dst (.map (some w.heap.size))) (w.alloc (.map #[] 0))):wpList Tryz.prog ops Q (o::rest) a w:=by
 refine wpList_plain hg fun K' hK'=>?_;unfold Oper.wp;simp[execOp,hop,run_makeMap,Result.andThen];exact hK' _ _ hK
def SearchE (p:ProbD)(L:Nat)(e:Ending)(w':World):Prop:=
 (∃b D,e=.returned (.tuple #[.map (some b),.int .i64 0])/\MapM p.walker.legs.toNat w' b D/\IsMarks p D/\D.length<=5000/\∀m∈D,QF ((20*L+21)*5001) m.cost)\/(e=.returned (.tuple #[.map none,.int .i64 5])/\Many p)
theorem search_c (hms:MovesSeqC){w:World}{pv:Value}{p:ProbD}{L:Nat}(hp:PVal w pv p)(hF:ProbF L p)(h1L:1<=L)(hL:L<=1000)(hpr:probB p=true):
 Calls Tryz.prog 61 #[pv] w fun e w'=>SearchE p L e w'/\Bel w.heap.size w w':=by
 have hsf:=start_fine hpr;obtain⟨hl4,hw2,hw16,hlegs⟩:=hsf.len;have hs0:SOk p.walker.legs.toNat ⟨0,p.start⟩:=SOk.of_fine hsf;have HP:=LH hp;obtain⟨g,mo,mc,wo,wc,so,sc,go,gc,epv,-,-,-,hst,-,-⟩:=hp.lit;obtain⟨cs,hcs⟩:∃cs,pv=.agg cs:=⟨_,epv⟩
 have HCL:Hid (∀W0,Bel w.heap.size w W0->Calls Tryz.prog 120 #[.slice so p.start.length sc] W0 (Gives W0 fun v w'=>OwnS 3 1 W0.heap.size w' v p.start.length (intCells p.start))):=fun W0 hb=>by
  obtain⟨ao,cap,e,hcap,hx⟩:=hst
  cases e
  exact cloneI_c (hx.bel hb) (fun _=>rfl) (by have:=hl4;simp at this;omega)
 have e27:cs[27]?=some (.slice so p.start.length sc):=by
  rw[hcs]at epv
  cases epv
  rfl
 clear hst hp epv;subst hcs;generalize p.map.length=n1 at *;generalize p.word.length=n2 at *;generalize hn3:p.start.length=n3 at *;generalize p.goal.length=n4 at *;refine(callsIn_wide (n:=9)).1 ?_;refine callsIn_of_wp_marks Tryz.func61 rfl trivial ?_ rfl;simp only[Tryz.ntmps61,List.size_toArray,List.length_cons,List.length_nil,Nat.reduceAdd,Nat.reduceSub,Array.replicate_succ,Array.replicate_zero,List.push_toArray,List.append_toArray,List.nil_append,List.cons_append]
 refine wpIn_wide.2 ?_;generalize hQ:bodyPostM Fence.wide 9 Tryz.prog Tryz.f61 (fun e w'=>SearchE p L e w'/\Bel w.heap.size w w')=QQ;have HQQ:=LH hQ;clear hQ
 go_wp2_with (refine wpList_mk_g rfl 151 rfl ?_)
 refine(HCL.out _ ((Bel.new.alloc (by simp) _).alloc (by simp;omega) _)).mono ?_;rintro e w5 ⟨v5,rfl,ho5,hb5⟩;obtain⟨ao5,c5,rfl,hc5,hx5⟩:=ho5.cells
 have hm5:MapM p.walker.legs.toNat w5 (w.heap.size+1) []:=by
  have:=MapM.kp (T:=158) (MapG.made (ky:=MoveD.dst) (Ok:=MoveV) (n:=p.walker.legs.toNat) (w.alloc _)) (KpT.of_bel (Bel.new.trans (hb5.mono (by simp)))) (by decide)
  simpa using this
 have hz5:=hb5.size;simp at hz5;have hk1:w5.heap[w.heap.size]?=some (.cells cs 44):=(hb5.block _ (by simp;omega)).trans ((heap_old _ _ (by simp;omega)).trans ((heap_old _ _ (by simp)).trans (heap_new _ _ rfl)));have hk4:w5.heap[w.heap.size+1+1]?=some (.cells #[.map (some (w.heap.size+1))] 151):=(hb5.block _ (by simp)).trans (heap_new _ _ (by simp));have hbw5:Bel w.heap.size w w5:=((Bel.new.alloc (by simp) _).alloc (by simp;omega) _).trans (hb5.mono (by simp;omega))
 have HM5:=LH hm5;have HK1:=LH hk1;have HK4:=LH hk4;have HX5:=LH hx5;clear hb5 hm5 hk1 hk4 ho5 hx5 HCL e27
 go_upto_region 3 with fail
 refine name_world ?_;intro W0 hW0;have hB5:Bel w5.heap.size w5 W0:=by rw[hW0];exact(Bel.refl _ _).alloc NL _
 have hk5:=at_world hW0 (b:=w5.heap.size) (heap_new _ _ rfl);have hz0:w5.heap.size<W0.heap.size:=by rw[hW0];simp
 obtain⟨s0,s1,-,-⟩:=row2 hk5;have HS5:Hid (StateV W0 (.agg #[.int .i64 0,.slice ao5 n3 c5]) ⟨0,p.start⟩):=⟨_,rfl,ao5,c5,by rw[hn3],by rw[hn3];exact hc5,by rw[hn3];exact(HX5.out.bel hB5).mono (by omega)⟩
 have HMV0:Hid (MoveV W0 (.agg #[.int .i64 0,.slice ao5 n3 c5,.bool false,.slice none 0 0,.slice none 0 0]) ⟨⟨0,p.start⟩,0⟩):=by
  obtain⟨hv,e,hh⟩:=HS5.out
  cases e
  exact⟨_,_,_,_,_,_,rfl,hh,QV.zero _⟩
 have HB0:Hid (Bel w.heap.size w W0):=hbw5.trans (hB5.mono hbw5.size);have HM0:Hid (MapM p.walker.legs.toNat W0 (w.heap.size+1) []):=HM5.out.kp (T:=158) (KpT.of_bel hB5) (by decide);have HK10:=LH ((hB5.block _ (by omega)).trans HK1.out);have HK40:=LH ((hB5.block _ (by omega)).trans HK4.out);have hst:SHs w W0 W0.heap.size W0:=SHs.start HB0.out.size NL HB0.out;clear hW0 hB5 hk5 HM5 HK1 HK4 HX5 hbw5
 go_cut [6]from 25 to 30 (fun s6 wx=>∃B6 bO,s6=.pointer (some ⟨B6,0,none⟩)/\wx.heap[B6]?=some (.cells #[.map (some bO)] 151)/\MapM p.walker.legs.toNat wx bO [⟨⟨0,p.start⟩,0⟩]/\W0.heap.size<=bO/\Bel W0.heap.size W0 wx)
 case first=>
  go_region_held3 (fun w'=>(∀(b o:Nat),b<W0.heap.size->w'.cell? ⟨b,o,none⟩=W0.cell? ⟨b,o,none⟩)/\SHs w W0 (W0.heap.size) w') (first|((((try dsimp only);(try (rename _/\_=>hh;rcases hh with⟨hSc,hSb⟩));refine SHs.hold ?_;(repeat first|with_reducible assumption|refine SHs.call ?_ (by with_reducible assumption)|with_reducible refine SHs.alloc ?_ _|refine SHs.setCell ?_ (by(try dsimp only);first|omega|(simp;done)|(simp;omega)) _|with_reducible refine SHs.drew ?_|with_reducible refine SHs.drewN ?_ _);done)))|(exact SHs.hold hS8))
   (first
    |((try (rename _/\_=>hh;rcases hh with⟨hSc,hSb⟩));refine upon_mk (Ok:=MoveV) (ky:=MoveD.dst) (n:=p.walker.legs.toNat) _ (fun _ _=>rfl) ?_;intro w6 hm6 hb6 hz6;have hy6:=hSb.near.size;(try simp at hm6 hz6 hy6);have hS6:=hSb.call hb6)
    |(go_at_call 121;(try (rename _/\_=>hh;rcases hh with⟨hSc,hSb⟩));refine(key_c (HS5.out.pres hSb.near.pb) (by show p.start.length<=4;omega)).mono ?_;rintro e w7 ⟨rfl,hb7⟩;have hz7:=(hSb.call hb7).near.size;have hy7:=hb7.size;(try simp at hy7))
    |((try (rename _/\_=>hh;rcases hh with⟨hSc,hSb⟩));refine upon_upd (l:=[]) (Ok:=MoveV) (ky:=MoveD.dst) (e:=⟨⟨0,p.start⟩,0⟩) _ (fun _ _=>rfl) (by repeat first|with_reducible assumption|refine MapM.kp (T:=158) ?_ (KpT.of_bel (by first|with_reducible assumption|exact(Bel.refl _ _).alloc NL _|exact(Bel.refl _ _).drew)) (by decide)) Tryz.underlying151 (by decide) hs0 rfl (HMV0.out.pres hSb.near.pb hSb.near.pb) (fun _ _ _=>moveTrn) ?_;intro w8 hm8 ht8;have hz8:=Nat.le_of_eq ht8.size.symm;have hy8:=hSb.near.size;(try simp at hz8 hy8);have hS8:SHs w W0 W0.heap.size w8:=⟨hSb.low,hSb.high,hSb.base.trans (ht8.bel (by have:=hSb.low;have:=hSb.high;first|omega|(simp;done)|(simp;omega))),hSb.near.trans (ht8.bel (by have:=hSb.low;have:=hSb.high;first|omega|(simp;done)|(simp;omega)))⟩;(try first|(refine row1_then (w:=w8) (b:=W0.heap.size) (T:=151) (x:=.map none) ((ht8.other _ (by first|omega|(simp;done)|(simp;omega))).trans ((hb7.block _ (by first|omega|(simp;done)|(simp;omega))).trans ((hb6.block _ (by first|omega|(simp;done)|(simp;omega))).trans (heap_new _ _ (by simp))))) ?_;intro kA0 kA1 hrA)|(refine row1_then (w:=w8) (b:=W0.heap.size) (T:=151) (x:=.map none) ((ht8.other _ (by first|omega|(simp;done)|(simp;omega))).trans ((hb6.block _ (by first|omega|(simp;done)|(simp;omega))).trans ((hb7.block _ (by first|omega|(simp;done)|(simp;omega))).trans (heap_new _ _ (by simp))))) ?_;intro kA0 kA1 hrA)|(refine row1_then (w:=w8) (b:=w6.heap.size) (T:=151) (x:=.map none) ((ht8.other _ (by first|omega|(simp;done)|(simp;omega))).trans ((hb7.block _ (by first|omega|(simp;done)|(simp;omega))).trans (heap_new _ _ (by simp)))) ?_;intro kA0 kA1 hrA)|(refine row1_then (w:=w8) (b:=w6.heap.size) (T:=151) (x:=.map none) ((ht8.other _ (by first|omega|(simp;done)|(simp;omega))).trans (heap_new _ _ (by simp))) ?_;intro kA0 kA1 hrA)|(refine row1_then (w:=w8) (b:=w7.heap.size) (T:=151) (x:=.map none) ((ht8.other _ (by first|omega|(simp;done)|(simp;omega))).trans (heap_new _ _ (by simp))) ?_;intro kA0 kA1 hrA)|(refine row1_then (w:=w8) (b:=w7.heap.size) (T:=151) (x:=.map none) ((ht8.other _ (by first|omega|(simp;done)|(simp;omega))).trans ((hb6.block _ (by first|omega|(simp;done)|(simp;omega))).trans (heap_new _ _ (by simp)))) ?_;intro kA0 kA1 hrA))))
  all_goals go_wp2_with fail
  all_goals go_meet
  all_goals(case rel=>((try (rename _/\_=>hh;rcases hh with⟨hSc,hSb⟩));first
   |exact⟨_,_,rfl,heap_new _ _ (by simp),MapM.kp hm8 (T:=158) (KpT.of_bel Bel.new) (by decide),by first|omega|(simp;done)|(simp;omega),hSb.near⟩
   |exact⟨_,_,rfl,set1_heap hrA,MapM.setBox hm8 hrA (by decide) _,by first|omega|(simp;done)|(simp;omega),hSb.near⟩))
 case rest=>
  obtain⟨B6,bO,rfl,hk6,hmO,hbO,hbc⟩:=hcut
  have HSW:Hid (SW w wc p (.agg cs) p.walker.legs.toNat w.heap.size (w.heap.size+1+1) B6 (w.heap.size+1) bO [] 0 [] [⟨⟨0,p.start⟩,0⟩]):=
   ⟨HB0.out.trans (hbc.mono HB0.out.size),⟨by omega,by omega,by omega⟩,⟨_,rfl,(hbc.block _ (by omega)).trans HK10.out⟩,HP.out.bel (HB0.out.trans (hbc.mono HB0.out.size)),(hbc.block _ (by omega)).trans HK40.out,hk6,MapM.kp HM0.out (T:=158) (KpT.of_bel hbc) (by decide),hmO,trivial,Nat.zero_le _⟩
  clear hn3 hk6 hmO hbc HB0 HK10 HK40 HM0 HS5 HMV0 hst HP s0 s1 hbO;generalize w.heap.size+1=bD at *;generalize bD+1=B4 at *;generalize hB1:w.heap.size=B1 at *
  go_wp2_with fail
  refine wp_loop_ghost_k (fun k' a' w'=>∃(u0 u2 u3 u5 u7 u8 u9 u10 u11 u12 u13 u14 u15 u16 u17 u18 u19 u20 u21 u22 u23 u24 u25 u26 u27 u28 u29 u30 u31 u32 u33 u34 u35 u36 u37 u38 u39 u40 u41 u42 u43 u44 u45 u46 u47 u48 u49 u50 u51 u52 u53 u54 u55 u56 u57 u58 u59 u60 u61 u62 u63 u64 u65 u66 u67 u68 u69 u70 u71 u72 u73 u74 u75 u76 u77 u78 u79 u80 u81 u82 u83 u84 u85 u86 u87 u88 u89 u90 u91 u92 u93 u94 u95 u96 u97 u98 u99 u100 u101 u102 u103 u104 u105 u106 u107 u108 u109 u110 u111 u112 u113 u114 u115 u116 u117 u118:Value) (ds:List Deferred),(∃pv D O least tp,SW w w' p pv p.walker.legs.toNat B1 B4 B6 bD bO ds tp D O/\Mid p (20*L+21) D O least ⟨0,[]⟩ []/\D.length+O.length<=5000/\k'=5001-D.length)/\a'=({tmps:=#[u0,.pointer (some ⟨B1,0,none⟩),u2,u3,.pointer (some ⟨B4,0,none⟩),u5,.pointer (some ⟨B6,0,none⟩),u7,u8,u9,u10,u11,u12,u13,u14,u15,u16,u17,u18,u19,u20,u21,u22,u23,u24,u25,u26,u27,u28,u29,u30,u31,u32,u33,u34,u35,u36,u37,u38,u39,u40,u41,u42,u43,u44,u45,u46,u47,u48,u49,u50,u51,u52,u53,u54,u55,u56,u57,u58,u59,u60,u61,u62,u63,u64,u65,u66,u67,u68,u69,u70,u71,u72,u73,u74,u75,u76,u77,u78,u79,u80,u81,u82,u83,u84,u85,u86,u87,u88,u89,u90,u91,u92,u93,u94,u95,u96,u97,u98,u99,u100,u101,u102,u103,u104,u105,u106,u107,u108,u109,u110,u111,u112,u113,u114,u115,u116,u117,u118],defers:=ds}:Act)) 5001 ?aStart ?aRound
  case aStart=>
   (repeat apply Exists.intro)
   refine⟨?aS,rfl⟩;exact⟨_,_,_,_,_,HSW.out,Mid.begin p (by omega),by simp,rfl⟩
  case aRound=>
   intro gk _ wr hinv
   iterate 116 (obtain⟨_,hinv⟩:=hinv)
   obtain⟨ds,hrel,ha⟩:=hinv;subst ha
   try dsimp only
   intro _ _ _ _;obtain⟨pv,D,O,least,tp,hsw,hmid,hdo,hg⟩:=hrel;have HS:=LH hsw;have HMI:=LH hmid;obtain⟨r60,r61⟩:=row1 hsw.b6;obtain⟨r40,r41⟩:=row1 hsw.b4;clear HSW hsw hmid
   by_cases h0:0<O.length
   .have d0:decide (0<O.length)=true:=decide_eq_true h0
    go_wp2_with (first
     |(at_len;refine wpList_len_g _ rfl _ 151 158 rfl Tryz.underlying151 rfl HS.out.opn ?_)
     |(at_range;refine wpList_range_g _ rfl _ 151 158 rfl Tryz.underlying151 rfl HS.out.opn (fun w' v e hb he=>he.bel hb) ?_;intro w2 hrg hb2 hz2))
    go_frame
    have HS2:=LH (HS.out.call hb2);have HRG:=LH hrg;have hzr:=hz2;clear hrg hb2 hz2;have hsbel:=HS.out.bel.size;have hslt:=HS.out.lt;have hmk0:=HS.out.mkd.2;obtain⟨r,hr⟩:∃r,r=wr.heap.size:=⟨_,rfl⟩
    have HR:=LH hr;rw[<-hr]at HRG hsbel hslt hmk0|-;clear hzr hr r60 r61 r40 r41
    go_loopg [7] O.length (fun g s7 wr2=>∃acc,SW w wr2 p pv p.walker.legs.toNat B1 B4 B6 bD bO ds tp D O/\RangeG MoveV MoveD.dst p.walker.legs.toNat wr2 bO r O acc/\RowM 158 wr2 r s7 acc/\g=O.length-acc.length)
    case atStart=>exact⟨[],HS2.out,HRG.out,RowM.nil _ _ _,rfl⟩
    case round=>
     obtain⟨acc,hs2,hrg,hrow,hg2⟩:=hrel;have HS3:=LH hs2;have HROW:=LH hrow;have hrl:=hrg.lt.1;have hfew:=hrg.few;have hbl:=hs2.low;have hbl2:=hs2.lt;obtain⟨so7,sc7,e7⟩:=hrow.shape;clear hs2 HS2 HRG;subst e7
     go_wp2_with (first
      |(at_next;refine wpList_next_m rfl _ rfl rfl hrg (fun hperm=>?_) (fun kv e ph ho hl hc x a1 q c k w3 he hmv hrg3 hst3 hsz3 hen=>?_))
      |(at_builtin;refine wpList_app5 rfl (.tmp 40) (.tmp 42) rfl Tryz.underlying59 infoMark (by decide) rfl (HROW.out.keep ((hst3.pres _).trans ((Pres.alloc _ _).trans (Pres.alloc _ _))) ((hst3.pres _).trans ((Pres.alloc _ _).trans (Pres.alloc _ _))) ((hst3.pres _).trans ((Pres.alloc _ _).trans (Pres.alloc _ _)))) rfl ⟨_,heap_new _ _ (by simp)⟩ (hmv.pres ((Pres.alloc _ _).trans (Pres.alloc _ _)) ((Pres.alloc _ _).trans (Pres.alloc _ _))) (by omega) (by simp;omega) (fun g5 c5' w5' hrow5 hkp5 hb5=>?_)))
     .clear hrg;have hpl:=hperm.length_eq;obtain⟨k,hk,hfk,hmin⟩:=firstI_in (ms:=acc) (by intro e;simp[e]at hpl;omega);obtain⟨ao,cap,f,e8,hcap,hma⟩:=HROW.out.marks;obtain⟨rfl,rfl⟩:so7=ao/\sc7=cap:=by cases e8;exact⟨rfl,rfl⟩
      have HPM:=LH hperm;have HMIN:=LH hmin;have HQF:Hid (∀i,i<acc.length->QF ((20*L+21)*5001) (acc.getD i move0).cost):=fun i hi=>perm_getD hperm (fun m hm=>(HMI.out.size m (List.mem_append_right _ hm)).mono (Nat.mul_le_mul_left _ (by omega))) hi;refine(searchFirst_c (L:=(20*L+21)*5001) HROW.out.marks HQF.out (by omega) (by omega)).mono ?_;rintro e w4 ⟨rfl,hb4⟩;rw[hfk];have HS4:=LH (HS3.out.call hb4)
      have HMA:=LH (hma.bel hb4);clear HS3 HROW hma hmin hperm hfk e8 hrow hbl hbl2 hslt;obtain⟨bl,o,rfl,hbl,ph,ho,hl,hc,x,a,q,c,k',f0,f1,f2,f3,f4,hmv⟩:=HMA.out.el hk;have HQ:=LH hmv.qv.2.2;clear hmv
      go_wp2_with fail
      have hB6:Bel w4.heap.size w4 (w4.alloc (.cells #[.bool x,.slice a q q,.slice c k' k'] 39)):=(Bel.refl _ _).alloc NL _
      have HSB:Hid (SB w (w4.alloc (.cells #[.bool x,.slice a q q,.slice c k' k'] 39)) p p.walker.legs.toNat B1 B4 B6 bD bO ds tp w4.heap.size (some ⟨bl,o,none⟩) f acc (acc.getD k move0).cost D O):=
       ⟨⟨pv,HS4.out.call hB6⟩,HMA.out.bel hB6,⟨_,HQ.out.pres (Pres.alloc _ _),heap_new _ _ rfl⟩⟩
      have hmem:∀j,j<acc.length->acc.getD j move0∈O:=fun j hj=>perm_getD HPM.out (fun m hm=>hm) hj
      have HBT:Hid (Batch p (20*L+21) D O (acc.getD k move0).cost ⟨0,[]⟩ [] acc D.length 0):=by
       refine⟨HMI.out.least (HMI.out.hi _ (hmem k hk)) fun m hm=>?_,fun j _ hj _=>hmem j hj,Nat.le_refl _,Nat.le_refl _,fun⟨j,hj,_⟩=>by omega⟩;obtain⟨j,hj,e⟩:=List.mem_iff_getElem.1 (HPM.out.mem_iff.2 hm);have:=HMIN.out j hj;rw[<-e,<-getD_get hj];exact this
      have HND:Hid (NdL acc):=(MapM.ndl HS4.out.opn).perm HPM.out.symm;clear hB6 hmem HS4 HMA HQ f0 f1 f2 f3 f4;generalize hB10:w4.heap.size=B10 at *;generalize hle:(acc.getD k move0).cost=le at *;have HLE:=LH hle;clear hle;refine wp_loop_ghost_k (fun k' a' w'=>∃(u0 u2 u3 u5 u7 u8 u9 u11 u12 u13 u14 u15 u16 u17 u18 u19 u20 u21 u22 u23 u24 u25 u26 u27 u28 u29 u30 u31 u32 u33 u34 u35 u36 u37 u38 u39 u40 u41 u42 u43 u44 u45 u46 u47 u48 u49 u52 u53 u54 u55 u56 u57 u58 u59 u60 u61 u62 u63 u64 u65 u66 u67 u68 u69 u70 u71 u72 u73 u74 u75 u76 u77 u78 u79 u80 u81 u82 u83 u84 u85 u86 u87 u88 u89 u90 u91 u92 u93 u94 u95 u96 u97 u98 u99 u100 u101 u102 u103 u104 u105 u106 u107 u108 u109 u110 u111 u112 u113 u114 u115 u116 u117 u118:Value) (ds:List Deferred),(∃(i:Nat) (D' O':List MoveD) (tp:Nat),u52=.int .i64 (i:Nat)/\i<=acc.length/\k'=acc.length-i/\SB w w' p p.walker.legs.toNat B1 B4 B6 bD bO ds tp B10 (some ⟨bl,o,none⟩) f acc le D' O'/\Batch p (20*L+21) D' O' le ⟨0,[]⟩ [] acc D.length i/\D'.length+O'.length<=5000+65*i)/\a'=({tmps:=#[u0,.pointer (some ⟨B1,0,none⟩),u2,u3,.pointer (some ⟨B4,0,none⟩),u5,.pointer (some ⟨B6,0,none⟩),u7,u8,u9,.pointer (some ⟨B10,0,none⟩),u11,u12,u13,u14,u15,u16,u17,u18,u19,u20,u21,u22,u23,u24,u25,u26,u27,u28,u29,u30,u31,u32,u33,u34,u35,u36,u37,u38,u39,u40,u41,u42,u43,u44,u45,u46,u47,u48,u49,.slice (some ⟨bl,o,none⟩) O.length sc7,.int .i64 (O.length:Nat),u52,u53,u54,u55,u56,u57,u58,u59,u60,u61,u62,u63,u64,u65,u66,u67,u68,u69,u70,u71,u72,u73,u74,u75,u76,u77,u78,u79,u80,u81,u82,u83,u84,u85,u86,u87,u88,u89,u90,u91,u92,u93,u94,u95,u96,u97,u98,u99,u100,u101,u102,u103,u104,u105,u106,u107,u108,u109,u110,u111,u112,u113,u114,u115,u116,u117,u118],defers:=ds}:Act)) acc.length ?bStart ?bRound
      case bStart=>
       (repeat apply Exists.intro)
       refine⟨?bS,rfl⟩;exact⟨0,D,O,_,rfl,Nat.zero_le _,rfl,HSB.out,HBT.out,by omega⟩
      case bRound=>
       intro gk3 _ wr hinv
       iterate 113 (obtain⟨_,hinv⟩:=hinv)
       obtain⟨ds,hrel,ha⟩:=hinv;subst ha
       try dsimp only
       intro _ _ _ _;obtain⟨i,D',O',tp,rfl,hi,hg3,hsb,hbt,hdo'⟩:=hrel;have HSB':=LH hsb;have HBT':=LH hbt;clear HSB HBT hsb hbt
       by_cases hlt:i<acc.length
       .obtain⟨bl',o',e',-,ph,ho,hl,hc,x,a,q,c,k',f0,f1,f2,f3,f4,hmv⟩:=HSB'.out.row.el hlt;obtain⟨rfl,rfl⟩:bl=bl'/\o=o':=by cases e';exact⟨rfl,rfl⟩
        have HMV:=LH hmv;have hsl:=HSB'.out.sw;clear hmv e'
        go_upto_region 14 with fail
        refine name_world ?_;intro W1 hW1;have hB1:Bel wr.heap.size wr W1:=by rw[hW1];exact(Bel.refl _ _).alloc NL _
        have hk12:=at_world hW1 (b:=wr.heap.size) (heap_new _ _ rfl);have HK12:=LH hk12;have HS1:=LH (HSB'.out.call hB1);have HMV1:=LH (HMV.out.bel hB1);obtain⟨r0,r1,r2,r3,r4⟩:=row5 hk12;obtain⟨cs10,hq10,hk10⟩:=HS1.out.b10;obtain⟨x9,a9,q9,c9,k9,e9⟩:=hq10.cells
        cases e9
        obtain⟨t0,t1,t2,-,-,-⟩:=row3 hk10;have HQ10:=LH hq10;have hz12:wr.heap.size<W1.heap.size:=by rw[hW1];simp
        clear hW1 hk12 hq10 hk10 f0 f1 f2 f3 f4 HSB' HMV hB1;generalize hB12:wr.heap.size=B12 at *
        go_wp2_with fail
        refine(qcmp_c (L:=(20*L+21)*5001) (M:=(20*L+21)*5001) HMV1.out.qv.2.2 HQ10.out (HQF.out i hlt) (by rw[<-HLE.out];exact HQF.out k hk) (by omega)).mono ?_;rintro e w2 ⟨rfl,hb2⟩;have HK12':=LH ((hb2.block _ hz12).trans HK12.out);have HS2':=LH (HS1.out.call hb2);have HMV2:=LH (HMV1.out.bel hb2);have hz12':B12<w2.heap.size:=Nat.lt_of_lt_of_le hz12 hb2.size;clear hb2 HK12 HS1 HMV1 HQ10 t0 t1 t2 r0 r1 r2 r3 r4
        by_cases hne:(acc.getD i move0).cost=le
        .have hcz:cmpR (acc.getD i move0).cost le=0:=cmpR_eq.2 hne;rw[hcz];obtain⟨hpop1,hpop2,hpop3⟩:=HBT'.out.pop HND.out hlt hne;have HP1:=LH hpop1;have HP2:=LH hpop2;have HP3:=LH hpop3;clear hpop1 hpop2 hpop3 hcz;obtain⟨r0,r1,r2,r3,r4⟩:=row5 HK12'.out;obtain⟨pv',hsw⟩:=HS2'.out.sw;have HSW':=LH hsw;obtain⟨r60,r61⟩:=row1 hsw.b6;obtain⟨r40,r41⟩:=row1 hsw.b4;clear hsw
         go_upto_region 15 with fail
         have HFI:=LH ((HBT'.out.reach _ (List.mem_append_right _ (HBT'.out.still i NL hlt hne))).fine hpr).1;have hsok:Hid (SOk p.walker.legs.toNat (acc.getD i move0).dst):=SOk.of_fine HFI.out;have hm4:(acc.getD i move0).dst.holds.length<=4:=HFI.out.len.1;obtain⟨m,hm⟩:∃m,m=acc.getD i move0:=⟨_,rfl⟩
         rw[<-hm]at HFI hsok hm4 HP1 HP2 HP3 HMV2 hne;have HM:=LH hm;clear hm;refine name_world ?_;intro W0 hW0;have hst:Upd bD (putL m) p.walker.legs.toNat D' w W0 W0:=by rw[hW0];exact Upd.start HSW'.out.bel HSW'.out.low.1 HSW'.out.done
         rw[<-hW0]at HS2' HSW' HMV2 HK12' hz12' r0 r1 r2 r3 r4 r60 r61 r40 r41;have HSV:=LH HMV2.out.stateV;obtain⟨lD,lO,l1,l4,l6⟩:=HSW'.out.lt;clear hW0
         go_region_held3 (fun w'=>(∀(b o:Nat),b<W0.heap.size->w'.cell? ⟨b,o,none⟩=W0.cell? ⟨b,o,none⟩)/\Upd bD (putL m) p.walker.legs.toNat D' w W0 w')
          (((try dsimp only);(try (rename _/\_=>hh;rcases hh with⟨hSc,hSb⟩));refine Upd.hold ?_;(first|with_reducible assumption|(refine Upd.call ?_ (by with_reducible assumption);with_reducible assumption)|(refine Upd.drew ?_;with_reducible assumption))))
          (first
           |(go_at_call 121;(try (rename _/\_=>hh;rcases hh with⟨hSc,hSb⟩));refine(key_c (HSV.out.pres (hSb.pres _)) hm4).mono ?_;rintro e w7 ⟨rfl,hb7⟩)
           |((try (rename _/\_=>hh;rcases hh with⟨hSc,hSb⟩));obtain⟨l0,hl0,hl1,hl2⟩:=hSb.map;refine upon_upd (l:=l0) (Ok:=MoveV) (ky:=MoveD.dst) (e:=m) _ (fun _ _=>rfl) hl0 Tryz.underlying151 (by unfold maxLen;omega) hsok.out rfl (HMV2.out.pres (hSb.pres _) (hSb.pres _)) (fun _ _ _=>moveTrn) ?_;intro w8 hm8 ht8;have hU8:=hSb.turn ht8 hm8 hl1 (putL_putL m) (putL_len m _)))
         clear r0 r1 r2 r3 r4 r60 r61 r40 r41 hst;have HS8:Hid (SB w w8 p p.walker.legs.toNat B1 B4 B6 bD bO ds tp B10 (some ⟨bl,o,none⟩) f acc le (m::D') O'):=HS2'.out.updD hU8 (by rw[<-HP1.out,<-hl1];exact hm8);have HK8:=LH (hU8.pres _ _ _ _ HK12'.out);have HMV8:=LH (HMV2.out.pres (hU8.pres _) (hU8.pres _));have hz8:B12<w8.heap.size:=Nat.lt_of_lt_of_le hz12' hU8.size;clear HS2' HMV2 HK12' hm8 ht8 hb7 hU8 hl0 hl1 hl2 HSV lD lO l1 l4 l6 hz12' HSW'
         obtain⟨r0,r1,r2,r3,r4⟩:=row5 HK8.out;obtain⟨pv',hsw⟩:=HS8.out.sw;have HSW':=LH hsw;obtain⟨r60,r61⟩:=row1 hsw.b6;obtain⟨r40,r41⟩:=row1 hsw.b4;clear hsw
         go_upto_region 16 with fail
         refine name_world ?_;intro Wb hWb;have hst:Upd bO (delL m.dst) p.walker.legs.toNat O' w Wb Wb:=by rw[hWb];exact Upd.start HSW'.out.bel HSW'.out.low.2.1 HSW'.out.opn
         rw[<-hWb]at HS8 HSW' HMV8 HK8 hz8 r0 r1 r2 r3 r4 r60 r61 r40 r41;have HSV:=LH HMV8.out.stateV;obtain⟨lD,lO,l1,l4,l6⟩:=HSW'.out.lt;clear hWb
         go_region_held3 (fun w'=>(∀(b o:Nat),b<Wb.heap.size->w'.cell? ⟨b,o,none⟩=Wb.cell? ⟨b,o,none⟩)/\Upd bO (delL m.dst) p.walker.legs.toNat O' w Wb w')
          (((try dsimp only);(try (rename _/\_=>hh;rcases hh with⟨hSc,hSb⟩));refine Upd.hold ?_;(first|with_reducible assumption|(refine Upd.call ?_ (by with_reducible assumption);with_reducible assumption)|(refine Upd.drew ?_;with_reducible assumption))))
          (first
           |(go_at_call 121;(try (rename _/\_=>hh;rcases hh with⟨hSc,hSb⟩));refine(key_c (HSV.out.pres (hSb.pres _)) hm4).mono ?_;rintro e w7 ⟨rfl,hb7⟩)
           |((try (rename _/\_=>hh;rcases hh with⟨hSc,hSb⟩));obtain⟨l0,hl0,hl1,hl2⟩:=hSb.map;refine step_del (l:=l0) (Ok:=MoveV) (ky:=MoveD.dst) (s:=m.dst) (b:=bO) _ rfl (.tmp 66) (.tmp 69) 151 158 rfl Tryz.underlying151 rfl hl0 hsok.out rfl (fun _ _ _=>moveTrn) ?_;intro w10 hm10 ht10;have hU10:=hSb.turn ht10 hm10 hl1 (delL_delL _) (Nat.le_succ_of_le (delL_len _ _))))
         clear r0 r1 r2 r3 r4 r60 r61 r40 r41 hst;have HS9:Hid (SB w w10 p p.walker.legs.toNat B1 B4 B6 bD bO ds tp B10 (some ⟨bl,o,none⟩) f acc le (m::D') (delL m.dst O')):=HS8.out.updO hU10 (by rw[<-hl1];exact hm10);have HK9:=LH (hU10.pres _ _ _ _ HK8.out);have HMV9:=LH (HMV8.out.pres (hU10.pres _) (hU10.pres _));have hz9:B12<w10.heap.size:=Nat.lt_of_lt_of_le hz8 hU10.size;clear HS8 HMV8 HK8 hm10 ht10 hb7 hU10 hl0 hl1 hl2 HSV lD lO l1 l4 l6 hz8 HSW'
         obtain⟨r0,r1,r2,r3,r4⟩:=row5 HK9.out;obtain⟨pv',hsw⟩:=HS9.out.sw;have HSW':=LH hsw;obtain⟨cs1,e1,hcs1⟩:=hsw.b1;obtain⟨g',mo',mc',wo',wc',so',sc',go',gc',e2,-,-,-,-,-,-⟩:=hsw.prob.lit;subst e2
         cases e1
         have HLD:=LH (loadP_range hcs1);clear hsw hcs1;have HSV:=LH HMV9.out.stateV
         go_wp2_with (first|(refine wpList_load_g 44 (.tmp 1) rfl _ _ rfl _ _ HLD.out Tryz.underlying44 rfl (by kernel_rfl) rfl ?_)|(go_at_call 94;refine(movesF_c HSW'.out.prob HSV.out).mono ?_;rintro e w11 ⟨rfl,hwk,hb11⟩))
         have HS11:=LH (HS9.out.call hb11);have HK11:=LH ((hb11.block _ hz9).trans HK9.out);have HMV11:=LH (HMV9.out.bel hb11);have HWK:=LH hwk;have hz11:=hb11.size;clear HS9 HK9 HMV9 hwk hb11 HSV HSW' r0 r1 r2 r3 r4 HLD;obtain⟨pv2,hsw2⟩:=HS11.out.sw;have HL11:=LH hsw2.lt;have HMK:=LH hsw2.mkd.2;have HBL:=LH hsw2.bel.size;clear hsw2;refine(wpIn_wide (n:=9)).1 ?_
         refine rangeM_box (gf:=146) (lb:=#[.pointer (some ⟨w10.heap.size+1,0,none⟩),.pointer (some ⟨w10.heap.size,0,none⟩)]) (q:=13) 93 rfl (enters_of Tryz.func146 (by kernel_rfl) rfl) (hms _ _ _ L _ _ _ HFI.out hF h1L HWK.out) (fun A C v x h k=>h.pres (k.pres _) (k.pres _)) (fun h k=>h.trans k) (fun h=>KpI.of_st h)
          (SearchI w p L B1 B4 B6 bD bO ds tp B10 B12 (some ⟨bl,o,none⟩) f acc le m D' D.length i #[.int .i64 ph,.slice ho hl hc,.bool x,.slice a q q,.slice c k' k'])
          (fun _ _ _=>False) (fun s A C ⟨O'',h1,h2,h3,h4,h5⟩ hs=>⟨O'',h1.st hs ⟨HL11.out.1,HL11.out.2.1,HMK.out⟩ HBL.out,h2,h3,hs.cells _ _ _ _ h4,h5.pres (hs.pres _) (hs.pres _)⟩) (fun _ _ _ _ h _=>h)
          ⟨_,HS11.out,HP2.out,by have:=delL_len m.dst O';simp;omega,HK11.out,HMV11.out⟩ ?assign ?body ?done ?stop
         case stop=>
          rintro Dd cd pre W _ _ h _;exact h.elim
         case assign=>
          intro l v x W K hok hK;obtain⟨ph2,ho2,hl2,hc2,x2,a2,n2',c2,k2,rfl⟩:=hok.cells;have hK2:=hK _ rfl;simp only[List.setIfInBounds_toArray,List.set_cons_succ,List.set_cons_zero]at hK2;have HK:=LH hK2;clear hok hK hK2
          gi_wp2
          exact HK.out
         case done=>
          rintro Dd xs W hD rfl ⟨O'',h1,h2,h3,h4,h5⟩ hKd;have HSM:=LH (h1.mark (Nat.le_trans HMK.out hD) (Nat.le_trans HBL.out hD) hKd);rw[List.drop_length]at h2;have HBM:=LH (h2.cur (c':=⟨0,[]⟩));have hml:=movesL_len (s:=m.dst) HFI.out.world;clear h1 h2 h4 h5 hKd;go_wp2
          go_roundg (acc.length-(i+1))
          case rel=>exact⟨i+1,m::D',O'',_,by push_cast;rfl,by omega,rfl,HSM.out,HBM.out,by omega⟩
          case measure=>omega
         case body=>
          rintro l pre csx y B13 W hI hok hk13 hpx;simp only[List.setIfInBounds_toArray,List.set_cons_zero,List.set_cons_succ];exact searchBody_c _ _ _ _ _ _ _ _ _ _ _ _ _ _ _ _ _ _ _ _ _ _ _ _ _ _ _ _ _ _ _ _ _ _ _ _ _ _ _ _ _ _ _ _ _ _ _ _ _ _ _ _ _ _ _ _ _ _ _ _ _ _ _ _ _ _ _ _ _ _ _ _ _ _ _ _ _ _ _ _ _ _ _ _ _ _ _ _ _ _ _ _ _ _ _ _ _ _ _ _ _ _ _ _ _ _ _ _ _ _ _ _ _ _ _ HFI.out hF h1L hL hne HP3.out HL11.out.2.1 hlt (by omega) hI hok hk13 hpx
        .have hcz:¬cmpR (acc.getD i move0).cost le=0:=fun e=>hne (cmpR_eq.1 e);generalize cmpR (acc.getD i move0).cost le=z at hcz|-;go_wp2
         go_roundg (acc.length-(i+1))
         case rel=>exact⟨i+1,D',O',_,by push_cast;rfl,by omega,rfl,HS2'.out,HBT'.out.next hne,by omega⟩
         case measure=>omega
       .have hdn:decide ((i:Int)<acc.length)=false:=decide_eq_false (by omega);obtain rfl:i=acc.length:=by omega
        obtain⟨pv',hsw⟩:=HSB'.out.sw;have HSW':=LH hsw;obtain⟨r60,r61⟩:=row1 hsw.b6;obtain⟨r40,r41⟩:=row1 hsw.b4;clear hsw;have hmore:D.length<D'.length:=HBT'.out.more.2 ⟨k,hk,HLE.out⟩;have hfw:=HBT'.out.few
        go_wp2_with (at_len;refine wpList_len_g _ rfl _ 151 158 rfl Tryz.underlying151 rfl (by first|exact HSW'.out.done|exact HSW'.out.opn) ?_)
        .rename_i hgt
         rw[<-HQQ.out];refine leaves_all HSW'.out.mkd.1 fun W' hst hkp=>?_;refine⟨_,results_tmp2 rfl _ _ _,.inr ⟨rfl,(D'++O').map (·.dst),by have:=HBT'.out.nodup;unfold NdL at this;exact this,by simp;omega,fun s hs=>?_⟩,by rw[<-hB1];exact HSW'.out.bel.trans hst.bel⟩;obtain⟨m,hm,rfl⟩:=List.mem_map.1 hs;exact⟨_,HBT'.out.reach m hm⟩
        .rename_i hgt
         go_roundg (5001-D'.length)
         case rel=>exact⟨pv',D',O',le,_,HSW'.out,HBT'.out.toMid,by omega,rfl⟩
         case measure=>omega
     .clear hrg
      go_roundg (O.length-(acc.length+1))
      case rel=>exact⟨acc++[e],((HS3.out.st hst3 ⟨by omega,by omega,by omega⟩ (by have:=hsbel;omega)).call (Bel.new.alloc (by simp) _)).kp hkp5 (hb5.mono (by have:=hsbel;omega)),(hrg3.kp (T:=158) (KpT.of_bel (Bel.new.alloc (by simp) _)) (by decide)).kp hkp5 (by decide),by simpa using hrow5,by simp⟩
      case measure=>(have:=hrg3.few;simp at this;omega)
   .have d0:decide (0<O.length)=false:=decide_eq_false h0;obtain rfl:O=[]:=List.length_eq_zero_iff.1 (by omega)
    go_wp2_with (at_len;refine wpList_len_g _ rfl _ 151 158 rfl Tryz.underlying151 rfl HS.out.opn ?_)
    rw[<-HQQ.out];refine leaves_all HS.out.mkd.1 fun W' hst hkp=>?_;exact⟨_,results_tmp2 rfl _ _ _,.inl ⟨_,_,rfl,MapG.heap HS.out.done (by obtain⟨es,c,hb⟩:=HS.out.done.obj;exact(hkp _ _ hb (fun e=>by cases e)).trans hb.symm) fun v e he=>he.pres (hst.pres _) (hst.pres _),HMI.out.marks,by omega,fun m hm=>(HMI.out.size m (by simp[hm])).mono (Nat.mul_le_mul_left _ (by omega))⟩,by rw[<-hB1];exact HS.out.bel.trans hst.bel⟩
end
theorem infoMark2:(Tryz.prog.info? 158).map (fun i=>(i.zero,i.size,i.bytes))=some (some (.agg #[.int .i64 0,.slice none 0 0,.bool false,.slice none 0 0,.slice none 0 0]),5,88):=by kernel_rfl
theorem MarksAt.one {w:World}{ao:Option Addr}{ms:List MoveD}{f:Nat->Value}(h:MarksAt w ao ms f){j:Nat}(hj:j<ms.length*5):(f j).oneCell'=true:=by
 have hi:j/5<ms.length:=by omega
 obtain⟨ph,ho,hl,hc,x,a,n,c,k,e⟩:=(h.at' (j/5) hi).cells;simp only[Value.agg.injEq,Array.mk.injEq,List.cons.injEq,and_true]at e;obtain⟨e0,e1,e2,e3,e4⟩:=e;have h5:=Nat.mod_lt j (show 0<5 by omega);have hd:j=j/5*5+j%5:=by omega
 rw[hd];generalize j%5=c at h5;obtain rfl|rfl|rfl|rfl|rfl:c=0\/c=1\/c=2\/c=3\/c=4:=by omega
 .rw[Nat.add_zero,e0];rfl
 .rw[e1];rfl
 .rw[e2];rfl
 .rw[e3];rfl
 .rw[e4];rfl
theorem RowM.of_own {w:World}{base:Nat}{v:Value}{ms:List MoveD}{f:Nat->Value}(h:OwnS 158 5 base w v ms.length f)(hm:∀i,i<ms.length->MoveV w (.agg #[f (i*5),f (i*5+1),f (i*5+2),f (i*5+3),f (i*5+4)]) (ms.getD i move0)):RowM 158 w base v ms:=by
 obtain⟨xs,hr,hx⟩:=h;exact⟨xs,hr,fun i hi=>⟨_,_,_,_,_,by rw[hx _ (by omega)],by rw[hx _ (by omega)],by rw[hx _ (by omega)],by rw[hx _ (by omega)],by rw[hx _ (by omega)],hm i hi⟩⟩
theorem cloneM_c {w:World}{ao:Option Addr}{cap:Nat}{ms:List MoveD}{f:Nat->Value}(hm:MarksAt w ao ms f)(hlen:ms.length<=1000000):
 Calls Tryz.prog 66 #[.slice ao ms.length cap] w (Gives w fun v w'=>RowM 158 w' w.heap.size v ms):=by
 have q (W:World) (a:Option Addr) (n c n' c':Nat):(binOp .eql 59 (.slice a n c) (.slice none n' c')).run Tryz.prog W=.ok (.bool a.isNone) W:=Lib.run_eql_slice_nil W _ _ a n c n' c' Tryz.underlying59;obtain⟨n,hn⟩:∃n,n=ms.length:=⟨_,rfl⟩
 have HM:=LH hm;have HN:=LH hn;rw[<-hn]at hlen|-
 cases ao with
 |none=>
  have h0:ms=[]:=by
   by_cases h:ms.length=0
   .exact List.length_eq_zero_iff.1 h
   .obtain⟨_,_,e,_⟩:=hm.cells.open (by omega);cases e
  subst h0;clear hm hn
  go_enter Tryz.func66,Tryz.ntmps66
  go_wp2;go_ret;exact⟨_,rfl,RowM.nil _ _ _,Bel.refl _ _⟩
 |some a=>
  obtain⟨F,hF⟩:∃F:Nat->Value,F=fun j=>if j<n*5 then f j else .int .i64 0:=⟨_,rfl⟩
  have hFe:∀j,j<n*5->F j=f j:=fun j hj=>by rw[hF];simp[hj]
  have h1:∀j,(F j).oneCell'=true:=fun j=>by
   by_cases hj:j<n*5
   .rw[hFe j hj];exact hm.one (by rw[<-hn];exact hj)
   .rw[hF];simp[hj];rfl
  have HC:Hid (CellsAt 158 w (some a) (n*5) F):=by
   show CellsAt _ _ _ _ _
   rw[hn];exact hm.cells.congr fun j hj=>(hFe j (by rw[hn];exact hj)).symm
  have HFE:=LH hFe;have H1:=LH h1;have HO:=LH (own_made0 158 5 w F);clear hF hFe h1 hm hn
  go_enter Tryz.func66,Tryz.ntmps66
  go_wp2_with (at_builtin;refine wpList_append_fn rfl (.tmp 5) (.tmp 6) 59 rfl w.heap.size Tryz.underlying59 infoMark2 rfl (by decide) rfl HO.out rfl (HC.out.pres (Pres.alloc _ _)) H1.out (by unfold maxLen;omega) (by omega) (by simp) ?_;intro v' w' hown hgrow hdr)
  go_ret;rw[Nat.zero_add,HN.out]at hown;have hpw:∀T,T≠158->Pres T w w':=fun T hT=>(Pres.alloc w _).trans (Pres.grownS HO.out hgrow hT);refine⟨_,rfl,RowM.of_own (hown.congr (g:=f) fun j hj=>?_) (fun i hi=>(HM.out.at' i hi).pres (hpw _ (by decide)) (hpw _ (by decide))),Bel.new.grownS HO.out hgrow hdr (by simp) NL⟩;rw[appF_ge _ _ (by omega),Nat.zero_mul,Nat.sub_zero]
  exact HFE.out j (by rw[HN.out];exact hj)
def PredM (K:Nat)(cb:Array Value)(pr:MoveD->Bool)(w:World)(ms:List MoveD):Prop:=∀(W:World) (v:Value) (m:MoveD),KpT 158 w W->MoveV W v m->m∈ms->
 Calls Tryz.prog K (#[v]++cb) W fun e w'=>e=.returned (.bool (pr m))/\Bel W.heap.size W w'
theorem PredM.kp {K:Nat}{cb:Array Value}{pr:MoveD->Bool}{w w':World}{ms:List MoveD}(h:PredM K cb pr w ms)(k:KpT 158 w w'):PredM K cb pr w' ms:=fun W v m hk=>h W v m (k.trans hk)
theorem fine_idx {p:ProbD}{s:StateD}(h:Fine p s):∀i,i<s.holds.length->∃m:Nat,s.holds.getD i 0=m/\m<p.map.length:=fun i hi=>by
 have hh:=h.holds;unfold holdsB at hh;simp only[Bool.and_eq_true,decide_eq_true_eq,Bool.not_eq_true',List.any_eq_false]at hh;have:=hh.2 (s.holds.getD i 0) (by rw[getD_get hi];exact List.getElem_mem hi);unfold outB at this;simp only[Bool.or_eq_true,decide_eq_true_eq,not_or]at this;exact⟨(s.holds.getD i 0).toNat,by omega,by omega⟩
theorem find2_c {w:World}{p:ProbD}{L B:Nat}{cs:Array Value}{ms:List MoveD}(hp:PVal w (.agg cs) p)(hB:w.heap[B]?=some (.cells cs 44))(hF:ProbF L p)(hfi:∀m∈ms,Fine p m.dst):
 PredM 67 #[.pointer (some ⟨B,0,none⟩)] (fun m=>!goalB p m.dst) w ms:=by
 intro W v m hk hm hmem;obtain⟨ph,ho,hl,hc,x,a,n,c,k,rfl⟩:=hm.cells;have hp2:=hp.keep hk.kpi;have hB2:=hk.pres (by decide) _ _ _ hB;have HSV:=LH hm.stateV;have HP:=LH hp2;have HFI:=LH (hfi m hmem);obtain⟨g',mo',mc',wo',wc',so',sc',go',gc',e2,-,-,-,-,-,-⟩:=hp2.lit
 cases e2
 have hlt:=BlkT.lt ⟨_,_,hB2⟩;have HLD0:=LH hB2;have HF:=LH hF;obtain⟨q,hq⟩:∃q,q=goalB p m.dst:=⟨_,rfl⟩
 have HQ:=LH hq;have hq':(fun m:MoveD=>!goalB p m.dst) m=!q:=by rw[hq]
 rw[hq'];clear hp hB hF hfi hm hp2 hB2 hk hmem hq hq'
 go_enter Tryz.func67,Tryz.ntmps67
 go_upto_region 1 with fail
 refine name_world ?_;intro W1 hW1;have hb1:Bel W.heap.size W W1:=by rw[hW1];exact(Bel.refl _ _).alloc NL _
 have hk2:=at_world hW1 (b:=W.heap.size) (heap_new _ _ rfl);obtain⟨r0,r1,r2,r3,r4⟩:=row5 hk2;have HLD:=LH (loadP_range ((hb1.block _ hlt).trans HLD0.out));have HB1:=LH hb1;clear hW1 hk2 hb1
 go_wp2_with (first|(refine wpList_load_g 44 (.tmp 1) rfl _ _ rfl _ _ HLD.out Tryz.underlying44 rfl (by kernel_rfl) rfl ?_)|(go_at_call 68;refine(goal_c (HP.out.bel HB1.out) (HSV.out.pres HB1.out.pb) HF.out (fine_idx HFI.out) (by have:=HFI.out.len;omega)).mono ?_;rintro e w2 ⟨rfl,hb2⟩;rw[<-HQ.out]))
 go_ret;exact⟨rfl,HB1.out.trans (hb2.mono HB1.out.size)⟩
def idxM (pr:MoveD->Bool)(ms:List MoveD)(r:Int):Prop:=(r=-1/\∀i,i<ms.length->pr (ms.getD i move0)=false)\/∃i:Nat,i<ms.length/\r=i/\pr (ms.getD i move0)=true/\∀j,j<i->pr (ms.getD j move0)=false
theorem indexM_c {w:World}{v:Value}{ms:List MoveD}{B:Nat}{pr:MoveD->Bool}(hv:MarksV w v ms)(hp:PredM 67 #[.pointer (some ⟨B,0,none⟩)] pr w ms)(hlen:ms.length<=1000000):
 Calls Tryz.prog 128 #[v,.func (.func 67) #[] #[.pointer (some ⟨B,0,none⟩)]] w fun e w'=>(∃r,e=.returned (.int .i64 r)/\idxM pr ms r)/\Bel w.heap.size w w':=by
 obtain⟨ao,cap,f,rfl,hcap,hma⟩:=hv;obtain⟨n,hn⟩:∃n,n=ms.length:=⟨_,rfl⟩
 have HM:=LH hma;have HP:=LH hp;have HN:=LH hn;rw[<-hn]at hcap hlen|-;clear hma hp hn
 go_enter Tryz.func128,Tryz.ntmps128
 go_wp2
 go_loopg [8] n (fun g s8 wr=>∃i:Nat,g=n-i/\i<=n/\s8=.int .i64 i/\(∀j,j<i->pr (ms.getD j move0)=false)/\Bel w.heap.size w wr)
 case atStart=>exact⟨0,rfl,Nat.zero_le _,rfl,fun j hj=>by omega,Bel.refl _ _⟩
 case round=>
  obtain⟨i,hg,hi,rfl,hno,hbr⟩:=hrel;have HB:=LH hbr;have HNO:=LH hno;clear hno
  by_cases hlt:i<n
  .have HMR:=LH (HM.out.bel hbr);obtain⟨b,o,rfl,hbl,ph,ho,hl,hc,x,a,q,c,k,f0,f1,f2,f3,f4,hmv⟩:=HMR.out.el (i:=i) (by rw[<-HN.out];exact hlt);have HMV:=LH hmv;obtain⟨z,hz⟩:∃z,z=pr (ms.getD i move0):=⟨_,rfl⟩
   have HZ:=LH hz;clear hmv hz hbr
   have hmem:ms.getD i move0∈ms:=by
    have h1:i<ms.length:=by rw[<-HN.out];exact hlt
    rw[getD_get h1];exact List.getElem_mem h1
   go_wp2_with fail
   refine(HP.out wr _ _ (KpT.of_bel HB.out) HMV.out hmem).mono ?_;rintro e w3 ⟨rfl,hb3⟩;rw[<-HZ.out]
   cases z
   .go_wp2
    go_roundg (n-(i+1))
    case rel=>exact⟨i+1,rfl,by omega,by push_cast;rfl,fun j hj=>by
     by_cases e:j=i
     .subst e;exact HZ.out.symm
     .exact HNO.out j (by omega),HB.out.trans (hb3.mono HB.out.size)⟩
    case measure=>omega
   .go_wp2;go_ret;exact⟨⟨_,rfl,.inr ⟨i,by rw[<-HN.out];exact hlt,rfl,HZ.out.symm,HNO.out⟩⟩,HB.out.trans (hb3.mono HB.out.size)⟩
  .obtain rfl:i=n:=by omega
   clear hbr;go_wp2;go_ret;exact⟨⟨_,rfl,.inl ⟨rfl,fun j hj=>HNO.out j (by rw[HN.out];exact hj)⟩⟩,HB.out⟩
def RowC (w:World)(g cap:Nat)(ls:List MoveD):Prop:=∃cur,w.heap[g]?=some (.cells cur 158 (0,0))/\cur.size=cap*5/\ls.length<=cap/\
 ∀i,i<ls.length->∃v0 v1 v2 v3 v4,cur[i*5]?=some v0/\cur[i*5+1]?=some v1/\cur[i*5+2]?=some v2/\cur[i*5+3]?=some v3/\cur[i*5+4]?=some v4/\MoveV w (.agg #[v0,v1,v2,v3,v4]) (ls.getD i move0)
theorem RowC.bel {w w':World}{g cap:Nat}{ls:List MoveD}(h:RowC w g cap ls)(hb:Bel w.heap.size w w'):RowC w' g cap ls:=by
 obtain⟨cur,h1,h2,h3,h4⟩:=h;exact⟨cur,(hb.block _ (Array.getElem?_eq_some_iff.1 h1).1).trans h1,h2,h3,fun i hi=>by obtain⟨v0,v1,v2,v3,v4,a0,a1,a2,a3,a4,hm⟩:=h4 i hi;exact⟨v0,v1,v2,v3,v4,a0,a1,a2,a3,a4,hm.bel hb⟩⟩
theorem RowM.row {w:World}{base:Nat}{v:Value}{ms:List MoveD}(h:RowM 158 w base v ms)(h0:ms≠[]):∃g cap,v=.slice (some ⟨g,0,none⟩) ms.length cap/\base<=g/\ms.length<=cap/\RowC w g cap ms:=by
 obtain⟨xs,⟨hxl,hr⟩,hm⟩:=h;have hpos:0<ms.length:=List.length_pos_iff.2 h0;rcases hr with⟨-,h⟩|⟨g,cap,cur,rfl,hg,hh,hcap,-,hcs,htk⟩
 .omega
 have hcur:∀j,j<ms.length*5->cur[j]?=xs[j]?:=fun j hj=>by
  rw[<-htk,List.getElem?_take,if_pos hj];simp
 refine⟨g,cap,rfl,hg,hcap,cur,hh,hcs,hcap,fun i hi=>?_⟩;obtain⟨v0,v1,v2,v3,v4,a0,a1,a2,a3,a4,hmv⟩:=hm i hi;exact⟨v0,v1,v2,v3,v4,by rw[hcur _ (by omega)];exact a0,by rw[hcur _ (by omega)];exact a1,by rw[hcur _ (by omega)];exact a2,by rw[hcur _ (by omega)];exact a3,by rw[hcur _ (by omega)];exact a4,hmv⟩
theorem RowC.el {w:World}{g cap:Nat}{ls:List MoveD}(h:RowC w g cap ls){i:Nat}(hi:i<ls.length):
 ∃(ph:Int) (ho:Option Addr) (hl hc:Nat) (x:Bool) (a:Option Addr) (n:Nat) (c:Option Addr) (k:Nat),
  w.cell? ⟨g,i*5,none⟩=some (.int .i64 ph)/\w.cell? ⟨g,i*5+1,none⟩=some (.slice ho hl hc)/\w.cell? ⟨g,i*5+2,none⟩=some (.bool x)/\w.cell? ⟨g,i*5+3,none⟩=some (.slice a n n)/\w.cell? ⟨g,i*5+4,none⟩=some (.slice c k k)/\
  MoveV w (.agg #[.int .i64 ph,.slice ho hl hc,.bool x,.slice a n n,.slice c k k]) (ls.getD i move0):=by
 obtain⟨cur,h1,h2,h3,h4⟩:=h;obtain⟨v0,v1,v2,v3,v4,a0,a1,a2,a3,a4,hm⟩:=h4 i hi;obtain⟨ph,ho,hl,hc,x,a,n,c,k,e⟩:=hm.cells;have e':=e;simp only[Value.agg.injEq,Array.mk.injEq,List.cons.injEq,and_true]at e;obtain⟨rfl,rfl,rfl,rfl,rfl⟩:=e;exact⟨ph,ho,hl,hc,x,a,n,c,k,by simp[World.cell?,h1,a0],by simp[World.cell?,h1,a1],by simp[World.cell?,h1,a2],by simp[World.cell?,h1,a3],by simp[World.cell?,h1,a4],hm⟩
theorem RowC.frz {w:World}{g cap:Nat}{ls:List MoveD}(h:RowC w g cap ls)(o:Nat):w.frozen? ⟨g,o,none⟩=false:=by
 obtain⟨cur,h1,-⟩:=h;simp[World.frozen?,h1]
theorem RowC.marks {w:World}{g cap:Nat}{ls:List MoveD}(h:RowC w g cap ls){i:Nat}(hi:i<=ls.length):MarksV w (.slice (some ⟨g,0,none⟩) i cap) (ls.take i):=by
 obtain⟨cur,h1,h2,h3,h4⟩:=h;have hl:(ls.take i).length=i:=by simp;omega
 refine⟨some ⟨g,0,none⟩,cap,fun j=>cur.getD j undef,by rw[hl],by rw[hl];omega,fun _=>⟨g,0,cur,(0,0),rfl,h1,fun k hk=>?_⟩,fun j hj=>?_⟩
 .rw[hl]at hk;have:k<cur.size:=by rw[h2];exact Nat.lt_of_lt_of_le hk (Nat.mul_le_mul_right _ (by omega))
  simp[this]
 .rw[hl]at hj;obtain⟨v0,v1,v2,v3,v4,a0,a1,a2,a3,a4,hm⟩:=h4 j (by omega)
  have e:(ls.take i).getD j move0=ls.getD j move0:=by
   rw[List.getD_eq_getElem?_getD,List.getElem?_take,if_pos hj,<-List.getD_eq_getElem?_getD]
  rw[e]
  have g (k:Nat) (v:Value) (h:cur[k]?=some v):cur.getD k undef=v:=by
   have:=(Array.getElem?_eq_some_iff.1 h).1;simp only[Array.getD,this,dite_true];exact(Array.getElem?_eq_some_iff.1 h).2
  show MoveV w (.agg #[cur.getD (j*5) undef,cur.getD (j*5+1) undef,cur.getD (j*5+2) undef,cur.getD (j*5+3) undef,cur.getD (j*5+4) undef]) _
  rw[g _ _ a0,g _ _ a1,g _ _ a2,g _ _ a3,g _ _ a4];exact hm
theorem RowC.set {w:World}{g cap:Nat}{ls:List MoveD}{m:MoveD}{v0 v1 v2 v3 v4:Value}(h:RowC w g cap ls){i:Nat}(hi:i<ls.length)(hm:MoveV w (.agg #[v0,v1,v2,v3,v4]) m):
 RowC (((((w.setCell ⟨g,i*5,none⟩ v0).setCell ⟨g,i*5+1,none⟩ v1).setCell ⟨g,i*5+2,none⟩ v2).setCell ⟨g,i*5+3,none⟩ v3).setCell ⟨g,i*5+4,none⟩ v4) g cap (ls.set i m):=by
 obtain⟨cur,h1,h2,h3,h4⟩:=h;have hp (T:TypeId) (hT:T≠158):∀{W:World} {c:Array Value} {o:Nat} {u:Value},W.heap[g]?=some (.cells c 158 (0,0))->Pres T W (W.setCell ⟨g,o,none⟩ u):=fun {W c o u} hW=>Pres.setCell (a:=⟨g,o,none⟩) hW hT u
 have hs:∀{W:World} {c:Array Value} {o:Nat} {u:Value},W.heap[g]?=some (.cells c 158 (0,0))->(W.setCell ⟨g,o,none⟩ u).heap[g]?=some (.cells (c.setIfInBounds o u) 158 (0,0)):=fun {W c o u} hW=>by
  simp[World.setCell,Array.getElem?_modify,hW]
 have k1:=hs (o:=i*5) (u:=v0) h1;have k2:=hs (o:=i*5+1) (u:=v1) k1;have k3:=hs (o:=i*5+2) (u:=v2) k2;have k4:=hs (o:=i*5+3) (u:=v3) k3;have k5:=hs (o:=i*5+4) (u:=v4) k4;have P (T:TypeId) (hT:T≠158):=((((hp T hT (o:=i*5) (u:=v0) h1).trans (hp T hT (o:=i*5+1) (u:=v1) k1)).trans (hp T hT (o:=i*5+2) (u:=v2) k2)).trans (hp T hT (o:=i*5+3) (u:=v3) k3)).trans (hp T hT (o:=i*5+4) (u:=v4) k4);have hcz:i*5+4<cur.size:=by rw[h2];have:=Nat.mul_le_mul_right 5 (Nat.le_trans (Nat.succ_le_of_lt hi) h3);omega
 refine⟨_,k5,by simp[h2],by rw[List.length_set];exact h3,fun j hj=>?_⟩;rw[List.length_set]at hj
 by_cases e:j=i
 .subst e;refine⟨v0,v1,v2,v3,v4,?_,?_,?_,?_,?_,?_⟩;rotate_left 5
  .rw[List.getD_eq_getElem?_getD,List.getElem?_set_self hj];exact hm.pres (P _ (by decide)) (P _ (by decide))
  all_goals(simp only[Array.getElem?_setIfInBounds,Array.size_setIfInBounds];simp;omega)
 .obtain⟨u0,u1,u2,u3,u4,a0,a1,a2,a3,a4,hu⟩:=h4 j hj;have hne:∀c c',c<5->c'<5->i*5+c≠j*5+c':=fun c c' h1 h2=>by omega
  refine⟨u0,u1,u2,u3,u4,?_,?_,?_,?_,?_,?_⟩;rotate_left 5
  .rw[List.getD_eq_getElem?_getD,List.getElem?_set_ne (Ne.symm e),<-List.getD_eq_getElem?_getD];exact hu.pres (P _ (by decide)) (P _ (by decide))
  all_goals(rw[Array.getElem?_setIfInBounds_ne (by omega),Array.getElem?_setIfInBounds_ne (by omega),Array.getElem?_setIfInBounds_ne (by omega),Array.getElem?_setIfInBounds_ne (by omega),Array.getElem?_setIfInBounds_ne (by omega)];assumption)
theorem take_set1 {l:List MoveD}{i:Nat}{m:MoveD}(hi:i<l.length):(l.set i m).take (i+1)=l.take i++[m]:=by
 rw[List.take_add_one,List.getElem?_set_self hi,List.take_set_of_le NL];rfl
theorem KpT.set {T:TypeId}{w:World}{g o:Nat}{cur:Array Value}{fr:Nat×Nat}(h:w.heap[g]?=some (.cells cur T fr))(u:Value):KpT T w (w.setCell ⟨g,o,none⟩ u):=by
 refine⟨by rw[World.size_setCell];exact Nat.le_refl _,fun k ob hk ho=>(Below.heap_setCell _ _ _ _ (fun e=>?_)).trans hk⟩;simp only at e;subst e;rw[h]at hk
 cases hk
 exact ho _ _ rfl
theorem RowC.obj {w:World}{g cap:Nat}{ls:List MoveD}(h:RowC w g cap ls):∃cur,w.heap[g]?=some (.cells cur 158 (0,0)):=⟨_,h.choose_spec.1⟩
theorem set_obj {w:World}{g o:Nat}{T:TypeId}(h:∃cur,w.heap[g]?=some (.cells cur T (0,0)))(u:Value):∃cur,(w.setCell ⟨g,o,none⟩ u).heap[g]?=some (.cells cur T (0,0)):=by
 obtain⟨c,hW⟩:=h;exact⟨c.setIfInBounds o u,by simp[World.setCell,Array.getElem?_modify,hW]⟩
theorem KpT.set5 {T:TypeId}{w:World}{g o0 o1 o2 o3 o4:Nat}(h:∃cur,w.heap[g]?=some (.cells cur T (0,0)))(v0 v1 v2 v3 v4:Value):
 KpT T w (((((w.setCell ⟨g,o0,none⟩ v0).setCell ⟨g,o1,none⟩ v1).setCell ⟨g,o2,none⟩ v2).setCell ⟨g,o3,none⟩ v3).setCell ⟨g,o4,none⟩ v4):=by
 have s (W:World) (hW:∃cur,W.heap[g]?=some (.cells cur T (0,0))) (o:Nat) (u:Value):KpT T W (W.setCell ⟨g,o,none⟩ u):=by obtain⟨c,hc⟩:=hW;exact KpT.set hc u
 have h1:=set_obj (o:=o0) h v0;have h2:=set_obj (o:=o1) h1 v1;have h3:=set_obj (o:=o2) h2 v2;have h4:=set_obj (o:=o3) h3 v3;exact((((s _ h o0 v0).trans (s _ h1 o1 v1)).trans (s _ h2 o2 v2)).trans (s _ h3 o3 v3)).trans (s _ h4 o4 v4)
theorem setCells_row {T:TypeId}{g:Nat}:∀(L:List Value) (o:Nat) (w:World) (cur:Array Value),w.heap[g]?=some (.cells cur T (0,0))->
 (∃cur',(w.setCells g o L).heap[g]?=some (.cells cur' T (0,0))/\cur'.size=cur.size/\∀k,k<o->cur'[k]?=cur[k]?)/\KpT T w (w.setCells g o L)/\∀base,base<=g->Bel base w (w.setCells g o L)
 |[],o,w,cur,h=>⟨⟨cur,h,rfl,fun _ _=>rfl⟩,⟨Nat.le_refl _,fun _ _ h _=>h⟩,fun _ _=>Bel.refl _ _⟩
 |v::r,o,w,cur,h=>by
  have h1:(w.setCell ⟨g,o,none⟩ v).heap[g]?=some (.cells (cur.setIfInBounds o v) T (0,0)):=by simp[World.setCell,Array.getElem?_modify,h]
  obtain⟨⟨cur',a1,a2,a3⟩,a4,a5⟩:=setCells_row r (o+1) _ _ h1;refine⟨⟨cur',a1,by rw[a2];simp,fun k hk=>?_⟩,(KpT.set h v).trans a4,fun base hb=>((Bel.refl base w).setCell (by exact hb) v).trans (a5 base hb)⟩;rw[a3 k (by omega),Array.getElem?_setIfInBounds_ne (by omega)]
theorem RowC.cut {w w':World}{g cap i:Nat}{ls:List MoveD}{cur cur':Array Value}(h:RowC w g cap ls)(hc:w.heap[g]?=some (.cells cur 158 (0,0)))(hc':w'.heap[g]?=some (.cells cur' 158 (0,0)))(hz:cur'.size=cur.size)(he:∀k,k<i*5->cur'[k]?=cur[k]?)(hk:KpT 158 w w')(hi:i<=ls.length):RowC w' g cap (ls.take i):=by
 obtain⟨c,h1,h2,h3,h4⟩:=h;rw[hc]at h1
 cases h1
 have hl:(ls.take i).length=i:=by simp;omega
 refine⟨cur',hc',by rw[hz,h2],by omega,fun j hj=>?_⟩;rw[hl]at hj;obtain⟨v0,v1,v2,v3,v4,a0,a1,a2,a3,a4,hm⟩:=h4 j (by omega)
 have e:(ls.take i).getD j move0=ls.getD j move0:=by
  rw[List.getD_eq_getElem?_getD,List.getElem?_take,if_pos hj,<-List.getD_eq_getElem?_getD]
 refine⟨v0,v1,v2,v3,v4,by rw[he _ (by omega)];exact a0,by rw[he _ (by omega)];exact a1,by rw[he _ (by omega)];exact a2,by rw[he _ (by omega)];exact a3,by rw[he _ (by omega)];exact a4,?_⟩;rw[e];exact hm.pres (hk.pres (by decide)) (hk.pres (by decide))
theorem filter_take {p:MoveD->Bool}{l:List MoveD}{j:Nat}(hj:j<l.length):(l.take (j+1)).filter p=(l.take j).filter p++(if p (l.getD j move0) then[l.getD j move0] else[]):=by
 rw[List.take_add_one,List.filter_append,List.getElem?_eq_getElem hj,getD_get hj]
 cases h:p l[j]<;>simp[h]
theorem run_clear_k {P:Program}(w:World)(t e ty:TypeId)(z:Value)(ht:P.underlying t=some (.slice e))(hv:∀w,(zeroValue e).run P w=.ok z w)(b o n c:Nat)(hn:0<n)(hc:∀j,j<z.cells.size*n->(w.cell? ⟨b,o+j,none⟩).isSome=true)(hf:∀j,j<z.cells.size*n->w.frozen? ⟨b,o+j,none⟩=false)
 (hl:(Builtin.zeroCells z.cells n).toList.length=z.cells.size*n) (h1:∀v∈(Builtin.zeroCells z.cells n).toList,v.oneCell'=true):
 (Builtin.clear_ #[t] ty #[.slice (some ⟨b,o,none⟩) n c]).run P w=.ok (.tuple #[]) (w.setCells b o (Builtin.zeroCells z.cells n).toList):=by
 have hst:=run_storeCells_cells (P:=P) b o (Builtin.zeroCells z.cells n).toList 0 w (by simpa[hl]using hc) (by simpa[hl]using hf) h1;simp only[Nat.add_zero]at hst;obtain⟨m,rfl⟩:∃m,n=m+1:=⟨n-1,by omega⟩
 simp[Builtin.clear_,run_underlying ht,hv]at hst|-;simp[hst]
theorem deleteM_c {w:World}{base B:Nat}{v:Value}{ms:List MoveD}{pr:MoveD->Bool}(hr:RowM 158 w base v ms)(h0:ms≠[])(hp:PredM 67 #[.pointer (some ⟨B,0,none⟩)] pr w ms)(hlen:ms.length<=1000000):
 Calls Tryz.prog 65 #[v,.func (.func 67) #[] #[.pointer (some ⟨B,0,none⟩)]] w fun e w'=>(∃v',e=.returned v'/\MarksV w' v' (ms.filter fun m=>!pr m))/\KpT 158 w w'/\Bel base w w':=by
 have HMV:=LH hr.marks;obtain⟨g,cap,rfl,hg,hcap,hrow⟩:=hr.row h0;have HP:=LH hp;have HR:=LH hrow;obtain⟨n,hn⟩:∃n,n=ms.length:=⟨_,rfl⟩
 have HN:=LH hn;rw[<-hn]at hcap hlen|-;rw[<-hn]at HMV;have hgl:g<w.heap.size:=by obtain⟨cur,h1,-⟩:=hrow;exact(Array.getElem?_eq_some_iff.1 h1).1
 clear hp hr hrow hn
 go_enter Tryz.func65,Tryz.ntmps65
 go_wp2_with fail
 refine(indexM_c HMV.out HP.out (by rw[<-HN.out];exact hlen)).mono ?_;rintro e w1 ⟨⟨r,rfl,hr⟩,hb1⟩;have HB1:=LH hb1;clear hb1;rcases hr with⟨rfl,hall⟩|⟨i0,hi0,rfl,hpi,hbef⟩
 .have HA:=LH hall;clear hall;go_wp2;go_ret;refine⟨⟨_,rfl,?_⟩,KpT.of_bel HB1.out,HB1.out.mono (by omega)⟩
  have e:(ms.filter fun m=>!pr m)=ms:=List.filter_eq_self.2 fun m hm=>by
   obtain⟨i,hi,rfl⟩:=List.mem_iff_getElem.1 hm;have:=HA.out i hi;rw[getD_get hi]at this;simp[this]
  rw[e];obtain⟨ao,c,f,e1,e2,e3⟩:=HMV.out;exact⟨ao,c,f,e1,e2,e3.bel HB1.out⟩
 .have HI:=LH (And.intro hpi hbef);rw[<-HN.out]at hi0;clear hpi hbef;have HR1:=LH (HR.out.bel HB1.out);go_wp2
  go_loopg [5,6] (n-(i0+1)) (fun gg s5 s6 wr=>∃(i j:Nat) (ls:List MoveD),s5=.int .i64 i/\s6=.int .i64 j/\i<j/\j<=n/\gg=n-j/\ls.length=n/\ls.take i=(ms.take j).filter (fun m=>!pr m)/\ls.drop j=ms.drop j/\RowC wr g cap ls/\KpT 158 w wr/\Bel base w wr)
  case atStart=>
   refine⟨i0,i0+1,ms,rfl,by push_cast;rfl,by omega,by omega,rfl,HN.out.symm,?_,rfl,HR1.out,KpT.of_bel HB1.out,HB1.out.mono (by omega)⟩;rw[filter_take (by rw[<-HN.out];exact hi0),HI.out.1]
   have e:((ms.take i0).filter fun m=>!pr m)=ms.take i0:=List.filter_eq_self.2 fun m hm=>by
    obtain⟨k,hk,rfl⟩:=List.mem_iff_getElem.1 hm;simp only[List.length_take]at hk;have:=HI.out.2 k (by omega);rw[getD_get (by omega)]at this;simp[this]
   rw[e];simp
  case round=>
   obtain⟨i,j,ls,rfl,rfl,hij,hj,hgg,hll,htk,hdr,hrc,hkp,hbw⟩:=hrel;have HRC:=LH hrc;have HTK:=LH htk;have HDR:=LH hdr;have HKP:=LH hkp;have HBW:=LH hbw;have HLL:=LH hll;have hgr:g<wr.heap.size:=by obtain⟨cur,h1,-⟩:=hrc;exact(Array.getElem?_eq_some_iff.1 h1).1
   clear hrc htk hdr hkp hbw hll HR1
   by_cases hlt:j<n
   .have hej:ls.getD j move0=ms.getD j move0:=by
     have h1:=congrArg (fun l=>l.getD 0 move0) HDR.out
     simpa[List.getD_eq_getElem?_getD,List.getElem?_drop]using h1
    have hrow:=HRC.out.el (i:=j) (by rw[HLL.out];exact hlt);rw[hej]at hrow;obtain⟨ph,ho,hl,hc,x,a,q,c,k,f0,f1,f2,f3,f4,hmv⟩:=hrow;have HMVj:=LH hmv
    have hmem:ms.getD j move0∈ms:=by
     have h1:j<ms.length:=by rw[<-HN.out];exact hlt
     rw[getD_get h1];exact List.getElem_mem h1
    obtain⟨m,hm⟩:∃m,m=ms.getD j move0:=⟨_,rfl⟩
    rw[<-hm]at HMVj hmem;have HM:=LH hm;clear hmv hej hm
    go_upto_region 8 with fail
    refine name_world ?_;intro W1 hW1;have hb2:Bel wr.heap.size wr W1:=by rw[hW1];exact(Bel.refl _ _).alloc NL _
    have hk7:=at_world hW1 (b:=wr.heap.size) (heap_new _ _ rfl);obtain⟨r0,r1,r2,r3,r4⟩:=row5 hk7;have hz1:wr.heap.size<W1.heap.size:=by rw[hW1];simp
    have HB2:=LH hb2;have HK7:=LH hk7;clear hW1 hb2 hk7 f0 f1 f2 f3 f4;generalize hB7:wr.heap.size=B7 at *
    go_wp2_with fail
    refine(HP.out W1 _ m (HKP.out.trans (KpT.of_bel (by rw[hB7];exact HB2.out))) (HMVj.out.pres (Pres.below (by rw[hB7];exact HB2.out.toBelow)) (Pres.below (by rw[hB7];exact HB2.out.toBelow))) hmem).mono ?_;rintro e w3 ⟨rfl,hb3⟩;have hbz:Bel wr.heap.size wr w3:=by rw[hB7];exact HB2.out.trans (hb3.mono (by omega))
    have HBZ:=LH hbz;have HRC3:=LH (HRC.out.bel hbz);have HMV3:=LH (HMVj.out.bel hbz);have HK73:=LH ((hb3.block _ hz1).trans HK7.out);have hg3:g<w3.heap.size:=by have:=hbz.size;omega
    obtain⟨z,hz⟩:∃z,z=pr m:=⟨_,rfl⟩
    rw[<-hz];have HZ:=LH hz;clear hz hb3 hbz r0 r1 r2 r3 r4 HK7 HB2 HRC HMVj;have hft:=filter_take (p:=fun m=>!pr m) (l:=ms) (j:=j) (by rw[<-HN.out];exact hlt);simp only[<-HM.out,<-HZ.out]at hft;have HFT:=LH hft;clear hft
    have hdr':ls.drop (j+1)=ms.drop (j+1):=by
     have h1:=congrArg (fun l=>l.drop 1) HDR.out
     simpa[List.drop_drop,Nat.add_comm]using h1
    have HDR':=LH hdr';clear hdr'
    cases z
    .obtain⟨r0,r1,r2,r3,r4⟩:=row5 HK73.out;obtain⟨ph2,ho2,hl2,hc2,x2,a2,q2,c2,k2,f0,f1,f2,f3,f4,-⟩:=HRC3.out.el (i:=i) (by rw[HLL.out];omega);have z0:=HRC3.out.frz (i*5);have z1:=HRC3.out.frz (i*5+1);have z2:=HRC3.out.frz (i*5+2);have z3:=HRC3.out.frz (i*5+3);have z4:=HRC3.out.frz (i*5+4);have hin:i<n:=by omega
     go_wp2
     go_roundg (n-(j+1))
     case rel=>exact⟨i+1,j+1,ls.set i m,by push_cast;rfl,by push_cast;rfl,by omega,by omega,rfl,by rw[List.length_set];exact HLL.out,by rw[HFT.out,take_set1 (by rw[HLL.out];omega),HTK.out];simp,by rw[List.drop_set_of_lt (by omega)];exact HDR'.out,HRC3.out.set (by rw[HLL.out];omega) HMV3.out,(HKP.out.trans (KpT.of_bel HBZ.out)).trans (KpT.set5 HRC3.out.obj _ _ _ _ _),(((((HBW.out.trans (HBZ.out.mono (by omega))).setCell (by exact hg) _).setCell (by exact hg) _).setCell (by exact hg) _).setCell (by exact hg) _).setCell (by exact hg) _⟩
     case measure=>omega
    .go_wp2
     go_roundg (n-(j+1))
     case rel=>exact⟨i,j+1,ls,rfl,by push_cast;rfl,by omega,by omega,rfl,HLL.out,by rw[HFT.out,HTK.out];simp,HDR'.out,HRC3.out,HKP.out.trans (KpT.of_bel HBZ.out),HBW.out.trans (HBZ.out.mono (by omega))⟩
     case measure=>omega
   .obtain rfl:j=n:=by omega
    go_wp2_with fail
    obtain⟨cur,hcur⟩:=HRC.out.obj;have hcz:cur.size=cap*5:=by obtain⟨c,h1,h2,-⟩:=HRC.out;rw[hcur]at h1;cases h1;exact h2
    have hcl:=run_clear_k (P:=Tryz.prog) wr 59 158 0 _ Tryz.underlying59 Tryz.zeroValue158 g (i*5) (j-i) (cap-i) (by omega) (fun k hk=>by
     have:i*5+k<cur.size:=by
      rw[hcz];simp[Value.cells]at hk;omega
     simp[World.cell?,hcur,this]) (fun k _=>HRC.out.frz _) (by simp[Builtin.zeroCells,Value.cells];try omega) (fun v hv=>by
      simp only[Builtin.zeroCells,Value.cells,Array.toList_map,List.mem_map]at hv;obtain⟨b,-,rfl⟩:=hv;have h5:b%5<5:=Nat.mod_lt _ (by omega)
      show Value.oneCell' ((#[.int .i64 0,.slice none 0 0,.bool false,.slice none 0 0,.slice none 0 0]:Array Value)[b%5]!)=true
      generalize b%5=c at h5;obtain rfl|rfl|rfl|rfl|rfl:c=0\/c=1\/c=2\/c=3\/c=4:=by omega
      all_goals rfl)
    generalize(Builtin.clear_ #[59] 0 #[.slice (some ⟨g,i*5,none⟩) (j-i) (cap-i)]).run Tryz.prog wr=R at hcl|-;subst hcl;obtain⟨⟨cur',a1,a2,a3⟩,a4,a5⟩:=setCells_row (Builtin.zeroCells (Value.agg #[.int .i64 0,.slice none 0 0,.bool false,.slice none 0 0,.slice none 0 0]).cells (j-i)).toList (i*5) wr cur hcur;have HRW:=LH (HRC.out.cut hcur a1 a2 a3 a4 (i:=i) (by rw[HLL.out];omega));have HKW:=LH (HKP.out.trans a4)
    have HBB:=LH (HBW.out.trans (a5 base hg));clear a1 a2 a3 a4 a5 hcur hcz;generalize wr.setCells g (i*5) (Builtin.zeroCells (Value.agg #[.int .i64 0,.slice none 0 0,.bool false,.slice none 0 0,.slice none 0 0]).cells (j-i)).toList=wz at *;go_wp2;go_ret;refine⟨⟨_,rfl,?_⟩,HKW.out,HBB.out⟩;have hm:=HRW.out.marks (i:=i) (by simp;rw[HLL.out];omega);rw[List.take_take,Nat.min_self,HTK.out]at hm;rw[HN.out,List.take_length]at hm
    exact hm
end Go.Proofs.YtlgjakpoaelehaaGreat
