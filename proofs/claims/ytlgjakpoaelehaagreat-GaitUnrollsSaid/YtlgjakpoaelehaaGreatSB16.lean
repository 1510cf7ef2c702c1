/- Contracts and plain laws, merged: C4 -/
import Derived.AxiomsDeepKeys
import Derived.Maps.OwnIn
import Derived.Test.YtlgjakpoaelehaaGreatSB15
namespace Go.Proofs.YtlgjakpoaelehaaGreat
open Go.RowKit
section
open Go.Maps (Keyed)
instance:DecidableEq StateD:=fun a b=>decidable_of_iff (a.phase=b.phase/\a.holds=b.holds) (by cases a;cases b;simp)
theorem keyLaid:laidOutB Tryz.prog=true:=by kernel_rfl
theorem keyRow:(156:TypeId)<Tryz.prog.types.size:=of_decide_eq_true (by kernel_rfl)
theorem keyDeep:Tryz.prog.keyTypeAt 3 156=true:=by kernel_rfl
theorem keyK:Keyed Tryz.prog 156:=Keyed.of_law (deep_law_laid keyLaid (m:=3) (by decide) keyRow keyDeep (by rw[Tryz.underlying156]))
theorem typesBig:2<Tryz.prog.types.size:=of_decide_eq_true (by kernel_rfl)
theorem getD_out {α:Type}{l:List α}{i:Nat}{d:α}(h:l.length<=i):l.getD i d=d:=by rw[List.getD_eq_getElem?_getD,List.getElem?_eq_none h];rfl
theorem keyT:Tryz.prog.keyType 156=true:=by kernel_rfl
structure SOk (n:Nat) (s:StateD):Prop where
 len:s.holds.length=n
 four:n<=4
 ph:0<=s.phase/\s.phase<16
 ho:∀i,i<n->0<=s.holds.getD i 0/\s.holds.getD i 0<64
def litS (s:StateD):Lit:=.string (keyBytes [.int .i64 s.phase,.int .i64 (s.holds.getD 0 0),.int .i64 (s.holds.getD 1 0),.int .i64 (s.holds.getD 2 0),.int .i64 (s.holds.getD 3 0)])
theorem keyLits_five {a0 a1 a2 a3 a4:Int}(h0:(Lit.int .i64 a0).wf=true)(h1:(Lit.int .i64 a1).wf=true)(h2:(Lit.int .i64 a2).wf=true)(h3:(Lit.int .i64 a3).wf=true)(h4:(Lit.int .i64 a4).wf=true):
 Tryz.prog.keyLits (Tryz.prog.types.size+1) 156 [.int .i64 a0,.int .i64 a1,.int .i64 a2,.int .i64 a3,.int .i64 a4]=some [.int .i64 a0,.int .i64 a1,.int .i64 a2,.int .i64 a3,.int .i64 a4]:=by
 obtain⟨m,hm⟩:∃m,Tryz.prog.types.size=m+2:=⟨Tryz.prog.types.size-2,by have:=typesBig;omega⟩
 have c1:Tryz.prog.cellsOf 156=5:=by kernel_rfl
 have c2:Tryz.prog.cellsOf 3=1:=by kernel_rfl
 have c3:Tryz.prog.cellsOf 154=4:=by kernel_rfl
 have i (a:Int) (h:(Lit.int .i64 a).wf=true) (d:Nat):Tryz.prog.keyLits (d+1) 3 [.int .i64 a]=some [.int .i64 a]:=by
  unfold Program.keyLits;simp[Tryz.underlying3,h]
 have arr:Tryz.prog.keyLits (m+2) 154 [.int .i64 a1,.int .i64 a2,.int .i64 a3,.int .i64 a4]=some [.int .i64 a1,.int .i64 a2,.int .i64 a3,.int .i64 a4]:=by
  unfold Program.keyLits;simp[Tryz.underlying154,c3,c2,List.range_succ,i _ h1,i _ h2,i _ h3,i _ h4]
 rw[hm];unfold Program.keyLits;simp[Tryz.underlying156,c1,c2,c3,i _ h0,arr]
theorem wf16 {x:Int}(h:0<=x/\x<64):(Lit.int .i64 x).wf=true:=by
 have:IntKind.min .i64=-9223372036854775808:=by decide
 have:IntKind.max .i64=9223372036854775807:=by decide
 simp only[Lit.wf,Bool.and_eq_true,decide_eq_true_eq];omega
theorem SOk.at {n:Nat}{s:StateD}(h:SOk n s)(i:Nat):0<=s.holds.getD i 0/\s.holds.getD i 0<64:=by
 by_cases hi:i<n
 .exact h.ho i hi
 .rw[getD_out (by rw[h.len];omega)];omega
theorem keyS {n:Nat}{s:StateD}(h:SOk n s):keyOf Tryz.prog 156 (keyV s)=some (litS s):=by
 have hf:(keyV s).formed Tryz.prog 156=true:=by
  have c1:Tryz.prog.cellsOf 156=5:=by kernel_rfl
  simp[Value.formed,keyV,Tryz.underlying156,c1]
 have hl:=keyLits_five (wf16 ⟨h.ph.1,by have:=h.ph.2;omega⟩) (wf16 (h.at 0)) (wf16 (h.at 1)) (wf16 (h.at 2)) (wf16 (h.at 3));unfold keyOf;simp only[Tryz.underlying156];rw[if_pos (by rw[keyT,hf];rfl)]
 show Option.map _ (Tryz.prog.keyLits _ _ [.int .i64 s.phase,.int .i64 (s.holds.getD 0 0),.int .i64 (s.holds.getD 1 0),.int .i64 (s.holds.getD 2 0),.int .i64 (s.holds.getD 3 0)])=_
 rw[hl];rfl
theorem litS_inj {n:Nat}{s t:StateD}(hs:SOk n s)(ht:SOk n t)(e:litS s=litS t):s=t:=by
 have h1:=keyS hs;rw[e]at h1;have h2:=keyK.inj h1 (keyS ht);unfold keyV kc at h2;simp only[Value.agg.injEq,Array.mk.injEq,List.cons.injEq,Value.int.injEq,true_and,and_true]at h2;obtain⟨e0,e1,e2,e3,e4⟩:=h2
 have hh:s.holds=t.holds:=by
  refine List.ext_getElem (by rw[hs.len,ht.len]) fun i h1 h2=>?_;rw[<-getD_get h1,<-getD_get h2];have:=hs.four;have:=hs.len;obtain rfl|rfl|rfl|rfl:i=0\/i=1\/i=2\/i=3:=by omega
  all_goals assumption
 cases s;cases t
 simp only at e0 hh;rw[e0,hh]
theorem ky_inj {ε:Type}{ky:ε->StateD}{l:List ε}(h:(l.map ky).Nodup){a b:ε}(ha:a∈l)(hb:b∈l)(e:ky a=ky b):a=b:=by
 induction l with
 |nil=>cases ha
 |cons y r ih=>
  simp only[List.map_cons,List.nodup_cons,List.mem_map,not_exists,not_and]at h;rcases List.mem_cons.1 ha with rfl|ha'
  .rcases List.mem_cons.1 hb with rfl|hb'
   .rfl
   .exact absurd e.symm (h.1 b hb')
  .rcases List.mem_cons.1 hb with rfl|hb'
   .exact absurd e (h.1 a ha')
   .exact ih h.2 ha' hb'
theorem nodup_le {α:Type}:∀{l r:List α},l.Nodup->(∀e∈l,e∈r)->l.length<=r.length
 |[],_,_,_=>Nat.zero_le _
 |a::l,r,h,hs=>by
  obtain⟨r1,r2,rfl⟩:=List.append_of_mem (hs a List.mem_cons_self);have h2:=List.nodup_cons.1 h
  have:=nodup_le (r:=r1++r2) h2.2 (fun e he=>by
   have h3:=hs e (List.mem_cons_of_mem _ he);simp only[List.mem_append,List.mem_cons]at h3|-;rcases h3 with h3|rfl|h3
   .exact .inl h3
   .exact absurd he h2.1
   .exact .inr h3)
  simp at this|-;omega
def RV (v:Value):Option (DataW Value×List MemPlace):=some (.held v,[])
section
variable {ε : Type}
structure Ents (Ok:World->Value->ε->Prop) (ky:ε->StateD) (n:Nat) (w:World) (es:List (Lit×DataW Value)) (l:List ε):Prop where
 perm:(es.map (·.1)).Perm (l.map fun e=>litS (ky e))
 ent:∀p∈es,∃e∈l,p.1=litS (ky e)/\∃v,p.2=.held v/\Ok w v e
 ok:∀e∈l,SOk n (ky e)
def MapG (Ok:World->Value->ε->Prop)(ky:ε->StateD)(n:Nat)(w:World)(b:Nat)(l:List ε):Prop:=
 ∃es,w.ownsMap Tryz.prog 156 RV b es.length (.map es)/\Ents Ok ky n w es l
variable {Ok : World → Value → ε → Prop} {ky : ε → StateD} {n : Nat} {w : World} {b : Nat} {l : List ε} {es : List (Lit × DataW Value)}
theorem Ents.pres {w':World}(h:Ents Ok ky n w es l)(hk:∀v e,Ok w v e->Ok w' v e):Ents Ok ky n w' es l:=
 ⟨h.perm,fun p hp=>by obtain⟨e,he,e1,v,e2,ho⟩:=h.ent p hp;exact⟨e,he,e1,v,e2,hk _ _ ho⟩,h.ok⟩
theorem ownsMap_heap {w w':World}{P:Program}{k:TypeId}{R:Value->Option (DataW Value×List MemPlace)}{b m:Nat}{D:DataW Value}(h:w.ownsMap P k R b m D)(hb:w'.heap[b]?=w.heap[b]?):w'.ownsMap P k R b m D:=by
 obtain⟨es,c,h1,r⟩:=h;exact⟨es,c,hb.trans h1,r⟩
theorem MapG.heap {w':World}(h:MapG Ok ky n w b l)(hb:w'.heap[b]?=w.heap[b]?)(hk:∀v e,Ok w v e->Ok w' v e):MapG Ok ky n w' b l:=by
 obtain⟨es,h1,h2⟩:=h;exact⟨es,ownsMap_heap h1 hb,h2.pres hk⟩
theorem MapG.lt (h:MapG Ok ky n w b l):b<w.heap.size:=by obtain⟨es,h1,-⟩:=h;exact h1.lt
theorem tight {m:Nat}(h:w.ownsMap Tryz.prog 156 RV b m (.map es)):w.ownsMap Tryz.prog 156 RV b es.length (.map es):=by
 obtain⟨E,c,h1,h2,h3,h4⟩:=h;refine⟨E,c,h1,h2,?_,h4⟩
 have:es.length=E.size:=by
  cases h4
  rw[length_sorted];simp
 omega
theorem MapG.made (w:World):MapG Ok ky n (w.alloc (.map #[] 0)) w.heap.size []:=⟨[],World.ownsMap_made _ _ _ _,⟨List.Perm.refl _,fun p hp=>by simp at hp,fun e he=>by simp at he⟩⟩
theorem Ents.len (h:Ents Ok ky n w es l):es.length=l.length:=by simpa using h.perm.length_eq
theorem isKey {s:StateD}(h:SOk n s):WideAt.IsKeyLit (litS s):=keyK.key (keyS h)
theorem Ents.keyLit (h:Ents Ok ky n w es l){p:Lit×DataW Value}(hp:p∈es):WideAt.IsKeyLit p.1:=by
 obtain⟨e,he,e1,-⟩:=h.ent p hp;rw[e1];exact isKey (h.ok e he)
theorem same_iff {a b:Lit}(ha:WideAt.IsKeyLit a):a.sameKey b=true ↔ a=b:=⟨WideAt.sameKey_eq,fun e=>by rw[<-e];exact WideAt.sameKey_self ha⟩
theorem Ents.has (h:Ents Ok ky n w es l){s:StateD}(hs:SOk n s):Maps.has (.map es) (litS s)=true ↔ ∃e∈l,ky e=s:=by
 rw[Maps.has_eq,List.any_eq_true];constructor
 .rintro⟨p,hp,hk⟩;obtain⟨e,he,e1,-⟩:=h.ent p hp;have:=WideAt.sameKey_eq hk;rw[e1]at this;exact⟨e,he,litS_inj (h.ok e he) hs this⟩
 .rintro⟨e,he,rfl⟩;have:litS (ky e)∈es.map (·.1):=h.perm.mem_iff.2 (List.mem_map.2 ⟨e,he,rfl⟩);obtain⟨p,hp,e1⟩:=List.mem_map.1 this;exact⟨p,hp,(same_iff (h.keyLit hp)).2 e1⟩
theorem Ents.at (h:Ents Ok ky n w es l){s:StateD}(hs:SOk n s)(hh:Maps.has (.map es) (litS s)=true):∃e∈l,ky e=s/\∃v,(∀z,(DataW.map es).atKey (litS s) z=.held v)/\Ok w v e:=by
 rw[Maps.has_eq,List.any_eq_true]at hh;obtain⟨q,hq,hqk⟩:=hh
 cases hf:es.find? (fun p=>p.1.sameKey (litS s))with
 |none=>exact absurd hqk (by simpa using List.find?_eq_none.1 hf q hq)
 |some p=>
  obtain⟨e,he,e1,v,e2,ho⟩:=h.ent p (List.mem_of_find?_eq_some hf);have e3:p.1.sameKey (litS s)=true:=List.find?_some (p:=fun p:Lit×DataW Value=>p.1.sameKey (litS s)) hf;have e3:=WideAt.sameKey_eq e3;rw[e1]at e3;refine⟨e,he,litS_inj (h.ok e he) hs e3,v,fun z=>?_,ho⟩;unfold DataW.atKey;simp only[hf];exact e2
theorem filter_perm {s:StateD}(h:Ents Ok ky n w es l)(hs:SOk n s):((es.filter fun p=>!p.1.sameKey (litS s)).map (·.1)).Perm ((l.filter fun e=>decide (ky e≠s)).map fun e=>litS (ky e)):=by
 have e1:(es.filter fun p=>!p.1.sameKey (litS s)).map (·.1)=(es.map (·.1)).filter fun k=>!k.sameKey (litS s):=by rw[List.filter_map];rfl
 have e2:(l.filter fun e=>decide (ky e≠s)).map (fun e=>litS (ky e))=(l.map fun e=>litS (ky e)).filter fun k=>!k.sameKey (litS s):=by
  rw[List.filter_map];refine congrArg _ (List.filter_congr fun e he=>?_);have hk:=h.ok e he
  by_cases c:ky e=s
  .subst c;simp[WideAt.sameKey_self (isKey hk)]
  .have:(litS (ky e)).sameKey (litS s)=false:=by
    cases hh:(litS (ky e)).sameKey (litS s)
    .rfl
    .exact absurd (litS_inj hk hs (WideAt.sameKey_eq hh)) c
   simp[c,this]
 rw[e1,e2];exact h.perm.filter _
theorem Ents.del (h:Ents Ok ky n w es l){s:StateD}(hs:SOk n s):Ents Ok ky n w (es.filter fun p=>!p.1.sameKey (litS s)) (l.filter fun e=>decide (ky e≠s)):=by
 refine⟨filter_perm h hs,fun p hp=>?_,fun e he=>h.ok e (List.mem_filter.1 he).1⟩;obtain⟨hp1,hp2⟩:=List.mem_filter.1 hp;obtain⟨e,he,e1,r⟩:=h.ent p hp1;refine⟨e,List.mem_filter.2 ⟨he,?_⟩,e1,r⟩
 by_cases c:ky e=s
 .subst c;rw[e1,WideAt.sameKey_self (isKey hs)]at hp2
  cases hp2
 .simpa using c
theorem Ents.put (h:Ents Ok ky n w es l){e:ε}{v:Value}(hs:SOk n (ky e))(ho:Ok w v e):
 Ents Ok ky n w (DataW.insert (litS (ky e),.held v) (es.filter fun p=>!p.1.sameKey (litS (ky e)))) (e::l.filter fun x=>decide (ky x≠ky e)):=by
 have hp:=Go.WideShapes.insert_perm (litS (ky e),DataW.held v) (es.filter fun p=>!p.1.sameKey (litS (ky e)));have hd:=h.del hs;refine⟨(hp.map _).trans (hd.perm.cons _),fun p hpm=>?_,fun x hx=>?_⟩
 .rcases List.mem_cons.1 (hp.mem_iff.1 hpm)with rfl|h1
  .exact⟨e,List.mem_cons_self,rfl,v,rfl,ho⟩
  .obtain⟨x,hx,r⟩:=hd.ent p h1;exact⟨x,List.mem_cons_of_mem _ hx,r⟩
 .rcases List.mem_cons.1 hx with rfl|h1
  .exact hs
  .exact hd.ok x h1
theorem MapG.nodup (h:MapG Ok ky n w b l):(l.map ky).Nodup:=by
 obtain⟨es,h1,h2⟩:=h;obtain⟨es',e,hn⟩:=h1.tidy keyK
 cases e
 have:(es.map (·.1)).Nodup:=by unfold List.Nodup;rw[List.pairwise_map];exact hn
 have h3:=h2.perm.nodup_iff.1 this;have e:l.map (fun e=>litS (ky e))=(l.map ky).map litS:=by rw[List.map_map];rfl
 rw[e]at h3;unfold List.Nodup at h3|-;rw[List.pairwise_map]at h3;exact h3.imp fun h e=>h (by rw[e])
def RangeG (Ok:World->Value->ε->Prop)(ky:ε->StateD)(n:Nat)(w:World)(b r:Nat)(l acc:List ε):Prop:=
 ∃es left cnt,w.ranges Tryz.prog 156 RV b r es.length (.map es) left cnt/\Ents Ok ky n w es l/\(∀e∈l,left (litS (ky e))=true\/e∈acc)/\(∀kl,left kl=true->Maps.has (.map es) kl=true)/\(∀e∈acc,e∈l/\left (litS (ky e))=false)/\(acc.map ky).Nodup
theorem RangeG.heap {w':World}{r:Nat}{acc:List ε}(h:RangeG Ok ky n w b r l acc)(hb:w'.heap[b]?=w.heap[b]?)(hr:w'.heap[r]?=w.heap[r]?)(hk:∀v e,Ok w v e->Ok w' v e):RangeG Ok ky n w' b r l acc:=by
 obtain⟨es,left,cnt,⟨E,clock,since,seen,c0,h1,h2,h3,h4,h5,h6⟩,h7,h8⟩:=h;exact⟨es,left,cnt,⟨E,clock,since,seen,c0,hb.trans h1,h2,h3,h4,hr.trans h5,h6⟩,h7.pres hk,h8⟩
theorem RangeG.map {r:Nat}{acc:List ε}(h:RangeG Ok ky n w b r l acc):MapG Ok ky n w b l:=by
 obtain⟨es,left,cnt,h1,h2,-⟩:=h;exact⟨es,h1.owns,h2⟩
theorem RangeG.lt {r:Nat}{acc:List ε}(h:RangeG Ok ky n w b r l acc):r<w.heap.size/\b<w.heap.size:=by
 have h2:=h.map.lt;obtain⟨es,left,cnt,h1,-⟩:=h;exact⟨h1.lt,h2⟩
theorem RangeG.all {r:Nat}{acc:List ε}(h:RangeG Ok ky n w b r l acc)(h0:∀e∈l,e∈acc):acc.Perm l:=by
 have hl:=h.map.nodup;obtain⟨es,left,cnt,-,-,-,-,h3,h4⟩:=h
 have nd:∀{l:List ε},(l.map ky).Nodup->l.Nodup:=fun {l} h=>by
  unfold List.Nodup at h|-;rw[List.pairwise_map]at h;exact h.imp (fun h e=>h (by rw[e]))
 exact(List.perm_ext_iff_of_nodup (nd h4) (nd hl)).2 fun e=>⟨fun he=>(h3 e he).1,h0 e⟩
theorem RangeG.few {r:Nat}{acc:List ε}(h:RangeG Ok ky n w b r l acc):acc.length<=l.length:=by
 obtain⟨es,left,cnt,-,-,-,-,h3,h4⟩:=h
 have nd:acc.Nodup:=by
  unfold List.Nodup at h4|-;rw[List.pairwise_map]at h4;exact h4.imp (fun h e=>h (by rw[e]))
 exact nodup_le nd fun e he=>(h3 e he).1
end
end
end Go.Proofs.YtlgjakpoaelehaaGreat
