/- Contracts and plain laws, merged: N9 -/
import Derived.ChangeSame
import Derived.Deep.Slices
import Derived.Deep.Strs
import Derived.OpenShut
import Derived.Test.YtlgjakpoaelehaaGreatSE01
namespace Go.Proofs.YtlgjakpoaelehaaGreat.D4
section
open Go.ChangeShapes Go.WideShapes Go.Deep Go.RowKit
section
variable {H : Type} {enc : TypeId × Value → H} {w : World} {base : Nat} {spare : Nat → Bool} {held : Bool} {fuel : Nat} {cs : List Value} {x : DataW H × List MemPlace}
theorem cellsI:Tryz.prog.cellsOf 2=1:=by kernel_rfl
theorem cellsU:Tryz.prog.cellsOf 5=1:=by kernel_rfl
theorem cellsN:Tryz.prog.cellsOf 24=3:=by kernel_rfl
theorem cellsP:Tryz.prog.cellsOf 74=6:=by kernel_rfl
theorem cellsS:Tryz.prog.cellsOf 76=12:=by kernel_rfl
theorem num_trod (h:DataW.trod enc Tryz.prog w base spare held fuel 24 cs=some x):∃d:NumD,NumOk d/\cs=[.int .i64 d.n,.int .i64 d.d,.int .u8 d.p]:=by
 obtain⟨y0,y1,y2,n,-,hl,h0,h1,h2⟩:=trod_struct3 Tryz.underlying24 h;rw[cellsN]at hl;dsimp only at h0 h1 h2;rw[cellsI]at h0 h1;rw[cellsU]at h2
 match cs,hl with
 |[c0,c1,c2],_=>
  obtain⟨a,e0,-,w0⟩:=DataW.trod_int Tryz.underlying2 h0;obtain⟨b,e1,-,w1⟩:=DataW.trod_int Tryz.underlying2 h1;obtain⟨c,e2,-,w2⟩:=DataW.trod_int Tryz.underlying5 h2;simp only[List.drop_succ_cons,List.drop_zero,List.take_succ_cons,List.take_zero,List.cons.injEq,and_true]at e0 e1 e2;obtain⟨a1,a2⟩:=bounds_i64 w0;obtain⟨b1,b2⟩:=bounds_i64 w1;obtain⟨c1',c2'⟩:=bounds_u8 w2;obtain⟨p,rfl⟩:∃p:Nat,c=(p:Int):=⟨c.toNat,by omega⟩
  exact⟨⟨a,b,p⟩,⟨by simpa using a1,by simp only;omega,by simpa using b1,by simp only;omega,by simp only;omega⟩,by rw[e0,e1,e2]⟩
theorem spot1_trod (h:DataW.trod enc Tryz.prog w base spare held fuel 74 cs=some x):∃dx dz:NumD,NumOk dx/\NumOk dz/\cs=[.int .i64 dx.n,.int .i64 dx.d,.int .u8 dx.p,.int .i64 dz.n,.int .i64 dz.d,.int .u8 dz.p]:=by
 obtain⟨y0,y1,n,-,hl,h0,h1⟩:=trod_struct2 Tryz.underlying74 h;rw[cellsP]at hl;dsimp only at h0 h1;rw[cellsN]at h0 h1;obtain⟨dx,ok0,e0⟩:=num_trod h0;obtain⟨dz,ok1,e1⟩:=num_trod h1
 match cs,hl with
 |[c0,c1,c2,c3,c4,c5],_=>
  simp only[List.drop_succ_cons,List.drop_zero,List.take_succ_cons,List.take_zero,List.cons.injEq,and_true]at e0 e1;obtain⟨rfl,rfl,rfl⟩:=e0;obtain⟨rfl,rfl,rfl⟩:=e1;exact⟨dx,dz,ok0,ok1,rfl⟩
theorem spot_trod (h:DataW.trod enc Tryz.prog w base spare held fuel 76 cs=some x):∃s:SpotD,SpotOk s/\∀j,j<12->cs[j]?=some (s.cell j):=by
 obtain⟨y0,y1,y2,n,-,hl,h0,h1,h2⟩:=trod_struct3 Tryz.underlying76 h;rw[cellsS]at hl;dsimp only at h0 h1 h2;rw[cellsP]at h0;rw[cellsN]at h1 h2;obtain⟨dx,dz,ok0,ok1,e0⟩:=spot1_trod h0;obtain⟨db,ok2,e1⟩:=num_trod h1;obtain⟨dc,ok3,e2⟩:=num_trod h2
 match cs,hl with
 |[c0,c1,c2,c3,c4,c5,c6,c7,c8,c9,c10,c11],_=>
  simp only[List.drop_succ_cons,List.drop_zero,List.take_succ_cons,List.take_zero,List.cons.injEq,and_true]at e0 e1 e2;obtain⟨rfl,rfl,rfl,rfl,rfl,rfl⟩:=e0;obtain⟨rfl,rfl,rfl⟩:=e1;obtain⟨rfl,rfl,rfl⟩:=e2;refine⟨⟨dx,dz,db,dc⟩,⟨ok0,ok1,ok2,ok3⟩,fun j hj=>?_⟩;rcases j with _|_|_|_|_|_|_|_|_|_|_|_|j<;>first|rfl|omega
theorem spots_trod {a:Option Addr}{len cap:Nat}(h:DataW.trod enc Tryz.prog w base spare held fuel 22 [.slice a len cap]=some x):len<=maxLen/\∃(T:TypeId) (l:List SpotD),l.length=len/\SpotsV T w a l:=by
 rcases open_slice Tryz.underlying22 h with⟨e,-⟩|⟨⟨b,off,sp⟩,len',cap',m,n,D,Pl,e,-,hl,hm,hmm,-,hi⟩
 .simp only[List.cons.injEq,Value.slice.injEq,and_true]at e;obtain⟨rfl,rfl,rfl⟩:=e;exact⟨by unfold maxLen;omega,0,[],rfl,CellsAt.zero _ _ _ _,fun s hs=>by cases hs⟩
 .simp only[List.cons.injEq,Value.slice.injEq,and_true]at e;obtain⟨rfl,rfl,rfl⟩:=e;refine⟨by omega,?_⟩;have hlm:len<=m:=by rw[hmm];split<;>omega
  have hs:∀i,i<len->∃s:SpotD,SpotOk s/\∀j,j<12->w.cell? ((⟨b,off,sp⟩:Addr).add (i*12+j))=some (s.cell j):=fun i hil=>by
   obtain⟨cs',hc,ht⟩:=hi i (by omega);rw[cellsS]at hc;obtain⟨s,ok,hsc⟩:=spot_trod ht;obtain⟨-,hcl,hat⟩:=World.cells?_some hc;refine⟨s,ok,fun j hj=>?_⟩;rw[<-hsc j hj,<-hat j hj,Go.Deep.add_add]
  by_cases h0:0<len
  .obtain⟨s0,-,hs0⟩:=hs 0 h0;have c0:=hs0 0 (by omega);have e0:(⟨b,off,sp⟩:Addr).add (0*12+0)=⟨b,off,sp⟩:=rfl;rw[e0]at c0
   obtain⟨cur,T,fr,hh,rfl⟩:∃cur T fr,w.heap[b]?=some (.cells cur T fr)/\sp=none:=by
    unfold World.cell? at c0;simp only at c0;split at c0
    .rename_i c t f hh
     refine⟨c,t,f,hh,?_⟩
     cases sp with
     |none=>rfl
     |some s=>simp at c0
    .cases c0
   have hex:∀k,∃l:List SpotD,k<=len->l.length=k/\(∀s∈l,SpotOk s)/\∀i,i<k->∀j,j<12->w.cell? ((⟨b,off,none⟩:Addr).add (i*12+j))=some ((l.getD i spot0).cell j):=by
    intro k
    induction k with
    |zero=>exact⟨[],fun _=>⟨rfl,fun s hs=>(by cases hs),fun i hi=>by omega⟩⟩
    |succ k ih=>
     by_cases hk:k+1<=len
     .obtain⟨l,hl⟩:=ih;obtain⟨l1,l2,l3⟩:=hl (by omega);obtain⟨s,ok,hc⟩:=hs k (by omega);refine⟨l++[s],fun _=>⟨by rw[List.length_append,l1];rfl,fun t ht=>?_,fun i hi j hj=>?_⟩⟩
      .rcases List.mem_append.1 ht with ht|ht
       .exact l2 t ht
       .rw[List.mem_singleton.1 ht];exact ok
      .rw[getD_snoc,l1]
       by_cases hik:i<k
       .rw[if_pos hik];exact l3 i hik j hj
       .obtain rfl:i=k:=by omega
        rw[if_neg hik,if_pos rfl];exact hc j hj
     .exact⟨[],fun h=>by omega⟩
   obtain⟨l,hl'⟩:=hex len;obtain⟨l1,l2,l3⟩:=hl' NL;refine⟨T,l,l1,CellsAt.of_block hh fun k hk=>?_,l2⟩;have ck:=l3 (k/12) (by rw[l1]at hk;omega) (k%12) (Nat.mod_lt _ (by decide));rw[show k/12*12+k%12=k by omega]at ck
   have e:w.cell? ((⟨b,off,none⟩:Addr).add k)=cur[off+k]?:=by
    unfold Addr.add
    by_cases h':k=0
    .subst h';simp[World.cell?,hh]
    .simp[h',World.cell?,hh]
   rw[<-e,ck]
  .obtain rfl:len=0:=by omega
   exact⟨0,[],rfl,CellsAt.zero _ _ _ _,fun s hs=>by cases hs⟩
end
end
end Go.Proofs.YtlgjakpoaelehaaGreat.D4
