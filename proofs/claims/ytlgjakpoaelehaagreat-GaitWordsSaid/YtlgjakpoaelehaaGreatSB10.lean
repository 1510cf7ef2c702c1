/- Contracts and plain laws, merged: RW -/
import Derived.OpenShut
import Derived.Test.YtlgjakpoaelehaaGreatSB09
namespace Go.Proofs.YtlgjakpoaelehaaGreat
open Go.RowKit
theorem wordRow {w:World}{a:Option Addr}{len cap:Nat}{zs:List Int}(h:(a=none/\len=0/\cap=0/\zs=[])\/∃x,a=some x/\len<=cap/\cap<=maxLen/\zs.length=cap/\(∀i,i<zs.length->w.cell? (x.add i)=some (.int .u8 (zs.getD i 0)))/\∀n∈zs,(Lit.int .u8 n).wf=true):
 ∃(T:TypeId) (W:List Nat),WordT T w (.slice a len cap) W:=by
 rcases h with⟨rfl,rfl,rfl,rfl⟩|⟨⟨b,off,sp⟩,rfl,hl,hm,hz,hc,hw⟩
 .exact⟨0,[],fun k=>by simp,none,0,rfl,Nat.le_refl _,CellsAt.zero _ _ _ _⟩
 .have hb:∀k,0<=zs.getD k 0/\zs.getD k 0<=255:=fun k=>by
   have:=Go.range_u8 hw k;rw[List.getD_eq_getElem?_getD];exact this
  by_cases h0:0<len
  .have c0:=hc 0 (by omega);have e0:(⟨b,off,sp⟩:Addr).add 0=⟨b,off,sp⟩:=rfl;rw[e0]at c0
   obtain⟨cur,T,fr,hh,rfl⟩:∃cur T fr,w.heap[b]?=some (.cells cur T fr)/\sp=none:=by
    unfold World.cell? at c0;simp only at c0;split at c0
    .rename_i c t f hh
     refine⟨c,t,f,hh,?_⟩
     cases sp with
     |none=>rfl
     |some s=>simp at c0
    .cases c0
   refine⟨T,(zs.take len).map Int.toNat,fun k=>?_,some ⟨b,off,none⟩,cap,?_,?_,?_⟩
   .by_cases hk:k<len
    .have hbk:=hb k;rw[List.getD_eq_getElem?_getD]at hbk|-;rw[List.getElem?_map,List.getElem?_take_of_lt hk];rw[List.getElem?_eq_getElem (show k<zs.length by omega)]at hbk|-;simp only[Option.getD_some,Option.map_some]at hbk|-;omega
    .simp only[List.getD_eq_getElem?_getD,List.getElem?_map,List.getElem?_take_eq_none (show len<=k by omega)];simp
   .simp[hz];omega
   .simp[hz];omega
   .refine CellsAt.of_block hh fun k hk=>?_;have hk':k<len:=by simp at hk;omega
    have ck:=hc k (by omega)
    have e:w.cell? ((⟨b,off,none⟩:Addr).add k)=cur[off+k]?:=by
     unfold Addr.add
     by_cases h':k=0
     .subst h';simp[World.cell?,hh]
     .simp[h',World.cell?,hh]
    rw[<-e,ck];have:=hb k;unfold bw;simp only[List.getD_eq_getElem?_getD,List.getElem?_map,List.getElem?_take_of_lt hk']at this|-;rw[List.getElem?_eq_getElem (show k<zs.length by omega)]at this|-;simp at this|-;omega
  .obtain rfl:len=0:=by omega
   exact⟨0,[],fun k=>by simp,_,cap,rfl,Nat.zero_le _,CellsAt.zero _ _ _ _⟩
end Go.Proofs.YtlgjakpoaelehaaGreat
