/- Contracts and plain laws, merged: Ap -/
import Derived.Test.YtlgjakpoaelehaaGreatSB03
namespace Go.Proofs.YtlgjakpoaelehaaGreat
open Go.RowKit
theorem append_tx {P:Program}{w:World}{t tx e e':TypeId}(ty:TypeId)(ht:P.underlying t=some (.slice e))(htx:P.underlying tx=some (.slice e'))(ao sp:Option Addr)(n c m d:Nat):
 (Builtin.append_ #[t,tx] ty #[.slice ao n c,.slice sp m d]).run P w=(Builtin.append_ #[t,t] ty #[.slice ao n c,.slice sp m d]).run P w:=by
 unfold Builtin.append_;simp[run_underlying ht,run_underlying htx]
theorem wpList_append_tx {P:Program}{w:World}{ops:Array Oper}{rest:List Oper}{o:Oper}{a:Act}{Q:Exit->Act->World->Prop}(hgd:o.guard=none)(s x:Operand)(t tx:TypeId)
 (ho:o.op=.call {callee:=.builtin .append,args:=#[s,x],argTypes:=#[t,tx]}) (base:Nat) {e e':TypeId} {z:Value} {sz bytes:Nat} (ht:P.underlying t=some (.slice e)) (htx:P.underlying tx=some (.slice e'))
 (hinfo:(P.info? e).map (fun i=>(i.zero,i.size,i.bytes))=some (some z,sz,bytes)) (hzs:z.cells.size=sz) (hsz:0<sz)
 {v:Value} {n:Nat} {f:Nat->Value} (hs:a.eval s=v) (hown:OwnS e sz base w v n f)
 {sp:Option Addr} {m c:Nat} {g:Nat->Value} (hx:a.eval x=.slice sp m c) {es:TypeId} (hsrc:CellsAt es w sp (m*sz) g) (h1:∀j,(g j).oneCell'=true)
 (h63:n+m<=maxLen) (hbytes:(n+m)*bytes<=140737488355328) (hbase:base<=w.heap.size)
 (h:∀v' w',OwnS e sz base w' v' (n+m) (appF (n*sz) f g)->w.grownBy w' v.ownBlock->w.drawn<=w'.drawn->wpList P ops Q rest (a.put o.dst v') w'):wpList P ops Q (o::rest) a w:=by
 refine wpList_plain hgd fun K hK=>?_;obtain⟨ao,cap,rfl,-,-⟩:=hown.cells;obtain⟨v',w',hr,h2,h3,h4,-⟩:=run_append_fn (P:=P) o.type ht hinfo hzs hsz hown (c:=c) hsrc h1 h63 hbytes hbase;rw[<-append_tx o.type ht htx]at hr;unfold Oper.wp execOp;simp only[ho,resolve,invoke,builtin,Sem.run_bind,Sem.run_pure,Result.andThen_ok,List.map_toArray,List.map_cons,List.map_nil,hs,hx,hr];exact hK _ _ (h v' w' h2 h3 h4)
end Go.Proofs.YtlgjakpoaelehaaGreat
