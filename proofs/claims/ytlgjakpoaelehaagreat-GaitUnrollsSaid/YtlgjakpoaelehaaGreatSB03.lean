/- Contracts and plain laws, merged: Rep E1 E2 E3 E4 Laws B0 -/
import Derived.BigQuiet
import Derived.Deep.OwnRows
import Derived.Deep.QuietTactic
import Derived.Laws.CopyRow
import Derived.Laws.IdiomCopy
import Derived.Lib.Hide
import Derived.OwnWalk
import Derived.Test.YtlgjakpoaelehaaGreatProg
import Derived.WalkKit
import Derived.WalkLawsBesides
import Derived.WalkSpells
import Derived.Test.YtlgjakpoaelehaaGreatSB01
import Derived.Test.YtlgjakpoaelehaaGreatSB02
namespace Go.Proofs.YtlgjakpoaelehaaGreat
open Go.RowKit
set_option maxHeartbeats 1000000
def Pres (T:TypeId)(w w':World):Prop:=∀(k:Nat) (cur:Array Value) (fr:Nat×Nat),w.heap[k]?=some (.cells cur T fr)->w'.heap[k]?=some (.cells cur T fr)
theorem Pres.refl (T:TypeId)(w:World):Pres T w w:=fun _ _ _ h=>h
theorem Pres.trans {T:TypeId}{a b c:World}(h:Pres T a b)(h':Pres T b c):Pres T a c:=fun k cur fr hk=>h' k cur fr (h k cur fr hk)
theorem Pres.below {T:TypeId}{w w':World}(h:Below w.heap.size w w'):Pres T w w':=fun k cur fr hk=>by
 rw[h.block k (Array.getElem?_eq_some_iff.1 hk).1];exact hk
theorem Pres.drew {T:TypeId}(w:World):Pres T w w.drew:=fun _ _ _ h=>h
theorem Pres.alloc {T:TypeId}(w:World)(o:Obj):Pres T w (w.alloc o):=fun k cur fr hk=>by
 rw[Below.heap_alloc w o k (Array.getElem?_eq_some_iff.1 hk).1];exact hk
theorem Pres.setCell {T T':TypeId}{w:World}{a:Addr}{cur:Array Value}{fr:Nat×Nat}(ha:w.heap[a.block]?=some (.cells cur T' fr))(hT:T≠T')(u:Value):Pres T w (w.setCell a u):=fun k cur' fr' hk=>by
 rw[Below.heap_setCell]
 .exact hk
 .intro e;subst e;rw[ha]at hk;simp at hk;exact hT hk.2.1.symm
theorem Pres.grown {T T':TypeId}{w w':World}{row:Option Nat}(h:w.grownBy w' row)(hr:∀k,row=some k->∃cur fr,w.heap[k]?=some (.cells cur T' fr))(hT:T≠T'):Pres T w w':=fun k cur fr hk=>by
 rw[h.block k (Array.getElem?_eq_some_iff.1 hk).1]
 .exact hk
 .intro e;obtain⟨cur',fr',h2⟩:=hr k e.symm;rw[h2]at hk;simp at hk;exact hT hk.2.1.symm
theorem Pres.drewN {T:TypeId}(w:World)(n:Nat):Pres T w (w.drewN n):=fun _ _ _ h=>h
structure Bel (B:Nat) (w w':World):Prop extends Below B w w'
theorem Bel.of {B:Nat}{w w':World}(h:Below B w w'):Bel B w w':=⟨h⟩
theorem Bel.refl (B:Nat)(w:World):Bel B w w:=⟨Below.refl _ _⟩
theorem Bel.trans {B:Nat}{a b c:World}(h:Bel B a b)(k:Bel B b c):Bel B a c:=⟨h.toBelow.trans k.toBelow⟩
theorem Bel.mono {B B':Nat}{w w':World}(h:Bel B w w')(hB:B'<=B):Bel B' w w':=⟨h.toBelow.mono hB⟩
theorem Bel.drewN {B:Nat}{a w:World}(h:Bel B a w)(n:Nat):Bel B a (w.drewN n):=⟨⟨h.os,h.tape,h.output,h.size,h.block⟩⟩
theorem Bel.drew {B:Nat}{a w:World}(h:Bel B a w):Bel B a w.drew:=⟨h.toBelow.drew⟩
theorem Bel.alloc {B:Nat}{a w:World}(h:Bel B a w)(hB:B<=w.heap.size)(o:Obj):Bel B a (w.alloc o):=⟨h.toBelow.alloc hB o⟩
theorem Bel.setCell {B:Nat}{a w:World}(h:Bel B a w){p:Addr}(hp:B<=p.block)(u:Value):Bel B a (w.setCell p u):=⟨h.toBelow.setCell hp u⟩
theorem Bel.cell {B:Nat}{w w':World}(h:Bel B w w'){p:Addr}(hp:p.block<B):w'.cell? p=w.cell? p:=h.toBelow.cell hp
theorem Bel.frozen {B:Nat}{w w':World}(h:Bel B w w'){p:Addr}(hp:p.block<B):w'.frozen? p=w.frozen? p:=h.toBelow.frozen hp
theorem Bel.next {B:Nat}{a w w':World}(h:Bel B a w)(hB:B<=w.heap.size)(k:Bel w.heap.size w w'):Bel B a w':=h.trans (k.mono hB)
def CellsAt (T:TypeId)(w:World)(ao:Option Addr)(len:Nat)(f:Nat->Value):Prop:=
 0<len->∃(b off:Nat) (cur:Array Value) (fr:Nat×Nat),ao=some ⟨b,off,none⟩/\w.heap[b]?=some (.cells cur T fr)/\∀k,k<len->cur[off+k]?=some (f k)
theorem CellsAt.pres {T:TypeId}{w w':World}{ao:Option Addr}{len:Nat}{f:Nat->Value}(h:CellsAt T w ao len f)(hp:Pres T w w'):CellsAt T w' ao len f:=fun h0=>by
 obtain⟨b,off,cur,fr,e,hb,hc⟩:=h h0;exact⟨b,off,cur,fr,e,hp b cur fr hb,hc⟩
theorem CellsAt.open {T:TypeId}{w:World}{ao:Option Addr}{len:Nat}{f:Nat->Value}(h:CellsAt T w ao len f)(h0:0<len):
 ∃b off,ao=some ⟨b,off,none⟩/\b<w.heap.size/\∀k,k<len->w.cell? ⟨b,off+k,none⟩=some (f k):=by
 obtain⟨b,off,cur,fr,e,hb,hc⟩:=h h0;refine⟨b,off,e,(Array.getElem?_eq_some_iff.1 hb).1,fun k hk=>?_⟩;simp[World.cell?,hb,hc k hk]
theorem CellsAt.zero (T:TypeId)(w:World)(ao:Option Addr)(f:Nat->Value):CellsAt T w ao 0 f:=fun h=>absurd h (by omega)
theorem CellsAt.mono {T:TypeId}{w:World}{ao:Option Addr}{len m:Nat}{f:Nat->Value}(h:CellsAt T w ao len f)(hm:m<=len):CellsAt T w ao m f:=fun h0=>by
 obtain⟨b,off,cur,fr,e,hb,hc⟩:=h (by omega);exact⟨b,off,cur,fr,e,hb,fun k hk=>hc k (by omega)⟩
theorem CellsAt.congr {T:TypeId}{w:World}{ao:Option Addr}{len:Nat}{f g:Nat->Value}(h:CellsAt T w ao len f)(hm:∀k,k<len->f k=g k):CellsAt T w ao len g:=fun h0=>by
 obtain⟨b,off,cur,fr,e,hb,hc⟩:=h h0;exact⟨b,off,cur,fr,e,hb,fun k hk=>by rw[<-hm k hk];exact hc k hk⟩
theorem CellsAt.of_block {T:TypeId}{w:World}{b off len:Nat}{cur:Array Value}{fr:Nat×Nat}{f:Nat->Value}(hb:w.heap[b]?=some (.cells cur T fr))(hc:∀k,k<len->cur[off+k]?=some (f k)):
 CellsAt T w (some ⟨b,off,none⟩) len f:=fun _=>⟨b,off,cur,fr,rfl,hb,hc⟩
theorem CellsAt.of_row {T:TypeId}{w:World}{b n:Nat}{f:Nat->Value}(h:w.rowIs b T n f):CellsAt T w (some ⟨b,0,none⟩) n f:=by
 obtain⟨c,hb,hn,hc⟩:=h;exact CellsAt.of_block hb fun k hk=>by rw[Nat.zero_add];exact hc k hk
theorem Pres.setRow {T T':TypeId}{w:World}{b i n:Nat}{f:Nat->Value}(h:w.rowIs b T' n f)(hT:T≠T')(u:Value):Pres T w (w.setCell ⟨b,i,none⟩ u):=by
 obtain⟨c,hb,hn,hc⟩:=h;exact Pres.setCell (a:=⟨b,i,none⟩) hb hT u
theorem row_step {T:TypeId}{w:World}{b n k:Nat}{f g:Nat->Value}(h:w.rowIs b T n f)(hf:∀j,j<k->f j=g j){v:Value}(hv:v=g k):
 ∃f',(w.setCell ⟨b,k,none⟩ v).rowIs b T n f'/\∀j,j<k+1->f' j=g j:=by
 refine⟨_,h.set k v,fun j hj=>?_⟩
 by_cases e:j=k
 .rw[if_pos e,hv,e]
 .rw[if_neg e];exact hf j (by omega)
theorem CellsAt.of_row' {T:TypeId}{w:World}{b n:Nat}{f g:Nat->Value}(h:w.rowIs b T n f)(hf:∀j,j<n->f j=g j):CellsAt T w (some ⟨b,0,none⟩) n g:=(CellsAt.of_row h).congr hf
theorem Tryz.infoU32:(Tryz.prog.info? 232).map (fun i=>(i.zero,i.size,i.bytes))=some (some (.int .u32 0),1,4):=by kernel_rfl
def dv (a k:Nat):Value:=.int .u32 (dig a k)
def NatV (w:World)(v:Value)(n:Nat):Prop:=∃ao,v=.slice ao (nlen n) (nlen n)/\CellsAt 232 w ao (nlen n) (dv n)
theorem NatV.pres {w w':World}{v:Value}{n:Nat}(h:NatV w v n)(hp:Pres 232 w w'):NatV w' v n:=by
 obtain⟨ao,e,hc⟩:=h;exact⟨ao,e,hc.pres hp⟩
theorem NatV.below {w w':World}{v:Value}{n:Nat}(h:NatV w v n)(hp:Bel w.heap.size w w'):NatV w' v n:=h.pres (.below hp.toBelow)
theorem NatV.nil (w:World):NatV w (.slice none 0 0) 0:=⟨none,rfl,.zero _ _ _ _⟩
def Gives (w:World)(R:Value->World->Prop)(e:Ending)(w':World):Prop:=∃v,e=.returned v/\R v w'/\Bel w.heap.size w w'
theorem bcell {W w1:World}(hb:Bel W.heap.size W w1):(∀b o,b<W.heap.size->w1.cell? ⟨b,o,none⟩=W.cell? ⟨b,o,none⟩)/\(∀b o,b<W.heap.size->w1.frozen? ⟨b,o,none⟩=W.frozen? ⟨b,o,none⟩):=
 ⟨fun b o h=>hb.cell (p:=⟨b,o,none⟩) h,fun b o h=>hb.frozen (p:=⟨b,o,none⟩) h⟩
def Big:Nat:=1000000000000
theorem norm_pos (b off len cap a:Nat)(w:World)(ha:a<W32^len)
 (hc:∀k,k<len->w.cell? ⟨b,off+k,none⟩=some (dv a k)) (hlen:len<=1000000000000) (hcap:len<=cap):
 Calls Tryz.prog 143 #[.slice (some ⟨b,off,none⟩) len cap] w fun e w'=>e=.returned (.slice (some ⟨b,off,none⟩) (nlen a) (nlen a))/\w=w':=by
 unfold dv at hc;have hn0:=(nlen_le_iff a len).2 ha
 go_enter Tryz.func143,Tryz.ntmps143
 go_wp2
 go_loop [3] (fun n=>∃k:Nat,k<=len/\n=.int .i64 k/\nlen a<=k) (fun n=>(intOf n).toNat)
 case atStart=>exact⟨len,by omega,rfl,hn0⟩
 case round=>
  obtain⟨k,hk,rfl,hn⟩:=hrel
  cases k with
  |zero=>
   go_wp2;go_ret;have e:nlen a=0:=by omega
   rw[e];exact⟨rfl,rfl⟩
  |succ k=>
   have hcell:=hc k (by omega)
   by_cases hz:dig a k=0
   .go_wp2
    go_round
    case rel=>exact⟨k,by omega,by go_num,(nlen_le_iff a k).2 (nlen_le_of_dig ((nlen_le_iff a (k+1)).1 hn) hz)⟩
    case measure=>simp[intOf]
   .have hz2:((dig a k:Int)==0)=false:=by simp;omega
    have HE:=Lib.hid (nlen_of_dig ((nlen_le_iff a (k+1)).1 hn) hz);go_wp2;go_ret;rw[HE.out];exact⟨rfl,rfl⟩
theorem norm_zero (ao:Option Addr)(cap:Nat)(w:World):
 Calls Tryz.prog 143 #[.slice ao 0 cap] w fun e w'=>e=.returned (.slice ao 0 0)/\w=w':=by
 cases ao
 all_goals
  go_enter Tryz.func143,Tryz.ntmps143
  go_wp2
  go_loop [3] (fun n=>n=.int .i64 0) (fun n=>(intOf n).toNat)
  case atStart=>rfl
  case round=>
   subst hrel;go_wp2;go_ret;exact⟨rfl,rfl⟩
theorem norm_c {w:World}{ao:Option Addr}{len cap a:Nat}(hc:CellsAt 232 w ao len (dv a))(ha:a<W32^len)(hlen:len<=1000000000000)(hcap:len<=cap):
 Calls Tryz.prog 143 #[.slice ao len cap] w fun e w'=>e=.returned (.slice ao (nlen a) (nlen a))/\w=w':=by
 by_cases h0:len=0
 .subst h0;have e:a=0:=by simpa using ha
  subst e;exact norm_zero ao cap w
 .obtain⟨b,off,rfl,hb,h⟩:=hc.open (by omega);exact norm_pos b off len cap a w ha h hlen hcap
theorem NatV.of_norm {w:World}{ao:Option Addr}{len a:Nat}(hc:CellsAt 232 w ao len (dv a))(ha:a<W32^len):NatV w (.slice ao (nlen a) (nlen a)) a:=
 ⟨ao,rfl,hc.mono ((nlen_le_iff a len).2 ha)⟩
theorem natOf_cells (n:Nat)(hn:n<18446744073709551616)(w:World):
 CellsAt 232 (w.alloc (.cells #[.int .u32 ((n:Int)%4294967296),.int .u32 ((n:Int)/4294967296)] 232)) (some ⟨w.heap.size,0,none⟩) 2 (dv n):=by
 refine CellsAt.of_block (cur:=#[.int .u32 ((n:Int)%4294967296),.int .u32 ((n:Int)/4294967296)]) (fr:=(0,0)) (heap_alloc_new w _) fun k hk=>?_
 match k,hk with
 |0,_=>simp[dv,dig,W32]
 |1,_=>
  simp[dv,dig,W32];omega
theorem natOf_c (n:Nat)(hn:n<18446744073709551616)(w:World):
 Calls Tryz.prog 138 #[.int .u64 n] w (Gives w fun v w'=>NatV w' v n):=by
 have H:=Lib.hid (natOf_cells n hn w)
 go_enter Tryz.func138,Tryz.ntmps138
 go_wp2_with fail
 refine(norm_c H.out (by simp[W32];omega) (by omega) (by omega)).mono ?_;rintro e w' ⟨rfl,rfl⟩;go_wp2;go_ret;exact⟨_,rfl,NatV.of_norm H.out (by simp[W32];omega),(Bel.refl _ _).alloc (Nat.le_refl _) _⟩
theorem cmpN_len {a b:Nat}(h:nlen a<nlen b):a<b:=by
 by_cases hc:a<b
 .exact hc
 .have:=nlen_mono (show b<=a by omega);omega
def EqFrom (a b k:Nat):Prop:=a/W32^k=b/W32^k
theorem EqFrom.top {a b n:Nat}(ha:a<W32^n)(hb:b<W32^n):EqFrom a b n:=by
 unfold EqFrom;rw[Nat.div_eq_of_lt ha,Nat.div_eq_of_lt hb]
theorem div_succ (a k:Nat):a/W32^k=W32*(a/W32^(k+1))+dig a k:=by
 unfold dig;rw[Nat.pow_succ,<-Nat.div_div_eq_div_mul,Nat.div_add_mod]
theorem EqFrom.step {a b k:Nat}(h:EqFrom a b (k+1))(hd:dig a k=dig b k):EqFrom a b k:=by
 unfold EqFrom at *;rw[div_succ,div_succ b,h,hd]
theorem EqFrom.zero {a b:Nat}(h:EqFrom a b 0):a=b:=by simpa[EqFrom]using h
theorem EqFrom.lt {a b k:Nat}(h:EqFrom a b (k+1))(hd:dig a k<dig b k):a<b:=by
 unfold EqFrom at h;have h2:a/W32^k<b/W32^k:=by rw[div_succ,div_succ b,h];omega
 by_cases hc:a<b
 .exact hc
 .have:=Nat.div_le_div_right (c:=W32^k) (show b<=a by omega);omega
theorem EqFrom.symm {a b k:Nat}(h:EqFrom a b k):EqFrom b a k:=Eq.symm h
theorem cmp_c {w:World}{va vb:Value}{a b:Nat}(ha:NatV w va a)(hb:NatV w vb b)(hsa:nlen a<=1000000000000)(_hsb:nlen b<=1000000000000):
 Calls Tryz.prog 142 #[va,vb] w fun e w'=>e=.returned (.int .i64 (cmpN a b))/\Bel w.heap.size w w':=by
 obtain⟨aa,rfl,hca⟩:=ha;obtain⟨ab,rfl,hcb⟩:=hb
 by_cases hlt:nlen a<nlen b
 .have hl:=cmpN_len hlt;have h1:((nlen a:Int) !=(nlen b:Int))=true:=by simp;omega
  go_enter Tryz.func142,Tryz.ntmps142
  go_wp2;go_ret;exact⟨by rw[cmpN,if_pos hl];rfl,Bel.refl _ _⟩
 by_cases hgt:nlen b<nlen a
 .have hl:=cmpN_len hgt;have h1:((nlen a:Int) !=(nlen b:Int))=true:=by simp;omega
  go_enter Tryz.func142,Tryz.ntmps142
  go_wp2;go_ret;exact⟨by rw[cmpN,if_neg (by omega),if_neg (by omega)];rfl,Bel.refl _ _⟩
 have heq:nlen b=nlen a:=by omega
 rw[heq]at hcb|-;have hta:=EqFrom.top (lt_pow_nlen a) (by rw[<-heq];exact lt_pow_nlen b);generalize nlen a=n at *;clear heq _hsb;have h1:((n:Int) !=(n:Int))=false:=by simp
 go_enter Tryz.func142,Tryz.ntmps142
 go_wp2;have HT:=Lib.hid hta;clear hta hlt hgt
 go_loopw [5] (fun i wr=>∃k:Nat,k<=n/\i=.int .i64 (k-1)/\Hid (EqFrom a b k)/\Bel w.heap.size w wr) (fun n _=>(intOf n+1).toNat)
 case atStart=>exact⟨n,by omega,rfl,HT,Bel.refl _ _⟩
 case round=>
  obtain⟨k,hk,rfl,HE,hB⟩:=hrel
  cases k with
  |zero=>
   go_wp2;go_ret;have:=EqFrom.zero HE.out;subst this;exact⟨by simp[cmpN],hB⟩
  |succ k=>
   obtain⟨b1,o1,rfl,hl1,hc1⟩:=hca.open (by omega);obtain⟨b2,o2,rfl,hl2,hc2⟩:=hcb.open (by omega);have g1:=(hB.cell (p:=⟨b1,o1+k,none⟩) hl1).trans (hc1 k (by omega));have g2:=(hB.cell (p:=⟨b2,o2+k,none⟩) hl2).trans (hc2 k (by omega));unfold dv at g1 g2;have HB:=Lib.hid hB;clear hB hca hcb hc1 hc2
   by_cases he:dig a k=dig b k
   .have t1:((dig a k:Int) !=(dig b k:Int))=false:=by simp;omega
    have HE2:=Lib.hid (EqFrom.step HE.out he);clear he;go_wp2
    go_quiet (fail)
    go_wp2
    go_roundw
    case rel=>exact⟨k,by omega,by go_num,HE2,HB.out.drewN _⟩
    case measure=>simp[intOf]<;>omega
   .have t1:((dig a k:Int) !=(dig b k:Int))=true:=by simp;omega
    by_cases hlt:dig a k<dig b k
    .have t2:decide (dig a k<dig b k)=true:=by simp;omega
     have hfin:=EqFrom.lt HE.out hlt;go_wp2
     go_quiet (fail)
     go_wp2
     go_quiet (fail)
     go_wp2;go_ret;exact⟨by rw[cmpN,if_pos hfin];rfl,(HB.out.drewN _).drewN _⟩
    .have t2:decide (dig a k<dig b k)=false:=by simp;omega
     have hfin:=EqFrom.lt HE.out.symm (show dig b k<dig a k by omega);go_wp2
     go_quiet (fail)
     go_wp2
     go_quiet (fail)
     go_wp2;go_ret;exact⟨by rw[cmpN,if_neg (by omega),if_neg (by omega)];rfl,(HB.out.drewN _).drewN _⟩
theorem add_round {w wr:World}{a b k n B:Nat}{f:Nat->Value}{x y:Int}(hrow:wr.rowIs B 232 n f)(hf:∀j,j<k->f j=dv (a+b) j)(hB:Bel w.heap.size w wr)(hb:w.heap.size<=B)
 (hx:x=((cin a b k+dig a k+dig b k:Nat):Int)%4294967296) (hy:y=((cin a b k+dig a k+dig b k:Nat):Int)/4294967296):
 .int .u64 y=Value.int .u64 (cin a b (k+1))/\∃f:Nat->Value,(wr.setCell ⟨B,k,none⟩ (.int .u32 x)).rowIs B 232 n f/\(∀j,j<k+1->f j=dv (a+b) j)/\Bel w.heap.size w (wr.setCell ⟨B,k,none⟩ (.int .u32 x)):=by
 have h1:=dig_add a b k;have h2:=cin_succ a b k;refine⟨?_,?_⟩
 .rw[hy,h2];unfold W32;congr 1
 .obtain⟨f',hr,hf'⟩:=row_step hrow hf (v:=.int .u32 x) (by rw[hx];unfold dv;rw[h1];unfold W32;congr 1);exact⟨f',hr,hf',hB.setCell (p:=⟨B,k,none⟩) hb _⟩
theorem add_end {w wr:World}{a b n B:Nat}{f:Nat->Value}{x:Int}(hrow:wr.rowIs B 232 (n+1) f)(hf:∀j,j<n->f j=dv (a+b) j)(hB:Bel w.heap.size w wr)(hb:w.heap.size<=B)
 (ha:a<W32^n) (hb':b<W32^n) (hx:x=(cin a b n:Int)%4294967296):
 CellsAt 232 (wr.setCell ⟨B,n,none⟩ (.int .u32 x)) (some ⟨B,0,none⟩) (n+1) (dv (a+b))/\a+b<W32^(n+1)/\Bel w.heap.size w (wr.setCell ⟨B,n,none⟩ (.int .u32 x)):=by
 have h1:=cin_le a b n;obtain⟨f',hr,hf'⟩:=row_step hrow hf (v:=.int .u32 x) (by rw[hx];unfold dv;rw[dig_add_top ha hb'];congr 1;omega);refine⟨CellsAt.of_row' hr hf',?_,hB.setCell (p:=⟨B,n,none⟩) hb _⟩;rw[Nat.pow_succ];have:W32^n*2<=W32^n*W32:=Nat.mul_le_mul_left _ (by decide);omega
theorem add_ge {w:World}{aa ab:Option Addr}{a b:Nat}(hca:CellsAt 232 w aa (nlen a) (dv a))(hcb:CellsAt 232 w ab (nlen b) (dv b))(hsa:nlen a<=100000000000)(hsb:nlen b<=100000000000)(hle:¬nlen a<nlen b):
 Calls Tryz.prog 137 #[.slice aa (nlen a) (nlen a),.slice ab (nlen b) (nlen b)] w (Gives w fun v w'=>NatV w' v (a+b)):=by
 have hxa:nlen b<=nlen a:=by omega
 have hmk:=run_make_row' (P:=Tryz.prog) 35 232 (.int .u32 0) 4 Tryz.underlying35 Tryz.infoU32 rfl .i64 .i64 (nlen a+1) (by omega) (by omega);have elen:((nlen a+1:Nat):Int)=(nlen a:Int)+1:=by omega
 rw[elen]at hmk;have ha:=lt_pow_nlen a;have hb:b<W32^nlen a:=Nat.lt_of_lt_of_le (lt_pow_nlen b) (W32_pow_mono hxa);have HA:=Lib.hid ha;have HB:=Lib.hid hb;have HC1:=Lib.hid hca;have HC2:=Lib.hid hcb;clear ha hb hca hcb elen
 go_enter Tryz.func137,Tryz.ntmps137
 go_wp2
 go_loopw [6,21] (fun c i wr=>∃k:Nat,k<=nlen a/\i=.int .i64 k/\c=.int .u64 (cin a b k)/\∃f:Nat->Value,wr.rowIs w.heap.size 232 (nlen a+1) f/\(∀j,j<k->f j=dv (a+b) j)/\Bel w.heap.size w wr) (fun _ i _=>nlen a-(intOf i).toNat)
 case atStart=>
  exact⟨0,by omega,rfl,by rw[cin_zero];rfl,_,World.rowIs_made w _ _ _,fun j hj=>by omega,(Bel.refl _ _).alloc (Nat.le_refl _) _⟩
 case round=>
  obtain⟨k,hk,rfl,rfl,f,hrow,hf,hB⟩:=hrel;have hcin:=cin_le a b k;have fz:=hrow.frozen k;have fc:=hrow.cell (show k<nlen a+1 by omega);have HR:=Lib.hid hrow;have HF:=Lib.hid hf;have HBw:=Lib.hid hB
  by_cases hlt:k<nlen a
  .obtain⟨b1,o1,rfl,hl1,hc1⟩:=HC1.out.open (by omega);have g1:=(hB.cell (p:=⟨b1,o1+k,none⟩) hl1).trans (hc1 k hlt);unfold dv at g1;clear hc1;have d1:=dig_lt' a k
   by_cases hl2:k<nlen b
   .obtain⟨b2,o2,rfl,hl2',hc2⟩:=HC2.out.open (by omega);have g2:=(hB.cell (p:=⟨b2,o2+k,none⟩) hl2').trans (hc2 k hl2);unfold dv at g2;clear hc2 hrow hf hB;have d2:=dig_lt' b k;go_wp2
    go_roundw
    case rel=>exact⟨k+1,by omega,by go_num,add_round HR.out HF.out HBw.out (Nat.le_refl _) (by omega) (by omega)⟩
    case measure=>simp[intOf]<;>omega
   .have HD:=Lib.hid (dig_ge (Nat.lt_of_lt_of_le (lt_pow_nlen b) (W32_pow_mono (show nlen b<=k by omega))));clear hrow hf hB;go_wp2
    go_roundw
    case rel=>exact⟨k+1,by omega,by go_num,add_round HR.out HF.out HBw.out (Nat.le_refl _) (by rw[HD.out];omega) (by rw[HD.out];omega)⟩
    case measure=>simp[intOf]<;>omega
  .obtain rfl:k=nlen a:=by omega
   have HE:=Lib.hid (add_end (x:=(cin a b (nlen a):Int)) hrow hf hB (Nat.le_refl _) HA.out HB.out (by omega));clear hrow hf hB
   go_wp2_with fail
   refine(norm_c HE.out.1 HE.out.2.1 (by omega) (by omega)).mono ?_;rintro e w' ⟨rfl,rfl⟩;go_wp2;go_ret;exact⟨_,rfl,NatV.of_norm HE.out.1 HE.out.2.1,HE.out.2.2⟩
theorem add_lt {w:World}{aa ab:Option Addr}{a b:Nat}(hca:CellsAt 232 w aa (nlen a) (dv a))(hcb:CellsAt 232 w ab (nlen b) (dv b))(hsa:nlen a<=100000000000)(hsb:nlen b<=100000000000)(hle:nlen a<nlen b):
 Calls Tryz.prog 137 #[.slice aa (nlen a) (nlen a),.slice ab (nlen b) (nlen b)] w (Gives w fun v w'=>NatV w' v (b+a)):=by
 have hxb:nlen a<=nlen b:=by omega
 have hmk:=run_make_row' (P:=Tryz.prog) 35 232 (.int .u32 0) 4 Tryz.underlying35 Tryz.infoU32 rfl .i64 .i64 (nlen b+1) (by omega) (by omega);have elen:((nlen b+1:Nat):Int)=(nlen b:Int)+1:=by omega
 rw[elen]at hmk;have hb:=lt_pow_nlen b;have ha:a<W32^nlen b:=Nat.lt_of_lt_of_le (lt_pow_nlen a) (W32_pow_mono hxb);have HA:=Lib.hid hb;have HB:=Lib.hid ha;have HC1:=Lib.hid hca;have HC2:=Lib.hid hcb;clear hb ha hca hcb elen
 go_enter Tryz.func137,Tryz.ntmps137
 go_wp2
 go_loopw [6,21] (fun c i wr=>∃k:Nat,k<=nlen b/\i=.int .i64 k/\c=.int .u64 (cin b a k)/\∃f:Nat->Value,wr.rowIs w.heap.size 232 (nlen b+1) f/\(∀j,j<k->f j=dv (b+a) j)/\Bel w.heap.size w wr) (fun _ i _=>nlen b-(intOf i).toNat)
 case atStart=>
  exact⟨0,by omega,rfl,by rw[cin_zero];rfl,_,World.rowIs_made w _ _ _,fun j hj=>by omega,(Bel.refl _ _).alloc (Nat.le_refl _) _⟩
 case round=>
  obtain⟨k,hk,rfl,rfl,f,hrow,hf,hB⟩:=hrel;have hcin:=cin_le b a k;have fz:=hrow.frozen k;have fc:=hrow.cell (show k<nlen b+1 by omega);have HR:=Lib.hid hrow;have HF:=Lib.hid hf;have HBw:=Lib.hid hB
  by_cases hlt:k<nlen b
  .obtain⟨b1,o1,rfl,hl1,hc1⟩:=HC2.out.open (by omega);have g1:=(hB.cell (p:=⟨b1,o1+k,none⟩) hl1).trans (hc1 k hlt);unfold dv at g1;clear hc1;have d1:=dig_lt' b k
   by_cases hl2:k<nlen a
   .obtain⟨b2,o2,rfl,hl2',hc2⟩:=HC1.out.open (by omega);have g2:=(hB.cell (p:=⟨b2,o2+k,none⟩) hl2').trans (hc2 k hl2);unfold dv at g2;clear hc2 hrow hf hB;have d2:=dig_lt' a k;go_wp2
    go_roundw
    case rel=>exact⟨k+1,by omega,by go_num,add_round HR.out HF.out HBw.out (Nat.le_refl _) (by omega) (by omega)⟩
    case measure=>simp[intOf]<;>omega
   .have HD:=Lib.hid (dig_ge (Nat.lt_of_lt_of_le (lt_pow_nlen a) (W32_pow_mono (show nlen a<=k by omega))));clear hrow hf hB;go_wp2
    go_roundw
    case rel=>exact⟨k+1,by omega,by go_num,add_round HR.out HF.out HBw.out (Nat.le_refl _) (by rw[HD.out];omega) (by rw[HD.out];omega)⟩
    case measure=>simp[intOf]<;>omega
  .obtain rfl:k=nlen b:=by omega
   have HE:=Lib.hid (add_end (x:=(cin b a (nlen b):Int)) hrow hf hB (Nat.le_refl _) HA.out HB.out (by omega));clear hrow hf hB
   go_wp2_with fail
   refine(norm_c HE.out.1 HE.out.2.1 (by omega) (by omega)).mono ?_;rintro e w' ⟨rfl,rfl⟩;go_wp2;go_ret;exact⟨_,rfl,NatV.of_norm HE.out.1 HE.out.2.1,HE.out.2.2⟩
theorem add_c {w:World}{va vb:Value}{a b:Nat}(ha:NatV w va a)(hb:NatV w vb b)(hsa:nlen a<=100000000000)(hsb:nlen b<=100000000000):
 Calls Tryz.prog 137 #[va,vb] w (Gives w fun v w'=>NatV w' v (a+b)):=by
 obtain⟨aa,rfl,hca⟩:=ha;obtain⟨ab,rfl,hcb⟩:=hb
 by_cases h:nlen a<nlen b
 .have:=add_lt hca hcb hsa hsb h
  rwa [Nat.add_comm]at this
 .exact add_ge hca hcb hsa hsb h
theorem ret_int2 {k k':IntKind}{a b a' b':Int}(h:a=a')(h':b=b'):Ending.returned (.tuple #[.int k a,.int k' b])=.returned (.tuple #[.int k a',.int k' b']):=by rw[h,h']
theorem sub32_c (x y b:Nat)(hx:x<4294967296)(hy:y<4294967296)(hb:b<=1)(w:World):
 Calls Tryz.prog 187 #[.int .u32 x,.int .u32 y,.int .u32 b] w fun e w'=>e=.returned (.tuple #[.int .u32 (dif x y b),.int .u32 (brw x y b)])/\w=w':=by
 go_enter Tryz.func187,Tryz.ntmps187
 go_wp2
 go_ret2
 have hd:((x:Int)-y-b)%4294967296=dif x y b:=by unfold dif;omega
 exact⟨ret_int2 hd (sub32_bits x y b hx hy hb _ hd),rfl⟩
theorem add32_c (x y b:Nat)(hx:x<4294967296)(hy:y<4294967296)(hb:b<=1)(w:World):
 Calls Tryz.prog 202 #[.int .u32 x,.int .u32 y,.int .u32 b] w fun e w'=>e=.returned (.tuple #[.int .u32 ((x+y+b)%4294967296:Nat),.int .u32 ((x+y+b)/4294967296:Nat)])/\w=w':=by
 go_enter Tryz.func202,Tryz.ntmps202
 go_wp2
 go_ret2
 exact⟨ret_int2 (by omega) (by omega),rfl⟩
theorem sub_round {w wr:World}{a b k n B:Nat}{f:Nat->Value}(hle:b<=a)(hrow:wr.rowIs B 232 n f)(hf:∀j,j<k->f j=dv (a-b) j)(hB:Bel w.heap.size w wr)(hb:w.heap.size<=B){db:Nat}(hdb:dig b k=db):
 Value.int .u32 (brw (dig a k) db (bin a b k))=Value.int .u32 (bin a b (k+1))/\∃f:Nat->Value,(wr.setCell ⟨B,k,none⟩ (.int .u32 (dif (dig a k) db (bin a b k)))).rowIs B 232 n f/\(∀j,j<k+1->f j=dv (a-b) j)/\Bel w.heap.size w (wr.setCell ⟨B,k,none⟩ (.int .u32 (dif (dig a k) db (bin a b k)))):=by
 subst hdb;refine⟨by rw[bin_succ],?_⟩;obtain⟨f',hr,hf'⟩:=row_step hrow hf (v:=.int .u32 (dif (dig a k) (dig b k) (bin a b k))) (by unfold dv;rw[dig_sub hle]);exact⟨f',hr,hf',hB.setCell (p:=⟨B,k,none⟩) hb _⟩
theorem sub_c {w:World}{va vb:Value}{a b:Nat}(ha:NatV w va a)(hb:NatV w vb b)(hsa:nlen a<=100000000000)(hle:b<=a):
 Calls Tryz.prog 141 #[va,vb] w (Gives w fun v w'=>NatV w' v (a-b)):=by
 obtain⟨aa,rfl,hca⟩:=ha;obtain⟨ab,rfl,hcb⟩:=hb;have hn:=nlen_mono hle;have hmk:=run_make_row' (P:=Tryz.prog) 35 232 (.int .u32 0) 4 Tryz.underlying35 Tryz.infoU32 rfl .i64 .i64 (nlen a) (by omega) (by omega);have HC1:=Lib.hid hca;have HC2:=Lib.hid hcb;have HLE:=Lib.hid hle;clear hca hcb hle
 go_enter Tryz.func141,Tryz.ntmps141
 go_wp2
 go_loopw [6,14] (fun c i wr=>∃k:Nat,k<=nlen a/\i=.int .i64 k/\c=.int .u32 (bin a b k)/\∃f:Nat->Value,wr.rowIs w.heap.size 232 (nlen a) f/\(∀j,j<k->f j=dv (a-b) j)/\Bel w.heap.size w wr) (fun _ i _=>nlen a-(intOf i).toNat)
 case atStart=>
  exact⟨0,by omega,rfl,by rw[bin_zero];rfl,_,World.rowIs_made w _ _ _,fun j hj=>by omega,(Bel.refl _ _).alloc (Nat.le_refl _) _⟩
 case round=>
  obtain⟨k,hk,rfl,rfl,f,hrow,hf,hB⟩:=hrel;have hbin:=bin_le a b k;have HR:=Lib.hid hrow;have HF:=Lib.hid hf;have HBw:=Lib.hid hB
  by_cases hlt:k<nlen a
  .obtain⟨b1,o1,rfl,hl1,hc1⟩:=HC1.out.open (by omega);have g1:=(hB.cell (p:=⟨b1,o1+k,none⟩) hl1).trans (hc1 k hlt);unfold dv at g1;have fz:=hrow.frozen k;have fc:=hrow.cell hlt;have d1:=dig_lt' a k;have d2:=dig_lt' b k;clear hc1
   by_cases hl2:k<nlen b
   .obtain⟨b2,o2,rfl,hl2',hc2⟩:=HC2.out.open (by omega);have g2:=(hB.cell (p:=⟨b2,o2+k,none⟩) hl2').trans (hc2 k hl2);unfold dv at g2;clear hc2 hrow hf hB
    go_wp2_with (go_at_call 187;refine(sub32_c _ _ _ d1 d2 hbin _).mono ?_;rintro e w' ⟨rfl,rfl⟩)
    go_roundw
    case rel=>exact⟨k+1,by omega,by go_num,sub_round HLE.out HR.out HF.out HBw.out (Nat.le_refl _) rfl⟩
    case measure=>simp[intOf]<;>omega
   .have HD:=Lib.hid (dig_ge (Nat.lt_of_lt_of_le (lt_pow_nlen b) (W32_pow_mono (show nlen b<=k by omega))));clear hrow hf hB
    go_wp2_with (go_at_call 187;refine(sub32_c _ 0 _ d1 (by decide) hbin _).mono ?_;rintro e w' ⟨rfl,rfl⟩)
    go_roundw
    case rel=>exact⟨k+1,by omega,by go_num,sub_round HLE.out HR.out HF.out HBw.out (Nat.le_refl _) HD.out⟩
    case measure=>simp[intOf]<;>omega
  .obtain rfl:k=nlen a:=by omega
   have HE:=Lib.hid (CellsAt.of_row' hrow hf);have HL:=Lib.hid (Nat.lt_of_le_of_lt (Nat.sub_le a b) (lt_pow_nlen a));clear hrow hf hB
   go_wp2_with fail
   refine(norm_c HE.out HL.out (by omega) (by omega)).mono ?_;rintro e w' ⟨rfl,rfl⟩;go_wp2;go_ret;exact⟨_,rfl,NatV.of_norm HE.out HL.out,HBw.out⟩
def iv (d:Nat->Nat)(k:Nat):Value:=.int .u32 (d k)
def DRow (wr:World)(B n:Nat)(d:Nat->Nat):Prop:=wr.rowIs B 232 n (iv d)/\∀j,d j<4294967296
theorem DRow.set {wr:World}{B n:Nat}{d:Nat->Nat}(h:DRow wr B n d)(i v:Nat)(hv:v<4294967296):DRow (wr.setCell ⟨B,i,none⟩ (.int .u32 v)) B n (fun j=>if j=i then v else d j):=by
 refine⟨(h.1.set i _).congr fun j _=>?_,fun j=>?_⟩
 .by_cases e:j=i<;>simp[iv,e]
 .by_cases e:j=i
  .simp only[e,if_true];exact hv
  .simp only[e,if_false];exact h.2 j
theorem DRow.cell {wr:World}{B n:Nat}{d:Nat->Nat}(h:DRow wr B n d){i:Nat}(hi:i<n):wr.cell? ⟨B,i,none⟩=some (.int .u32 (d i)):=h.1.cell hi
theorem DRow.frozen {wr:World}{B n:Nat}{d:Nat->Nat}(h:DRow wr B n d)(i:Nat):wr.frozen? ⟨B,i,none⟩=false:=h.1.frozen i
theorem DRow.made (w:World)(n:Nat):DRow (w.alloc (.cells (madeCells #[.int .u32 0] n) 232)) w.heap.size n (fun _=>0):=
 ⟨(World.rowIs_made w (.int .u32 0) n 232).congr fun j _=>rfl,fun j=>by show(0:Nat)<_;decide⟩
theorem DRow.cells {wr:World}{B n a:Nat}{d:Nat->Nat}(h:DRow wr B n d)(hv:val d n=a):CellsAt 232 wr (some ⟨B,0,none⟩) n (dv a)/\a<W32^n:=by
 refine⟨(CellsAt.of_row h.1).congr fun k hk=>?_,by rw[<-hv];exact val_lt d n fun j _=>h.2 j⟩;unfold iv dv;rw[<-hv,dig_val d n (fun j _=>h.2 j) k hk]
def MulIn (w wr:World)(B n:Nat)(d:Nat->Nat)(x b i k c:Nat):Prop:=
 ∃d',DRow wr B n d'/\(∀j,i+k<=j->d' j=d j)/\val d' (i+k)+c*W32^(i+k)=val d (i+k)+x*(b%W32^k)*W32^i/\Bel w.heap.size w wr
def MulOut (w wr:World)(B n:Nat)(a b i m:Nat):Prop:=
 ∃d,DRow wr B n d/\(∀j,i+m<=j->d j=0)/\val d n=(a%W32^i)*b/\Bel w.heap.size w wr
theorem mulIn_start {w wr:World}{B n:Nat}{d:Nat->Nat}(x b i:Nat)(h:DRow wr B n d)(hB:Bel w.heap.size w wr):MulIn w wr B n d x b i 0 0:=
 ⟨d,h,fun _ _=>rfl,by simp[Nat.mod_one],hB⟩
theorem mulIn_step {w wr:World}{B n:Nat}{d:Nat->Nat}{x b i k c s:Nat}(h:MulIn w wr B n d x b i k c)(hb:w.heap.size<=B)(hs:s=c+x*dig b k+d (i+k)):
 MulIn w (wr.setCell ⟨B,i+k,none⟩ (.int .u32 (s%4294967296:Nat))) B n d x b i (k+1) (s/4294967296):=by
 obtain⟨d',hr,hd,hv,hB⟩:=h;refine⟨_,hr.set (i+k) _ (Nat.mod_lt _ (by decide)),fun j hj=>?_,?_,hB.setCell (p:=⟨B,i+k,none⟩) hb _⟩
 .rw[if_neg (by omega)];exact hd j (by omega)
 .have e1:val (fun j=>if j=i+k then s%4294967296 else d' j) (i+(k+1))=val d' (i+k)+W32^(i+k)*(s%W32):=by
   rw[<-Nat.add_assoc,val_step (d:=d') (fun j hj=>if_neg (by omega))];rw[if_pos rfl];rfl
  have e2:val d (i+(k+1))=val d (i+k)+W32^(i+k)*d (i+k):=by rw[<-Nat.add_assoc,val]
  rw[e1,e2];exact mul_inner hv rfl hs
theorem mulIn_end {w wr:World}{B n:Nat}{d:Nat->Nat}{a b i m c:Nat}(h:MulIn w wr B n d (dig a i) b i m c)(hb:w.heap.size<=B)(hm:b<W32^m)(hn:i+m<n)(hc:c<4294967296)
 (hz:∀j,i+m<=j->d j=0) (hv:val d n=(a%W32^i)*b):MulOut w (wr.setCell ⟨B,i+m,none⟩ (.int .u32 c)) B n a b (i+1) m:=by
 obtain⟨d',hr,hd,hv',hB⟩:=h;refine⟨_,hr.set (i+m) c hc,fun j hj=>?_,?_,hB.setCell (p:=⟨B,i+m,none⟩) hb _⟩
 .rw[if_neg (by omega),hd j (by omega)];exact hz j (by omega)
 .have e1:val (fun j=>if j=i+m then c else d' j) n=val (fun j=>if j=i+m then c else d' j) (i+m+1):=
   val_zeros (by omega) fun j h1 _=>by rw[if_neg (by omega),hd j (by omega)];exact hz j (by omega)
  have e2:val (fun j=>if j=i+m then c else d' j) (i+m+1)=val d' (i+m)+W32^(i+m)*c:=by
   rw[val_step (d:=d') (fun j hj=>if_neg (by omega)),if_pos rfl]
  have e3:val d n=val d (i+m):=val_zeros (by omega) fun j h1 _=>hz j h1;rw[e1,e2,mod_succ,Nat.add_mul,<-hv,e3];rw[mod_of_lt hm]at hv';have e4:W32^i*dig a i*b=dig a i*b*W32^i:=by grind
  rw[e4,<-hv',Nat.mul_comm c]
theorem mul_carry {w wr:World}{B n:Nat}{d:Nat->Nat}{x b i k c:Nat}(h:MulIn w wr B n d x b i k c)(hx:x<4294967296)(hd:∀j,d j<4294967296):c<4294967296:=by
 obtain⟨d',hr,_,hv,_⟩:=h;have h1:=val_lt d (i+k) fun j _=>hd j
 have h2:x*(b%W32^k)*W32^i<=4294967295*W32^(i+k):=by
  have h3:=Nat.mod_lt b (W32_pow_pos k);have h4:x*(b%W32^k)<=4294967295*W32^k:=Nat.mul_le_mul (by omega) (by omega);have h5:=Nat.mul_le_mul_right (W32^i) h4;rw[Nat.pow_add]
  grind
 have h6:c*W32^(i+k)<4294967296*W32^(i+k):=by omega
 exact Nat.lt_of_mul_lt_mul_right h6
theorem mul_c {w:World}{va vb:Value}{a b:Nat}(ha:NatV w va a)(hb:NatV w vb b)(hsa:nlen a<=100000000000)(hsb:nlen b<=100000000000):
 Calls Tryz.prog 87 #[va,vb] w (Gives w fun v w'=>NatV w' v (a*b)):=by
 obtain⟨aa,rfl,hca⟩:=ha;obtain⟨ab,rfl,hcb⟩:=hb;have hmk:=run_make_row' (P:=Tryz.prog) 35 232 (.int .u32 0) 4 Tryz.underlying35 Tryz.infoU32 rfl .i64 .i64 (nlen a+nlen b) (by omega) (by omega);have elen:((nlen a+nlen b:Nat):Int)=(nlen a:Int)+nlen b:=by omega
 rw[elen]at hmk;have HC1:=Lib.hid hca;have HC2:=Lib.hid hcb;clear hca hcb elen
 go_enter Tryz.func87,Tryz.ntmps87
 go_wp2
 go_loopw [19] (fun i wr=>∃k:Nat,k<=nlen a/\i=.int .i64 k/\MulOut w wr w.heap.size (nlen a+nlen b) a b k (nlen b)) (fun i _=>nlen a-(intOf i).toNat)
 case atStart=>
  refine⟨0,by omega,rfl,_,DRow.made w _,fun j _=>rfl,?_,(Bel.refl _ _).alloc (Nat.le_refl _) _⟩;rw[val_zeros (Nat.zero_le _) (fun _ _ _=>rfl)];simp[val,Nat.mod_one]
 case round=>
  obtain⟨i,hi,rfl,hmo⟩:=hrel;have HM:=Lib.hid hmo
  by_cases hlt:i<nlen a
  .obtain⟨d,hrow,hz,hv,hB⟩:=hmo;obtain⟨b1,o1,rfl,hl1,hc1⟩:=HC1.out.open (by omega);have g1:=(hB.cell (p:=⟨b1,o1+i,none⟩) hl1).trans (hc1 i hlt);unfold dv at g1;have d1:=dig_lt' a i;have HMI:=Lib.hid (mulIn_start (dig a i) b i hrow hB);have HZ:=Lib.hid hz;have HV:=Lib.hid hv;have hdd:=hrow.2;have HDD:=Lib.hid hdd;clear hc1 hrow hz hv hB hdd;obtain⟨wo,hwo⟩:∃wo,wo=wr:=⟨_,rfl⟩
   go_wp2
   go_loopw [8,26] (fun c i' wq=>∃k c':Nat,k<=nlen b/\i'=.int .i64 k/\c=.int .u64 c'/\MulIn w wq w.heap.size (nlen a+nlen b) d (dig a i) b i k c') (fun _ i' _=>nlen b-(intOf i').toNat)
   case atStart=>exact⟨0,0,by omega,rfl,rfl,HMI.out⟩
   case round=>
    obtain⟨k,c,hk,rfl,rfl,hmi⟩:=hrel;have hcar:=mul_carry hmi d1 HDD.out;have HI:=Lib.hid hmi
    by_cases hlt2:k<nlen b
    .obtain⟨b2,o2,rfl,hl2,hc2⟩:=HC2.out.open (by omega);obtain⟨d',hr',hd',-,hB'⟩:=hmi;have g2:=(hB'.cell (p:=⟨b2,o2+k,none⟩) hl2).trans (hc2 k hlt2);unfold dv at g2;have d2:=dig_lt' b k;have fc:=hr'.cell (show i+k<nlen a+nlen b by omega);rw[hd' (i+k) (Nat.le_refl _)]at fc;have fz:=hr'.frozen (i+k);have d3:=HDD.out (i+k);have hsm:=mul_small hcar d1 d2 d3;clear hc2 hr' hd' hB';go_wp2;rw[show((c:Int)+((dig a i:Int)*(dig b k:Int)+(d (i+k):Int)))=((c+dig a i*dig b k+d (i+k):Nat):Int)from by push_cast;omega]
     go_roundw
     case rel=>exact⟨k+1,_,by omega,by go_num,by rw[Int.natCast_ediv];rfl,mulIn_step HI.out (Nat.le_refl _) rfl⟩
     case measure=>simp[intOf]<;>omega
    .obtain rfl:k=nlen b:=by omega
     obtain⟨d',hr',-,-,-⟩:=hmi;have fc:=hr'.cell (show i+nlen b<nlen a+nlen b by omega);have fz:=hr'.frozen (i+nlen b);clear hr';have HE:=Lib.hid (mulIn_end HI.out (Nat.le_refl _) (lt_pow_nlen b) (by omega) hcar HZ.out HV.out);go_wp2
     go_roundw
     case rel=>exact⟨i+1,by omega,by go_num,HE.out⟩
     case measure=>simp[intOf]<;>omega
  .obtain rfl:i=nlen a:=by omega
   obtain⟨d,hrow,-,hv,hB⟩:=hmo;rw[mod_of_lt (lt_pow_nlen a)]at hv;have HE:=Lib.hid (hrow.cells hv);have HBw:=Lib.hid hB;clear hrow hv hB
   go_wp2_with fail
   refine(norm_c HE.out.1 HE.out.2 (by omega) (by omega)).mono ?_;rintro e w' ⟨rfl,rfl⟩;go_wp2;go_ret;exact⟨_,rfl,NatV.of_norm HE.out.1 HE.out.2,HBw.out⟩
structure Onl (B:Nat) (w w':World):Prop where
 os:w'.os=w.os
 tape:w'.tape=w.tape
 output:w'.output=w.output
 size:w'.heap.size=w.heap.size
 drawn:w.drawn<=w'.drawn
 block:∀k,k≠B->w'.heap[k]?=w.heap[k]?
theorem Onl.refl (B:Nat)(w:World):Onl B w w:=⟨rfl,rfl,rfl,rfl,Nat.le_refl _,fun _ _=>rfl⟩
theorem Onl.trans {B:Nat}{a b c:World}(h:Onl B a b)(k:Onl B b c):Onl B a c:=
 ⟨k.os.trans h.os,k.tape.trans h.tape,k.output.trans h.output,k.size.trans h.size,Nat.le_trans h.drawn k.drawn,fun i hi=>(k.block i hi).trans (h.block i hi)⟩
theorem Onl.setCell {B:Nat}{a w:World}(h:Onl B a w)(i:Nat)(u:Value):Onl B a (w.setCell ⟨B,i,none⟩ u):=
 h.trans ⟨rfl,rfl,rfl,by simp[World.setCell],Nat.le_refl _,fun k hk=>Below.heap_setCell _ _ _ _ hk⟩
theorem Onl.drewN {B:Nat}{a w:World}(h:Onl B a w)(n:Nat):Onl B a (w.drewN n):=⟨h.os,h.tape,h.output,h.size,Nat.le_trans h.drawn (Nat.le_add_right _ _),h.block⟩
theorem Onl.bel {B C:Nat}{w w':World}(h:Onl B w w')(hC:C<=B):Bel C w w':=⟨⟨h.os,h.tape,h.output,Nat.le_of_eq h.size.symm,fun k hk=>h.block k (by omega)⟩⟩
theorem Onl.row {B b n:Nat}{T:TypeId}{w w':World}{f:Nat->Value}(h:Onl B w w')(hne:b≠B)(hr:w.rowIs b T n f):w'.rowIs b T n f:=hr.of_block (h.block b hne)
def cpyF (off n:Nat)(s f:Nat->Value)(j:Nat):Value:=if off<=j/\j<off+n then s (j-off) else f j
theorem cpyF_in {off n j:Nat}(s f:Nat->Value)(h1:off<=j)(h2:j<off+n):cpyF off n s f j=s (j-off):=if_pos ⟨h1,h2⟩
theorem cpyF_out {off n j:Nat}(s f:Nat->Value)(h:j<off\/off+n<=j):cpyF off n s f j=f j:=if_neg (by omega)
theorem run_copy_fn {P:Program}(w:World)(dT sT ty T:TypeId)(hu:P.underlying dT=some (.slice T))(hsz:(P.info? T).map (·.size)=some 1)
 {g off N dLen dCap sLen sCap:Nat} {sp:Option Addr} {f s:Nat->Value} (hr:w.rowIs g T N f) (hs:CellsAt T w sp sLen s) (h1:∀j,(s j).oneCell'=true) (hle:sLen<=dLen) (hfit:off+sLen<=N):
 ∃w',(Builtin.copy_ #[dT,sT] ty #[.slice (some ⟨g,off,none⟩) dLen dCap,.slice sp sLen sCap]).run P w=.ok (goInt sLen) w'/\
  w'.rowIs g T N (cpyF off sLen s f)/\Onl g w w':=by
 by_cases h0:sLen=0
 .subst h0;refine⟨w,run_copy_none w dT sT ty T _ _ _ _ _ _ hu hsz (by simp),hr.congr fun i _=>(cpyF_out _ _ (by omega)).symm,Onl.refl _ _⟩
 .obtain⟨b,o,rfl,hb,hc⟩:=hs.open (by omega);obtain⟨cur,hg,hN,hcur⟩:=hr;have hcs:((List.range sLen).map s).length=Nat.min sLen dLen:=by rw[List.length_map,List.length_range];exact(Nat.min_eq_left hle).symm
  have hget:∀j v,((List.range sLen).map s)[j]?=some v->w.cell? ((⟨b,o,none⟩:Addr).add j)=some v:=by
   intro j v hv
   have hj:j<sLen:=by
    by_cases h:j<sLen
    .exact h
    .rw[List.getElem?_eq_none (by simp;omega)]at hv;cases hv
   rw[List.getElem?_map,List.getElem?_range hj]at hv;simp at hv;have e:(⟨b,o,none⟩:Addr).add j=⟨b,o+j,none⟩:=by unfold Addr.add;split<;>simp_all
   rw[e,<-hv];exact hc j hj
  have hrun:=run_copy_row P w dT sT ty T g off dLen dCap ⟨b,o,none⟩ sLen sCap cur T ((List.range sLen).map s) hu hsz hg hcs hget (by simp;omega) (by intro v hv;simp at hv;obtain⟨a,_,rfl⟩:=hv;exact h1 a);rw[show(((List.range sLen).map s).length:Int)=sLen by simp]at hrun;refine⟨_,hrun,⟨_,setRow_heap w g cur _ T _ hg,?_,fun i hi=>?_⟩,⟨rfl,rfl,rfl,by simp,Nat.le_refl _,fun k hk=>setRow_other w g k _ hk⟩⟩
  .simp;omega
  .simp only[List.getElem?_toArray];rw[List.append_assoc]
   by_cases hi1:i<off
   .rw[List.getElem?_append_left (by simp;omega),List.getElem?_take_of_lt hi1,cpyF_out _ _ (by omega)]
    simpa using hcur i hi
   .rw[List.getElem?_append_right (by simp;omega)];have e1:(List.take off cur.toList).length=off:=by simp;omega
    rw[e1]
    by_cases hi2:i<off+sLen
    .rw[List.getElem?_append_left (by simp;omega),List.getElem?_map,List.getElem?_range (by omega),cpyF_in _ _ (by omega) hi2];rfl
    .rw[List.getElem?_append_right (by simp;omega),cpyF_out _ _ (by omega),List.getElem?_drop];have e2:off+((List.range sLen).map s).length+(i-off-((List.range sLen).map s).length)=i:=by simp;omega
     rw[e2]
     simpa using hcur i hi
theorem wpList_copy_fn {P:Program}{w:World}{ops:Array Oper}{rest:List Oper}{o:Oper}{a:Act}{Q:Exit->Act->World->Prop}(hgd:o.guard=none)(d s:Operand)(dT sT:TypeId)
 (ho:o.op=.call {callee:=.builtin .copy,args:=#[d,s],argTypes:=#[dT,sT]}) (T:TypeId) (hu:P.underlying dT=some (.slice T)) (hsz:(P.info? T).map (·.size)=some 1)
 {g off N dLen dCap sLen sCap:Nat} {sp:Option Addr} {f sf:Nat->Value} (hd:a.eval d=.slice (some ⟨g,off,none⟩) dLen dCap) (hs:a.eval s=.slice sp sLen sCap)
 (hr:w.rowIs g T N f) (hsc:CellsAt T w sp sLen sf) (h1:∀j,(sf j).oneCell'=true) (hle:sLen<=dLen) (hfit:off+sLen<=N)
 (h:∀w',w'.rowIs g T N (cpyF off sLen sf f)->Onl g w w'->wpList P ops Q rest (a.put o.dst (goInt sLen)) w'):wpList P ops Q (o::rest) a w:=by
 refine wpList_plain hgd fun K hK=>?_;obtain⟨w',hrun,h2,h3⟩:=run_copy_fn (P:=P) w dT sT o.type T hu hsz (dCap:=dCap) (sCap:=sCap) hr hsc h1 hle hfit;unfold Oper.wp;simp[execOp,ho,resolve,invoke,builtin,hd,hs,hrun,Result.andThen];exact hK _ _ (h w' h2 h3)
theorem run_append_drawn {P:Program}{w:World}{base:Nat}{t ty e:TypeId}{i:TypeInfo}{z:Value}(ht:P.underlying t=some (.slice e))(hi:P.info? e=some i)(hz:i.zero=some z)
 {v:Value} {n:Nat} {xs:List Value} (hown:w.ownsRow base e i.size v n xs)
 {a:Addr} {m c:Nat} {news:List Value} (hl:news.length=m*i.size) (hnews:∀j u,news[j]?=some u->w.cell? (a.add j)=some u) (h1:∀u∈news,u.oneCell'=true)
 (h63:n+m<=maxLen) (hbytes:(n+m)*i.bytes<=140737488355328) {v':Value} {w':World}
 (hr:(Builtin.append_ #[t,t] ty #[v,.slice (some a) m c]).run P w=.ok v' w'):w.drawn<=w'.drawn:=by
 have hsmall:n+m<=9223372036854775807:=by simp only[maxLen]at h63;omega
 rcases hown.2 with⟨rfl,rfl⟩|⟨g,cap,cur,rfl,hbg,hg,hnc,hcm,hcs,htake⟩
 .by_cases hm:m=0
  .subst hm;simp[Builtin.append_,run_underlying ht,sizeOf,typeInfo,hi,Builtin.lenOf,Builtin.firstCells,loadCells,loadCellsFrom]at hr;rw[hr.2];exact Nat.le_refl _
  .rw[run_append_nil (P:=P) w t ty e i z ht hi hz a m c news hl hnews (by omega) (by omega) (by have hb:=hbytes;simp only[Nat.zero_add]at hb;omega)]at hr
   cases hr;exact Nat.le_add_right _ _
 .by_cases hroom:n+m<=cap
  .have hfit:n*i.size+news.length<=cur.size:=by rw[hl,hcs,<-Nat.add_mul];exact Nat.mul_le_mul_right _ hroom
   rw[run_append_room (P:=P) w t ty e i ht hi g n cap cur hg a m c news hl hnews h1 hroom hfit]at hr
   cases hr;exact Nat.le_refl _
  .have holds:∀j u,xs[j]?=some u->w.cell? ((⟨g,0,none⟩:Addr).add j)=some u:=hown.cells (g:=g) rfl;rw[run_append_grow (P:=P) w t ty e i z ht hi hz ⟨g,0,none⟩ n cap xs hown.1 holds a m c news hl hnews (by omega) (by omega) (growslice_fits (by omega) hbytes)]at hr
   cases hr;exact Nat.le_add_right _ _
def appF (k:Nat)(f g:Nat->Value)(j:Nat):Value:=if j<k then f j else g (j-k)
theorem appF_lt {k j:Nat}(f g:Nat->Value)(h:j<k):appF k f g j=f j:=if_pos h
theorem appF_ge {k j:Nat}(f g:Nat->Value)(h:k<=j):appF k f g j=g (j-k):=if_neg (by omega)
def OwnS (T:TypeId)(sz base:Nat)(w:World)(v:Value)(n:Nat)(f:Nat->Value):Prop:=∃xs,w.ownsRow base T sz v n xs/\∀j,j<n*sz->xs[j]?=some (f j)
theorem OwnS.nil (T:TypeId)(sz base:Nat)(w:World)(f:Nat->Value):OwnS T sz base w (.slice none 0 0) 0 f:=⟨[],World.ownsRow_nil _ _ _ _,fun j hj=>by omega⟩
theorem OwnS.congr {T:TypeId}{sz base:Nat}{w:World}{v:Value}{n:Nat}{f g:Nat->Value}(h:OwnS T sz base w v n f)(hf:∀j,j<n*sz->f j=g j):OwnS T sz base w v n g:=by
 obtain⟨xs,h1,h2⟩:=h;exact⟨xs,h1,fun j hj=>by rw[h2 j hj,hf j hj]⟩
theorem OwnS.alloc {T:TypeId}{sz base:Nat}{w:World}{v:Value}{n:Nat}{f:Nat->Value}(h:OwnS T sz base w v n f)(o:Obj):OwnS T sz base (w.alloc o) v n f:=by
 obtain⟨xs,h1,h2⟩:=h;exact⟨xs,h1.alloc o,h2⟩
theorem OwnS.drewN {T:TypeId}{sz base:Nat}{w:World}{v:Value}{n:Nat}{f:Nat->Value}(h:OwnS T sz base w v n f)(k:Nat):OwnS T sz base (w.drewN k) v n f:=h
theorem OwnS.bel {T:TypeId}{sz base:Nat}{w w':World}{v:Value}{n:Nat}{f:Nat->Value}(h:OwnS T sz base w v n f)(hb:Bel w.heap.size w w'):OwnS T sz base w' v n f:=by
 obtain⟨xs,h1,h2⟩:=h;refine⟨xs,⟨h1.1,?_⟩,h2⟩;rcases h1.2 with h1|⟨g,cap,cur,e,hg,hh,r⟩
 .exact .inl h1
 .exact .inr ⟨g,cap,cur,e,hg,by rw[hb.block g (Array.getElem?_eq_some_iff.1 hh).1];exact hh,r⟩
theorem OwnS.cells {T:TypeId}{sz base:Nat}{w:World}{v:Value}{n:Nat}{f:Nat->Value}(h:OwnS T sz base w v n f):∃ao cap,v=.slice ao n cap/\n<=cap/\CellsAt T w ao (n*sz) f:=by
 obtain⟨xs,h1,h2⟩:=h;rcases h1.2 with⟨rfl,rfl⟩|⟨g,cap,cur,rfl,hg,hh,hn,hcap,hsz,ht⟩
 .exact⟨none,0,rfl,Nat.le_refl _,by rw[Nat.zero_mul];exact CellsAt.zero _ _ _ _⟩
 .refine⟨_,_,rfl,hn,CellsAt.of_block hh fun k hk=>?_⟩;have:=h2 k hk;rw[<-ht,List.getElem?_take_of_lt hk]at this;rw[Nat.zero_add]
  simpa using this
theorem OwnS.own {T:TypeId}{sz base:Nat}{w:World}{v:Value}{n:Nat}{f:Nat->Value}(h:OwnS T sz base w v n f):∀k,v.ownBlock=some k->base<=k/\k<w.heap.size/\∃cur,w.heap[k]?=some (.cells cur T (0,0)):=by
 intro k hk;obtain⟨xs,h1,h2⟩:=h;rcases h1.2 with⟨rfl,rfl⟩|⟨g,cap,cur,rfl,hg,hh,-⟩
 .simp[Value.ownBlock]at hk
 .simp[Value.ownBlock]at hk;subst hk;exact⟨hg,(Array.getElem?_eq_some_iff.1 hh).1,cur,hh⟩
theorem OwnS.fresh {T:TypeId}{sz base:Nat}{w:World}{v:Value}{n:Nat}{f:Nat->Value}(h:OwnS T sz base w v n f):base<=w.heap.size\/v.ownBlock=none:=by
 cases hv:v.ownBlock with
 |none=>exact .inr rfl
 |some k=>have:=h.own k hv;exact .inl (by omega)
theorem run_append_zero {P:Program}{w:World}{t ty e:TypeId}{i:TypeInfo}(ht:P.underlying t=some (.slice e))(hi:P.info? e=some i)(ao sp:Option Addr)(n cap c:Nat)(hn:n<=cap):
 (Builtin.append_ #[t,t] ty #[.slice ao n cap,.slice sp 0 c]).run P w=.ok (.slice ao n cap) w:=by
 cases ao<;>cases sp<;>simp[Builtin.append_,run_underlying ht,sizeOf,typeInfo,hi,Builtin.lenOf,Builtin.firstCells,loadCells,loadCellsFrom,hn,storeCells]
theorem run_append_fn {P:Program}{w:World}{base:Nat}{t e:TypeId}(ty:TypeId){z:Value}{sz bytes:Nat}(ht:P.underlying t=some (.slice e))(hinfo:(P.info? e).map (fun i=>(i.zero,i.size,i.bytes))=some (some z,sz,bytes))(hzs:z.cells.size=sz)(hsz:0<sz)
 {v:Value} {n:Nat} {f:Nat->Value} (hown:OwnS e sz base w v n f)
 {sp:Option Addr} {m c:Nat} {g:Nat->Value} {es:TypeId} (hsrc:CellsAt es w sp (m*sz) g) (h1:∀j,(g j).oneCell'=true) (h63:n+m<=maxLen) (hbytes:(n+m)*bytes<=140737488355328) (hbase:base<=w.heap.size):
 ∃v' w',(Builtin.append_ #[t,t] ty #[v,.slice sp m c]).run P w=.ok v' w'/\OwnS e sz base w' v' (n+m) (appF (n*sz) f g)/\w.grownBy w' v.ownBlock/\w.drawn<=w'.drawn/\(m=0->v'=v/\w'=w):=by
 obtain⟨i,hi,hz0,hz1,hz2⟩:=info_parts hinfo
 by_cases hm:m=0
 .subst hm;obtain⟨ao,cap,rfl,hn,-⟩:=hown.cells;refine⟨_,w,run_append_zero ht hi ao sp n cap c hn,hown.congr fun j hj=>(appF_lt _ _ hj).symm,World.grownBy.refl _ _,Nat.le_refl _,fun _=>⟨rfl,rfl⟩⟩
 .obtain⟨b,o,rfl,hb,hc⟩:=hsrc.open (by have:=Nat.mul_pos (show 0<m by omega) hsz;omega);obtain⟨xs,hx,hxf⟩:=hown;have hlen:((List.range (m*sz)).map g).length=m*sz:=by simp
  have hnews:∀j u,((List.range (m*sz)).map g)[j]?=some u->w.cell? ((⟨b,o,none⟩:Addr).add j)=some u:=by
   intro j u hu
   have hj:j<m*sz:=by
    by_cases h:j<m*sz
    .exact h
    .rw[List.getElem?_eq_none (by simp;omega)]at hu;cases hu
   rw[List.getElem?_map,List.getElem?_range hj]at hu;simp at hu;have e:(⟨b,o,none⟩:Addr).add j=⟨b,o+j,none⟩:=by unfold Addr.add;split<;>simp_all
   rw[e,<-hu];exact hc j hj
  have hone:∀u∈(List.range (m*sz)).map g,u.oneCell'=true:=by intro u hu;simp at hu;obtain⟨a,_,rfl⟩:=hu;exact h1 a
  obtain⟨v',w',hr,h2,h3,-⟩:=run_append_own (P:=P) w base t ty e i z sz bytes ht hi hz0 hz1 hz2 hzs hsz v n xs hx ⟨b,o,none⟩ m c _ hlen hnews hone h63 hbytes hbase;subst hz1 hz2;have h4:=run_append_drawn ht hi hz0 hx hlen hnews hone h63 hbytes hr;refine⟨v',w',hr,⟨_,h2,fun j hj=>?_⟩,h3,h4,fun h=>absurd h hm⟩
  by_cases hj2:j<n*i.size
  .rw[List.getElem?_append_left (by rw[hx.1];exact hj2),appF_lt _ _ hj2];exact hxf j hj2
  .rw[List.getElem?_append_right (by rw[hx.1];omega),hx.1,appF_ge _ _ (by omega),List.getElem?_map,List.getElem?_range (by rw[Nat.add_mul]at hj;omega)];rfl
theorem wpList_append_fn {P:Program}{w:World}{ops:Array Oper}{rest:List Oper}{o:Oper}{a:Act}{Q:Exit->Act->World->Prop}(hgd:o.guard=none)(s x:Operand)(t:TypeId)
 (ho:o.op=.call {callee:=.builtin .append,args:=#[s,x],argTypes:=#[t,t]}) (base:Nat) {e:TypeId} {z:Value} {sz bytes:Nat} (ht:P.underlying t=some (.slice e))
 (hinfo:(P.info? e).map (fun i=>(i.zero,i.size,i.bytes))=some (some z,sz,bytes)) (hzs:z.cells.size=sz) (hsz:0<sz)
 {v:Value} {n:Nat} {f:Nat->Value} (hs:a.eval s=v) (hown:OwnS e sz base w v n f)
 {sp:Option Addr} {m c:Nat} {g:Nat->Value} (hx:a.eval x=.slice sp m c) {es:TypeId} (hsrc:CellsAt es w sp (m*sz) g) (h1:∀j,(g j).oneCell'=true)
 (h63:n+m<=maxLen) (hbytes:(n+m)*bytes<=140737488355328) (hbase:base<=w.heap.size)
 (h:∀v' w',OwnS e sz base w' v' (n+m) (appF (n*sz) f g)->w.grownBy w' v.ownBlock->w.drawn<=w'.drawn->wpList P ops Q rest (a.put o.dst v') w'):wpList P ops Q (o::rest) a w:=by
 refine wpList_plain hgd fun K hK=>?_;obtain⟨v',w',hr,h2,h3,h4,-⟩:=run_append_fn (P:=P) o.type ht hinfo hzs hsz hown (c:=c) hsrc h1 h63 hbytes hbase;unfold Oper.wp execOp;simp only[ho,resolve,invoke,builtin,Sem.run_bind,Sem.run_pure,Result.andThen_ok,List.map_toArray,List.map_cons,List.map_nil,hs,hx,hr];exact hK _ _ (h v' w' h2 h3 h4)
theorem Bel.grown {B:Nat}{a w w':World}{row:Option Nat}(h:Bel B a w)(hg:w.grownBy w' row)(_:w.drawn<=w'.drawn)(hB:B<=w.heap.size)(hr:∀k,row=some k->B<=k):Bel B a w':=
 ⟨h.toBelow.grown hg hB hr⟩
theorem Bel.grownS {T:TypeId}{sz base B:Nat}{a w w':World}{v:Value}{n:Nat}{f:Nat->Value}(h:Bel B a w)(ho:OwnS T sz base w v n f)(hg:w.grownBy w' v.ownBlock)(hd:w.drawn<=w'.drawn)(hB:B<=w.heap.size)(hr:B<=base):Bel B a w':=
 h.grown hg hd hB fun k hk=>by have:=ho.own k hk;omega
theorem Pres.grownS {T T':TypeId}{sz base:Nat}{w w':World}{v:Value}{n:Nat}{f:Nat->Value}(ho:OwnS T' sz base w v n f)(hg:w.grownBy w' v.ownBlock)(hT:T≠T'):Pres T w w':=
 Pres.grown hg (fun k hk=>by obtain⟨_,_,cur,hc⟩:=ho.own k hk;exact⟨cur,(0,0),hc⟩) hT
theorem LH {p : Prop} (h : p) : Hid p := Lib.hid h
theorem Bel.pb {T : TypeId} {w w' : World} (h : Bel w.heap.size w w') : Pres T w w' := Pres.below h.toBelow
theorem Bel.new {w : World} {o : Obj} : Bel w.heap.size w (w.alloc o) := (Bel.refl _ _).alloc (Nat.le_refl _) _
theorem NL {n : Nat} : n ≤ n := Nat.le_refl n
theorem Sd {p : Prop} (h : p := by first | (simp; done) | (simp; omega)) : p := h
end Go.Proofs.YtlgjakpoaelehaaGreat
namespace Go.Proofs.YtlgjakpoaelehaaGreat.D4
open Go.RowKit
set_option maxHeartbeats 1000000
theorem infoInt:(Tryz.prog.info? 3).map (fun i=>(i.zero,i.size,i.bytes))=some (some (.int .i64 0),1,8):=by kernel_rfl
theorem own_snoc {T:TypeId}{base k:Nat}{w':World}{v':Value}{f:Nat->Value}{u:Value}(h:OwnS T 1 base w' v' (k+1) (appF (k*1) f fun _=>u))(hu:u=f k):OwnS T 1 base w' v' (k+1) f:=by
 refine h.congr fun j hj=>?_
 by_cases e:j<k
 .rw[appF_lt _ _ (by omega)]
 .obtain rfl:j=k:=by omega
  rw[appF_ge _ _ (by omega),hu]
theorem name_call {P:Program}{f:Nat}{args:Array Value}{w:World}{Q:Ending->World->Prop}(h:∀W0,W0=w->Calls P f args W0 Q):Calls P f args w Q:=h w rfl
end Go.Proofs.YtlgjakpoaelehaaGreat.D4
