/- Contracts and plain laws, merged: O0 -/
import Derived.Deep.RegionHeld3
import Derived.Sort.Grow
import Derived.Test.YtlgjakpoaelehaaGreatSB19
namespace Go.Proofs.YtlgjakpoaelehaaGreat
open Go.RowKit
set_option maxRecDepth 100000
set_option maxHeartbeats 4000000
structure SHd (w W0:World) (N:Nat) (w':World):Prop extends SHs w W0 N w' where
 drawn:w.drawn<=w'.drawn
theorem SHd.drew {w W0 w':World}{N:Nat}(h:SHd w W0 N w'):SHd w W0 N w'.drew:=⟨h.toSHs.drew,Nat.le_succ_of_le h.drawn⟩
theorem SHd.drewN {w W0 w':World}{N:Nat}(h:SHd w W0 N w')(n:Nat):SHd w W0 N (w'.drewN n):=⟨h.toSHs.drewN n,Nat.le_trans h.drawn (Nat.le_add_right _ _)⟩
theorem SHd.alloc {w W0 w':World}{N:Nat}(h:SHd w W0 N w')(o:Obj):SHd w W0 N (w'.alloc o):=⟨h.toSHs.alloc o,h.drawn⟩
theorem SHd.hold {w W0 w':World}{N:Nat}(h:SHd w W0 N w'):(∀(b o:Nat),b<N->w'.cell? ⟨b,o,none⟩=W0.cell? ⟨b,o,none⟩)/\SHd w W0 N w':=⟨h.toSHs.hold.1,h⟩
theorem before_g {w:World}{va vb:Value}{a b:StateD}(ha:StateV w va a)(hb:StateV w vb b)(hn:a.holds.length<=1000000):
 Calls Tryz.prog 64 #[va,vb] w fun e w'=>e=.returned (.int .i64 (befS a b))/\Bel w.heap.size w w'/\w.drawn<=w'.drawn:=by
 obtain⟨ha',rfl,ao,ca,rfl,hca,hxa⟩:=ha;obtain⟨hb',rfl,bo,cb,rfl,hcb,hxb⟩:=hb;have HE:Hid (befS a b=or2 (cmpZ a.phase b.phase) (cmpL a.holds b.holds)):=rfl;generalize befS a b=R at HE|-
 have hxa2:∀W0,Bel w.heap.size w W0->∀w',Bel W0.heap.size W0 w'->Calls Tryz.prog 127 #[.slice ao a.holds.length ca,.slice bo b.holds.length cb] w' fun e w''=>e=.returned (.int .i64 (cmpL a.holds b.holds))/\w''=w':=
  fun W0 h w' h'=>compareInts_c ((hxa.bel h).bel h') ((hxb.bel h).bel h') hn
 clear hxa hxb
 go_enter Tryz.func64,Tryz.ntmps64
 go_wp2_with fail
 refine name_world ?_;intro W0 hW0;obtain⟨a0,a1,-,-⟩:=row2 (at_world hW0 (b:=w.heap.size) ((heap_old _ _ (by simp)).trans (heap_new _ _ rfl)));obtain⟨b0,b1,-,-⟩:=row2 (at_world hW0 (b:=w.heap.size+1) (heap_new _ _ (by simp)));have hl0:w.heap.size<W0.heap.size:=by rw[hW0];simp;omega
 have hl1:w.heap.size+1<W0.heap.size:=by rw[hW0];simp
 have hBW:Bel w.heap.size w W0:=by rw[hW0];exact Bel.new.alloc (by simp) _
 have HX:=LH (hxa2 W0 hBW);have hst:SHd w W0 W0.heap.size W0:=⟨SHs.start hBW.size NL hBW,by rw[hW0];exact Nat.le_refl _⟩
 clear hW0
 go_region_held3 (fun w'=>(∀(b o:Nat),b<W0.heap.size->w'.cell? ⟨b,o,none⟩=W0.cell? ⟨b,o,none⟩)/\SHd w W0 W0.heap.size w')
  (((try dsimp only);(try (rename _/\_=>hh;rcases hh with⟨hSc,hSb⟩));refine SHd.hold ?_;(repeat first|with_reducible assumption|with_reducible refine SHd.alloc ?_ _|with_reducible refine SHd.drew ?_|with_reducible refine SHd.drewN ?_ _);done))
  (first
   |(go_at_call_of 126 Value.int;(try (rename _/\_=>hh;rcases hh with⟨hSc,hSb⟩));refine(cmpInt_c).mono ?_;rintro e w20 ⟨rfl,rfl⟩)
   |(go_at_call 127;(try (rename _/\_=>hh;rcases hh with⟨hSc,hSb⟩));refine(HX.out _ hSb.near).mono ?_;rintro e w21 ⟨rfl,rfl⟩)
   |(go_at_call 125;(try (rename _/\_=>hh;rcases hh with⟨hSc,hSb⟩));refine(orInt_c (by simp) (row2 RW2).1 (row2 RW2).2.1).mono ?_;rintro e w22 ⟨rfl,rfl⟩))
 all_goals go_wp2
 all_goals((try (rename _/\_=>hh;rcases hh with⟨hSc,hSb⟩));go_ret;exact⟨by rw[HE.out];rfl,hSb.base,hSb.drawn⟩)
theorem find1_g {w:World}{v v':Value}{m m':MoveD}(hm:MoveV w v m)(hm':MoveV w v' m')(hn:m.dst.holds.length<=1000000):
 Calls Tryz.prog 63 #[v,v'] w fun e w'=>e=.returned (.int .i64 (befS m.dst m'.dst))/\Bel w.heap.size w w'/\w.drawn<=w'.drawn:=by
 obtain⟨ph,ho,hl,hc,x,a,n,c,k,rfl⟩:=hm.cells;obtain⟨ph',ho',hl',hc',x',a',n',c',k',rfl⟩:=hm'.cells;have HQ:=LH hm.stateV;have HQ':=LH hm'.stateV;clear hm hm'
 go_enter Tryz.func63,Tryz.ntmps63
 go_wp2_with fail
 refine(before_g ((HQ.out.pres (Pres.alloc _ _)).pres (Pres.alloc _ _)) ((HQ'.out.pres (Pres.alloc _ _)).pres (Pres.alloc _ _)) hn).mono ?_;rintro e w2 ⟨rfl,hb,hd⟩;go_wp2;go_ret;exact⟨rfl,(Bel.new.alloc (by simp) _).trans (hb.mono (by simp;omega)),hd⟩
theorem grow_of {w w':World}(h:Bel w.heap.size w w')(hd:w.drawn<=w'.drawn):∃q os,w'=Go.Sort.grow (w.drewN q) os:=by
 refine⟨w'.drawn-w.drawn,w'.heap.extract w.heap.size w'.heap.size,?_⟩;obtain⟨hp,tape,dr,os,out⟩:=w';have h1:=h.os;have h2:=h.tape;have h3:=h.output;simp only at h1 h2 h3 hd;subst h1 h2 h3;simp only[Go.Sort.grow,World.drewN,World.mk.injEq,true_and,and_true];refine⟨?_,by omega⟩;refine Array.ext_getElem? fun i=>?_
 by_cases hi:i<w.heap.size
 .rw[Array.getElem?_append_left hi];exact h.block i hi
 .rw[Array.getElem?_append_right (by omega),Array.getElem?_extract]
  by_cases hi2:i<hp.size
  .rw[if_pos (by omega)]
   congr 1
   omega
  .rw[if_neg (by omega),Array.getElem?_eq_none (by omega)]
end Go.Proofs.YtlgjakpoaelehaaGreat
