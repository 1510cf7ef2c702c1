/- Contracts and plain laws, merged: D1 -/
import Derived.Deep.LoopGhost
import Derived.Test.YtlgjakpoaelehaaGreatSB03
import Derived.Test.YtlgjakpoaelehaaGreatSB05
import Derived.Test.YtlgjakpoaelehaaGreatSD01
namespace Go.Proofs.YtlgjakpoaelehaaGreat.D4
open Go.RowKit
set_option maxRecDepth 100000
set_option maxHeartbeats 1000000
theorem Sd1 {p:Prop}(h:p:=by first|(simp;done)|(simp;omega)):p:=h
def dv (a k:Nat):Value:=.int .i64 (dig a k)
def ZD (w:World)(v:Value)(n:Nat):Prop:=∃ao cap,v=.slice ao (nlen n) cap/\nlen n<=cap/\CellsAt 3 w ao (nlen n) (dv n)
theorem ZD.pres {w w':World}{v:Value}{n:Nat}(h:ZD w v n)(hp:Pres 3 w w'):ZD w' v n:=by
 obtain⟨ao,cap,e,hcap,hc⟩:=h;exact⟨ao,cap,e,hcap,hc.pres hp⟩
theorem ZD.below {w w':World}{v:Value}{n:Nat}(h:ZD w v n)(hp:Bel w.heap.size w w'):ZD w' v n:=h.pres (.below hp.toBelow)
theorem ZD.nil (w:World):ZD w (.slice none 0 0) 0:=⟨none,0,by rw[nlen_zero],by rw[nlen_zero];exact Nat.le_refl _,by rw[nlen_zero];exact .zero _ _ _ _⟩
theorem ZD.mk {w:World}{ao:Option Addr}{len cap n:Nat}(hc:CellsAt 3 w ao len (dv n))(hn:n<B4^len)(hcap:len<=cap):ZD w (.slice ao (nlen n) cap) n:=
 ⟨ao,cap,rfl,Nat.le_trans ((nlen_le_iff _ _).2 hn) hcap,hc.mono ((nlen_le_iff _ _).2 hn)⟩
theorem trim_c {w:World}{ao:Option Addr}{len cap n:Nat}(hc:CellsAt 3 w ao len (dv n))(hn:n<B4^len)(hcap:len<=cap)(hl:len<=1000000000000):
 Calls Tryz.prog 195 #[.slice ao len cap] w fun e w'=>e=.returned (.slice ao (nlen n) cap)/\w=w':=by
 have HC:=LH hc;have hnl:=(nlen_le_iff _ _).2 hn;clear hc hn
 go_enter Tryz.func195,Tryz.ntmps195
 go_wp2
 go_loopg [0] len (fun k d wr=>w=wr/\nlen n<=k/\k<=len/\d=.slice ao k cap)
 case atStart=>exact⟨rfl,hnl,Nat.le_refl _,rfl⟩
 case round=>
  obtain⟨rfl,h1,h2,rfl⟩:=hrel
  by_cases hz:gk=0
  .have hb:decide (0<gk)=false:=by simp;omega
   have HE:Hid (gk=nlen n):=by show _=_;omega
   clear hz;go_wp2;go_ret;exact⟨by rw[<-HE.out];rfl,rfl⟩
  .have hb:decide (0<gk)=true:=by simp;omega
   have hpos:0<gk:=by omega
   obtain⟨b,o,rfl,hbl,hcell⟩:=HC.out.open (by omega);have g0:=hcell (gk-1) (by omega);unfold dv at g0;clear hcell hz
   by_cases hd:dig n (gk-1)=0
   .have HN:Hid (nlen n<=gk-1):=by
     refine(nlen_le_iff _ _).2 (nlen_le_of_dig ?_ hd);rw[show gk-1+1=gk from by omega];exact(nlen_le_iff _ _).1 h1
    have hd0:((dig n (gk-1):Int)==0)=true:=by simp;omega
    clear hd;go_wp2
    go_roundg (gk-1)
    case rel=>exact⟨rfl,HN.out,by omega,rfl⟩
    case measure=>omega
   .have HE:Hid (gk=nlen n):=by
     have:=nlen_of_dig (a:=n) (n:=gk-1) (by rw[show gk-1+1=gk from by omega];exact(nlen_le_iff _ _).1 h1) hd
     show _=_
     omega
    have hd0:((dig n (gk-1):Int)==0)=false:=by simp;omega
    clear hd;go_wp2;go_ret;exact⟨by rw[<-HE.out];rfl,rfl⟩
theorem cmpN_len {a b:Nat}(h:nlen a<nlen b):a<b:=by
 by_cases hc:a<b
 .exact hc
 .have:=nlen_mono (show b<=a by omega);omega
def EqFrom (a b k:Nat):Prop:=a/B4^k=b/B4^k
theorem EqFrom.top {a b n:Nat}(ha:a<B4^n)(hb:b<B4^n):EqFrom a b n:=by
 unfold EqFrom;rw[Nat.div_eq_of_lt ha,Nat.div_eq_of_lt hb]
theorem div_succ (a k:Nat):a/B4^k=B4*(a/B4^(k+1))+dig a k:=by
 unfold dig;rw[Nat.pow_succ,<-Nat.div_div_eq_div_mul,Nat.div_add_mod]
theorem EqFrom.step {a b k:Nat}(h:EqFrom a b (k+1))(hd:dig a k=dig b k):EqFrom a b k:=by
 unfold EqFrom at *;rw[div_succ,div_succ b,h,hd]
theorem EqFrom.zero {a b:Nat}(h:EqFrom a b 0):a=b:=by simpa[EqFrom]using h
theorem EqFrom.lt {a b k:Nat}(h:EqFrom a b (k+1))(hd:dig a k<dig b k):a<b:=by
 unfold EqFrom at h;have h2:a/B4^k<b/B4^k:=by rw[div_succ,div_succ b,h];omega
 by_cases hc:a<b
 .exact hc
 .have:=Nat.div_le_div_right (c:=B4^k) (show b<=a by omega);omega
theorem EqFrom.symm {a b k:Nat}(h:EqFrom a b k):EqFrom b a k:=Eq.symm h
theorem abs_c {w:World}{va vb:Value}{a b:Nat}(ha:ZD w va a)(hb:ZD w vb b)(hsa:nlen a<=1000000000000)(_hsb:nlen b<=1000000000000):
 Calls Tryz.prog 179 #[va,vb] w fun e w'=>e=.returned (.int .i64 (cmpN a b))/\Bel w.heap.size w w':=by
 obtain⟨aa,capa,rfl,-,hca⟩:=ha;obtain⟨ab,capb,rfl,-,hcb⟩:=hb
 by_cases hlt:nlen a<nlen b
 .have hl:=cmpN_len hlt;have h1:((nlen a:Int) !=(nlen b:Int))=true:=by simp;omega
  go_enter Tryz.func179,Tryz.ntmps179
  go_wp2;go_ret;exact⟨by rw[cmpN,if_pos hl];rfl,Bel.refl _ _⟩
 by_cases hgt:nlen b<nlen a
 .have hl:=cmpN_len hgt;have h1:((nlen a:Int) !=(nlen b:Int))=true:=by simp;omega
  go_enter Tryz.func179,Tryz.ntmps179
  go_wp2;go_ret;exact⟨by rw[cmpN,if_neg (by omega),if_neg (by omega)];rfl,Bel.refl _ _⟩
 have heq:nlen b=nlen a:=by omega
 rw[heq]at hcb|-;have hta:=EqFrom.top (lt_pow_nlen a) (by rw[<-heq];exact lt_pow_nlen b);generalize nlen a=n at *;clear heq _hsb;have h1:((n:Int) !=(n:Int))=false:=by simp
 go_enter Tryz.func179,Tryz.ntmps179
 go_wp2;have HT:=LH hta;clear hta hlt hgt
 go_loopw [5] (fun i wr=>∃k:Nat,k<=n/\i=.int .i64 (k-1)/\Hid (EqFrom a b k)/\Bel w.heap.size w wr) (fun n _=>(intOf n+1).toNat)
 case atStart=>exact⟨n,by omega,rfl,HT,Bel.refl _ _⟩
 case round=>
  obtain⟨k,hk,rfl,HE,hB⟩:=hrel
  cases k with
  |zero=>
   go_wp2;go_ret;have:=EqFrom.zero HE.out;subst this;exact⟨by simp[cmpN],hB⟩
  |succ k=>
   obtain⟨b1,o1,rfl,hl1,hc1⟩:=hca.open (by omega);obtain⟨b2,o2,rfl,hl2,hc2⟩:=hcb.open (by omega);have g1:=(hB.cell (p:=⟨b1,o1+k,none⟩) hl1).trans (hc1 k (by omega));have g2:=(hB.cell (p:=⟨b2,o2+k,none⟩) hl2).trans (hc2 k (by omega));unfold dv at g1 g2;have HB:=LH hB;clear hB hca hcb hc1 hc2
   by_cases he:dig a k=dig b k
   .have t1:((dig a k:Int) !=(dig b k:Int))=false:=by simp;omega
    have HE2:=LH (EqFrom.step HE.out he);clear he;go_wp2
    go_quiet (fail)
    go_wp2
    go_roundw
    case rel=>exact⟨k,by omega,by go_num,HE2,HB.out.drewN _⟩
    case measure=>simp[intOf]<;>omega
   .have t1:((dig a k:Int) !=(dig b k:Int))=true:=by simp;omega
    by_cases hlt:dig a k<dig b k
    .have t2:decide (dig a k<dig b k)=true:=by simp;omega
     have hfin:=EqFrom.lt HE.out hlt;go_wp2
     go_quiet (fail)
     go_wp2
     go_quiet (fail)
     go_wp2;go_ret;exact⟨by rw[cmpN,if_pos hfin];rfl,(HB.out.drewN _).drewN _⟩
    .have t2:decide (dig a k<dig b k)=false:=by simp;omega
     have hfin:=EqFrom.lt HE.out.symm (show dig b k<dig a k by omega);go_wp2
     go_quiet (fail)
     go_wp2
     go_quiet (fail)
     go_wp2;go_ret;exact⟨by rw[cmpN,if_neg (by omega),if_neg (by omega)];rfl,(HB.out.drewN _).drewN _⟩
theorem top_c {w:World}{va:Value}{a f:Nat}(ha:ZD w va a)(hf:f<=nlen a)(h4:nlen a<=f+4)(hl:nlen a<=1000000000000):
 Calls Tryz.prog 196 #[va,.int .i64 f] w fun e w'=>e=.returned (.int .i64 ((a/B4^f:Nat):Int))/\w=w':=by
 obtain⟨aa,cap,rfl,-,hc⟩:=ha;have HC:=LH hc;clear hc
 go_enter Tryz.func196,Tryz.ntmps196
 go_wp2;have HT:Hid (a/B4^nlen a=0):=Nat.div_eq_of_lt (lt_pow_nlen a)
 go_loopw [5,6] (fun n i wr=>w=wr/\∃k:Nat,f<=k/\k<=nlen a/\i=.int .i64 (k-1)/\n=.int .i64 ((a/B4^k:Nat):Int)) (fun _ i _=>(intOf i+1).toNat)
 case atStart=>exact⟨rfl,nlen a,hf,by omega,rfl,by rw[HT.out];rfl⟩
 case round=>
  obtain⟨rfl,k,h1,h2,rfl,rfl⟩:=hrel
  by_cases hk:k=f
  .subst hk;go_wp2;go_ret;exact⟨rfl,rfl⟩
  .obtain⟨j,rfl⟩:∃j,k=j+1:=⟨k-1,by omega⟩
   have hfj:f<=j:=by omega
   have hn:a/B4^(j+1)<1000000000000:=by
    rw[Nat.div_lt_iff_lt_mul (B4_pow_pos _)];refine Nat.lt_of_lt_of_le (lt_pow_nlen a) (Nat.le_trans (B4_pow_mono (show nlen a<=3+(j+1)by omega)) ?_);rw[Nat.pow_add];exact Nat.mul_le_mul_right _ (by decide)
   have HD:=LH (div_mod_dig a j);obtain⟨b,o,rfl,hbl,hcell⟩:=HC.out.open (by omega);have g0:=hcell j (by omega);unfold dv at g0;have hdl:=dig_lt' a j;obtain⟨q,hq⟩:∃q,q=a/B4^(j+1):=⟨_,rfl⟩
   rw[<-hq]at hn HD;have HQ:=LH hq;rw[<-hq];clear hcell hk hq;go_wp2
   go_roundw
   case rel=>exact⟨trivial,j,by omega,by omega,by go_num,by rw[HD.out];push_cast;rfl⟩
   case measure=>simp[intOf]<;>omega
end Go.Proofs.YtlgjakpoaelehaaGreat.D4
