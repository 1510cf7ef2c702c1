/- Contracts and plain laws, merged: D0 -/
import Derived.Test.YtlgjakpoaelehaaGreatSB01
import Derived.Test.YtlgjakpoaelehaaGreatSB02
namespace Go.Proofs.YtlgjakpoaelehaaGreat.D4
def B4:Nat:=10000
theorem B4_eq:B4=10000:=rfl
theorem B4_pos:0<B4:=by decide
def dif4 (x y b:Nat):Nat:=(x+10000-y-b)%10000
def dig (a k:Nat):Nat:=a/B4^k%B4
theorem B4_pow_pos (n:Nat):0<B4^n:=Nat.pow_pos B4_pos
def nlen (n:Nat):Nat:=if h:n=0 then 0 else nlen (n/10000)+1
termination_by n
decreasing_by omega
theorem nlen_le_iff (a n:Nat):nlen a<=n ↔ a<B4^n:=by
 induction n generalizing a with
 |zero=>
  rw[nlen];split
  .rename_i h;subst h;simp
  .simp;omega
 |succ n ih=>
  rw[nlen];split
  .rename_i h;subst h;simp[Nat.pow_pos B4_pos]
  .rw[Nat.add_le_add_iff_right,ih,Nat.pow_succ,B4_eq,Nat.div_lt_iff_lt_mul (by decide)]
theorem lt_pow_nlen (a:Nat):a<B4^nlen a:=(nlen_le_iff a _).1 (Nat.le_refl _)
theorem nlen_zero:nlen 0=0:=by rw[nlen];rfl
theorem nlen_eq_zero {a:Nat}:nlen a=0 ↔ a=0:=by
 constructor
 .intro h;have:=(nlen_le_iff a 0).1 (by omega);simpa using this
 .rintro rfl;exact nlen_zero
theorem pow_le_of_lt_nlen {a n:Nat}(h:n<nlen a):B4^n<=a:=by
 have:=mt (nlen_le_iff a n).2 (by omega);omega
theorem nlen_eq {a n:Nat}(h1:B4^n<=a)(h2:a<B4^(n+1)):nlen a=n+1:=by
 have h3:=(nlen_le_iff a (n+1)).2 h2;have h4:=mt (nlen_le_iff a n).1 (by omega);omega
theorem nlen_mono {a b:Nat}(h:a<=b):nlen a<=nlen b:=by
 rw[nlen_le_iff];exact Nat.lt_of_le_of_lt h (lt_pow_nlen b)
theorem B4_pow_mono {a b:Nat}(h:a<=b):B4^a<=B4^b:=Nat.pow_le_pow_right B4_pos h
theorem nlen_mul (a b:Nat):nlen (a*b)<=nlen a+nlen b:=by
 rw[nlen_le_iff,Nat.pow_add];exact Nat.mul_lt_mul'' (lt_pow_nlen a) (lt_pow_nlen b)
theorem nlen_add (a b:Nat):nlen (a+b)<=max (nlen a) (nlen b)+1:=by
 rw[nlen_le_iff,Nat.pow_succ];have h1:=Nat.lt_of_lt_of_le (lt_pow_nlen a) (B4_pow_mono (Nat.le_max_left (nlen a) (nlen b)));have h2:=Nat.lt_of_lt_of_le (lt_pow_nlen b) (B4_pow_mono (Nat.le_max_right (nlen a) (nlen b)));have h3:B4^max (nlen a) (nlen b)*2<=B4^max (nlen a) (nlen b)*B4:=Nat.mul_le_mul_left _ (by decide);omega
theorem nlen_one:nlen 1=1:=nlen_eq (n:=0) (by simp) (by decide)
theorem dig_lt (a k:Nat):dig a k<B4:=Nat.mod_lt _ B4_pos
theorem dig_lt' (a k:Nat):dig a k<10000:=dig_lt a k
theorem mod_succ (a k:Nat):a%B4^(k+1)=a%B4^k+B4^k*dig a k:=Nat.mod_pow_succ
theorem dig_ge {a k:Nat}(h:a<B4^k):dig a k=0:=by
 unfold dig;rw[Nat.div_eq_of_lt h];rfl
theorem dig_top {a k:Nat}(h:a<B4^(k+1)):dig a k=a/B4^k:=by
 unfold dig;rw[Nat.mod_eq_of_lt];rw[Nat.div_lt_iff_lt_mul (B4_pow_pos k)];rw[Nat.pow_succ,Nat.mul_comm]at h;exact h
theorem mod_of_lt {a n:Nat}(h:a<B4^n):a%B4^n=a:=Nat.mod_eq_of_lt h
theorem nlen_le_of_dig {a n:Nat}(h:a<B4^(n+1))(hd:dig a n=0):a<B4^n:=by
 have h2:=mod_succ a n;rw[Nat.mod_eq_of_lt h,hd]at h2;have:=Nat.mod_lt a (B4_pow_pos n);omega
theorem nlen_of_dig {a n:Nat}(h:a<B4^(n+1))(hd:dig a n≠0):nlen a=n+1:=by
 refine nlen_eq ?_ h
 by_cases hc:B4^n<=a
 .exact hc
 .exact absurd (dig_ge (by omega)) hd
theorem dig_nlen_ne {a n:Nat}(h:nlen a=n+1):dig a n≠0:=by
 intro hd;have:=nlen_le_of_dig (by rw[<-h];exact lt_pow_nlen a) hd;have:=(nlen_le_iff a n).2 this;omega
def val (d:Nat->Nat):Nat->Nat
 |0=>0
 |k+1=>val d k+B4^k*d k
theorem val_lt (d:Nat->Nat)(n:Nat)(h:∀k,k<n->d k<B4):val d n<B4^n:=by
 induction n with
 |zero=>simp[val]
 |succ n ih=>
  have h1:=ih (fun k hk=>h k (by omega));have h2:=h n (by omega);rw[val,Nat.pow_succ]
  have h3:B4^n*d n+B4^n<=B4^n*B4:=by
   rw[<-Nat.mul_succ];exact Nat.mul_le_mul_left _ h2
  omega
theorem val_dig (a n:Nat):val (dig a) n=a%B4^n:=by
 induction n with
 |zero=>simp[val,Nat.mod_one]
 |succ n ih=>rw[val,ih,mod_succ]
theorem dig_val (d:Nat->Nat)(n:Nat)(h:∀k,k<n->d k<B4):∀k,k<n->dig (val d n) k=d k:=by
 induction n with
 |zero=>intro k hk;omega
 |succ n ih=>
  intro k hk;have hv:=val_lt d n (fun k hk=>h k (by omega))
  by_cases hkn:k=n
  .subst hkn;unfold dig;rw[val,Nat.add_mul_div_left _ _ (B4_pow_pos k),Nat.div_eq_of_lt hv,Nat.zero_add,Nat.mod_eq_of_lt (h k (by omega))]
  .rw[<-ih (fun k hk=>h k (by omega)) k (by omega)];unfold dig;rw[val]
   have e:B4^n=B4^k*(B4*B4^(n-k-1)):=by
    rw[<-Nat.mul_assoc,<-Nat.pow_succ,<-Nat.pow_add]
    congr 1;omega
   rw[e,Nat.mul_assoc (B4^k),Nat.add_mul_div_left _ _ (B4_pow_pos k),Nat.mul_assoc B4,Nat.add_mul_mod_self_left]
theorem val_congr {d e:Nat->Nat}(n:Nat)(h:∀k,k<n->d k=e k):val d n=val e n:=by
 induction n with
 |zero=>rfl
 |succ n ih=>rw[val,val,ih (fun k hk=>h k (by omega)),h n (by omega)]
theorem dig_mod (a n k:Nat)(h:k<n):dig (a%B4^n) k=dig a k:=by
 have h1:=dig_val (dig a) n (fun k _=>dig_lt a k) k h
 rwa [val_dig]at h1
theorem eq_of_dig {a b n:Nat}(ha:a<B4^n)(hb:b<B4^n)(h:∀k,k<n->dig a k=dig b k):a=b:=by
 have h1:=val_dig a n;have h2:=val_dig b n;rw[mod_of_lt ha]at h1;rw[mod_of_lt hb]at h2;rw[<-h1,<-h2];exact val_congr n h
def cin (a b i:Nat):Nat:=(a%B4^i+b%B4^i)/B4^i
theorem cin_zero (a b:Nat):cin a b 0=0:=by simp[cin,Nat.mod_one]
theorem cin_le (a b i:Nat):cin a b i<=1:=by
 unfold cin;have h1:=Nat.mod_lt a (B4_pow_pos i);have h2:=Nat.mod_lt b (B4_pow_pos i);rw[<-Nat.lt_succ_iff,Nat.div_lt_iff_lt_mul (B4_pow_pos i)];omega
theorem cin_succ (a b i:Nat):cin a b (i+1)=(cin a b i+dig a i+dig b i)/B4:=by
 unfold cin;rw[mod_succ,mod_succ b,Nat.pow_succ,<-Nat.div_div_eq_div_mul];have e:a%B4^i+B4^i*dig a i+(b%B4^i+B4^i*dig b i)=(a%B4^i+b%B4^i)+B4^i*(dig a i+dig b i):=by rw[Nat.mul_add];omega
 rw[e,Nat.add_mul_div_left _ _ (B4_pow_pos i),Nat.add_assoc]
theorem dig_add (a b i:Nat):dig (a+b) i=(cin a b i+dig a i+dig b i)%B4:=by
 have e:(a+b)/B4^i=cin a b i+a/B4^i+b/B4^i:=by
  unfold cin;have e1:=Nat.mod_add_div a (B4^i);have e2:=Nat.mod_add_div b (B4^i);have e3:a+b=(a%B4^i+b%B4^i)+B4^i*(a/B4^i+b/B4^i):=by rw[Nat.mul_add];omega
  rw[e3,Nat.add_mul_div_left _ _ (B4_pow_pos i)];omega
 have e4:dig (a+b) i=(cin a b i+a/B4^i+b/B4^i)%B4:=by unfold dig;rw[e]
 rw[e4];unfold dig B4;omega
theorem dig_add_top {a b n:Nat}(ha:a<B4^n)(hb:b<B4^n):dig (a+b) n=cin a b n:=by
 have h1:=cin_le a b n;rw[dig_add,dig_ge ha,dig_ge hb,Nat.mod_eq_of_lt]
 .omega
 .unfold B4;omega
theorem div_mod_dig (a k:Nat):a/B4^k=a/B4^(k+1)*B4+dig a k:=by
 unfold dig;rw[Nat.pow_succ,<-Nat.div_div_eq_div_mul,Nat.mul_comm,Nat.div_add_mod]
def bin (a b i:Nat):Nat:=if a%B4^i<b%B4^i then 1 else 0
theorem bin_zero (a b:Nat):bin a b 0=0:=by simp[bin,Nat.mod_one]
theorem bin_le (a b i:Nat):bin a b i<=1:=by unfold bin;split<;>omega
theorem bin_succ (a b i:Nat):bin a b (i+1)=brw (dig a i) (dig b i) (bin a b i):=by
 unfold bin brw;rw[mod_succ,mod_succ b];have h1:=Nat.mod_lt a (B4_pow_pos i);have h2:=Nat.mod_lt b (B4_pow_pos i);generalize a%B4^i=A at *;generalize b%B4^i=B at *;generalize dig a i=x;generalize dig b i=y;generalize B4^i=V at *;rcases Nat.lt_trichotomy x y with h|h|h
 .obtain⟨z,rfl⟩:∃z,y=x+1+z:=⟨y-x-1,by omega⟩
  rw[Nat.mul_add,Nat.mul_add];have:=Nat.zero_le (V*z);have h1:x<x+1+z+(if A<B then 1 else 0):=by split<;>omega
  rw[if_pos (by omega),if_pos h1]
 .subst h
  by_cases h3:A<B
  .rw[if_pos (by omega),if_pos (by rw[if_pos h3];omega)]
  .rw[if_neg (by omega),if_neg (by rw[if_neg h3];omega)]
 .obtain⟨z,rfl⟩:∃z,x=y+1+z:=⟨x-y-1,by omega⟩
  rw[Nat.mul_add,Nat.mul_add];have:=Nat.zero_le (V*z);rw[if_neg (by omega),if_neg (by split<;>omega)]
theorem dig_sub {a b:Nat}(hle:b<=a)(i:Nat):dig (a-b) i=dif4 (dig a i) (dig b i) (bin a b i):=by
 have h1:=Nat.mod_lt a (B4_pow_pos i);have h2:=Nat.mod_lt b (B4_pow_pos i);have e1:=Nat.mod_add_div a (B4^i);have e2:=Nat.mod_add_div b (B4^i);have hV:=B4_pow_pos i
 have key:(a-b)/B4^i=a/B4^i-b/B4^i-bin a b i/\b/B4^i+bin a b i<=a/B4^i:=by
  have hq:b/B4^i<=a/B4^i:=Nat.div_le_div_right hle;unfold bin;generalize a%B4^i=A at *;generalize b%B4^i=B at *;generalize a/B4^i=x at *;generalize b/B4^i=y at *;generalize B4^i=V at *;obtain⟨z,rfl⟩:∃z,x=y+z:=⟨x-y,by omega⟩
  rw[Nat.mul_add]at e1;split
  .rename_i h3
   have hz:z≠0:=by rintro rfl;simp at e1;omega
   obtain⟨u,rfl⟩:∃u,z=u+1:=⟨z-1,by omega⟩
   rw[Nat.mul_add]at e1;refine⟨?_,by omega⟩;have e3:a-b=(A+V-B)+V*u:=by omega
   rw[e3,Nat.add_mul_div_left _ _ hV,Nat.div_eq_of_lt (by omega)];omega
  .refine⟨?_,by omega⟩;have e3:a-b=(A-B)+V*z:=by omega
   rw[e3,Nat.add_mul_div_left _ _ hV,Nat.div_eq_of_lt (by omega)];omega
 have hb:=bin_le a b i;unfold dig dif4;rw[key.1];have:=key.2;unfold B4 at *;omega
theorem val_step {d d':Nat->Nat}{n:Nat}(h:∀j,j<n->d' j=d j):val d' (n+1)=val d n+B4^n*d' n:=by
 rw[val,val_congr n h]
theorem val_zeros {d:Nat->Nat}{m n:Nat}(hmn:m<=n)(h:∀j,m<=j->j<n->d j=0):val d n=val d m:=by
 induction n with
 |zero=>have:m=0:=by omega
        rw[this]
 |succ n ih=>
  by_cases e:m=n+1
  .rw[e]
  .rw[val,ih (by omega) (fun j h1 h2=>h j h1 (by omega)),h n (by omega) (by omega)];simp
theorem mul_inner {s i k x bk b c di v0 vd:Nat}(h:v0+c*B4^(i+k)=vd+x*(b%B4^k)*B4^i)(hbk:dig b k=bk)(ht:s=c+x*bk+di):
 v0+B4^(i+k)*(s%B4)+s/B4*B4^(i+(k+1))=vd+B4^(i+k)*di+x*(b%B4^(k+1))*B4^i:=by
 have e1:=Nat.mod_add_div s B4;have e2:B4^(i+(k+1))=B4^(i+k)*B4:=by rw[<-Nat.add_assoc,Nat.pow_succ]
 have e3:x*(b%B4^(k+1))*B4^i=x*(b%B4^k)*B4^i+B4^(i+k)*(x*bk):=by
  rw[mod_succ,hbk,Nat.pow_add];grind
 have e4:B4^(i+k)*(s%B4)+s/B4*B4^(i+(k+1))=B4^(i+k)*s:=by
  rw[e2];have:B4^(i+k)*s=B4^(i+k)*(s%B4+B4*(s/B4)):=by rw[e1]
  rw[this];grind
 have e5:B4^(i+k)*s=c*B4^(i+k)+B4^(i+k)*(x*bk)+B4^(i+k)*di:=by rw[ht];grind
 omega
theorem dig_div (a d i:Nat)(hd:0<d):dig (a/d) i=((a/B4^(i+1)%d)*B4+dig a i)/d/\a/B4^i%d=((a/B4^(i+1)%d)*B4+dig a i)%d/\((a/B4^(i+1)%d)*B4+dig a i)/d<B4:=by
 have e1:dig (a/d) i=a/B4^i/d%B4:=by
  unfold dig;rw[Nat.div_div_eq_div_mul,Nat.div_div_eq_div_mul,Nat.mul_comm]
 have e2:a/B4^i=dig a i+B4*(a/B4^(i+1)):=by
  unfold dig;rw[Nat.pow_succ,<-Nat.div_div_eq_div_mul,Nat.mod_add_div]
 rw[e1,e2];generalize a/B4^(i+1)=q;have hx:=dig_lt a i;generalize dig a i=x at *;have hr:=Nat.mod_lt q hd;have hq:=Nat.mod_add_div q d
 have e3:x+B4*q=(q%d*B4+x)+d*(B4*(q/d)):=by
  have:B4*q=B4*(q%d)+B4*(d*(q/d)):=by rw[<-Nat.mul_add,hq]
  rw[this];grind
 have h1:(q%d*B4+x)/d<B4:=by
  rw[Nat.div_lt_iff_lt_mul hd];have:(q%d+1)*B4<=d*B4:=Nat.mul_le_mul_right _ hr;rw[Nat.add_mul]at this;have h4:B4*d=d*B4:=Nat.mul_comm _ _;omega
 rw[e3,Nat.add_mul_div_left _ _ hd];exact⟨by rw[Nat.add_mul_mod_self_left,Nat.mod_eq_of_lt h1],Nat.add_mul_mod_self_left _ _ _,h1⟩
end Go.Proofs.YtlgjakpoaelehaaGreat.D4
