/- Contracts and plain laws, merged: Num Txt -/
namespace Go.Proofs.YtlgjakpoaelehaaGreat
def W32:Nat:=4294967296
theorem W32_eq:W32=2^32:=rfl
theorem W32_pos:0<W32:=by decide
def dig (a k:Nat):Nat:=a/W32^k%W32
def nlen (a:Nat):Nat:=if a=0 then 0 else Nat.log2 a/32+1
theorem W32_pow (n:Nat):W32^n=2^(32*n):=by rw[W32_eq,<-Nat.pow_mul]
theorem W32_pow_pos (n:Nat):0<W32^n:=Nat.pow_pos W32_pos
theorem nlen_le_iff (a n:Nat):nlen a<=n ↔ a<W32^n:=by
 unfold nlen;rw[W32_pow];split
 .rename_i h;subst h;simp[Nat.pow_pos]
 .rename_i h
  rw[<-Nat.log2_lt h];omega
theorem lt_pow_nlen (a:Nat):a<W32^nlen a:=(nlen_le_iff a _).1 (Nat.le_refl _)
theorem nlen_zero:nlen 0=0:=rfl
theorem nlen_eq_zero {a:Nat}:nlen a=0 ↔ a=0:=by
 constructor
 .intro h;have:=(nlen_le_iff a 0).1 (by omega);simpa using this
 .rintro rfl;rfl
theorem pow_le_of_lt_nlen {a n:Nat}(h:n<nlen a):W32^n<=a:=by
 have:=mt (nlen_le_iff a n).2 (by omega);omega
theorem nlen_eq {a n:Nat}(h1:W32^n<=a)(h2:a<W32^(n+1)):nlen a=n+1:=by
 have h3:=(nlen_le_iff a (n+1)).2 h2;have h4:=mt (nlen_le_iff a n).1 (by omega);omega
theorem nlen_mono {a b:Nat}(h:a<=b):nlen a<=nlen b:=by
 rw[nlen_le_iff];exact Nat.lt_of_le_of_lt h (lt_pow_nlen b)
theorem W32_pow_mono {a b:Nat}(h:a<=b):W32^a<=W32^b:=Nat.pow_le_pow_right W32_pos h
theorem nlen_mul (a b:Nat):nlen (a*b)<=nlen a+nlen b:=by
 rw[nlen_le_iff,Nat.pow_add];exact Nat.mul_lt_mul'' (lt_pow_nlen a) (lt_pow_nlen b)
theorem nlen_add (a b:Nat):nlen (a+b)<=max (nlen a) (nlen b)+1:=by
 rw[nlen_le_iff,Nat.pow_succ];have h1:=Nat.lt_of_lt_of_le (lt_pow_nlen a) (W32_pow_mono (Nat.le_max_left (nlen a) (nlen b)));have h2:=Nat.lt_of_lt_of_le (lt_pow_nlen b) (W32_pow_mono (Nat.le_max_right (nlen a) (nlen b)));have h3:W32^max (nlen a) (nlen b)*2<=W32^max (nlen a) (nlen b)*W32:=Nat.mul_le_mul_left _ (by decide);omega
theorem nlen_one:nlen 1=1:=by decide
theorem dig_lt (a k:Nat):dig a k<W32:=Nat.mod_lt _ W32_pos
theorem dig_lt' (a k:Nat):dig a k<4294967296:=dig_lt a k
theorem mod_succ (a k:Nat):a%W32^(k+1)=a%W32^k+W32^k*dig a k:=Nat.mod_pow_succ
theorem dig_ge {a k:Nat}(h:a<W32^k):dig a k=0:=by
 unfold dig;rw[Nat.div_eq_of_lt h];rfl
theorem dig_top {a k:Nat}(h:a<W32^(k+1)):dig a k=a/W32^k:=by
 unfold dig;rw[Nat.mod_eq_of_lt];rw[Nat.div_lt_iff_lt_mul (W32_pow_pos k)];rw[Nat.pow_succ,Nat.mul_comm]at h;exact h
theorem mod_of_lt {a n:Nat}(h:a<W32^n):a%W32^n=a:=Nat.mod_eq_of_lt h
theorem nlen_le_of_dig {a n:Nat}(h:a<W32^(n+1))(hd:dig a n=0):a<W32^n:=by
 have h2:=mod_succ a n;rw[Nat.mod_eq_of_lt h,hd]at h2;have:=Nat.mod_lt a (W32_pow_pos n);omega
theorem nlen_of_dig {a n:Nat}(h:a<W32^(n+1))(hd:dig a n≠0):nlen a=n+1:=by
 refine nlen_eq ?_ h
 by_cases hc:W32^n<=a
 .exact hc
 .exact absurd (dig_ge (by omega)) hd
theorem dig_nlen_ne {a n:Nat}(h:nlen a=n+1):dig a n≠0:=by
 intro hd;have:=nlen_le_of_dig (by rw[<-h];exact lt_pow_nlen a) hd;have:=(nlen_le_iff a n).2 this;omega
def val (d:Nat->Nat):Nat->Nat
 |0=>0
 |k+1=>val d k+W32^k*d k
theorem val_lt (d:Nat->Nat)(n:Nat)(h:∀k,k<n->d k<W32):val d n<W32^n:=by
 induction n with
 |zero=>simp[val]
 |succ n ih=>
  have h1:=ih (fun k hk=>h k (by omega));have h2:=h n (by omega);rw[val,Nat.pow_succ]
  have h3:W32^n*d n+W32^n<=W32^n*W32:=by
   rw[<-Nat.mul_succ];exact Nat.mul_le_mul_left _ h2
  omega
theorem val_dig (a n:Nat):val (dig a) n=a%W32^n:=by
 induction n with
 |zero=>simp[val,Nat.mod_one]
 |succ n ih=>rw[val,ih,mod_succ]
theorem dig_val (d:Nat->Nat)(n:Nat)(h:∀k,k<n->d k<W32):∀k,k<n->dig (val d n) k=d k:=by
 induction n with
 |zero=>intro k hk;omega
 |succ n ih=>
  intro k hk;have hv:=val_lt d n (fun k hk=>h k (by omega))
  by_cases hkn:k=n
  .subst hkn;unfold dig;rw[val,Nat.add_mul_div_left _ _ (W32_pow_pos k),Nat.div_eq_of_lt hv,Nat.zero_add,Nat.mod_eq_of_lt (h k (by omega))]
  .rw[<-ih (fun k hk=>h k (by omega)) k (by omega)];unfold dig;rw[val]
   have e:W32^n=W32^k*(W32*W32^(n-k-1)):=by
    rw[<-Nat.mul_assoc,<-Nat.pow_succ,<-Nat.pow_add]
    congr 1;omega
   rw[e,Nat.mul_assoc (W32^k),Nat.add_mul_div_left _ _ (W32_pow_pos k),Nat.mul_assoc W32,Nat.add_mul_mod_self_left]
theorem val_congr {d e:Nat->Nat}(n:Nat)(h:∀k,k<n->d k=e k):val d n=val e n:=by
 induction n with
 |zero=>rfl
 |succ n ih=>rw[val,val,ih (fun k hk=>h k (by omega)),h n (by omega)]
theorem dig_mod (a n k:Nat)(h:k<n):dig (a%W32^n) k=dig a k:=by
 have h1:=dig_val (dig a) n (fun k _=>dig_lt a k) k h
 rwa [val_dig]at h1
theorem eq_of_dig {a b n:Nat}(ha:a<W32^n)(hb:b<W32^n)(h:∀k,k<n->dig a k=dig b k):a=b:=by
 have h1:=val_dig a n;have h2:=val_dig b n;rw[mod_of_lt ha]at h1;rw[mod_of_lt hb]at h2;rw[<-h1,<-h2];exact val_congr n h
def cin (a b i:Nat):Nat:=(a%W32^i+b%W32^i)/W32^i
theorem cin_zero (a b:Nat):cin a b 0=0:=by simp[cin,Nat.mod_one]
theorem cin_le (a b i:Nat):cin a b i<=1:=by
 unfold cin;have h1:=Nat.mod_lt a (W32_pow_pos i);have h2:=Nat.mod_lt b (W32_pow_pos i);rw[<-Nat.lt_succ_iff,Nat.div_lt_iff_lt_mul (W32_pow_pos i)];omega
theorem cin_succ (a b i:Nat):cin a b (i+1)=(cin a b i+dig a i+dig b i)/W32:=by
 unfold cin;rw[mod_succ,mod_succ b,Nat.pow_succ,<-Nat.div_div_eq_div_mul];have e:a%W32^i+W32^i*dig a i+(b%W32^i+W32^i*dig b i)=(a%W32^i+b%W32^i)+W32^i*(dig a i+dig b i):=by rw[Nat.mul_add];omega
 rw[e,Nat.add_mul_div_left _ _ (W32_pow_pos i),Nat.add_assoc]
theorem dig_add (a b i:Nat):dig (a+b) i=(cin a b i+dig a i+dig b i)%W32:=by
 have e:(a+b)/W32^i=cin a b i+a/W32^i+b/W32^i:=by
  unfold cin;have e1:=Nat.mod_add_div a (W32^i);have e2:=Nat.mod_add_div b (W32^i);have e3:a+b=(a%W32^i+b%W32^i)+W32^i*(a/W32^i+b/W32^i):=by rw[Nat.mul_add];omega
  rw[e3,Nat.add_mul_div_left _ _ (W32_pow_pos i)];omega
 have e4:dig (a+b) i=(cin a b i+a/W32^i+b/W32^i)%W32:=by unfold dig;rw[e]
 rw[e4];unfold dig W32;omega
theorem dig_add_top {a b n:Nat}(ha:a<W32^n)(hb:b<W32^n):dig (a+b) n=cin a b n:=by
 have h1:=cin_le a b n;rw[dig_add,dig_ge ha,dig_ge hb,Nat.mod_eq_of_lt]
 .omega
 .unfold W32;omega
theorem div_mod_dig (a k:Nat):a/W32^k=a/W32^(k+1)*W32+dig a k:=by
 unfold dig;rw[Nat.pow_succ,<-Nat.div_div_eq_div_mul,Nat.mul_comm,Nat.div_add_mod]
def cmpN (a b:Nat):Int:=if a<b then -1 else if a=b then 0 else 1
def digsR (n:Nat):List UInt8:=if h:n=0 then[] else UInt8.ofNat (48+n%10)::digsR (n/10)
termination_by n
decreasing_by omega
theorem digsR_zero:digsR 0=[]:=by rw[digsR];simp
theorem digsR_pos {n:Nat}(h:0<n):digsR n=UInt8.ofNat (48+n%10)::digsR (n/10):=by rw[digsR,dif_neg (by omega)]
theorem digsR_ne {n:Nat}(h:0<n):digsR n≠[]:=by rw[digsR_pos h];simp
theorem digsR_len (n k:Nat)(h:n<10^k):(digsR n).length<=k:=by
 induction k generalizing n with
 |zero=>obtain rfl:n=0:=by simpa using h
        rw[digsR_zero];simp
 |succ k ih=>
  by_cases h0:n=0
  .subst h0;rw[digsR_zero];simp
  .rw[digsR_pos (by omega)];have:=ih (n/10) (by rw[Nat.pow_succ]at h;omega);simp;omega
def decL (n:Nat):List UInt8:=if n=0 then[48] else(digsR n).reverse
def decB (n:Nat):ByteArray:=⟨(decL n).toArray⟩
def ratTxt (q:Rat):ByteArray:=⟨((if q.num<0 then[45] else[])++decL q.num.natAbs++(if q.den=1 then[] else 47::decL q.den)).toArray⟩
theorem part_step {q i d x:Nat}(hi:i<9)(hx:x=q*10^(9-i)+d):x%10=d%10/\x/10=q*10^(9-(i+1))+d/10:=by
 have e:10^(9-i)=10^(9-(i+1))*10:=by rw[<-Nat.pow_succ];congr 1;omega
 rw[e,<-Nat.mul_assoc]at hx;generalize q*10^(9-(i+1))=y at *;omega
theorem part_lt {i d:Nat}(hi:i<9)(hd:d<10^(9-i)):d/10<10^(9-(i+1)):=by
 have e:10^(9-i)=10^(9-(i+1))*10:=by rw[<-Nat.pow_succ];congr 1;omega
 omega
theorem pow_len (n L:Nat)(h:n<4294967296^L):n<10^(10*L):=by
 rw[Nat.pow_mul];exact Nat.lt_of_lt_of_le h (Nat.pow_le_pow_left (by decide) L)
theorem ch_toNat (n:Nat):(UInt8.ofNat (48+n%10)).toNat=48+n%10:=by
 simp[UInt8.toNat_ofNat'];omega
end Go.Proofs.YtlgjakpoaelehaaGreat
