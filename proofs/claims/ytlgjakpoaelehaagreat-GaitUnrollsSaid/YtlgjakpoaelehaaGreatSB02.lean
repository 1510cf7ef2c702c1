/- Contracts and plain laws, merged: Bits Num2 Knuth Knuth2 -/
import Derived.WalkKit
import Derived.Test.YtlgjakpoaelehaaGreatSB01
namespace Go.Proofs.YtlgjakpoaelehaaGreat
def brw (x y b:Nat):Nat:=if x<y+b then 1 else 0
def dif (x y b:Nat):Nat:=(x+4294967296-y-b)%4294967296
theorem u32_wrap_nat (n:Nat)(h:n<4294967296):IntKind.u32.wrap (n:Int)=n:=by
 simp[IntKind.wrap,IntKind.signed,IntKind.bits];omega
theorem bits_and32 (x y:Nat)(hx:x<4294967296)(hy:y<4294967296):bits .and .u32 (x:Int) y=((x &&& y:Nat):Int):=by
 unfold bits;have h1:(BitVec.ofInt IntKind.u32.bits (x:Int))=BitVec.ofNat 32 x:=by simp[IntKind.bits]
 have h2:(BitVec.ofInt IntKind.u32.bits (y:Int))=BitVec.ofNat 32 y:=by simp[IntKind.bits]
 simp only[h1,h2]
 have h3:(BitVec.ofNat 32 x &&& BitVec.ofNat 32 y).toNat=x &&& y:=by
  simp[BitVec.toNat_and,Nat.mod_eq_of_lt (show x<2^32 from hx),Nat.mod_eq_of_lt (show y<2^32 from hy)]
 have h4:(x &&& y)<4294967296:=Nat.lt_of_le_of_lt Nat.and_le_left hx;rw[<-u32_wrap_nat _ h4,<-h3];rfl
theorem bits_or32 (x y:Nat)(hx:x<4294967296)(hy:y<4294967296):bits .or .u32 (x:Int) y=((x|||y:Nat):Int):=by
 unfold bits;have h1:(BitVec.ofInt IntKind.u32.bits (x:Int))=BitVec.ofNat 32 x:=by simp[IntKind.bits]
 have h2:(BitVec.ofInt IntKind.u32.bits (y:Int))=BitVec.ofNat 32 y:=by simp[IntKind.bits]
 simp only[h1,h2]
 have h3:(BitVec.ofNat 32 x|||BitVec.ofNat 32 y).toNat=x|||y:=by
  simp[BitVec.toNat_or,Nat.mod_eq_of_lt (show x<2^32 from hx),Nat.mod_eq_of_lt (show y<2^32 from hy)]
 have h4:(x|||y)<4294967296:=Nat.or_lt_two_pow (n:=32) hx hy;rw[<-u32_wrap_nat _ h4,<-h3];rfl
theorem bits_xor32 (x y:Nat)(hx:x<4294967296)(hy:y<4294967296):bits .xor .u32 (x:Int) y=((x ^^^ y:Nat):Int):=by
 unfold bits;have h1:(BitVec.ofInt IntKind.u32.bits (x:Int))=BitVec.ofNat 32 x:=by simp[IntKind.bits]
 have h2:(BitVec.ofInt IntKind.u32.bits (y:Int))=BitVec.ofNat 32 y:=by simp[IntKind.bits]
 simp only[h1,h2]
 have h3:(BitVec.ofNat 32 x ^^^ BitVec.ofNat 32 y).toNat=x ^^^ y:=by
  simp[BitVec.toNat_xor,Nat.mod_eq_of_lt (show x<2^32 from hx),Nat.mod_eq_of_lt (show y<2^32 from hy)]
 have h4:(x ^^^ y)<4294967296:=Nat.xor_lt_two_pow (n:=32) hx hy;rw[<-u32_wrap_nat _ h4,<-h3];rfl
theorem max32:IntKind.u32.max=((4294967295:Nat):Int):=by decide
theorem top_bit (n:Nat)(h:n<4294967296):n/2147483648=(n.testBit 31).toNat:=by
 rw[Nat.testBit_eq_decide_div_mod_eq]
 have:n/2^31%2=n/2147483648:=by
  rw[show(2:Nat)^31=2147483648 from rfl];omega
 rw[this];have:n/2147483648<2:=by omega
 by_cases h1:n/2147483648=1
 .simp[h1]
 .have h0:n/2147483648=0:=by omega
  simp[h0]
theorem testBit31 (n:Nat)(h:n<4294967296):n.testBit 31=decide (2147483648<=n):=by
 rw[Nat.testBit_eq_decide_div_mod_eq];rw[show(2:Nat)^31=2147483648 from rfl,decide_eq_decide];omega
theorem borrow_bit (x y b:Nat)(hx:x<4294967296)(hy:y<4294967296)(hb:b<=1):
 (((4294967295 ^^^ x) &&& y)|||((4294967295 ^^^ (x ^^^ y)) &&& dif x y b))/2147483648=brw x y b:=by
 have hd:dif x y b<4294967296:=Nat.mod_lt _ (by decide);have hxy:x ^^^ y<4294967296:=Nat.xor_lt_two_pow (n:=32) hx hy;rw[top_bit _ (Nat.or_lt_two_pow (n:=32) (Nat.lt_of_le_of_lt Nat.and_le_right hy) (Nat.lt_of_le_of_lt Nat.and_le_right hd))];simp only[Nat.testBit_or,Nat.testBit_and,Nat.testBit_xor];rw[testBit31 x hx,testBit31 y hy,testBit31 _ hd,testBit31 _ (by decide)];unfold brw dif at *
 by_cases h1:2147483648<=x<;>by_cases h2:2147483648<=y<;>by_cases h3:2147483648<=(x+4294967296-y-b)%4294967296<;>simp[h1,h2,h3]<;>omega
theorem sub32_bits (x y b:Nat)(hx:x<4294967296)(hy:y<4294967296)(hb:b<=1)(d:Int)(hd:d=dif x y b):
 bits BinOp.or IntKind.u32 (bits BinOp.and IntKind.u32 (bits BinOp.xor IntKind.u32 IntKind.u32.max x) y) (bits BinOp.and IntKind.u32 (bits BinOp.xor IntKind.u32 IntKind.u32.max (bits BinOp.xor IntKind.u32 x y)) d)/2147483648=brw x y b:=by
 have hd':dif x y b<4294967296:=Nat.mod_lt _ (by decide);have hxy:x ^^^ y<4294967296:=Nat.xor_lt_two_pow (n:=32) hx hy;have h1:4294967295 ^^^ x<4294967296:=Nat.xor_lt_two_pow (n:=32) (by decide) hx;have h2:4294967295 ^^^ (x ^^^ y)<4294967296:=Nat.xor_lt_two_pow (n:=32) (by decide) hxy;rw[hd,max32,bits_xor32 _ _ (by decide) hx,bits_and32 _ _ h1 hy,bits_xor32 _ _ hx hy,bits_xor32 _ _ (by decide) hxy,bits_and32 _ _ h2 hd',bits_or32 _ _ (Nat.lt_of_le_of_lt Nat.and_le_right hy) (Nat.lt_of_le_of_lt Nat.and_le_right hd'),<-borrow_bit x y b hx hy hb]
 rfl
theorem u64_wrap_nat (n:Nat)(h:n<2^64):IntKind.u64.wrap (n:Int)=n:=by
 simp[IntKind.wrap,IntKind.signed,IntKind.bits];omega
theorem bits_or64 (x y:Nat)(hx:x<2^64)(hy:y<2^64):bits .or .u64 (x:Int) y=((x|||y:Nat):Int):=by
 unfold bits;have h1:(BitVec.ofInt IntKind.u64.bits (x:Int))=BitVec.ofNat 64 x:=by simp[IntKind.bits]
 have h2:(BitVec.ofInt IntKind.u64.bits (y:Int))=BitVec.ofNat 64 y:=by simp[IntKind.bits]
 simp only[h1,h2]
 have h3:(BitVec.ofNat 64 x|||BitVec.ofNat 64 y).toNat=x|||y:=by
  rw[BitVec.toNat_or,BitVec.toNat_ofNat,BitVec.toNat_ofNat,Nat.mod_eq_of_lt hx,Nat.mod_eq_of_lt hy]
 have h4:(x|||y)<2^64:=Nat.or_lt_two_pow (n:=64) hx hy;rw[<-u64_wrap_nat _ h4,<-h3];rfl
theorem or_digits (x y:Nat)(hx:x<4294967296)(hy:y<4294967296):bits .or .u64 ((x:Int)*4294967296) y=((x*4294967296+y:Nat):Int):=by
 have e:(x:Int)*4294967296=((2^32*x:Nat):Int):=by omega
 rw[e,bits_or64 _ _ (by omega) (by omega),<-Nat.two_pow_add_eq_or_of_lt (show y<2^32 from hy)]
 congr 2;omega
theorem or_digits' (x y:Nat)(hx:x<4294967296)(hy:y<4294967296):bits .or .u64 (y:Int) ((x:Int)*4294967296)=((x*4294967296+y:Nat):Int):=by
 have e:(x:Int)*4294967296=((2^32*x:Nat):Int):=by omega
 rw[e,bits_or64 _ _ (by omega) (by omega),Nat.or_comm,<-Nat.two_pow_add_eq_or_of_lt (show y<2^32 from hy)]
 congr 2;omega
def bin (a b i:Nat):Nat:=if a%W32^i<b%W32^i then 1 else 0
theorem bin_zero (a b:Nat):bin a b 0=0:=by simp[bin,Nat.mod_one]
theorem bin_le (a b i:Nat):bin a b i<=1:=by unfold bin;split<;>omega
theorem bin_succ (a b i:Nat):bin a b (i+1)=brw (dig a i) (dig b i) (bin a b i):=by
 unfold bin brw;rw[mod_succ,mod_succ b];have h1:=Nat.mod_lt a (W32_pow_pos i);have h2:=Nat.mod_lt b (W32_pow_pos i);generalize a%W32^i=A at *;generalize b%W32^i=B at *;generalize dig a i=x;generalize dig b i=y;generalize W32^i=V at *;rcases Nat.lt_trichotomy x y with h|h|h
 .obtain⟨z,rfl⟩:∃z,y=x+1+z:=⟨y-x-1,by omega⟩
  rw[Nat.mul_add,Nat.mul_add];have:=Nat.zero_le (V*z);have h1:x<x+1+z+(if A<B then 1 else 0):=by split<;>omega
  rw[if_pos (by omega),if_pos h1]
 .subst h
  by_cases h3:A<B
  .rw[if_pos (by omega),if_pos (by rw[if_pos h3];omega)]
  .rw[if_neg (by omega),if_neg (by rw[if_neg h3];omega)]
 .obtain⟨z,rfl⟩:∃z,x=y+1+z:=⟨x-y-1,by omega⟩
  rw[Nat.mul_add,Nat.mul_add];have:=Nat.zero_le (V*z);rw[if_neg (by omega),if_neg (by split<;>omega)]
theorem dig_sub {a b:Nat}(hle:b<=a)(i:Nat):dig (a-b) i=dif (dig a i) (dig b i) (bin a b i):=by
 have h1:=Nat.mod_lt a (W32_pow_pos i);have h2:=Nat.mod_lt b (W32_pow_pos i);have e1:=Nat.mod_add_div a (W32^i);have e2:=Nat.mod_add_div b (W32^i);have hV:=W32_pow_pos i
 have key:(a-b)/W32^i=a/W32^i-b/W32^i-bin a b i/\b/W32^i+bin a b i<=a/W32^i:=by
  have hq:b/W32^i<=a/W32^i:=Nat.div_le_div_right hle;unfold bin;generalize a%W32^i=A at *;generalize b%W32^i=B at *;generalize a/W32^i=x at *;generalize b/W32^i=y at *;generalize W32^i=V at *;obtain⟨z,rfl⟩:∃z,x=y+z:=⟨x-y,by omega⟩
  rw[Nat.mul_add]at e1;split
  .rename_i h3
   have hz:z≠0:=by rintro rfl;simp at e1;omega
   obtain⟨u,rfl⟩:∃u,z=u+1:=⟨z-1,by omega⟩
   rw[Nat.mul_add]at e1;refine⟨?_,by omega⟩;have e3:a-b=(A+V-B)+V*u:=by omega
   rw[e3,Nat.add_mul_div_left _ _ hV,Nat.div_eq_of_lt (by omega)];omega
  .refine⟨?_,by omega⟩;have e3:a-b=(A-B)+V*z:=by omega
   rw[e3,Nat.add_mul_div_left _ _ hV,Nat.div_eq_of_lt (by omega)];omega
 have hb:=bin_le a b i;unfold dig dif;rw[key.1];have:=key.2;unfold W32 at *;omega
theorem val_step {d d':Nat->Nat}{n:Nat}(h:∀j,j<n->d' j=d j):val d' (n+1)=val d n+W32^n*d' n:=by
 rw[val,val_congr n h]
theorem val_zeros {d:Nat->Nat}{m n:Nat}(hmn:m<=n)(h:∀j,m<=j->j<n->d j=0):val d n=val d m:=by
 induction n with
 |zero=>have:m=0:=by omega
        rw[this]
 |succ n ih=>
  by_cases e:m=n+1
  .rw[e]
  .rw[val,ih (by omega) (fun j h1 h2=>h j h1 (by omega)),h n (by omega) (by omega)];simp
theorem mul_inner {s i k x bk b c di v0 vd:Nat}(h:v0+c*W32^(i+k)=vd+x*(b%W32^k)*W32^i)(hbk:dig b k=bk)(ht:s=c+x*bk+di):
 v0+W32^(i+k)*(s%W32)+s/W32*W32^(i+(k+1))=vd+W32^(i+k)*di+x*(b%W32^(k+1))*W32^i:=by
 have e1:=Nat.mod_add_div s W32;have e2:W32^(i+(k+1))=W32^(i+k)*W32:=by rw[<-Nat.add_assoc,Nat.pow_succ]
 have e3:x*(b%W32^(k+1))*W32^i=x*(b%W32^k)*W32^i+W32^(i+k)*(x*bk):=by
  rw[mod_succ,hbk,Nat.pow_add];grind
 have e4:W32^(i+k)*(s%W32)+s/W32*W32^(i+(k+1))=W32^(i+k)*s:=by
  rw[e2];have:W32^(i+k)*s=W32^(i+k)*(s%W32+W32*(s/W32)):=by rw[e1]
  rw[this];grind
 have e5:W32^(i+k)*s=c*W32^(i+k)+W32^(i+k)*(x*bk)+W32^(i+k)*di:=by rw[ht];grind
 omega
theorem mul_small {c x y d:Nat}(hc:c<4294967296)(hx:x<4294967296)(hy:y<4294967296)(hd:d<4294967296):c+x*y+d<18446744073709551616:=by
 have h:x*y<=4294967295*4294967295:=Nat.mul_le_mul (by omega) (by omega);omega
theorem pow_split {k:Nat}(hk:k<=32):2^k*2^(32-k)=W32:=by rw[<-Nat.pow_add,W32_eq];congr 1;omega
theorem shl_low {x k:Nat}(hk:k<=32):x*2^k%4294967296=2^k*(x%2^(32-k)):=by
 have e:4294967296=2^k*2^(32-k):=(pow_split hk).symm;rw[Nat.mul_comm x,e,Nat.mul_mod_mul_left]
theorem shl_or {x k c:Nat}(hk:k<=32)(hc:c<2^k):(x*2^k%4294967296|||c)=x*2^k%4294967296+c:=by
 rw[shl_low hk,Nat.two_pow_add_eq_or_of_lt hc]
theorem shl_eq {x k:Nat}(hk:k<=32):x*2^k%4294967296+W32*(x/2^(32-k))=x*2^k:=by
 rw[shl_low hk,<-pow_split hk,Nat.mul_assoc,<-Nat.mul_add,Nat.mod_add_div,Nat.mul_comm]
theorem shl_digit {x k c:Nat}(hk:k<=32)(hc:c<2^k):x*2^k%4294967296+c<4294967296:=by
 rw[shl_low hk];have h1:x%2^(32-k)<2^(32-k):=Nat.mod_lt _ (Nat.pow_pos (by decide));have h2:2^k*(x%2^(32-k)+1)<=2^k*2^(32-k):=Nat.mul_le_mul_left _ h1;rw[pow_split hk,Nat.mul_add]at h2;unfold W32 at h2;omega
theorem shl_carry {x k:Nat}(hk:k<=32)(hx:x<4294967296):x/2^(32-k)<2^k:=by
 rw[Nat.div_lt_iff_lt_mul (Nat.pow_pos (by decide)),pow_split hk];exact hx
theorem shr_low {x k:Nat}(hk:k<=32):x*2^(32-k)%4294967296=2^(32-k)*(x%2^k):=by
 have:=shl_low (x:=x) (k:=32-k) (by omega);rw[this];congr 3;omega
theorem shr_or {x y k:Nat}(hk:k<=32)(hx:x<4294967296):(x/2^k|||y*2^(32-k)%4294967296)=x/2^k+y*2^(32-k)%4294967296:=by
 have h:x/2^k<2^(32-k):=by
  rw[Nat.div_lt_iff_lt_mul (Nat.pow_pos (by decide)),Nat.mul_comm,pow_split hk];exact hx
 rw[shr_low hk,Nat.or_comm,<-Nat.two_pow_add_eq_or_of_lt h,Nat.add_comm]
theorem dig_shr (a k i:Nat)(hk:k<=32):dig (a/2^k) i=dig a i/2^k+dig a (i+1)*2^(32-k)%4294967296:=by
 have hp:0<2^k:=Nat.pow_pos (by decide);have hp2:0<2^(32-k):=Nat.pow_pos (by decide)
 have e1:dig (a/2^k) i=a/W32^i/2^k%W32:=by
  unfold dig;rw[Nat.div_div_eq_div_mul,Nat.div_div_eq_div_mul,Nat.mul_comm]
 rw[e1,shr_low hk]
 have e2:a/W32^i=dig a i+W32*(a/W32^(i+1)):=by
  unfold dig;rw[Nat.pow_succ,<-Nat.div_div_eq_div_mul,Nat.mod_add_div]
 have e3:dig a (i+1)%2^k=a/W32^(i+1)%2^k:=by
  unfold dig;rw[<-pow_split hk,Nat.mod_mul_right_mod]
 rw[e2,e3];generalize a/W32^(i+1)=q;have hx:=dig_lt a i;generalize dig a i=x at *
 have e4:(x+W32*q)/2^k=x/2^k+2^(32-k)*q:=by
  have:x+W32*q=x+2^k*(2^(32-k)*q):=by rw[<-Nat.mul_assoc,pow_split hk]
  rw[this,Nat.add_mul_div_left _ _ hp]
 rw[e4]
 have h1:x/2^k<2^(32-k):=by
  rw[Nat.div_lt_iff_lt_mul hp,Nat.mul_comm,pow_split hk];exact hx
 have h2:q%2^k<2^k:=Nat.mod_lt _ hp;have h3:2^(32-k)*(q%2^k+1)<=2^(32-k)*2^k:=Nat.mul_le_mul_left _ h2;rw[Nat.mul_comm (2^(32-k)) (2^k),pow_split hk,Nat.mul_add]at h3
 have e5:x/2^k+2^(32-k)*q=(x/2^k+2^(32-k)*(q%2^k))+W32*(q/2^k):=by
  have:=Nat.mod_add_div q (2^k);have e6:2^(32-k)*q=2^(32-k)*(q%2^k)+2^(32-k)*(2^k*(q/2^k)):=by rw[<-Nat.mul_add,this]
  rw[e6,<-pow_split hk];grind
 rw[e5,Nat.add_mul_mod_self_left,Nat.mod_eq_of_lt (by omega)]
theorem dig_div (a d i:Nat)(hd:0<d):dig (a/d) i=((a/W32^(i+1)%d)*W32+dig a i)/d/\a/W32^i%d=((a/W32^(i+1)%d)*W32+dig a i)%d/\((a/W32^(i+1)%d)*W32+dig a i)/d<W32:=by
 have e1:dig (a/d) i=a/W32^i/d%W32:=by
  unfold dig;rw[Nat.div_div_eq_div_mul,Nat.div_div_eq_div_mul,Nat.mul_comm]
 have e2:a/W32^i=dig a i+W32*(a/W32^(i+1)):=by
  unfold dig;rw[Nat.pow_succ,<-Nat.div_div_eq_div_mul,Nat.mod_add_div]
 rw[e1,e2];generalize a/W32^(i+1)=q;have hx:=dig_lt a i;generalize dig a i=x at *;have hr:=Nat.mod_lt q hd;have hq:=Nat.mod_add_div q d
 have e3:x+W32*q=(q%d*W32+x)+d*(W32*(q/d)):=by
  have:W32*q=W32*(q%d)+W32*(d*(q/d)):=by rw[<-Nat.mul_add,hq]
  rw[this];grind
 have h1:(q%d*W32+x)/d<W32:=by
  rw[Nat.div_lt_iff_lt_mul hd];have:(q%d+1)*W32<=d*W32:=Nat.mul_le_mul_right _ hr;rw[Nat.add_mul]at this;have h4:W32*d=d*W32:=Nat.mul_comm _ _;omega
 rw[e3,Nat.add_mul_div_left _ _ hd];exact⟨by rw[Nat.add_mul_mod_self_left,Nat.mod_eq_of_lt h1],Nat.add_mul_mod_self_left _ _ _,h1⟩
theorem val_upd (d:Nat->Nat){i N:Nat}(x:Nat)(hi:i<N):val (fun j=>if j=i then x else d j) N+d i*W32^i=val d N+x*W32^i:=by
 induction N with
 |zero=>omega
 |succ N ih=>
  rw[val,val]
  by_cases e:i=N
  .subst e;have h1:val (fun j=>if j=i then x else d j) i=val d i:=val_congr _ fun j hj=>by simp only[show¬j=i by omega,if_false]
   rw[h1];simp only[if_true]
   grind
  .have h1:=ih (by omega);simp only[show¬N=i by omega,if_false];omega
theorem val_split (d:Nat->Nat)(i n:Nat):val d (i+n)=val d i+W32^i*val (fun j=>d (i+j)) n:=by
 induction n with
 |zero=>simp[val]
 |succ n ih=>rw[<-Nat.add_assoc,val,ih,val,Nat.pow_add];grind
theorem take_step' {X V D times vk c b x y' b' c' P Pk W low:Nat}(h:X+times*V*P=D+(c+b)*(P*Pk))(hx:x+b'*W=y'+low+b)(e1:low+W*c'=c+times*vk):
 X+y'*(P*Pk)+times*(V+Pk*vk)*P=D+(c'+b')*(P*(Pk*W))+x*(P*Pk):=by
 have e2:(x+b'*W)*(P*Pk)=(y'+low+b)*(P*Pk):=by rw[hx]
 have e3:(low+W*c')*(P*Pk)=(c+times*vk)*(P*Pk):=by rw[e1]
 have e4:times*(V+Pk*vk)*P=times*V*P+times*vk*(P*Pk):=by
  rw[Nat.mul_add,Nat.add_mul];congr 1
  rw[Nat.mul_comm P Pk,Nat.mul_comm Pk vk,<-Nat.mul_assoc,<-Nat.mul_assoc]
 have e5:(c'+b')*(P*(Pk*W))=W*c'*(P*Pk)+b'*W*(P*Pk):=by
  rw[<-Nat.mul_assoc P];generalize P*Pk=R;clear h hx e1 e2 e3 e4
  grind
 rw[Nat.add_mul]at e2 e3;rw[Nat.add_mul,Nat.add_mul]at e2;rw[Nat.add_mul]at e3 h;rw[e4,e5];omega
theorem take_step {X V D times vk c b x y' b' c' P Pk:Nat}(h:X+times*V*P=D+(c+b)*(P*Pk))(hx:x+b'*W32=y'+(c+times*vk)%W32+b)(hc:c'=(c+times*vk)/W32):
 X+y'*(P*Pk)+times*(V+Pk*vk)*P=D+(c'+b')*(P*(Pk*W32))+x*(P*Pk):=
 take_step' h hx (by rw[hc];exact Nat.mod_add_div _ _)
theorem brw_eq {x low b:Nat}(hx:x<4294967296)(hl:low<4294967296)(hb:b<=1):x+brw x low b*W32=dif x low b+low+b:=by
 unfold brw dif W32;split<;>omega
theorem dif_lt (x y b:Nat):dif x y b<4294967296:=Nat.mod_lt _ (by decide)
theorem brw_le (x y b:Nat):brw x y b<=1:=by unfold brw;split<;>omega
theorem guess_first {T v n:Nat}(hn:0<v/W32^(n-1)):T/v<=T/W32^(n-1)/(v/W32^(n-1)):=by
 rw[Nat.le_div_iff_mul_le hn,Nat.le_div_iff_mul_le (W32_pow_pos _)];have h1:v/W32^(n-1)*W32^(n-1)<=v:=Nat.div_mul_le_self _ _;have h2:T/v*v<=T:=Nat.div_mul_le_self _ _
 calc T/v*(v/W32^(n-1))*W32^(n-1)=T/v*(v/W32^(n-1)*W32^(n-1)):=Nat.mul_assoc _ _ _
  _<=T/v*v:=Nat.mul_le_mul_left _ h1
  _<=T:=h2
theorem two_low {T n:Nat}(hn:2<=n):T/W32^(n-2)=T/W32^(n-1)*W32+dig T (n-2):=by
 have h:=div_mod_dig T (n-2);rw[show n-2+1=n-1 by omega]at h;exact h
theorem guess_down {T v n g r:Nat}(hn:2<=n)(hv:0<v)(h:g*(v/W32^(n-1))+r=T/W32^(n-1))(hlt:r*W32+dig T (n-2)<g*dig v (n-2)):T/v<g:=by
 rw[Nat.div_lt_iff_lt_mul hv];refine Nat.lt_of_not_le fun hle=>?_;have h1:v/W32^(n-2)*W32^(n-2)<=v:=Nat.div_mul_le_self _ _
 have h2:g*(v/W32^(n-2))<=T/W32^(n-2):=by
  rw[Nat.le_div_iff_mul_le (W32_pow_pos _),Nat.mul_assoc];exact Nat.le_trans (Nat.mul_le_mul_left _ h1) hle
 rw[two_low hn,two_low hn,<-h]at h2;generalize v/W32^(n-1)=v1 at *;have e1:g*(v1*W32+dig v (n-2))=g*v1*W32+g*dig v (n-2):=by rw[Nat.mul_add,Nat.mul_assoc]
 have e2:(g*v1+r)*W32=g*v1*W32+r*W32:=Nat.add_mul _ _ _;omega
theorem guess_near {T v n g r:Nat}(hn:2<=n)(hv:W32^(n-1)<=v)(h:g*(v/W32^(n-1))+r=T/W32^(n-1))(hle:g*dig v (n-2)<=r*W32+dig T (n-2))(hg:g<W32):g<=T/v+1:=by
 have hv0:0<v:=Nat.lt_of_lt_of_le (W32_pow_pos _) hv
 have h1:g*(v/W32^(n-2))<=T/W32^(n-2):=by
  rw[two_low hn,two_low hn,<-h];generalize v/W32^(n-1)=v1 at *;have e1:g*(v1*W32+dig v (n-2))=g*v1*W32+g*dig v (n-2):=by rw[Nat.mul_add,Nat.mul_assoc]
  have e2:(g*v1+r)*W32=g*v1*W32+r*W32:=Nat.add_mul _ _ _;omega
 have h2:g*(v/W32^(n-2))*W32^(n-2)<=T:=(Nat.le_div_iff_mul_le (W32_pow_pos _)).1 h1;have h3:=Nat.mod_add_div v (W32^(n-2));have h4:=Nat.mod_lt v (W32_pow_pos (n-2))
 have h5:g*(v%W32^(n-2))<=W32^(n-1):=by
  have e:W32^(n-1)=W32*W32^(n-2):=by rw[show n-1=n-2+1 by omega,Nat.pow_succ,Nat.mul_comm]
  rw[e];exact Nat.mul_le_mul (by omega) (by omega)
 have h6:g*v=g*(v%W32^(n-2))+g*(v/W32^(n-2))*W32^(n-2):=by
  rw[Nat.mul_assoc,<-Nat.mul_add,Nat.mul_comm (v/_),h3]
 have h7:g*v<=T+v:=by omega
 have h8:=Nat.mod_add_div T v;have h9:=Nat.mod_lt T hv0
 have h10:g*v<(T/v+2)*v:=by
  rw[Nat.add_mul,Nat.mul_comm (T/v)];omega
 have:=Nat.lt_of_mul_lt_mul_right h10;omega
theorem two_eq {T n:Nat}(hn:1<=n)(h:T<W32^(n+1)):T/W32^(n-1)=dig T n*W32+dig T (n-1):=by
 have h1:=div_mod_dig T (n-1);rw[show n-1+1=n by omega]at h1;rw[h1,dig_top h]
theorem dig_shift (U i j:Nat):dig (U/W32^i) j=dig U (i+j):=by
 unfold dig;rw[Nat.div_div_eq_div_mul,<-Nat.pow_add]
theorem quot_digit {A v i:Nat}:dig (A/v) i=A%(v*W32^(i+1))/W32^i/v:=by
 unfold dig;rw[Nat.div_div_eq_div_mul,Nat.div_div_eq_div_mul,Nat.mul_comm (W32^i),Nat.pow_succ,<-Nat.mul_assoc,Nat.mod_mul_right_div_self]
theorem rest_digit {A v i:Nat}:A%(v*W32^(i+1))-A%(v*W32^(i+1))/W32^i/v*v*W32^i=A%(v*W32^i):=by
 have e:v*W32^(i+1)=v*W32^i*W32:=by rw[Nat.pow_succ,Nat.mul_assoc]
 have h1:A%(v*W32^i)=A%(v*W32^(i+1))%(v*W32^i):=by rw[e,Nat.mod_mul_right_mod]
 rw[h1];generalize A%(v*W32^(i+1))=U;rw[Nat.div_div_eq_div_mul,Nat.mul_comm (W32^i),Nat.mul_assoc];have:=Nat.mod_add_div U (v*W32^i);rw[Nat.mul_comm (U/_)];omega
theorem norm_len {b n k:Nat}(hn:nlen b=n+1)(h1:2147483648<=dig b n*2^k)(h2:dig b n*2^k<4294967296)(hk:k<=31):nlen (b*2^k)=n+1/\2147483648*W32^n<=b*2^k/\b*2^k<W32^(n+1):=by
 have hb:=lt_pow_nlen b;rw[hn]at hb;have e1:=mod_succ b n;rw[mod_of_lt hb]at e1;have h3:=Nat.mod_lt b (W32_pow_pos n);have hp:0<2^k:=Nat.pow_pos (by decide)
 have h4:(dig b n+1)*2^k<=W32:=by
  have h5:=pow_split (show k<=32 by omega)
  have h6:dig b n<2^(32-k):=by
   have:dig b n*2^k<2^(32-k)*2^k:=by rw[Nat.mul_comm (2^(32-k)),h5];exact h2
   exact Nat.lt_of_mul_lt_mul_right this
  rw[<-h5,Nat.mul_comm (2^k)];exact Nat.mul_le_mul_right _ h6
 have e2:b*2^k=(b%W32^n)*2^k+dig b n*2^k*W32^n:=by
  conv=>lhs;rw[e1]
  rw[Nat.add_mul,Nat.mul_comm (W32^n),Nat.mul_assoc,Nat.mul_assoc,Nat.mul_comm (W32^n)]
 have h7:2147483648*W32^n<=dig b n*2^k*W32^n:=Nat.mul_le_mul_right _ h1
 have h8:(b%W32^n)*2^k+dig b n*2^k*W32^n<W32^(n+1):=by
  have h9:(b%W32^n)*2^k<W32^n*2^k:=Nat.mul_lt_mul_of_pos_right h3 hp;have h10:(dig b n+1)*2^k*W32^n<=W32*W32^n:=Nat.mul_le_mul_right _ h4;rw[Nat.pow_succ,Nat.mul_comm _ W32];rw[Nat.add_mul,Nat.add_mul,Nat.one_mul,Nat.mul_comm (2^k)]at h10;omega
 refine⟨nlen_eq ?_ ?_,?_,?_⟩
 .have:W32^n<=2147483648*W32^n:=Nat.le_mul_of_pos_left _ (by decide);omega
 .omega
 .omega
 .omega
structure Dvr (v n:Nat):Prop where
 hn:2<=n
 lo:2147483648*W32^(n-1)<=v
 hi:v<W32^n
theorem Dvr.top {v n:Nat}(h:Dvr v n):v/W32^(n-1)=dig v (n-1):=(dig_top (by rw[show n-1+1=n by have:=h.hn;omega];exact h.hi)).symm
theorem Dvr.big {v n:Nat}(h:Dvr v n):2147483648<=dig v (n-1):=by
 rw[<-h.top,Nat.le_div_iff_mul_le (W32_pow_pos _)];exact h.lo
theorem Dvr.pos {v n:Nat}(h:Dvr v n):0<v:=Nat.lt_of_lt_of_le (Nat.mul_pos (by decide) (W32_pow_pos _)) h.lo
theorem Dvr.pow {v n:Nat}(h:Dvr v n):W32^(n-1)<=v:=Nat.le_trans (Nat.le_mul_of_pos_left _ (by decide)) h.lo
theorem Dvr.lt {v n T:Nat}(h:Dvr v n)(hT:T<v*W32):T<W32^(n+1):=by
 rw[Nat.pow_succ];exact Nat.lt_of_lt_of_le hT (Nat.mul_le_mul_right _ (Nat.le_of_lt h.hi))
def GuessI (T v n g r:Nat):Prop:=g*dig v (n-1)+r=T/W32^(n-1)/\T/v<=g/\g<=4294967297/\T/W32^(n-1)<(dig v (n-1)+1)*W32
theorem guess_start {T v n:Nat}(h:Dvr v n)(hT:T<v*W32):GuessI T v n (T/W32^(n-1)/dig v (n-1)) (T/W32^(n-1)%dig v (n-1)):=by
 have hb:=h.big
 have h1:T/W32^(n-1)<(dig v (n-1)+1)*W32:=by
  rw[Nat.div_lt_iff_lt_mul (W32_pow_pos _)];have h2:=Nat.lt_div_mul_add (a:=v) (W32_pow_pos (n-1));rw[h.top]at h2;have h3:v+1<=(dig v (n-1)+1)*W32^(n-1):=by rw[Nat.add_mul];omega
  have h4:=Nat.mul_le_mul_right W32 h3;rw[Nat.add_mul,Nat.one_mul]at h4;have h5:(dig v (n-1)+1)*W32^(n-1)*W32=(dig v (n-1)+1)*W32*W32^(n-1):=by rw[Nat.mul_assoc,Nat.mul_assoc,Nat.mul_comm W32]
  omega
 refine⟨by rw[Nat.mul_comm];exact Nat.div_add_mod _ _,?_,?_,h1⟩
 .rw[<-h.top];exact guess_first (by rw[h.top];omega)
 .generalize T/W32^(n-1)=two at *;generalize dig v (n-1)=x at *;refine Nat.le_of_lt_succ ?_;rw[Nat.div_lt_iff_lt_mul (by omega)];rw[Nat.add_mul]at h1;unfold W32 at h1
  show two<4294967298*x
  omega
theorem guess_dec {T v n g r:Nat}(h:GuessI T v n g r)(hlt:T/v<g):GuessI T v n (g-1) (r+dig v (n-1)):=by
 obtain⟨h1,h2,h3,h4⟩:=h;refine⟨?_,Nat.le_sub_one_of_lt hlt,Nat.le_trans (Nat.sub_le _ _) h3,h4⟩;obtain⟨u,rfl⟩:∃u,g=u+1:=⟨g-1,(Nat.succ_pred_eq_of_pos (Nat.lt_of_le_of_lt (Nat.zero_le _) hlt)).symm⟩
 rw[Nat.add_mul,Nat.one_mul]at h1;simp only[Nat.add_sub_cancel];omega
theorem guess_dec_big {T v n g r:Nat}(hT:T<v*W32)(h:GuessI T v n g r)(hg:4294967296<=g):GuessI T v n (g-1) (r+dig v (n-1)):=by
 refine guess_dec h ?_
 have:T/v<W32:=by
  have hv:0<v:=by
   by_cases e:v=0
   .subst e;simp at hT
   .omega
  rw[Nat.div_lt_iff_lt_mul hv,Nat.mul_comm];exact hT
 exact Nat.lt_of_lt_of_le this hg
theorem guess_dec_low {T v n g r:Nat}(hd:Dvr v n)(h:GuessI T v n g r)(hlt:r*4294967296+dig T (n-2)<g*dig v (n-2)):GuessI T v n (g-1) (r+dig v (n-1)):=
 guess_dec h (guess_down hd.hn hd.pos (by rw[hd.top];exact h.1) hlt)
def GuessE (T v g:Nat):Prop:=T/v<=g/\g<=T/v+1/\g<4294967296
theorem guess_end {T v n g r:Nat}(hd:Dvr v n)(h:GuessI T v n g r)(hg:g<4294967296)(hle:¬r*4294967296+dig T (n-2)<g*dig v (n-2)):GuessE T v g:=
 ⟨h.2.1,guess_near hd.hn hd.pow (by rw[hd.top];exact h.1) (by unfold W32;omega) hg,hg⟩
theorem guess_break {T v n g r:Nat}(hd:Dvr v n)(h:GuessI T v n (g-1) (r+dig v (n-1)))(hr:4294967296<=r+dig v (n-1)):GuessE T v (g-1):=by
 have hlt:g-1<4294967296:=by
  obtain⟨h1,h2,h3,h4⟩:=h;rw[<-h1]at h4
  by_cases hc:g-1<4294967296
  .exact hc
  .exfalso;have h5:4294967296*dig v (n-1)<=(g-1)*dig v (n-1):=Nat.mul_le_mul_right _ (by omega);rw[Nat.add_mul]at h4;unfold W32 at h4;omega
 refine guess_end hd h hlt ?_;have h1:(g-1)*dig v (n-2)<=4294967295*4294967295:=Nat.mul_le_mul (by omega) (by have:=dig_lt' v (n-2);omega);omega
theorem val_low {d:Nat->Nat}{N k:Nat}(hd:∀j,d j<4294967296)(hk:k<=N)(hz:∀j,k<=j->j<N->d j=0):val d N<W32^k:=by
 rw[val_zeros hk hz];exact val_lt d k fun j _=>hd j
theorem high_zero {d:Nat->Nat}{N k:Nat}(hd:∀j,d j<4294967296)(h:val d N<W32^k):∀j,k<=j->j<N->d j=0:=fun j h1 h2=>by
 rw[<-dig_val d N (fun j _=>hd j) j h2];exact dig_ge (Nat.lt_of_lt_of_le h (W32_pow_mono h1))
theorem tail_right {A v i g X N:Nat}{d:Nat->Nat}(hv:0<v)(hval:val d N=A%(v*W32^(i+1)))(hg:GuessE (val d N/W32^i) v g)(h:X+g*v*W32^i=val d N):
 g=dig (A/v) i/\X=A%(v*W32^i):=by
 have h1:g<=val d N/W32^i/v:=by
  rw[Nat.le_div_iff_mul_le hv,Nat.le_div_iff_mul_le (W32_pow_pos _)];omega
 have h2:g=val d N/W32^i/v:=by have:=hg.1;omega
 refine⟨by rw[quot_digit,<-hval,h2],?_⟩;rw[<-rest_digit,<-hval,<-h2];omega
theorem tail_wrong {A v i n g ov N:Nat}{d d1 d2:Nat->Nat}(hd:Dvr v n)(hN:i+n+1<=N)(hdl:∀j,d j<4294967296)(hd1:∀j,d1 j<4294967296)(hd2:∀j,d2 j<4294967296)(hval:val d N=A%(v*W32^(i+1)))(hg:GuessE (val d N/W32^i) v g)
 (hs1:∀j,j<i\/i+n<j->d1 j=d j) (h1:val d1 N+g*v*W32^i=val d N+1*W32^(i+n+1)) (hov:ov<=1)
 (hs2:∀j,j<i\/i+n<j->d2 j=d1 j) (h2:val d2 N+ov*W32^(i+n+1)=val d1 N+v*W32^i):
 g-1=dig (A/v) i/\1<=g/\val d2 N=A%(v*W32^i):=by
 have hU:val d N<W32^(i+n+1):=by
  rw[hval];refine Nat.lt_of_lt_of_le (Nat.mod_lt _ (Nat.mul_pos hd.pos (W32_pow_pos _))) ?_;have e:W32^(i+n+1)=W32^n*W32^(i+1):=by rw[<-Nat.pow_add];congr 1;omega
  rw[e];exact Nat.mul_le_mul_right _ (Nat.le_of_lt hd.hi)
 have hz:=high_zero hdl hU;have hl1:val d1 N<W32^(i+n+1):=val_low hd1 hN fun j h3 h4=>by rw[hs1 j (by omega)];exact hz j h3 h4
 have hl2:val d2 N<W32^(i+n+1):=val_low hd2 hN fun j h3 h4=>by rw[hs2 j (by omega),hs1 j (by omega)];exact hz j h3 h4
 have h3:val d N/W32^i/v<g:=by
  rw[Nat.div_lt_iff_lt_mul hd.pos,Nat.div_lt_iff_lt_mul (W32_pow_pos _)];omega
 have h4:g=val d N/W32^i/v+1:=Nat.le_antisymm hg.2.1 h3;have h5:g-1=val d N/W32^i/v:=by rw[h4];rfl
 refine⟨by rw[quot_digit,<-hval,h5],by rw[h4];exact Nat.le_add_left _ _,?_⟩;rw[<-rest_digit,<-hval,<-h5]
 have h6:(g-1)*v*W32^i+v*W32^i=g*v*W32^i:=by
  obtain⟨u,rfl⟩:∃u,g=u+1:=⟨_,h4⟩
  simp only[Nat.add_sub_cancel];rw[Nat.add_mul,Nat.one_mul,Nat.add_mul]
 have h7:(g-1)*v*W32^i<=val d N:=by
  rw[h5];have e1:=Nat.div_mul_le_self (val d N/W32^i) v;have e2:=Nat.div_mul_le_self (val d N) (W32^i);exact Nat.le_trans (Nat.mul_le_mul_right _ e1) e2
 have h8:ov=1:=by
  by_cases e:ov=1
  .exact e
  .have:ov=0:=by omega
   subst this;omega
 subst h8;omega
end Go.Proofs.YtlgjakpoaelehaaGreat
