/- Contracts and plain laws, merged: E8 E9 -/
import Derived.Deep.RegionWith
import Derived.Lib.ItoaNum
import Derived.Test.YtlgjakpoaelehaaGreatSB02
import Derived.Test.YtlgjakpoaelehaaGreatSB05
namespace Go.Proofs.YtlgjakpoaelehaaGreat
open Go.RowKit
set_option maxRecDepth 100000
set_option maxHeartbeats 2000000
def DivIn (w1 wr:World)(B1 N B2 M:Nat)(A v i:Nat):Prop:=
 ∃d f,DRow wr B1 N d/\val d N=A%(v*W32^i)/\wr.rowIs B2 232 M f/\(∀j,i<=j->j<M->f j=dv (A/v) j)/\Bel B1 w1 wr
theorem lz32_c (x:Nat)(h0:x≠0)(h:x<4294967296):∃k:Nat,k<=31/\2147483648<=x*2^k/\x*2^k<4294967296/\
 ∀w,Calls Tryz.prog 182 #[.int .u32 x] w fun e w'=>e=.returned (.int .i64 k)/\w=w':=by
 have h64:x<2^64:=by omega
 obtain⟨h1,h2,h3⟩:=Lib.bitLenAux_bounds 64 x h64 h0;have h4:Lib.bitLenAux 64 x<=32:=Lib.bitLenAux_le 64 x 32 (by omega);have e1:Lib.bitLen x=Lib.bitLenAux 64 x:=rfl;refine⟨32-Lib.bitLen x,by omega,?_,?_,fun w=>(Tryz.bits_LeadingZeros32 x w (by omega) (by omega)).mono ?_⟩
 .rw[e1];have:2^31=2^(Lib.bitLenAux 64 x-1)*2^(32-Lib.bitLenAux 64 x):=by rw[<-Nat.pow_add];congr 1;omega
  show 2^31<=_
  rw[this];exact Nat.mul_le_mul_right _ h2
 .rw[e1];have:2^32=2^Lib.bitLenAux 64 x*2^(32-Lib.bitLenAux 64 x):=by rw[<-Nat.pow_add];congr 1;omega
  show _<2^32
  rw[this];exact Nat.mul_lt_mul_of_pos_right h3 (Nat.pow_pos (by decide))
 .rintro e w' ⟨rfl,rfl⟩;refine⟨?_,rfl⟩
  congr 2
  rw[Int.toNat_natCast];omega
theorem div_wrong {A v n i g N:Nat}{d d1:Nat->Nat}(hd:Dvr v n)(hN:i+n+1<=N)(hdl:∀j,d j<4294967296)(hval:val d N=A%(v*W32^(i+1)))(hg:GuessE (val d N/W32^i) v g)
 (hd1:∀j,d1 j<4294967296) (hs1:∀j,j<i\/i+n<j->d1 j=d j) (h1:val d1 N+g*v*W32^i=val d N+1*W32^(i+n+1)):1<=g:=by
 by_cases e:g=0
 .exfalso;subst e
  have hU:val d N<W32^(i+n+1):=by
   rw[hval];refine Nat.lt_of_lt_of_le (Nat.mod_lt _ (Nat.mul_pos hd.pos (W32_pow_pos _))) ?_;have e:W32^(i+n+1)=W32^n*W32^(i+1):=by rw[<-Nat.pow_add];congr 1;omega
   rw[e];exact Nat.mul_le_mul_right _ (Nat.le_of_lt hd.hi)
  have hz:=high_zero hdl hU;have hl1:val d1 N<W32^(i+n+1):=val_low hd1 hN fun j h3 h4=>by rw[hs1 j (by omega)];exact hz j h3 h4
  simp only[Nat.zero_mul,Nat.one_mul,Nat.add_zero]at h1;omega
 .omega
theorem div_top {a b k n:Nat}(hv:2147483648*W32^(n-1)<=b*2^k)(hn:1<=n)(hm:n<=nlen a)(hk:k<=31):a*2^k<b*2^k*W32^(nlen a-n+1):=by
 have h1:a*2^k<W32^nlen a*2147483648*2:=by
  have h2:2^k<=2^31:=Nat.pow_le_pow_right (by decide) hk;have h3:a*2^k<=a*2^31:=Nat.mul_le_mul_left _ h2;have h4:=lt_pow_nlen a;omega
 have h5:2147483648*W32^(n-1)*W32^(nlen a-n+1)<=b*2^k*W32^(nlen a-n+1):=Nat.mul_le_mul_right _ hv
 have h6:2147483648*W32^(n-1)*W32^(nlen a-n+1)=W32^nlen a*2147483648:=by
  rw[Nat.mul_assoc,<-Nat.pow_add,Nat.mul_comm];congr 2;omega
 have h7:a*2^k<W32^nlen a*2147483648\/W32^nlen a*2147483648<=a*2^k:=by omega
 have h8:a*2^k<=a*2^31:=Nat.mul_le_mul_left _ (Nat.pow_le_pow_right (by decide) hk);have h9:=lt_pow_nlen a;omega
theorem DRow.drewN {wr:World}{B n:Nat}{d:Nat->Nat}(h:DRow wr B n d)(k:Nat):DRow (wr.drewN k) B n d:=h
theorem dig_row {d:Nat->Nat}{N i j m:Nat}(hd:∀j,d j<4294967296)(hm:m=i+j)(hN:m<N):dig (val d N/W32^i) j=d m:=by
 rw[dig_shift,<-hm,dig_val d N (fun j _=>hd j) m hN]
theorem div_guess {d:Nat->Nat}{N i n A v two:Nat}(hD:Dvr v n)(hd:∀j,d j<4294967296)(hN:i+n<N)(hval:val d N=A%(v*W32^(i+1)))(h2:two=d (i+n)*4294967296+d (i+n-1)):
 val d N/W32^i<v*W32/\GuessI (val d N/W32^i) v n (two/dig v (n-1)) (two%dig v (n-1)):=by
 have hn:=hD.hn
 have hT:val d N/W32^i<v*W32:=by
  rw[Nat.div_lt_iff_lt_mul (W32_pow_pos _),hval];have e:v*W32*W32^i=v*W32^(i+1):=by rw[Nat.mul_assoc,Nat.pow_succ,Nat.mul_comm W32]
  rw[e];exact Nat.mod_lt _ (Nat.mul_pos hD.pos (W32_pow_pos _))
 refine⟨hT,?_⟩;have h3:=two_eq (n:=n) (by omega) (hD.lt hT);rw[dig_row hd rfl hN,dig_row hd (m:=i+n-1) (by omega) (by omega)]at h3;have h4:=guess_start hD hT;rw[h3]at h4;rw[h2];exact h4
theorem div_round0 {w1 wr w':World}{B2 N M A v n i g x:Nat}{d d':Nat->Nat}{f:Nat->Value}(hD:Dvr v n)(hval:val d N=A%(v*W32^(i+1)))(hq:wr.rowIs B2 232 M f)(hf:∀j,i+1<=j->j<M->f j=dv (A/v) j)
 (hB:Bel w1.heap.size w1 wr) (hlt:w1.heap.size<B2) (hg:GuessE (val d N/W32^i) v g) (h1:DRow w' w1.heap.size N d') (h2:val d' N+g*v*W32^i=val d N+0*W32^(i+n+1)) (ho:Onl w1.heap.size (wr.drewN x) w'):
 DivIn w1 (w'.setCell ⟨B2,i,none⟩ (.int .u32 g)) w1.heap.size N B2 M A v i:=by
 obtain⟨e1,e2⟩:=tail_right hD.pos hval hg (by rw[Nat.zero_mul,Nat.add_zero]at h2;exact h2);have hq':w'.rowIs B2 232 M f:=ho.row (by omega) (w:=wr.drewN x) hq;refine⟨d',_,⟨h1.1.setOther (by show w1.heap.size≠B2;omega) _,h1.2⟩,e2,hq'.set i _,fun j hj hM=>?_,((hB.drewN x).trans (ho.bel NL)).setCell (p:=⟨B2,i,none⟩) (Nat.le_of_lt hlt) _⟩
 by_cases e:j=i
 .simp only[e,if_true];unfold dv;rw[<-e1]
 .simp only[e,if_false];exact hf j (by omega) hM
theorem div_round1 {w1 wr w' w2:World}{B2 N M A v n i g x ov:Nat}{d d' d2:Nat->Nat}{f:Nat->Value}(hD:Dvr v n)(hN:i+n+1<=N)(hd:∀j,d j<4294967296)(hval:val d N=A%(v*W32^(i+1)))(hq:wr.rowIs B2 232 M f)(hf:∀j,i+1<=j->j<M->f j=dv (A/v) j)
 (hB:Bel w1.heap.size w1 wr) (hlt:w1.heap.size<B2) (hg:GuessE (val d N/W32^i) v g) (h1:DRow w' w1.heap.size N d') (hs1:∀j,j<i\/i+n<j->d' j=d j) (h2:val d' N+g*v*W32^i=val d N+1*W32^(i+n+1)) (ho:Onl w1.heap.size (wr.drewN x) w')
 (hov:ov<=1) (h3:DRow w2 w1.heap.size N d2) (hs2:∀j,j<i\/i+n<j->d2 j=d' j) (h4:val d2 N+ov*W32^(i+n+1)=val d' N+v*W32^i) (ho2:Onl w1.heap.size w' w2):
 DivIn w1 (w2.setCell ⟨B2,i,none⟩ (.int .u32 (g-1:Nat))) w1.heap.size N B2 M A v i:=by
 obtain⟨e1,-,e2⟩:=tail_wrong hD hN hd h1.2 h3.2 hval hg hs1 h2 hov hs2 h4;have hq':w2.rowIs B2 232 M f:=(ho.trans ho2).row (by omega) (w:=wr.drewN x) hq;refine⟨d2,_,⟨h3.1.setOther (by show w1.heap.size≠B2;omega) _,h3.2⟩,e2,hq'.set i _,fun j hj hM=>?_,((hB.drewN x).trans ((ho.trans ho2).bel NL)).setCell (p:=⟨B2,i,none⟩) (Nat.le_of_lt hlt) _⟩
 by_cases e:j=i
 .simp only[e,if_true];unfold dv;rw[<-e1]
 .simp only[e,if_false];exact hf j (by omega) hM
theorem div_start {w1 w3 w4:World}{a A v k la:Nat}(hA:A=a*2^k)(hk:k<=31)(hla:nlen a=la)
 (hrow:w4.rowIs w1.heap.size 232 (la+2) (cpyF 0 (nlen A) (dv A) fun _=>.int .u32 0)) (hB3:Bel (w1.alloc (.cells (madeCells #[.int .u32 0] (la+2)) 232)).heap.size (w1.alloc (.cells (madeCells #[.int .u32 0] (la+2)) 232)) w3) (hon:Onl w1.heap.size w3 w4)
 {M:Nat} (hM:A<v*W32^M):DivIn w1 (w4.alloc (.cells (madeCells #[.int .u32 0] M) 232)) w1.heap.size (la+2) w4.heap.size M A v M:=by
 have hn:nlen A<=la+1:=by
  rw[nlen_le_iff,hA,Nat.pow_succ];refine Nat.mul_lt_mul_of_lt_of_le (by rw[<-hla];exact lt_pow_nlen a) ?_ W32_pos;rw[W32_eq];exact Nat.pow_le_pow_right (by decide) (by omega)
 have hd:DRow w4 w1.heap.size (la+2) (dig A):=by
  refine⟨hrow.congr fun i hi=>?_,fun j=>dig_lt' A j⟩
  by_cases h:i<nlen A
  .rw[cpyF_in _ _ (Nat.zero_le _) (by omega)];rfl
  .rw[cpyF_out _ _ (by omega)];unfold iv;rw[dig_ge (Nat.lt_of_lt_of_le (lt_pow_nlen A) (W32_pow_mono (by omega)))];rfl
 have hs3:w1.heap.size<w3.heap.size:=by have:=hB3.size;simp at this;omega
 refine⟨dig A,fun _=>.int .u32 0,⟨hd.1.alloc _,hd.2⟩,?_,World.rowIs_made w4 _ _ _,fun j h1 h2=>by omega,?_⟩
 .rw[val_dig,Nat.mod_eq_of_lt hM];exact mod_of_lt (Nat.lt_of_lt_of_le (lt_pow_nlen A) (W32_pow_mono (by omega)))
 .exact((((Bel.refl _ w1).alloc NL _).trans (hB3.mono (by simp))).trans (hon.bel NL)).alloc (by rw[hon.size];omega) _
theorem div_big {w:World}{aa ab:Option Addr}{a b:Nat}(hca:CellsAt 232 w aa (nlen a) (dv a))(hcb:CellsAt 232 w ab (nlen b) (dv b))(hsa:nlen a<=10000000000)(hle:b<=a)(hb:2<=nlen b):
 Calls Tryz.prog 140 #[.slice aa (nlen a) (nlen a),.slice ab (nlen b) (nlen b)] w fun e w'=>∃v1 v2,e=.returned (.tuple #[v1,v2])/\NatV w' v1 (a/b)/\NatV w' v2 (a%b)/\Bel w.heap.size w w':=by
 have hn:=nlen_mono hle;obtain⟨b2,o2,rfl,hl2,hc2⟩:=hcb.open (by omega);have g2:=hc2 (nlen b-1) (by omega);unfold dv at g2;have HA:Hid (NatV w (.slice aa (nlen a) (nlen a)) a):=⟨aa,rfl,hca⟩
 have HB:Hid (NatV w (.slice (some ⟨b2,o2,none⟩) (nlen b) (nlen b)) b):=⟨_,rfl,hcb⟩
 have HLE:=LH hle;have hcmp:cmpN a b=0\/cmpN a b=1:=by unfold cmpN;rw[if_neg (by omega)];split<;>simp
 have hcmp2:decide (cmpN a b<0)=false:=by simp;omega
 clear hca hcb hc2 hle hcmp
 go_enter Tryz.func140,Tryz.ntmps140
 go_wp2_with fail
 refine(cmp_c HA.out HB.out (by omega) (by omega)).mono ?_;rintro e w0 ⟨rfl,hb0⟩;have g2':=(hb0.cell (p:=⟨b2,o2+(nlen b-1),none⟩) hl2).trans g2;have hnb:nlen b=(nlen b-1)+1:=by omega
 have hx0:dig b (nlen b-1)≠0:=dig_nlen_ne hnb;obtain⟨k,hk,hk1,hk2,hlz⟩:=lz32_c (dig b (nlen b-1)) hx0 (dig_lt' _ _);have HLZ:=LH hlz;have HNV:=LH (norm_len hnb hk1 hk2 hk);rw[<-hnb]at HNV;have HA0:Hid (NatV w0 (.slice aa (nlen a) (nlen a)) a):=HA.out.below hb0;have HB0:Hid (NatV w0 (.slice (some ⟨b2,o2,none⟩) (nlen b) (nlen b)) b):=HB.out.below hb0;have HBW0:=LH hb0;clear hlz hnb hk1 hk2 hb0 g2
 go_wp2_with fail
 refine(HLZ.out _).mono ?_;rintro e w' ⟨rfl,rfl⟩
 go_wp2_with fail
 refine(shl_c HB0.out (by omega) hk).mono ?_;rintro e w1 ⟨vv,rfl,hvv,hb1⟩;have HA1:Hid (NatV w1 (.slice aa (nlen a) (nlen a)) a):=HA0.out.below hb1;have HBW1:Hid (Bel w.heap.size w w1):=HBW0.out.next HBW0.out.size hb1;obtain⟨va,rfl,hcv⟩:=hvv;rw[HNV.out.1]at hcv|-;have HV1:Hid (NatV w1 (.slice va (nlen b) (nlen b)) (b*2^k)):=⟨va,by rw[HNV.out.1],by rw[HNV.out.1];exact hcv⟩
 have hmk:=run_make_row' (P:=Tryz.prog) 35 232 (.int .u32 0) 4 Tryz.underlying35 Tryz.infoU32 rfl .i64 .i64 (nlen a+2) (by omega) (by omega);have elen:((nlen a+2:Nat):Int)=(nlen a:Int)+2:=by omega
 rw[elen]at hmk;clear hcv hb1 elen g2'
 go_wp2_with fail
 clear hmk;refine(shl_c (w:=w1.alloc _) (HA1.out.pres (Pres.alloc _ _)) (by omega) hk).mono ?_;rintro e w3 ⟨vA,rfl,hvA,hb3⟩;obtain⟨vaA,rfl,hcA⟩:=hvA;have hsz3:w1.heap.size<w3.heap.size:=by have:=hb3.size;simp at this;omega
 have hrow3:w3.rowIs w1.heap.size 232 (nlen a+2) (fun _=>.int .u32 0):=(World.rowIs_made w1 (.int .u32 0) (nlen a+2) 232).of_block (hb3.block _ (by simp))
 have hlA:nlen (a*2^k)<=nlen a+1:=by
  rw[nlen_le_iff,Nat.pow_succ];refine Nat.mul_lt_mul_of_lt_of_le (lt_pow_nlen a) ?_ W32_pos;rw[W32_eq];exact Nat.pow_le_pow_right (by decide) (by omega)
 have HCA:=LH hcA;have HR3:=LH hrow3;have HB3:=LH hb3;have hmk:=run_make_row' (P:=Tryz.prog) 35 232 (.int .u32 0) 4 Tryz.underlying35 Tryz.infoU32 rfl .i64 .i64 (nlen a-nlen b+1) (by omega) (by omega);have elen:((nlen a-nlen b+1:Nat):Int)=(nlen a:Int)-nlen b+1:=by omega
 rw[elen]at hmk;clear hcA hrow3 hb3 elen
 go_wp2_with (with_reducible refine wpList_copy_fn rfl (.tmp 48) (.tmp 51) 35 35 rfl 232 Tryz.underlying35 Tryz.size32 rfl rfl HR3.out HCA.out (oneCell_dv _) (by omega) (by omega) ?_;intro w4 hrow4 hon4)
 have hMM:a*2^k<b*2^k*W32^(nlen a-nlen b+1):=div_top HNV.out.2.1 (by omega) hn hk;have HS:=LH (div_start rfl hk rfl hrow4 HB3.out hon4 hMM);have hB12:w1.heap.size<w4.heap.size:=by rw[hon4.size];exact hsz3
 clear hrow4 hon4 hmk hlA hMM hsz3;clear HLZ HA0 HB0 HBW0 HA HB HR3 HB3 HCA HA1 hcmp2 hx0;obtain⟨v,hv⟩:∃v,v=b*2^k:=⟨_,rfl⟩
 rw[<-hv]at HS HV1 HNV;have HVE:=LH hv;have HD:Hid (Dvr v (nlen b)):=⟨hb,HNV.out.2.1,HNV.out.2.2⟩
 clear hv
 go_loopw [11] (fun i wr=>∃i1:Nat,i1<=nlen a-nlen b+1/\i=.int .i64 ((i1:Int)-1)/\DivIn w1 wr w1.heap.size (nlen a+2) w4.heap.size (nlen a-nlen b+1) (a*2^k) v i1) (fun i _=>(intOf i+1).toNat)
 case atStart=>exact⟨_,Nat.le_refl _,by go_num,HS.out⟩
 case round=>
  clear HS;obtain⟨i1,hi1,rfl,hin⟩:=hrel
  cases i1 with
  |zero=>
   obtain⟨d,f,hr,hval,hq,hf,hB⟩:=hin;have hvp:0<v:=HD.out.pos;have eqq:a*2^k/v=a/b:=by rw[HVE.out];exact Nat.mul_div_mul_right a b (Nat.pow_pos (by decide))
   have eqr:a*2^k%v=a%b*2^k:=by rw[HVE.out];exact Nat.mul_mod_mul_right _ _ _
   have HCQ:Hid (CellsAt 232 wr (some ⟨w4.heap.size,0,none⟩) (nlen a-nlen b+1) (dv (a/b))):=CellsAt.of_row' hq fun j hj=>by rw[<-eqq];exact hf j (Nat.zero_le _) hj
   have HRV:Hid (val d (nlen a+2)=a%b*2^k):=by show _=_;rw[hval,Nat.pow_zero,Nat.mul_one,eqr]
   have hvl:=val_lt d (nlen a+2) (fun j _=>hr.2 j)
   have hRl:a%b*2^k<W32^nlen b:=by
    rw[<-eqr];exact Nat.lt_trans (Nat.mod_lt _ hvp) (HNV.out.2.2)
   have HCU:Hid (CellsAt 232 wr (some ⟨w1.heap.size,0,none⟩) (nlen b) (dv (a%b*2^k))):=by
    refine(CellsAt.of_row' (g:=dv (a%b*2^k)) hr.1 fun j hj=>?_).mono (by omega);unfold dv;rw[<-HRV.out,dig_val _ _ (fun j _=>hr.2 j) j hj];rfl
   have HLU:=LH hRl
   have HLQ:Hid (a/b<W32^(nlen a-nlen b+1)):=by
    show _<_
    rw[<-eqq,Nat.div_lt_iff_lt_mul hvp,Nat.mul_comm (W32^_),HVE.out];exact div_top (by rw[<-HVE.out];exact HNV.out.2.1) (by omega) hn hk
   have HBW:=LH hB;have HRS:Hid (a%b*2^k/2^k=a%b):=Nat.mul_div_cancel _ (Nat.pow_pos (by decide));have HNU:=LH ((nlen_le_iff _ (nlen b)).2 hRl);clear hr hval hq hf hB eqq eqr hvl hRl hvp;have hnn:((nlen a:Int)-nlen b+1)=((nlen a-nlen b+1:Nat):Int):=by omega
   have HNN:=LH hnn
   go_wp2_with fail
   rw[HNN.out]
   have HQN:∀w',Pres 232 wr w'->Calls Tryz.prog 143 #[.slice (some ⟨w4.heap.size,0,none⟩) (nlen a-nlen b+1) (nlen a-nlen b+1)] w' fun e w''=>e=.returned (.slice (some ⟨w4.heap.size,0,none⟩) (nlen (a/b)) (nlen (a/b)))/\w'=w'':=
    fun w' hp=>norm_c (HCQ.out.pres hp) HLQ.out (by omega) (by omega)
   have HUN:∀w',Pres 232 wr w'->Calls Tryz.prog 143 #[.slice (some ⟨w1.heap.size,0,none⟩) (nlen b) (nlen a+2)] w' fun e w''=>e=.returned (.slice (some ⟨w1.heap.size,0,none⟩) (nlen (a%b*2^k)) (nlen (a%b*2^k)))/\w'=w'':=
    fun w' hp=>norm_c (HCU.out.pres hp) HLU.out (by omega) (by omega)
   have HSR:∀w',Pres 232 wr w'->Calls Tryz.prog 186 #[.slice (some ⟨w1.heap.size,0,none⟩) (nlen (a%b*2^k)) (nlen (a%b*2^k)),.int .i64 k] w' (Gives w' fun v w''=>NatV w'' v (a%b*2^k/2^k)):=
    fun w' hp=>shr_c ((NatV.of_norm HCU.out HLU.out).pres hp) (by have:=HNU.out;omega) hk
   have HP1:Pres 232 wr wr.drew:=Pres.drew _
   go_region_with (first
    |(go_at_call 143;with_reducible refine(HQN _ ?_).mono ?_;(first|exact HP1|exact HP1.trans (Pres.below (Bel.toBelow (by assumption))));rintro e w' ⟨rfl,rfl⟩)
    |(go_at_call 143;with_reducible refine(HUN _ ?_).mono ?_;(first|exact HP1|exact HP1.trans (Pres.below (Bel.toBelow (by assumption))));rintro e w' ⟨rfl,rfl⟩)
    |(go_at_call 186;refine Calls.mono (HSR wr.drew HP1) ?_;rintro e w9 ⟨vr,rfl,hvr,hbr⟩))
   all_goals go_wp2
   all_goals go_ret2
   all_goals exact⟨_,_,rfl,(NatV.of_norm HCQ.out HLQ.out).pres (HP1.trans (Pres.below (Bel.toBelow (by assumption)))),by rw[<-HRS.out];assumption,HBW1.out.next HBW1.out.size (HBW.out.drew.next HBW.out.drew.size (by assumption))⟩
  |succ i=>
   rw[show((i+1:Nat):Int)-1=(i:Int)from by omega];obtain⟨d,f,hr,hval,hq,hf,hB⟩:=hin;have fc2:=hr.cell (show i+nlen b<nlen a+2 by omega);have fc1:=hr.cell (show i+nlen b-1<nlen a+2 by omega);have fc0:=hr.cell (show i+nlen b-2<nlen a+2 by omega);have d2:=hr.2 (i+nlen b);have d1:=hr.2 (i+nlen b-1);have d0:=hr.2 (i+nlen b-2);obtain⟨va',e,hcv'⟩:=HV1.out;obtain rfl:va=va':=by injection e
   clear e;rw[HNV.out.1]at hcv';obtain⟨bv,ov,rfl,hlv,hcv⟩:=hcv'.open (by omega);clear hcv';have gv1:=(hB.cell (p:=⟨bv,ov+(nlen b-1),none⟩) hlv).trans (hcv (nlen b-1) (by omega));have gv2:=(hB.cell (p:=⟨bv,ov+(nlen b-2),none⟩) hlv).trans (hcv (nlen b-2) (by omega));unfold dv at gv1 gv2;have e1:=dig_lt' v (nlen b-1);have e2:=dig_lt' v (nlen b-2);have hv1:=HD.out.big;have horr:=or_digits _ _ d2 d1;have HR:=LH hr
   have HVAL:=LH hval;have HQ:=LH hq;have HF:=LH hf;have HBW:=LH hB;have fqc:=hq.cell (show i<nlen a-nlen b+1 by omega);have FQC:=LH fqc;have FQZ:=LH (hq.frozen i);clear hr hval hq hf hB hcv fqc;have ec:((d (i+nlen b):Int)*4294967296+d (i+nlen b-1))=((d (i+nlen b)*4294967296+d (i+nlen b-1):Nat):Int):=by omega
   have EC:=LH ec;obtain⟨two,htwo⟩:∃x,x=d (i+nlen b)*4294967296+d (i+nlen b-1):=⟨_,rfl⟩
   obtain⟨hT,hg0⟩:=div_guess HD.out HR.out.2 (by omega) HVAL.out htwo;have HT:=LH hT;have HG0:=LH hg0;have h0e:=dig_row (i:=i) (j:=nlen b-2) HR.out.2 (m:=i+nlen b-2) (by omega) (show i+nlen b-2<nlen a+2 by omega);have H0E:=LH h0e;rw[<-htwo]at EC;have hr0:two%dig v (nlen b-1)<dig v (nlen b-1):=Nat.mod_lt _ (by omega);have htl:two<2^64:=by rw[htwo];omega
   have HW1:Hid (IntKind.u64.wrap ((two:Int)/dig v (nlen b-1))=((two/dig v (nlen b-1):Nat):Int)):=by
    show _=_
    rw[<-u64_wrap_nat _ (Nat.lt_of_le_of_lt (Nat.div_le_self _ _) htl),Int.natCast_ediv]
   have HW2:Hid ((two:Int)%dig v (nlen b-1)=((two%dig v (nlen b-1):Nat):Int)):=(Int.natCast_emod _ _).symm;clear ec htwo htl hT hg0 h0e;go_wp2
   go_quiet (fail)
   go_wp2;rw[EC.out]
   go_quiet (fail)
   go_wp2;rw[HW1.out,HW2.out];clear fc2 fc1 d2 d1 horr;have HR0:=LH hr0;clear hr0 hv1;clear HW1 HW2 EC
   go_loopw [13,14] (fun g r wq=>∃g' r' nq:Nat,g=.int .u64 g'/\r=.int .u64 r'/\GuessI (val d (nlen a+2)/W32^i) v (nlen b) g' r'/\r'<4294967296/\wq=wr.drewN nq) (fun g _ _=>(intOf g).toNat)
   case atStart=>exact⟨_,_,_,rfl,rfl,HG0.out,Nat.lt_trans HR0.out e1,World.drewN_drewN _ _ _⟩
   case round=>
    clear HG0 HR0;obtain⟨g,r,nq2,rfl,rfl,hgi,hr,rfl⟩:=hrel;have HGI:=LH hgi;have hg2:g<=4294967297:=hgi.2.2.1;clear hgi
    by_cases hg:4294967296<=g
    .have hgb:decide ((4294967296:Int)<=(g:Int))=true:=by simp;omega
     have HGD:=LH (guess_dec_big HT.out HGI.out hg)
     by_cases hbr:4294967296<=r+dig v (nlen b-1)
     .have hbb:decide ((4294967296:Int)<=(r:Int)+dig v (nlen b-1))=true:=by simp;omega
      have HGE:=LH (guess_break HD.out HGD.out hbr);have HGC:Hid ((g:Int)-1=((g-1:Nat):Int)):=by show _=_;omega
      go_step
      go_step
      go_step
      go_quiet (fail)
      go_wp2_with fail
      rw[HGC.out];refine(take_c (w0:=w1) (HR.out.drewN _) HV1.out (HBW.out.drewN _) NL (by rw[HNV.out.1];omega) (by omega) (by omega) HGE.out.2.2).mono ?_;rintro e w5 ⟨d5,br,rfl,hbr1,hr5,hs5,hv5,ho5⟩;rw[HNV.out.1]at hs5 hv5;have fq5:=(World.cell?_of_block (a:=⟨w4.heap.size,i,none⟩) (ho5.block _ (Nat.ne_of_gt hB12))).trans FQC.out;have fz5:=(World.frozen?_of_block (a:=⟨w4.heap.size,i,none⟩) (ho5.block _ (Nat.ne_of_gt hB12))).trans FQZ.out
      have hgl:=HGE.out.2.2;rcases(show br=0\/br=1 by omega)with rfl|rfl
      .have HDI:=LH (div_round0 HD.out HVAL.out HQ.out HF.out HBW.out hB12 HGE.out hr5 hv5 ho5);clear hr5 hs5 hv5 ho5;go_wp2
       go_roundw
       case rel=>exact⟨i,by omega,by go_num,HDI.out⟩
       case measure=>simp[intOf]<;>omega
      .have HG1:Hid (1<=g-1):=div_wrong HD.out (by omega) HR.out.2 HVAL.out HGE.out hr5.2 hs5 hv5;have hg1:=HG1.out;have HGD1:Hid (((g-1:Nat):Int)-1=((g-1-1:Nat):Int)):=by show _=_;omega
       have HR5:=LH hr5;have HS5:=LH hs5;have HV5:=LH hv5;have HO5:=LH ho5;clear hr5 hs5 hv5 ho5
       go_wp2_with fail
       refine(give_c (w0:=w1) HR5.out HV1.out ((HBW.out.drewN _).trans (HO5.out.bel NL)) NL (by rw[HNV.out.1];omega) (by omega) (by omega)).mono ?_;rintro e w6 ⟨d6,ov6,rfl,hov6,hr6,hs6,hv6,ho6⟩;rw[HNV.out.1]at hs6 hv6;have fq6:=(World.cell?_of_block (a:=⟨w4.heap.size,i,none⟩) (ho6.block _ (Nat.ne_of_gt hB12))).trans fq5;have fz6:=(World.frozen?_of_block (a:=⟨w4.heap.size,i,none⟩) (ho6.block _ (Nat.ne_of_gt hB12))).trans fz5
       have HDI:=LH (div_round1 HD.out (by omega) HR.out.2 HVAL.out HQ.out HF.out HBW.out hB12 HGE.out HR5.out HS5.out HV5.out HO5.out hov6 hr6 hs6 hv6 ho6);clear hr6 hs6 hv6 ho6 fq5 fz5;go_wp2;rw[HGD1.out]
       go_roundw
       case rel=>exact⟨i,by omega,by go_num,HDI.out⟩
       case measure=>simp[intOf]<;>omega
     .have hbb:decide ((4294967296:Int)<=(r:Int)+dig v (nlen b-1))=false:=by simp;omega
      go_step
      go_step
      go_step
      go_quiet (fail)
      go_wp2
      go_roundw
      case rel=>exact⟨g-1,_,_,by go_num,by go_num,HGD.out,by omega,rfl⟩
      case measure=>simp[intOf]<;>omega
    .have hgb:decide ((4294967296:Int)<=(g:Int))=false:=by simp;omega
     have horr2:=or_digits r (d (i+nlen b-2)) hr d0;have hm:g*dig v (nlen b-2)<=4294967295*4294967295:=Nat.mul_le_mul (by omega) (by omega);have ecp:((g:Int)*dig v (nlen b-2))=((g*dig v (nlen b-2):Nat):Int):=by push_cast;rfl
     by_cases hp:r*4294967296+d (i+nlen b-2)<g*dig v (nlen b-2)
     .have hpb:decide ((r:Int)*4294967296+d (i+nlen b-2)<(g:Int)*dig v (nlen b-2))=true:=by rw[ecp];simp;omega
      have HGD:=LH (guess_dec_low HD.out HGI.out (by rw[H0E.out];exact hp))
      have hg0:0<g:=by
       by_cases e:g=0
       .subst e;simp at hp
       .omega
      clear ecp hp
      by_cases hbr:4294967296<=r+dig v (nlen b-1)
      .have hbb:decide ((4294967296:Int)<=(r:Int)+dig v (nlen b-1))=true:=by simp;omega
       have HGE:=LH (guess_break HD.out HGD.out hbr);have HGC:Hid ((g:Int)-1=((g-1:Nat):Int)):=by show _=_;omega
       go_step
       go_step
       go_step
       go_quiet (fail)
       go_wp2_with fail
       rw[HGC.out];refine(take_c (w0:=w1) (HR.out.drewN _) HV1.out (HBW.out.drewN _) NL (by rw[HNV.out.1];omega) (by omega) (by omega) HGE.out.2.2).mono ?_;rintro e w5 ⟨d5,br,rfl,hbr1,hr5,hs5,hv5,ho5⟩;rw[HNV.out.1]at hs5 hv5;have fq5:=(World.cell?_of_block (a:=⟨w4.heap.size,i,none⟩) (ho5.block _ (Nat.ne_of_gt hB12))).trans FQC.out;have fz5:=(World.frozen?_of_block (a:=⟨w4.heap.size,i,none⟩) (ho5.block _ (Nat.ne_of_gt hB12))).trans FQZ.out
       have hgl:=HGE.out.2.2;rcases(show br=0\/br=1 by omega)with rfl|rfl
       .have HDI:=LH (div_round0 HD.out HVAL.out HQ.out HF.out HBW.out hB12 HGE.out hr5 hv5 ho5);clear hr5 hs5 hv5 ho5;go_wp2
        go_roundw
        case rel=>exact⟨i,by omega,by go_num,HDI.out⟩
        case measure=>simp[intOf]<;>omega
       .have HG1:Hid (1<=g-1):=div_wrong HD.out (by omega) HR.out.2 HVAL.out HGE.out hr5.2 hs5 hv5;have hg1:=HG1.out;have HGD1:Hid (((g-1:Nat):Int)-1=((g-1-1:Nat):Int)):=by show _=_;omega
        have HR5:=LH hr5;have HS5:=LH hs5;have HV5:=LH hv5;have HO5:=LH ho5;clear hr5 hs5 hv5 ho5
        go_wp2_with fail
        refine(give_c (w0:=w1) HR5.out HV1.out ((HBW.out.drewN _).trans (HO5.out.bel NL)) NL (by rw[HNV.out.1];omega) (by omega) (by omega)).mono ?_;rintro e w6 ⟨d6,ov6,rfl,hov6,hr6,hs6,hv6,ho6⟩;rw[HNV.out.1]at hs6 hv6;have fq6:=(World.cell?_of_block (a:=⟨w4.heap.size,i,none⟩) (ho6.block _ (Nat.ne_of_gt hB12))).trans fq5;have fz6:=(World.frozen?_of_block (a:=⟨w4.heap.size,i,none⟩) (ho6.block _ (Nat.ne_of_gt hB12))).trans fz5
        have HDI:=LH (div_round1 HD.out (by omega) HR.out.2 HVAL.out HQ.out HF.out HBW.out hB12 HGE.out HR5.out HS5.out HV5.out HO5.out hov6 hr6 hs6 hv6 ho6);clear hr6 hs6 hv6 ho6 fq5 fz5;go_wp2;rw[HGD1.out]
        go_roundw
        case rel=>exact⟨i,by omega,by go_num,HDI.out⟩
        case measure=>simp[intOf]<;>omega
      .have hbb:decide ((4294967296:Int)<=(r:Int)+dig v (nlen b-1))=false:=by simp;omega
       go_step
       go_step
       go_step
       go_quiet (fail)
       go_wp2
       go_roundw
       case rel=>exact⟨g-1,_,_,by go_num,by go_num,HGD.out,by omega,rfl⟩
       case measure=>simp[intOf]<;>omega
     .have hpb:decide ((r:Int)*4294967296+d (i+nlen b-2)<(g:Int)*dig v (nlen b-2))=false:=by rw[ecp];simp;omega
      have HGE:=LH (guess_end HD.out HGI.out (by omega) (by rw[H0E.out];exact hp));clear ecp hp
      go_step
      go_step
      go_step
      go_quiet (fail)
      go_wp2_with fail
      refine(take_c (w0:=w1) (HR.out.drewN _) HV1.out (HBW.out.drewN _) NL (by rw[HNV.out.1];omega) (by omega) (by omega) HGE.out.2.2).mono ?_;rintro e w5 ⟨d5,br,rfl,hbr1,hr5,hs5,hv5,ho5⟩;rw[HNV.out.1]at hs5 hv5;have fq5:=(World.cell?_of_block (a:=⟨w4.heap.size,i,none⟩) (ho5.block _ (Nat.ne_of_gt hB12))).trans FQC.out;have fz5:=(World.frozen?_of_block (a:=⟨w4.heap.size,i,none⟩) (ho5.block _ (Nat.ne_of_gt hB12))).trans FQZ.out
      have hgl:=HGE.out.2.2;rcases(show br=0\/br=1 by omega)with rfl|rfl
      .have HDI:=LH (div_round0 HD.out HVAL.out HQ.out HF.out HBW.out hB12 HGE.out hr5 hv5 ho5);clear hr5 hs5 hv5 ho5;go_wp2
       go_roundw
       case rel=>exact⟨i,by omega,by go_num,HDI.out⟩
       case measure=>simp[intOf]<;>omega
      .have HG1:Hid (1<=g):=div_wrong HD.out (by omega) HR.out.2 HVAL.out HGE.out hr5.2 hs5 hv5;have hg1:=HG1.out;have HGD1:Hid (((g:Nat):Int)-1=((g-1:Nat):Int)):=by show _=_;omega
       have HR5:=LH hr5;have HS5:=LH hs5;have HV5:=LH hv5;have HO5:=LH ho5;clear hr5 hs5 hv5 ho5
       go_wp2_with fail
       refine(give_c (w0:=w1) HR5.out HV1.out ((HBW.out.drewN _).trans (HO5.out.bel NL)) NL (by rw[HNV.out.1];omega) (by omega) (by omega)).mono ?_;rintro e w6 ⟨d6,ov6,rfl,hov6,hr6,hs6,hv6,ho6⟩;rw[HNV.out.1]at hs6 hv6;have fq6:=(World.cell?_of_block (a:=⟨w4.heap.size,i,none⟩) (ho6.block _ (Nat.ne_of_gt hB12))).trans fq5;have fz6:=(World.frozen?_of_block (a:=⟨w4.heap.size,i,none⟩) (ho6.block _ (Nat.ne_of_gt hB12))).trans fz5
       have HDI:=LH (div_round1 HD.out (by omega) HR.out.2 HVAL.out HQ.out HF.out HBW.out hB12 HGE.out HR5.out HS5.out HV5.out HO5.out hov6 hr6 hs6 hv6 ho6);clear hr6 hs6 hv6 ho6 fq5 fz5;go_wp2;rw[HGD1.out]
       go_roundw
       case rel=>exact⟨i,by omega,by go_num,HDI.out⟩
       case measure=>simp[intOf]<;>omega
section
theorem val_dig_nlen (a:Nat):val (dig a) (nlen a)=a:=by rw[val_dig,mod_of_lt (lt_pow_nlen a)]
theorem NatV.unique {w:World}{v:Value}{a b:Nat}(ha:NatV w v a)(hb:NatV w v b):a=b:=by
 obtain⟨ao,rfl,hca⟩:=ha;obtain⟨bo,e,hcb⟩:=hb
 injection e with e1 e2 e3
 subst e1;rw[<-val_dig_nlen a,<-val_dig_nlen b,<-e2];refine val_congr _ fun j hj=>?_;obtain⟨b1,o1,h1,-,hc1⟩:=hca.open (by omega);obtain⟨b2,o2,h2,-,hc2⟩:=hcb.open (by omega);rw[h1]at h2
 injection h2 with h2
 injection h2 with h3 h4
 have g1:=hc1 j hj;have g2:=hc2 j (by omega);rw[h3,h4]at g1;rw[g1]at g2
 injection g2 with g2
 unfold dv at g2
 injection g2 with _ g2
 omega
open Classical in
noncomputable def natAt (w:World) (v:Value):Nat:=if h:∃n,NatV w v n then h.choose else 0
theorem NatV.at {w:World}{v:Value}{n:Nat}(h:NatV w v n):natAt w v=n:=by
 have hx:∃n,NatV w v n:=⟨n,h⟩
 unfold natAt;rw[dif_pos hx];exact hx.choose_spec.unique h
theorem div_c {w:World}{va vb:Value}{a b:Nat}(ha:NatV w va a)(hb:NatV w vb b)(hsa:nlen a<=10000000000)(hsb:nlen b<=10000000000)(h0:b≠0):
 Calls Tryz.prog 140 #[va,vb] w fun e w'=>∃v1 v2,e=.returned (.tuple #[v1,v2])/\NatV w' v1 (a/b)/\NatV w' v2 (a%b)/\Bel w.heap.size w w':=by
 have HA:=LH ha;have HB:=LH hb;obtain⟨aa,rfl,hca⟩:=ha;obtain⟨ab,rfl,hcb⟩:=hb
 by_cases hlt:a<b
 .have hcmp:decide (cmpN a b<0)=true:=by unfold cmpN;rw[if_pos hlt];rfl
  have HQ:Hid (a/b=0):=Nat.div_eq_of_lt hlt;have HR:Hid (a%b=a):=Nat.mod_eq_of_lt hlt;clear hca hcb hlt
  go_enter Tryz.func140,Tryz.ntmps140
  go_wp2_with fail
  refine(cmp_c HA.out HB.out (by omega) (by omega)).mono ?_;rintro e w' ⟨rfl,hb0⟩;go_wp2
  go_ret2
  exact⟨_,_,rfl,by rw[HQ.out];exact .nil _,by rw[HR.out];exact HA.out.below hb0,hb0⟩
 .have hn1:nlen b≠0:=fun e=>h0 (nlen_eq_zero.1 e)
  by_cases hn:nlen b=1
  .have hcmp:decide (cmpN a b<0)=false:=by
    have:cmpN a b=0\/cmpN a b=1:=by unfold cmpN;rw[if_neg hlt];split<;>simp
    simp;omega
   obtain⟨b2,o2,rfl,hl2,hc2⟩:=hcb.open (by omega);have g2:=hc2 0 (by omega);unfold dv at g2
   have hd:dig b 0=b:=by
    have:=val_dig_nlen b;rw[hn]at this
    simpa[val]using this
   have hbl:=dig_lt' b 0;rw[hd]at g2 hbl;rw[hn]at HB|-;clear hca hcb hlt hc2 hd
   go_enter Tryz.func140,Tryz.ntmps140
   go_wp2_with fail
   refine(cmp_c HA.out HB.out (by omega) (by omega)).mono ?_;rintro e w1 ⟨rfl,hb0⟩;have g1:=(hb0.cell (p:=⟨b2,o2+0,none⟩) hl2).trans g2;rw[Nat.add_zero]at g1 g2
   go_wp2_with fail
   refine(short_c (HA.out.below hb0) (by omega) (by omega) hbl).mono ?_;rintro e w' ⟨v1,v2,rfl,h1,h2,hb1⟩;go_wp2
   go_ret2
   exact⟨_,_,rfl,h1,h2,hb0.next hb0.size hb1⟩
  .exact div_big hca hcb hsa (by omega) (by omega)
theorem nlen_le_2 {a:Nat}(h:nlen a<=2):a<18446744073709551616:=(nlen_le_iff a 2).1 h
theorem gcd_c {w:World}{va vb:Value}{a b:Nat}(ha:NatV w va a)(hb:NatV w vb b)(hsa:nlen a<=10000000000)(hsb:nlen b<=10000000000):
 Calls Tryz.prog 139 #[va,vb] w (Gives w fun v w'=>NatV w' v (Nat.gcd a b)):=by
 have HA:=LH ha;have HB:=LH hb;clear ha hb
 go_enter Tryz.func139,Tryz.ntmps139
 go_wp2
 go_loopw [0,1] (fun x y wr=>∃p q:Nat,NatV wr x p/\NatV wr y q/\nlen p<=10000000000/\nlen q<=10000000000/\Nat.gcd a b=Nat.gcd p q/\Bel w.heap.size w wr) (fun _ y wr=>natAt wr y)
 case atStart=>exact⟨a,b,HA.out,HB.out,hsa,hsb,rfl,Bel.refl _ _⟩
 case round=>
  clear HA HB hsa hsb;obtain⟨p,q,hp,hq,hsa,hsb,hg,hB⟩:=hrel;have HP:=LH hp;have HQ:=LH hq;have HG:=LH hg;have HB:=LH hB;obtain⟨ap,rfl,hcp⟩:=hp;obtain⟨aq,rfl,hcq⟩:=hq;clear hg hB hcp hcq
  by_cases h0:nlen q=0
  .have hq0:=nlen_eq_zero.1 h0;subst hq0;rw[h0]at *;go_wp2;go_ret;refine⟨_,rfl,?_,HB.out⟩;rw[HG.out,Nat.gcd_zero_right];exact HP.out
  .have hq0:q≠0:=fun e=>h0 (nlen_eq_zero.2 e)
   by_cases h2:nlen p<=2/\nlen q<=2
   .obtain⟨h2,h3⟩:=h2;have l1:=nlen_le_2 h2;have l2:=nlen_le_2 h3
    go_wp2_with fail
    refine(small_c HP.out h2).mono ?_;rintro e w' ⟨rfl,rfl⟩
    go_wp2_with fail
    refine(small_c HQ.out h3).mono ?_;rintro e w' ⟨rfl,rfl⟩;go_wp2
    go_loopw [5,6] (fun x y wq=>∃m n k:Nat,x=.int .u64 m/\y=.int .u64 n/\m<18446744073709551616/\n<18446744073709551616/\Nat.gcd a b=Nat.gcd m n/\wq=wr.drewN k) (fun _ y _=>(intOf y).toNat)
    case atStart=>exact⟨p,q,0,rfl,rfl,l1,l2,HG.out,rfl⟩
    case round=>
     clear HG HP HQ;obtain⟨m,n,k,rfl,rfl,hm,hn,hg,rfl⟩:=hrel;have HG:=LH hg;clear hg
     by_cases hz:n=0
     .subst hz
      go_wp2_with fail
      refine(natOf_c m hm _).mono ?_;rintro e w2 ⟨v2,rfl,hv2,hB2⟩;go_wp2;go_ret;refine⟨_,rfl,?_,(HB.out.drewN k).next (HB.out.drewN k).size hB2⟩;rw[HG.out,Nat.gcd_zero_right];exact hv2
     .have hml:m%n<n:=Nat.mod_lt _ (by omega);have hne:decide ((n:Int)=0)=false:=by simp;omega
      have HM:Hid ((m:Int)%n=((m%n:Nat):Int)):=(Int.natCast_emod _ _).symm;go_wp2
      go_quiet (fail)
      go_wp2;rw[HM.out]
      go_roundw
      case rel=>exact⟨n,m%n,k+_,rfl,rfl,hn,by omega,by rw[HG.out,Nat.gcd_comm m n,Nat.gcd_rec,Nat.gcd_comm],World.drewN_drewN _ _ _⟩
      case measure=>simp[intOf]<;>omega
   .have hql:p%q<q:=Nat.mod_lt _ (by omega);have hnr:=nlen_mono (Nat.le_of_lt hql);have HAT:Hid (natAt wr (.slice aq (nlen q) (nlen q))=q):=HQ.out.at
    by_cases h3:nlen p<=2
    .have h4:¬nlen q<=2:=fun h=>h2 ⟨h3,h⟩;clear h2
     go_wp2_with fail
     refine(div_c HP.out HQ.out (by omega) (by omega) hq0).mono ?_;rintro e w1 ⟨v1,v2,rfl,-,hv2,hB1⟩;have HBN:=LH (HB.out.next HB.out.size hB1);have HV2:=LH hv2;have HQ1:=LH (HQ.out.below hB1);clear hv2 hB1;go_wp2
     go_roundw
     case rel=>exact⟨q,p%q,HQ1.out,HV2.out,by omega,by omega,by rw[HG.out,Nat.gcd_comm p q,Nat.gcd_rec,Nat.gcd_comm],HBN.out⟩
     case measure=>rw[HAT.out,HV2.out.at];exact hql
    .clear h2
     go_wp2_with fail
     refine(div_c HP.out HQ.out (by omega) (by omega) hq0).mono ?_;rintro e w1 ⟨v1,v2,rfl,-,hv2,hB1⟩;have HBN:=LH (HB.out.next HB.out.size hB1);have HV2:=LH hv2;have HQ1:=LH (HQ.out.below hB1);clear hv2 hB1;go_wp2
     go_roundw
     case rel=>exact⟨q,p%q,HQ1.out,HV2.out,by omega,by omega,by rw[HG.out,Nat.gcd_comm p q,Nat.gcd_rec,Nat.gcd_comm],HBN.out⟩
     case measure=>rw[HAT.out,HV2.out.at];exact hql
end
end Go.Proofs.YtlgjakpoaelehaaGreat
