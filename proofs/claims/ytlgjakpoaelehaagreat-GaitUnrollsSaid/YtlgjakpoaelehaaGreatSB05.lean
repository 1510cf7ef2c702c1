/- Contracts and plain laws, merged: E5 E6 T1 E7 -/
import Derived.BigRegion
import Derived.Laws.IdiomStrings
import Derived.Test.YtlgjakpoaelehaaGreatSB01
import Derived.Test.YtlgjakpoaelehaaGreatSB02
import Derived.Test.YtlgjakpoaelehaaGreatSB03
import Derived.Test.YtlgjakpoaelehaaGreatSB04
namespace Go.Proofs.YtlgjakpoaelehaaGreat
open Go.RowKit
set_option maxRecDepth 100000
set_option maxHeartbeats 1000000
theorem Tryz.size32:(Tryz.prog.info? 232).map (·.size)=some 1:=by kernel_rfl
theorem oneCell_dv (a j:Nat):(dv a j).oneCell'=true:=rfl
theorem own_made0 (T:TypeId)(sz:Nat)(w:World)(f:Nat->Value):OwnS T sz w.heap.size (w.alloc (.cells #[] T)) (.slice (some ⟨w.heap.size,0,none⟩) 0 0) 0 f:=
 ⟨[],World.ownsRow_made w #[] 0 NL (Nat.zero_le _) (by simp),fun j hj=>by omega⟩
theorem clone32_c {w:World}{ao:Option Addr}{len cap:Nat}{f:Nat->Value}(hc:CellsAt 232 w ao len f)(h1:∀j,(f j).oneCell'=true)(hlen:len<=1000000000000):
 Calls Tryz.prog 203 #[.slice ao len cap] w (Gives w fun v w'=>OwnS 232 1 w.heap.size w' v len f):=by
 have q (W:World) (a:Option Addr) (n c n' c':Nat):(binOp .eql 35 (.slice a n c) (.slice none n' c')).run Tryz.prog W=.ok (.bool a.isNone) W:=Lib.run_eql_slice_nil W _ _ a n c n' c' Tryz.underlying35;have HC:=LH hc;clear hc
 cases ao with
 |none=>
  have h0:len=0:=by
   by_cases h:len=0
   .exact h
   .obtain⟨_,_,e,_⟩:=HC.out.open (by omega);cases e
  subst h0
  go_enter Tryz.func203,Tryz.ntmps203
  go_wp2;go_ret;exact⟨_,rfl,OwnS.nil _ _ _ _ _,Bel.refl _ _⟩
 |some a=>
  have HO:=LH (own_made0 232 1 w f)
  go_enter Tryz.func203,Tryz.ntmps203
  go_wp2_with (at_builtin;refine wpList_append_fn rfl (.tmp 5) (.tmp 6) 35 rfl w.heap.size Tryz.underlying35 Tryz.infoU32 rfl (by decide) rfl HO.out rfl ((HC.out.pres (Pres.alloc _ _)).mono (by omega)) h1 (by unfold maxLen;omega) (by omega) (by simp) ?_;intro v' w' hown hgrow hdr)
  go_ret;rw[Nat.zero_add]at hown;exact⟨_,rfl,hown.congr fun j hj=>by rw[appF_ge _ _ (by omega)];simp,Bel.new.grownS HO.out hgrow hdr (by simp) NL⟩
def ShlIn (w wr:World)(B n a k i c:Nat):Prop:=
 ∃d,DRow wr B n d/\(∀j,i<=j->d j=dig a j)/\val d i+c*W32^i=2^k*(a%W32^i)/\c<2^k/\Bel w.heap.size w wr
theorem shl_round {w wr:World}{B n a k j c:Nat}(h:ShlIn w wr B n a k j c)(hk:k<=31)(hb:w.heap.size<=B):
 .int .u32 ((dig a j:Int)/2^(32-k))=Value.int .u32 ((dig a j/2^(32-k):Nat):Int)/\
  ShlIn w (wr.setCell ⟨B,j,none⟩ (.int .u32 (bits BinOp.or IntKind.u32 ((dig a j:Int)*2^k%4294967296) c))).drew B n a k (j+1) (dig a j/2^(32-k)):=by
 obtain⟨d,hr,hd,hv,hc,hB⟩:=h;have hc2:c<4294967296:=Nat.lt_of_lt_of_le hc (Nat.pow_le_pow_right (by decide) (show k<=32 by omega));have e1:((dig a j:Int)*2^k%4294967296)=((dig a j*2^k%4294967296:Nat):Int):=by rw[Int.natCast_emod,Int.natCast_mul,Int.natCast_pow];rfl
 have e2:bits BinOp.or IntKind.u32 ((dig a j:Int)*2^k%4294967296) c=((dig a j*2^k%4294967296+c:Nat):Int):=by
  rw[e1,bits_or32 _ _ (Nat.mod_lt _ (by decide)) hc2,shl_or (by omega) hc]
 refine⟨by rw[Int.natCast_ediv,Int.natCast_pow];rfl,?_⟩;rw[e2];have hs:=hr.set j (dig a j*2^k%4294967296+c) (shl_digit (by omega) hc);refine⟨_,hs,fun i hi=>?_,?_,shl_carry (by omega) (dig_lt' a j),(hB.setCell (p:=⟨B,j,none⟩) hb _).drew⟩
 .rw[if_neg (by omega)];exact hd i (by omega)
 .rw[val_step (d:=d) (fun i hi=>if_neg (by omega)),if_pos rfl,mod_succ,Nat.pow_succ];have h3:=shl_eq (x:=dig a j) (k:=k) (by omega);have h4:W32^j*(dig a j*2^k)=2^k*(W32^j*dig a j):=by grind
  have h5:W32^j*(dig a j*2^k)=W32^j*(dig a j*2^k%4294967296)+dig a j/2^(32-k)*(W32^j*W32):=by
   conv=>lhs;rw[<-h3]
   grind
  rw[Nat.mul_add,Nat.mul_add];have h6:W32^j*c=c*W32^j:=Nat.mul_comm _ _;omega
theorem shl_end {w wr:World}{B a k c:Nat}(h:ShlIn w wr B (nlen a+1) a k (nlen a+1) c)(hk:k<=31):CellsAt 232 wr (some ⟨B,0,none⟩) (nlen a+1) (dv (a*2^k))/\a*2^k<W32^(nlen a+1)/\Bel w.heap.size w wr:=by
 obtain⟨d,hr,hd,hv,hc,hB⟩:=h;have h1:a<W32^(nlen a+1):=Nat.lt_of_lt_of_le (lt_pow_nlen a) (W32_pow_mono (by omega))
 have h2:2^k*a<W32^(nlen a+1):=by
  rw[Nat.pow_succ,Nat.mul_comm];refine Nat.mul_lt_mul_of_lt_of_le (lt_pow_nlen a) ?_ W32_pos;rw[W32_eq];exact Nat.pow_le_pow_right (by decide) (by omega)
 rw[mod_of_lt h1]at hv
 have h3:c=0:=by
  by_cases hc0:c=0
  .exact hc0
  .have:W32^(nlen a+1)<=c*W32^(nlen a+1):=Nat.le_mul_of_pos_left _ (by omega);omega
 subst h3;have h4:=hr.cells (a:=a*2^k) (by rw[Nat.mul_comm a];omega);exact⟨h4.1,h4.2,hB⟩
theorem shl_start {w w1:World}{a k:Nat}(hrow:w1.rowIs w.heap.size 232 (nlen a+1) (cpyF 0 (nlen a) (dv a) fun _=>.int .u32 0))
 (hon:Onl w.heap.size (w.alloc (.cells (madeCells #[.int .u32 0] (nlen a+1)) 232)) w1):ShlIn w w1 w.heap.size (nlen a+1) a k 0 0:=by
 refine⟨dig a,⟨hrow.congr fun i hi=>?_,fun j=>dig_lt' a j⟩,fun _ _=>rfl,by simp[val,Nat.mod_one],Nat.pow_pos (by decide),Bel.new.trans (hon.bel NL)⟩
 by_cases h:i<nlen a
 .rw[cpyF_in _ _ (Nat.zero_le _) (by omega)];rfl
 .rw[cpyF_out _ _ (by omega)];unfold iv;rw[dig_ge (Nat.lt_of_lt_of_le (lt_pow_nlen a) (W32_pow_mono (by omega)))];rfl
theorem shl_c {w:World}{va:Value}{a k:Nat}(ha:NatV w va a)(hsa:nlen a<=100000000000)(hk:k<=31):
 Calls Tryz.prog 183 #[va,.int .i64 k] w (Gives w fun v w'=>NatV w' v (a*2^k)):=by
 obtain⟨aa,rfl,hca⟩:=ha;have hmk:=run_make_row' (P:=Tryz.prog) 35 232 (.int .u32 0) 4 Tryz.underlying35 Tryz.infoU32 rfl .i64 .i64 (nlen a+1) (by omega) (by omega);have elen:((nlen a+1:Nat):Int)=(nlen a:Int)+1:=by omega
 rw[elen]at hmk;have e32:(k:Int)/32=0:=by omega
 have e33:(k:Int)%32=k:=by omega
 have HC:=LH hca;clear hca elen
 by_cases hk0:k=0
 .subst hk0;simp only[Nat.pow_zero,Nat.mul_one]
  go_enter Tryz.func183,Tryz.ntmps183
  go_wp2_with (with_reducible refine wpList_copy_fn rfl (.tmp 19) (.tmp 20) 35 35 rfl 232 Tryz.underlying35 Tryz.size32 rfl rfl (World.rowIs_made w _ _ _) (HC.out.pres (Pres.alloc _ _)) (oneCell_dv a) (by omega) (by omega) ?_;intro w1 hrow hon)
  have HS:Hid (ShlIn w w1 w.heap.size (nlen a+1) a 0 0 0):=shl_start hrow hon;obtain⟨d,hrow,hd,-,-,hB⟩:=HS.out;have HE:=LH (hrow.cells (a:=a) (by rw[val_congr _ (fun j _=>hd j (Nat.zero_le _)),val_dig];exact Nat.mod_eq_of_lt (Nat.lt_of_lt_of_le (lt_pow_nlen a) (W32_pow_mono (by omega)))));have HB:=LH hB;clear hon hd hB hmk e32 e33;refine(norm_c HE.out.1 HE.out.2 (by omega) (by omega)).mono ?_
  rintro e w' ⟨rfl,rfl⟩;go_wp2;go_ret;exact⟨_,rfl,NatV.of_norm HE.out.1 HE.out.2,HB.out⟩
 .have hk1:0<k:=by omega
  go_enter Tryz.func183,Tryz.ntmps183
  go_wp2_with (with_reducible refine wpList_copy_fn rfl (.tmp 19) (.tmp 20) 35 35 rfl 232 Tryz.underlying35 Tryz.size32 rfl rfl (World.rowIs_made w _ _ _) (HC.out.pres (Pres.alloc _ _)) (oneCell_dv a) (by omega) (by omega) ?_;intro w1 hrow hon)
  rw[e33];have HS:Hid (ShlIn w w1 w.heap.size (nlen a+1) a k 0 0):=shl_start hrow hon;clear hrow hon hmk e32 e33
  go_loopw [7,8] (fun c i wr=>∃j c':Nat,j<=nlen a+1/\i=.int .i64 j/\c=.int .u32 c'/\ShlIn w wr w.heap.size (nlen a+1) a k j c') (fun _ i _=>nlen a+1-(intOf i).toNat)
  case atStart=>exact⟨0,0,by omega,rfl,rfl,HS.out⟩
  case round=>
   obtain⟨j,c,hj,rfl,rfl,hin⟩:=hrel;have HI:=LH hin;obtain⟨d,hrow,hd,-,hc,-⟩:=hin
   by_cases hlt:j<nlen a+1
   .have fc:=hrow.cell hlt;rw[hd j NL]at fc;have fz:=hrow.frozen j;have d1:=dig_lt' a j;have hc2:c<4294967296:=Nat.lt_of_lt_of_le hc (Nat.pow_le_pow_right (by decide) (show k<=32 by omega));clear hrow hd hc;go_wp2
    go_region
    all_goals go_wp2
    go_roundw
    case rel=>exact⟨j+1,_,by omega,by go_num,shl_round HI.out hk NL⟩
    case measure=>simp[intOf]<;>omega
   .obtain rfl:j=nlen a+1:=by omega
    have HE:=LH (shl_end HI.out hk);clear hrow hd hc
    go_wp2_with fail
    refine(norm_c HE.out.1 HE.out.2.1 (by omega) (by omega)).mono ?_;rintro e w' ⟨rfl,rfl⟩;go_wp2;go_ret;exact⟨_,rfl,NatV.of_norm HE.out.1 HE.out.2.1,HE.out.2.2⟩
def Row1 (T:TypeId)(wr:World)(B N n:Nat)(f:Nat->Value):Prop:=∃F,wr.rowIs B T N F/\∀j,j<n->F j=f j
theorem OwnS.row {T:TypeId}{base:Nat}{w:World}{v:Value}{n:Nat}{f:Nat->Value}(h:OwnS T 1 base w v n f)(hn:0<n):
 ∃g N,v=.slice (some ⟨g,0,none⟩) n N/\base<=g/\g<w.heap.size/\n<=N/\Row1 T w g N n f:=by
 obtain⟨xs,h1,h2⟩:=h;rcases h1.2 with⟨rfl,h0⟩|⟨g,cap,cur,rfl,hg,hh,hn',hcap,hsz,ht⟩
 .omega
 .refine⟨g,cap,rfl,hg,(Array.getElem?_eq_some_iff.1 hh).1,hn',fun j=>(cur[j]?).getD undef,⟨cur,hh,by omega,fun i hi=>?_⟩,fun j hj=>?_⟩
  .simp[show i<cur.size by omega]
  .have:=h2 j (by omega);rw[<-ht,List.getElem?_take_of_lt (by omega)]at this;simp at this;simp[this]
theorem Row1.set {T:TypeId}{wr:World}{B N n:Nat}{f:Nat->Value}(h:Row1 T wr B N n f)(i:Nat)(u:Value):Row1 T (wr.setCell ⟨B,i,none⟩ u) B N n (fun j=>if j=i then u else f j):=by
 obtain⟨F,h1,h2⟩:=h;refine⟨_,h1.set i u,fun j hj=>?_⟩
 by_cases e:j=i
 .simp[e]
 .simp only[e,if_false];exact h2 j hj
theorem Row1.congr {T:TypeId}{wr:World}{B N n:Nat}{f g:Nat->Value}(h:Row1 T wr B N n f)(e:∀j,j<n->f j=g j):Row1 T wr B N n g:=by
 obtain⟨F,h1,h2⟩:=h;exact⟨F,h1,fun j hj=>by rw[h2 j hj,e j hj]⟩
theorem Row1.cell {T:TypeId}{wr:World}{B N n:Nat}{f:Nat->Value}(h:Row1 T wr B N n f){i:Nat}(hi:i<n)(hN:n<=N):wr.cell? ⟨B,i,none⟩=some (f i):=by
 obtain⟨F,h1,h2⟩:=h;rw[h1.cell (show i<N by omega),h2 i hi]
theorem Row1.frozen {T:TypeId}{wr:World}{B N n:Nat}{f:Nat->Value}(h:Row1 T wr B N n f)(i:Nat):wr.frozen? ⟨B,i,none⟩=false:=by
 obtain⟨F,h1,_⟩:=h;exact h1.frozen i
theorem Row1.cells {T:TypeId}{wr:World}{B N n:Nat}{f:Nat->Value}(h:Row1 T wr B N n f)(hN:n<=N):CellsAt T wr (some ⟨B,0,none⟩) n f:=by
 obtain⟨F,h1,h2⟩:=h;exact((CellsAt.of_row h1).mono hN).congr h2
theorem Row1.drew {T:TypeId}{wr:World}{B N n:Nat}{f:Nat->Value}(h:Row1 T wr B N n f):Row1 T wr.drew B N n f:=h
theorem Row1.below {T:TypeId}{wr w':World}{B N n:Nat}{f:Nat->Value}(h:Row1 T wr B N n f)(e:w'.heap[B]?=wr.heap[B]?):Row1 T w' B N n f:=by
 obtain⟨F,h1,h2⟩:=h;exact⟨F,h1.of_block e,h2⟩
def upF (i:Nat)(g f:Nat->Value)(j:Nat):Value:=if j<i then g j else f j
theorem upF_lt {i j:Nat}(g f:Nat->Value)(h:j<i):upF i g f j=g j:=if_pos h
theorem upF_ge {i j:Nat}(g f:Nat->Value)(h:i<=j):upF i g f j=f j:=if_neg (by omega)
theorem upF_zero (g f:Nat->Value)(j:Nat):upF 0 g f j=f j:=upF_ge _ _ (Nat.zero_le _)
def ShrIn (w wr:World)(g N n a k i:Nat):Prop:=Row1 232 wr g N n (upF i (dv (a/2^k)) (dv a))/\Bel w.heap.size w wr
theorem shr_round {w wr:World}{g N n a k i:Nat}(h:ShrIn w wr g N n a k i)(hb:w.heap.size<=g){u:Value}(hu:u=dv (a/2^k) i):ShrIn w (wr.setCell ⟨g,i,none⟩ u) g N n a k (i+1):=by
 refine⟨(h.1.set i u).congr fun j _hj=>?_,h.2.setCell (p:=⟨g,i,none⟩) hb _⟩
 by_cases e:j=i
 .rw[if_pos e,upF_lt _ _ (by omega),hu,e]
 .rw[if_neg e]
  by_cases h1:j<i
  .rw[upF_lt _ _ h1,upF_lt _ _ (by omega)]
  .rw[upF_ge _ _ (by omega),upF_ge _ _ (by omega)]
theorem shr_round2 {w wr:World}{g N n a k i:Nat}(h:ShrIn w wr g N n a k i)(hb:w.heap.size<=g)(u':Value){u:Value}(hu:u=dv (a/2^k) i):ShrIn w ((wr.setCell ⟨g,i,none⟩ u').setCell ⟨g,i,none⟩ u).drew g N n a k (i+1):=by
 refine⟨((h.1.set i u').set i u).congr fun j _hj=>?_,((h.2.setCell (p:=⟨g,i,none⟩) hb _).setCell (p:=⟨g,i,none⟩) hb _).drew⟩
 by_cases e:j=i
 .rw[if_pos e,upF_lt _ _ (by omega),hu,e]
 .rw[if_neg e,if_neg e]
  by_cases h1:j<i
  .rw[upF_lt _ _ h1,upF_lt _ _ (by omega)]
  .rw[upF_ge _ _ (by omega),upF_ge _ _ (by omega)]
theorem shr_last {a k i:Nat}(hk:k<=32)(hz:dig a (i+1)=0):Value.int .u32 ((dig a i:Int)/2^k)=dv (a/2^k) i:=by
 unfold dv;rw[dig_shr _ _ _ hk,hz,Nat.zero_mul,Nat.zero_mod,Nat.add_zero,Int.natCast_ediv,Int.natCast_pow];rfl
theorem shr_mid {a k i:Nat}(hk:k<=32):Value.int .u32 (bits BinOp.or IntKind.u32 ((dig a i:Int)/2^k) ((dig a (i+1):Int)*2^(32-k)%4294967296))=dv (a/2^k) i:=by
 unfold dv;have e1:(dig a i:Int)/2^k=((dig a i/2^k:Nat):Int):=by rw[Int.natCast_ediv,Int.natCast_pow];rfl
 have e2:(dig a (i+1):Int)*2^(32-k)%4294967296=((dig a (i+1)*2^(32-k)%4294967296:Nat):Int):=by rw[Int.natCast_emod,Int.natCast_mul,Int.natCast_pow];rfl
 rw[dig_shr _ _ _ hk,<-shr_or hk (dig_lt' a i),e1,e2,bits_or32 _ _ (Nat.lt_of_le_of_lt (Nat.div_le_self _ _) (dig_lt' a i)) (Nat.mod_lt _ (by decide))]
theorem shr_c {w:World}{va:Value}{a k:Nat}(ha:NatV w va a)(hsa:nlen a<=100000000000)(hk:k<=31):
 Calls Tryz.prog 186 #[va,.int .i64 k] w (Gives w fun v w'=>NatV w' v (a/2^k)):=by
 obtain⟨aa,rfl,hca⟩:=ha;have e32:(k:Int)/32=0:=by omega
 have e33:(k:Int)%32=k:=by omega
 have HC:=LH hca;clear hca
 by_cases h0:nlen a=0
 .rw[h0];have:=nlen_eq_zero.1 h0;subst this;simp only[Nat.zero_div];clear h0 HC hsa
  go_enter Tryz.func186,Tryz.ntmps186
  go_wp2;go_ret;exact⟨_,rfl,NatV.nil _,Bel.refl _ _⟩
 .obtain⟨b,o,rfl,hb,-⟩:=HC.out.open (by omega)
  go_enter Tryz.func186,Tryz.ntmps186
  go_wp2_with fail
  refine(clone32_c HC.out (oneCell_dv a) (by omega)).mono ?_;rintro e w1 ⟨v,rfl,hown,hB⟩;obtain⟨g,N,hv,hbg,hlt,hN,hrow⟩:=hown.row (by omega);rw[hv];have HS:Hid (ShrIn w w1 g N (nlen a) a k 0):=⟨hrow.congr fun j _=>(upF_zero _ _ _).symm,hB⟩
  clear hown hv hrow hB
  by_cases hk0:k=0
  .subst hk0;have HE:=LH (HS.out.1.cells hN);have HE2:Hid (CellsAt 232 w1 (some ⟨g,0,none⟩) (nlen a) (dv a)):=HE.out.congr fun j _=>by rw[upF_zero]
   have HL:=LH (lt_pow_nlen a)
   go_wp2_with fail
   refine(norm_c HE2.out HL.out (by omega) (by omega)).mono ?_;rintro e w' ⟨rfl,rfl⟩;go_wp2;go_ret;refine⟨_,rfl,?_,HS.out.2⟩
   show NatV w1 (.slice (some ⟨g,0,none⟩) (nlen a) (nlen a)) (a/2^0)
   rw[Nat.pow_zero,Nat.div_one];exact NatV.of_norm HE2.out HL.out
  .have hk1:0<k:=by omega
   go_wp2_with fail
   rw[e33];clear e32 e33
   go_loopw [24] (fun i wr=>∃j:Nat,j<=nlen a/\i=.int .i64 j/\ShrIn w wr g N (nlen a) a k j) (fun i _=>nlen a-(intOf i).toNat)
   case atStart=>exact⟨0,by omega,rfl,HS.out⟩
   case round=>
    obtain⟨j,hj,rfl,hin⟩:=hrel;have HI:=LH hin;obtain⟨hrow,-⟩:=hin
    by_cases hlt2:j<nlen a
    .have fc:=hrow.cell hlt2 hN;rw[upF_ge _ _ NL]at fc;unfold dv at fc;have fz:=hrow.frozen j;have d1:=dig_lt' a j
     by_cases hlt3:j+1<nlen a
     .have fc2:=hrow.cell hlt3 hN;rw[upF_ge _ _ (by omega)]at fc2;unfold dv at fc2;have d2:=dig_lt' a (j+1);clear hrow;go_wp2
      go_region
      all_goals go_wp2
      go_roundw
      case rel=>exact⟨j+1,by omega,by go_num,(shr_round2 HI.out hbg _ (shr_mid (by omega)):ShrIn _ _ _ _ _ _ _ _)⟩
      case measure=>simp[intOf]<;>omega
     .have HZ:=LH (dig_ge (Nat.lt_of_lt_of_le (lt_pow_nlen a) (W32_pow_mono (show nlen a<=j+1 by omega))));clear hrow;go_wp2
      go_roundw
      case rel=>exact⟨j+1,by omega,by go_num,shr_round HI.out hbg (shr_last (by omega) HZ.out)⟩
      case measure=>simp[intOf]<;>omega
    .obtain rfl:j=nlen a:=by omega
     have HE2:Hid (CellsAt 232 wr (some ⟨g,0,none⟩) (nlen a) (dv (a/2^k))):=(hrow.cells hN).congr fun i hi=>upF_lt _ _ hi;have HL:Hid (a/2^k<W32^nlen a):=Nat.lt_of_le_of_lt (Nat.div_le_self _ _) (lt_pow_nlen a);clear hrow
     go_wp2_with fail
     refine(norm_c HE2.out HL.out (by omega) (by omega)).mono ?_;rintro e w' ⟨rfl,rfl⟩;go_wp2;go_ret;exact⟨_,rfl,NatV.of_norm HE2.out HL.out,HI.out.2⟩
def ShortIn (w wr:World)(B n a d i r:Nat):Prop:=(∃f,wr.rowIs B 232 n f/\∀j,i<=j->j<n->f j=dv (a/d) j)/\r=a/W32^i%d/\Bel w.heap.size w wr
theorem short_round {w wr:World}{B n a d i r:Nat}(h:ShortIn w wr B n a d (i+1) r)(hd:0<d)(hb:w.heap.size<=B):
 ShortIn w (wr.setCell ⟨B,i,none⟩ (.int .u32 ((r*4294967296+dig a i)/d:Nat))) B n a d i ((r*4294967296+dig a i)%d):=by
 obtain⟨⟨f,hr,hf⟩,rfl,hB⟩:=h;obtain⟨h1,h2,-⟩:=dig_div a d i hd;refine⟨⟨_,hr.set i _,fun j hj hn=>?_⟩,h2.symm,hB.setCell (p:=⟨B,i,none⟩) hb _⟩
 by_cases e:j=i
 .simp only[e,if_true];unfold dv;rw[h1];rfl
 .simp only[e,if_false];exact hf j (by omega) hn
theorem short_c {w:World}{va:Value}{a d:Nat}(ha:NatV w va a)(hsa:nlen a<=100000000000)(hd:0<d)(hd2:d<4294967296):
 Calls Tryz.prog 163 #[va,.int .u32 d] w fun e w'=>∃v1 v2,e=.returned (.tuple #[v1,v2])/\NatV w' v1 (a/d)/\NatV w' v2 (a%d)/\Bel w.heap.size w w':=by
 obtain⟨aa,rfl,hca⟩:=ha;have hmk:=run_make_row' (P:=Tryz.prog) 35 232 (.int .u32 0) 4 Tryz.underlying35 Tryz.infoU32 rfl .i64 .i64 (nlen a) (by omega) (by omega);have HC:=LH hca;clear hca
 go_enter Tryz.func163,Tryz.ntmps163
 go_wp2
 have HS:Hid (ShortIn w (w.alloc (.cells (madeCells #[.int .u32 0] (nlen a)) 232)) w.heap.size (nlen a) a d (nlen a) 0):=
  ⟨⟨_,World.rowIs_made w _ _ _,fun j h1 h2=>by omega⟩,by rw[Nat.div_eq_of_lt (lt_pow_nlen a),Nat.zero_mod],(Bel.refl _ _).alloc NL _⟩
 clear hmk
 go_loopw [7,8] (fun c i wr=>∃j r:Nat,j<=nlen a/\i=.int .i64 ((j:Int)-1)/\c=.int .u64 r/\ShortIn w wr w.heap.size (nlen a) a d j r) (fun _ i _=>(intOf i+1).toNat)
 case atStart=>exact⟨nlen a,0,by omega,rfl,rfl,HS.out⟩
 case round=>
  obtain⟨j,r,hj,rfl,rfl,hin⟩:=hrel;have HI:=LH hin;have hrd:r<d:=by rw[hin.2.1];exact Nat.mod_lt _ hd
  cases j with
  |zero=>
   obtain⟨⟨f,hrow,hf⟩,hr,hB⟩:=hin;have HE:=LH (CellsAt.of_row' hrow fun j hj=>hf j (Nat.zero_le _) hj);have HL:=LH (Nat.lt_of_le_of_lt (Nat.div_le_self a d) (lt_pow_nlen a));have HR:Hid (r=a%d):=by rw[hr];simp[Hid]
   have HB:=LH hB;clear hrow hf hr hB
   go_wp2_with fail
   refine(norm_c HE.out HL.out (by omega) (by omega)).mono ?_;rintro e w' ⟨rfl,rfl⟩
   go_wp2_with fail
   refine(natOf_c r (by omega) wr).mono ?_;rintro e w2 ⟨v2,rfl,hv2,hB2⟩;go_wp2
   go_ret2
   exact⟨_,_,rfl,(NatV.of_norm HE.out HL.out).below hB2,by rw[<-HR.out];exact hv2,HB.out.next HB.out.size hB2⟩
  |succ j=>
   obtain⟨b1,o1,rfl,hl1,hc1⟩:=HC.out.open (by omega);have g1:=(hin.2.2.cell (p:=⟨b1,o1+j,none⟩) hl1).trans (hc1 j (by omega));unfold dv at g1;obtain⟨⟨f,hrow,-⟩,-,-⟩:=hin;have fc:=hrow.cell (show j<nlen a by omega);have fz:=hrow.frozen j;have d1:=dig_lt' a j;have horr:=or_digits r (dig a j) (by omega) d1
   have hq:(r*4294967296+dig a j)/d<4294967296:=by
    rw[Nat.div_lt_iff_lt_mul hd];have:(r+1)*4294967296<=d*4294967296:=Nat.mul_le_mul_right _ hrd;omega
   have ec:((r:Int)*4294967296+dig a j)=((r*4294967296+dig a j:Nat):Int):=by omega
   have eq2:∀q:Nat,q<4294967296->(q:Int)%4294967296=q:=by intro q hq;omega
   have EC:=LH ec;have EQ:=LH (eq2 _ hq);clear hrow hc1 ec eq2;go_wp2;rw[EC.out,<-Int.natCast_ediv,<-Int.natCast_emod,EQ.out]
   go_roundw
   case rel=>exact⟨j,_,by omega,rfl,rfl,short_round HI.out hd NL⟩
   case measure=>simp[intOf]<;>omega
theorem small_step (m x j:Nat)(hj:j<2)(hx:x<4294967296)(hm:m<W32^j):bits BinOp.or IntKind.u64 (m:Int) (IntKind.u64.wrap ((x:Int)*2^(32*j)))=((m+W32^j*x:Nat):Int):=by
 match j,hj with
 |0,_=>
  have:m=0:=by simpa using hm
  subst this;have e:(x:Int)*2^(32*0)=(x:Nat):=by simp
  rw[e,u64_wrap_nat _ (by omega),bits_or64 _ _ (by decide) (by omega)];simp
 |1,_=>
  have hm':m<4294967296:=by simpa[W32]using hm
  have e:(x:Int)*2^(32*1)=((x*4294967296:Nat):Int):=by simp
  have e2:((x*4294967296:Nat):Int)=(x:Int)*4294967296:=by omega
  rw[e,u64_wrap_nat _ (by omega),e2,or_digits' _ _ hx hm'];simp[W32];omega
theorem small_c {w:World}{va:Value}{a:Nat}(ha:NatV w va a)(hsa:nlen a<=2):
 Calls Tryz.prog 164 #[va] w fun e w'=>e=.returned (.int .u64 a)/\w=w':=by
 obtain⟨aa,rfl,hca⟩:=ha;have HC:=LH hca;clear hca
 go_enter Tryz.func164,Tryz.ntmps164
 go_wp2
 go_loop [3,8] (fun n i=>∃j m:Nat,j<=nlen a/\i=.int .i64 j/\n=.int .u64 m/\Hid (m=a%W32^j)) (fun _ i=>nlen a-(intOf i).toNat)
 case atStart=>exact⟨0,0,by omega,rfl,rfl,by simp[Hid,Nat.mod_one]⟩
 case round=>
  obtain⟨j,m,hj,rfl,rfl,HM⟩:=hrel
  by_cases hlt:j<nlen a
  .obtain⟨b1,o1,rfl,hl1,hc1⟩:=HC.out.open (by omega);have g1:=hc1 j hlt;unfold dv at g1;have HS:=LH (small_step m (dig a j) j (by omega) (dig_lt' a j) (by rw[HM.out];exact Nat.mod_lt _ (W32_pow_pos j)));have HT:=LH (mod_succ a j);have d1:=dig_lt' a j;clear hc1;go_wp2;rw[HS.out]
   go_round
   case rel=>exact⟨j+1,_,by omega,by go_num,rfl,by rw[Hid,HT.out,HM.out]⟩
   case measure=>simp[intOf]<;>omega
  .obtain rfl:j=nlen a:=by omega
   have HL:=LH (mod_of_lt (lt_pow_nlen a));go_wp2;go_ret;exact⟨by rw[<-HL.out,<-HM.out];rfl,rfl⟩
theorem Tryz.infoU8:(Tryz.prog.info? 5).map (fun i=>(i.zero,i.size,i.bytes))=some (some (.int .u8 0),1,1):=by kernel_rfl
def bv (l:List UInt8)(j:Nat):Value:=.int .u8 ((l.getD j 0).toNat:Nat)
def revF (l:List UInt8)(i:Nat)(j:Nat):Value:=if j<i\/l.length<=j+i then bv l.reverse j else bv l j
theorem revF_zero (l:List UInt8)(j:Nat)(h:j<l.length):revF l 0 j=bv l j:=if_neg (by omega)
theorem bv_rev (l:List UInt8)(i:Nat)(h:i<l.length):bv l.reverse i=bv l (l.length-1-i):=by
 unfold bv;simp[List.getD,List.getElem?_reverse h]
theorem revF_step {l:List UInt8}{wr:World}{B N i:Nat}(h:Row1 5 wr B N l.length (revF l i))(hi:i<l.length-1-i):
 Row1 5 ((wr.setCell ⟨B,i,none⟩ (bv l (l.length-1-i))).setCell ⟨B,l.length-1-i,none⟩ (bv l i)) B N l.length (revF l (i+1)):=by
 refine((h.set i _).set (l.length-1-i) _).congr fun j hj=>?_
 by_cases e1:j=l.length-1-i
 .rw[if_pos e1];unfold revF;rw[if_pos (by omega),e1,bv_rev _ _ (by omega)]
  congr 1;omega
 .rw[if_neg e1]
  by_cases e2:j=i
  .rw[if_pos e2];unfold revF;rw[if_pos (by omega),e2,bv_rev _ _ (by omega)]
  .rw[if_neg e2];unfold revF
   by_cases e3:j<i\/l.length<=j+i
   .rw[if_pos e3,if_pos (by omega)]
   .rw[if_neg e3,if_neg (by omega)]
theorem revF_end {l:List UInt8}{i j:Nat}(h:l.length<=i+i+1)(hj:j<l.length):revF l i j=bv l.reverse j:=by
 unfold revF
 by_cases e:j<i\/l.length<=j+i
 .rw[if_pos e]
 .rw[if_neg e,bv_rev _ _ hj]
  congr 1;omega
theorem reverseB_c {w:World}{B N:Nat}{l:List UInt8}(h:Row1 5 w B N l.length (bv l))(hN:l.length<=N)(hl:l.length<=1000000000000):
 Calls Tryz.prog 165 #[.slice (some ⟨B,0,none⟩) l.length N] w fun e w'=>e=.returned (.tuple #[])/\Row1 5 w' B N l.length (bv l.reverse)/\Onl B w w':=by
 have HR:Hid (Row1 5 w B N l.length (revF l 0)):=h.congr fun j hj=>(revF_zero l j hj).symm;clear h
 go_enter Tryz.func165,Tryz.ntmps165
 go_wp2
 go_loopw [2,3] (fun i j wr=>∃k:Nat,k+k<=l.length/\i=.int .i64 k/\j=.int .i64 ((l.length:Int)-1-k)/\Row1 5 wr B N l.length (revF l k)/\Onl B w wr) (fun i _ _=>l.length-(intOf i).toNat)
 case atStart=>exact⟨0,by omega,rfl,by simp,HR.out,Onl.refl _ _⟩
 case round=>
  obtain⟨k,hk,rfl,rfl,hrow,hon⟩:=hrel;have HR2:=LH hrow;have HO:=LH hon
  by_cases hlt:k<l.length-1-k
  .have g0:=hrow.cell (i:=k) (by omega) hN;have g1:=hrow.cell (i:=l.length-1-k) (by omega) hN;have f0:=hrow.frozen k;have f1:=hrow.frozen (l.length-1-k);have e0:revF l k k=bv l k:=if_neg (by omega);have e1:revF l k (l.length-1-k)=bv l (l.length-1-k):=if_neg (by omega);rw[e0]at g0;rw[e1]at g1;have HST:=LH (revF_step hrow hlt);obtain⟨x,hx⟩:∃x:Nat,bv l k=.int .u8 x:=⟨_,rfl⟩
   obtain⟨y,hy⟩:∃y:Nat,bv l (l.length-1-k)=.int .u8 y:=⟨_,rfl⟩
   rw[hx,hy]at HST;rw[hx]at g0;rw[hy]at g1;clear hrow hon e0 e1 hx hy;go_wp2
   go_region
   all_goals go_wp2
   all_goals go_roundw
   case rel=>exact⟨k+1,by omega,by go_num,by go_num,HST.out.drew,((HO.out.setCell _ _).setCell _ _).drewN 1⟩
   case measure=>simp[intOf];omega
  .have HE:Hid (Row1 5 wr B N l.length (bv l.reverse)):=hrow.congr fun j hj=>revF_end (by omega) hj;clear hrow hon;go_wp2
   go_end0
   exact⟨rfl,HE.out,HO.out⟩
def upd (d:Nat->Nat)(i x j:Nat):Nat:=if j=i then x else d j
theorem DRow.upd {wr:World}{B n:Nat}{d:Nat->Nat}(h:DRow wr B n d)(i v:Nat)(hv:v<4294967296):DRow (wr.setCell ⟨B,i,none⟩ (.int .u32 v)) B n (upd d i v):=h.set i v hv
theorem upd_same (d:Nat->Nat)(i x:Nat):upd d i x i=x:=if_pos rfl
theorem upd_other (d:Nat->Nat){i j:Nat}(x:Nat)(h:j≠i):upd d i x j=d j:=if_neg h
def TakeIn (w wr:World)(B N:Nat)(d:Nat->Nat)(v times at_ k c b:Nat):Prop:=
 ∃d',DRow wr B N d'/\(∀j,j<at_\/at_+k<=j->d' j=d j)/\val d' N+times*(v%W32^k)*W32^at_=val d N+(c+b)*(W32^at_*W32^k)/\c<4294967296/\b<=1/\Onl B w wr
theorem take_start {w:World}{B N:Nat}{d:Nat->Nat}(v times at_:Nat)(h:DRow w B N d):TakeIn w w B N d v times at_ 0 0 0:=
 ⟨d,h,fun _ _=>rfl,by simp[Nat.mod_one],by decide,by decide,Onl.refl _ _⟩
theorem take_round {w wr:World}{B N:Nat}{d:Nat->Nat}{v times at_ k c b x:Nat}(h:TakeIn w wr B N d v times at_ k c b)(hN:at_+k<N)(ht:times<4294967296)(hx:d (at_+k)=x):
 TakeIn w (wr.setCell ⟨B,at_+k,none⟩ (.int .u32 (dif x ((c+times*dig v k)%4294967296) b))) B N d v times at_ (k+1) ((c+times*dig v k)/4294967296) (brw x ((c+times*dig v k)%4294967296) b):=by
 obtain⟨d',hr,hd,hv,hc,hb,ho⟩:=h;have hxl:x<4294967296:=by rw[<-hx,<-hd (at_+k) (.inr NL)];exact hr.2 _
 have hd1:=dig_lt' v k;refine⟨_,hr.upd (at_+k) _ (dif_lt _ _ _),fun j hj=>?_,?_,?_,brw_le _ _ _,ho.setCell _ _⟩
 .rw[upd_other _ _ (by omega)];exact hd j (by omega)
 .have h1:=val_upd d' (dif x ((c+times*dig v k)%4294967296) b) hN;have h2:=take_step (P:=W32^at_) (Pk:=W32^k) hv (brw_eq hxl (Nat.mod_lt (c+times*dig v k) (by decide)) hb) rfl;have e1:W32^at_*W32^k=W32^(at_+k):=(Nat.pow_add _ _ _).symm;have e2:W32^at_*(W32^k*W32)=W32^at_*W32^(k+1):=by rw[Nat.pow_succ]
  rw[e1]at h2;rw[e2]at h2;rw[hd (at_+k) (.inr NL),hx]at h1;rw[mod_succ];have e3:val (upd d' (at_+k) (dif x ((c+times*dig v k)%4294967296) b)) N+x*W32^(at_+k)=val d' N+dif x ((c+times*dig v k)%4294967296) b*W32^(at_+k):=h1;have e4:(c+times*dig v k)%4294967296=(c+times*dig v k)%W32:=rfl;have e5:(c+times*dig v k)/4294967296=(c+times*dig v k)/W32:=rfl;rw[e4]at e3;rw[e4,e5];omega
 .rw[Nat.div_lt_iff_lt_mul (by decide)];have:times*dig v k<=4294967295*4294967295:=Nat.mul_le_mul (by omega) (by omega);omega
theorem take_last {w wr:World}{B N:Nat}{d:Nat->Nat}{v times at_ k c b x:Nat}(h:TakeIn w wr B N d v times at_ k c b)(hN:at_+k<N)(hx:d (at_+k)=x)(hvk:v<W32^k):
 ∃d',DRow (wr.setCell ⟨B,at_+k,none⟩ (.int .u32 (dif x c b))) B N d'/\(∀j,j<at_\/at_+k<j->d' j=d j)/\val d' N+times*v*W32^at_=val d N+brw x c b*W32^(at_+k+1)/\Onl B w (wr.setCell ⟨B,at_+k,none⟩ (.int .u32 (dif x c b))):=by
 obtain⟨d',hr,hd,hv,hc,hb,ho⟩:=h;have hxl:x<4294967296:=by rw[<-hx,<-hd (at_+k) (.inr NL)];exact hr.2 _
 refine⟨_,hr.upd (at_+k) _ (dif_lt _ _ _),fun j hj=>?_,?_,ho.setCell _ _⟩
 .rw[upd_other _ _ (by omega)];exact hd j (by omega)
 .have h1:val (upd d' (at_+k) (dif x c b)) N+d' (at_+k)*W32^(at_+k)=val d' N+dif x c b*W32^(at_+k):=val_upd d' (dif x c b) hN;have h2:=take_step' (P:=W32^at_) (Pk:=W32^k) (vk:=0) (c':=0) (W:=W32) (low:=c) hv (brw_eq hxl hc hb) (by simp);rw[mod_of_lt hvk]at h2;have e1:W32^at_*W32^k=W32^(at_+k):=(Nat.pow_add _ _ _).symm;have e2:W32^at_*(W32^k*W32)=W32^(at_+k+1):=by rw[<-Nat.pow_succ,<-Nat.pow_add];rfl
  rw[e1,e2]at h2;rw[hd (at_+k) (.inr NL),hx]at h1;rw[Nat.mul_zero,Nat.add_zero,Nat.zero_add]at h2;omega
theorem take_c {w0 w:World}{B N L cap at_:Nat}{d:Nat->Nat}{vv:Value}{v times:Nat}(hrow:DRow w B N d)(hv:NatV w0 vv v)(h0:Bel B w0 w)(hle:w0.heap.size<=B)(hL:at_+nlen v<L)(hLN:L<=N)(hN:N<=1000000000000)(ht:times<4294967296):
 Calls Tryz.prog 184 #[.slice (some ⟨B,0,none⟩) L cap,vv,.int .u64 times,.int .i64 at_] w fun e w'=>∃d' br,e=.returned (.bool ((br:Nat) !=(0:Int)))/\br<=1/\DRow w' B N d'/\(∀j,j<at_\/at_+nlen v<j->d' j=d j)/\val d' N+times*v*W32^at_=val d N+br*W32^(at_+nlen v+1)/\Onl B w w':=by
 obtain⟨va,rfl,hcv⟩:=hv;have HC:=LH hcv;have HS:=LH (take_start v times at_ hrow);have H0:=LH h0;clear hcv hrow h0
 go_enter Tryz.func184,Tryz.ntmps184
 go_wp2
 go_loopw [9,10,15] (fun c b i wr=>∃k c' b':Nat,k<=nlen v/\i=.int .i64 k/\c=.int .u64 c'/\b=.int .u32 b'/\TakeIn w wr B N d v times at_ k c' b') (fun _ _ i _=>nlen v-(intOf i).toNat)
 case atStart=>exact⟨0,0,0,by omega,rfl,rfl,rfl,HS.out⟩
 case round=>
  obtain⟨k,c,b,hk,rfl,rfl,rfl,hin⟩:=hrel;have HI:=LH hin;obtain⟨d',hr,hd,-,hc,hb,ho⟩:=hin;have fc:=hr.cell (show at_+k<N by omega);rw[hd (at_+k) (.inr NL)]at fc;have fz:=hr.frozen (at_+k);have hxl:d (at_+k)<4294967296:=by rw[<-hd (at_+k) (.inr NL)];exact hr.2 _
  by_cases hlt:k<nlen v
  .obtain⟨b1,o1,rfl,hl1,hc1⟩:=HC.out.open (by omega);have g1:=(ho.block b1 (by omega))
   have g2:wr.cell? ⟨b1,o1+k,none⟩=some (dv v k):=((World.cell?_of_block (a:=⟨b1,o1+k,none⟩) g1).trans (H0.out.cell (p:=⟨b1,o1+k,none⟩) (by show b1<B;omega))).trans (hc1 k hlt);unfold dv at g2;have d1:=dig_lt' v k;have hm:times*dig v k<=4294967295*4294967295:=Nat.mul_le_mul (by omega) (by omega);have hsm:c+times*dig v k<18446744073709551616:=by omega
   have ec:(c:Int)+times*dig v k=((c+times*dig v k:Nat):Int):=by push_cast;rfl
   have em:((c+times*dig v k:Nat):Int)%4294967296=((c+times*dig v k)%4294967296:Nat):=by omega
   have ed:((c+times*dig v k:Nat):Int)/4294967296=((c+times*dig v k)/4294967296:Nat):=by omega
   have EC:=LH ec;have EM:=LH em;have ED:=LH ed;clear hc1 g1 hr hd ho ec em ed
   go_wp2_with fail
   rw[EC.out,EM.out];refine(sub32_c _ _ _ hxl (Nat.mod_lt _ (by decide)) hb _).mono ?_;rintro e w' ⟨rfl,rfl⟩;go_wp2;rw[EC.out,ED.out]
   go_roundw
   case rel=>exact⟨k+1,_,_,by omega,by go_num,rfl,rfl,take_round HI.out (by omega) ht rfl⟩
   case measure=>simp[intOf]<;>omega
  .obtain rfl:k=nlen v:=by omega
   have HT:=LH (take_last HI.out (by omega) rfl (lt_pow_nlen v));clear hr hd ho
   go_wp2_with fail
   refine(sub32_c _ _ _ hxl hc hb _).mono ?_;rintro e w' ⟨rfl,rfl⟩;go_wp2;go_ret;obtain⟨d',h1,h2,h3,h4⟩:=HT.out;exact⟨d',_,rfl,brw_le _ _ _,h1,h2,h3,h4⟩
def GiveIn (w wr:World)(B N:Nat)(d:Nat->Nat)(v at_ k c:Nat):Prop:=
 ∃d',DRow wr B N d'/\(∀j,j<at_\/at_+k<=j->d' j=d j)/\val d' N+c*(W32^at_*W32^k)=val d N+(v%W32^k)*W32^at_/\c<=1/\Onl B w wr
theorem give_start {w:World}{B N:Nat}{d:Nat->Nat}(v at_:Nat)(h:DRow w B N d):GiveIn w w B N d v at_ 0 0:=
 ⟨d,h,fun _ _=>rfl,by simp[Nat.mod_one],by decide,Onl.refl _ _⟩
theorem give_round {w wr:World}{B N:Nat}{d:Nat->Nat}{v at_ k c x:Nat}(h:GiveIn w wr B N d v at_ k c)(hN:at_+k<N)(hx:d (at_+k)=x):
 GiveIn w (wr.setCell ⟨B,at_+k,none⟩ (.int .u32 ((x+dig v k+c)%4294967296:Nat))) B N d v at_ (k+1) ((x+dig v k+c)/4294967296):=by
 obtain⟨d',hr,hd,hv,hc,ho⟩:=h;have hxl:x<4294967296:=by rw[<-hx,<-hd (at_+k) (.inr NL)];exact hr.2 _
 have hd1:=dig_lt' v k;refine⟨_,hr.upd (at_+k) _ (Nat.mod_lt _ (by decide)),fun j hj=>?_,?_,by omega,ho.setCell _ _⟩
 .rw[upd_other _ _ (by omega)];exact hd j (by omega)
 .have h1:val (upd d' (at_+k) ((x+dig v k+c)%4294967296)) N+d' (at_+k)*W32^(at_+k)=val d' N+(x+dig v k+c)%4294967296*W32^(at_+k):=val_upd d' _ hN;rw[hd (at_+k) (.inr NL),hx]at h1;have e1:W32^at_*W32^k=W32^(at_+k):=(Nat.pow_add _ _ _).symm;have e2:W32^at_*W32^(k+1)=W32^(at_+k)*W32:=by rw[Nat.pow_succ,<-Nat.mul_assoc,e1]
  have e3:(v%W32^(k+1))*W32^at_=(v%W32^k)*W32^at_+dig v k*W32^(at_+k):=by
   rw[mod_succ,Nat.add_mul,<-e1,Nat.mul_comm (W32^k),Nat.mul_assoc,Nat.mul_comm (W32^k)]
  have e4:=Nat.mod_add_div (x+dig v k+c) 4294967296;rw[e2,e3];rw[e1]at hv;generalize W32^(at_+k)=R at *;have e5:((x+dig v k+c)%4294967296+4294967296*((x+dig v k+c)/4294967296))*R=(x+dig v k+c)*R:=by rw[e4]
  have e6:(x+dig v k+c)/4294967296*(R*W32)=4294967296*((x+dig v k+c)/4294967296)*R:=by
   rw[Nat.mul_comm R,<-Nat.mul_assoc,Nat.mul_comm _ W32];rfl
  rw[e6];rw[Nat.add_mul]at e5;rw[Nat.add_mul (x+dig v k),Nat.add_mul x]at e5;omega
theorem give_last {w wr:World}{B N:Nat}{d:Nat->Nat}{v at_ k c x:Nat}(h:GiveIn w wr B N d v at_ k c)(hN:at_+k<N)(hx:d (at_+k)=x)(hvk:v<W32^k):
 ∃d' ov,ov<=1/\DRow (wr.setCell ⟨B,at_+k,none⟩ (.int .u32 ((x+c)%4294967296:Nat))) B N d'/\(∀j,j<at_\/at_+k<j->d' j=d j)/\val d' N+ov*W32^(at_+k+1)=val d N+v*W32^at_/\Onl B w (wr.setCell ⟨B,at_+k,none⟩ (.int .u32 ((x+c)%4294967296:Nat))):=by
 obtain⟨d',hr,hd,hv,hc,ho⟩:=h;have hxl:x<4294967296:=by rw[<-hx,<-hd (at_+k) (.inr NL)];exact hr.2 _
 refine⟨_,(x+c)/4294967296,by omega,hr.upd (at_+k) _ (Nat.mod_lt _ (by decide)),fun j hj=>?_,?_,ho.setCell _ _⟩
 .rw[upd_other _ _ (by omega)];exact hd j (by omega)
 .have h1:val (upd d' (at_+k) ((x+c)%4294967296)) N+d' (at_+k)*W32^(at_+k)=val d' N+(x+c)%4294967296*W32^(at_+k):=val_upd d' _ hN;rw[hd (at_+k) (.inr NL),hx]at h1;have e1:W32^at_*W32^k=W32^(at_+k):=(Nat.pow_add _ _ _).symm;rw[mod_of_lt hvk,e1]at hv;have e4:=Nat.mod_add_div (x+c) 4294967296;rw[Nat.pow_succ];generalize W32^(at_+k)=R at *;have e5:((x+c)%4294967296+4294967296*((x+c)/4294967296))*R=(x+c)*R:=by rw[e4]
  have e6:(x+c)/4294967296*(R*W32)=4294967296*((x+c)/4294967296)*R:=by
   rw[Nat.mul_comm R,<-Nat.mul_assoc,Nat.mul_comm _ W32];rfl
  rw[e6];rw[Nat.add_mul,Nat.add_mul x]at e5;omega
theorem give_c {w0 w:World}{B N L cap at_:Nat}{d:Nat->Nat}{vv:Value}{v:Nat}(hrow:DRow w B N d)(hv:NatV w0 vv v)(h0:Bel B w0 w)(hle:w0.heap.size<=B)(hL:at_+nlen v<L)(hLN:L<=N)(hN:N<=1000000000000):
 Calls Tryz.prog 185 #[.slice (some ⟨B,0,none⟩) L cap,vv,.int .i64 at_] w fun e w'=>∃d' ov,e=.returned (.tuple #[])/\ov<=1/\DRow w' B N d'/\(∀j,j<at_\/at_+nlen v<j->d' j=d j)/\val d' N+ov*W32^(at_+nlen v+1)=val d N+v*W32^at_/\Onl B w w':=by
 obtain⟨va,rfl,hcv⟩:=hv;have HC:=LH hcv;have HS:=LH (give_start v at_ hrow);have H0:=LH h0;clear hcv hrow h0
 go_enter Tryz.func185,Tryz.ntmps185
 go_wp2
 go_loopw [6,11] (fun c i wr=>∃k c':Nat,k<=nlen v/\i=.int .i64 k/\c=.int .u32 c'/\GiveIn w wr B N d v at_ k c') (fun _ i _=>nlen v-(intOf i).toNat)
 case atStart=>exact⟨0,0,by omega,rfl,rfl,HS.out⟩
 case round=>
  obtain⟨k,c,hk,rfl,rfl,hin⟩:=hrel;have HI:=LH hin;obtain⟨d',hr,hd,-,hc,ho⟩:=hin;have fc:=hr.cell (show at_+k<N by omega);rw[hd (at_+k) (.inr NL)]at fc;have fz:=hr.frozen (at_+k);have hxl:d (at_+k)<4294967296:=by rw[<-hd (at_+k) (.inr NL)];exact hr.2 _
  by_cases hlt:k<nlen v
  .obtain⟨b1,o1,rfl,hl1,hc1⟩:=HC.out.open (by omega);have g1:=(ho.block b1 (by omega))
   have g2:wr.cell? ⟨b1,o1+k,none⟩=some (dv v k):=((World.cell?_of_block (a:=⟨b1,o1+k,none⟩) g1).trans (H0.out.cell (p:=⟨b1,o1+k,none⟩) (by show b1<B;omega))).trans (hc1 k hlt);unfold dv at g2;have d1:=dig_lt' v k;clear hc1 g1 hr hd ho
   go_wp2_with fail
   refine(add32_c _ _ _ hxl d1 hc _).mono ?_;rintro e w' ⟨rfl,rfl⟩;go_wp2
   go_roundw
   case rel=>exact⟨k+1,_,by omega,by go_num,rfl,give_round HI.out (by omega) rfl⟩
   case measure=>simp[intOf]<;>omega
  .obtain rfl:k=nlen v:=by omega
   have HT:=LH (give_last HI.out (by omega) rfl (lt_pow_nlen v));have em:((d (at_+nlen v):Int)+c)%4294967296=((d (at_+nlen v)+c)%4294967296:Nat):=by omega
   have EM:=LH em;clear hr hd ho em;go_wp2
   go_end0
   rw[EM.out];obtain⟨d',ov,h1,h2,h3,h4,h5⟩:=HT.out;exact⟨d',ov,rfl,h1,h2,h3,h4,h5⟩
end Go.Proofs.YtlgjakpoaelehaaGreat
