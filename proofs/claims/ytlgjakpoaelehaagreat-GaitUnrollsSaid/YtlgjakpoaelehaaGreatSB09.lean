/- Contracts and plain laws, merged: T2 G1 G2 G3 T3 -/
import Derived.Deep.LoopGhost
import Derived.Test.YtlgjakpoaelehaaGreatSB04
import Derived.Test.YtlgjakpoaelehaaGreatSB05
import Derived.Test.YtlgjakpoaelehaaGreatSB08
namespace Go.Proofs.YtlgjakpoaelehaaGreat
open Go.RowKit
set_option maxRecDepth 100000
set_option maxHeartbeats 4000000
def DecIn (w wr:World)(n m:Nat)(av ov:Value):Prop:=
 ∃k,m<=n/\NatV wr av m/\digsR n=(digsR n).take k++digsR m/\k<=(digsR n).length/\OwnS 5 1 w.heap.size wr ov k (bv (digsR n))/\Bel w.heap.size w wr
def PartIn (w wr:World)(n q:Nat)(qv ov:Value)(i d k:Nat):Prop:=
 ∃x,i<=9/\d<10^(9-i)/\x=q*10^(9-i)+d/\x<=n/\NatV wr qv q/\digsR n=(digsR n).take k++digsR x/\k<=(digsR n).length/\OwnS 5 1 w.heap.size wr ov k (bv (digsR n))/\Bel w.heap.size w wr
theorem PartIn.start {w wr w2:World}{n m k:Nat}{ov qv:Value}(hm:m<=n)(hd:digsR n=(digsR n).take k++digsR m)(hk:k<=(digsR n).length)(ho:OwnS 5 1 w.heap.size wr ov k (bv (digsR n)))(hB:Bel w.heap.size w wr)
 (hq:NatV w2 qv (m/1000000000)) (hb:Bel wr.heap.size wr w2):PartIn w w2 n (m/1000000000) qv ov 0 (m%1000000000) k:=
 ⟨m,by omega,by simp;omega,by simp;omega,hm,hq,hd,hk,ho.bel hb,hB.next hB.size hb⟩
theorem PartIn.stop {w wr:World}{n q:Nat}{qv ov:Value}{i d k:Nat}(h:PartIn w wr n q qv ov i d k)(he:i=9\/(q=0/\d=0)):DecIn w wr n q qv ov:=by
 obtain⟨x,hi,hd,hx,hn,hq,h1,h2,h3,h4⟩:=h
 have e:x=q:=by
  rcases he with rfl|⟨rfl,rfl⟩
  .simp at hd hx;omega
  .simpa using hx
 subst e;exact⟨k,hn,hq,h1,h2,h3,h4⟩
theorem part_byte {n x k:Nat}(h1:digsR n=(digsR n).take k++digsR x)(hk:k<=(digsR n).length)(hx:0<x):bv (digsR n) k=.int .u8 ((48+x%10:Nat):Int)/\digsR n=(digsR n).take (k+1)++digsR (x/10)/\k+1<=(digsR n).length:=by
 generalize digsR n=L at *;rw[digsR_pos hx]at h1;have hlen:((L.take k).length)=k:=by simp;omega
 have hl:k<L.length:=by rw[h1];simp;omega
 have hg:L[k]?=some (UInt8.ofNat (48+x%10)):=by rw[h1,List.getElem?_append_right (by omega),hlen];simp
 refine⟨?_,?_,hl⟩
 .unfold bv List.getD;rw[hg];simp only[Option.getD_some,ch_toNat]
 .rw[List.take_add_one,hg];rw[List.append_assoc];exact h1
theorem PartIn.byte {w wr:World}{n q:Nat}{qv ov:Value}{i d k:Nat}(h:PartIn w wr n q qv ov i d k)(hi:i<9)(hp:0<q\/0<d):bv (digsR n) k=.int .u8 ((48+d%10:Nat):Int)/\k+1<=(digsR n).length:=by
 obtain⟨x,_,hd,hx,hn,hq,h1,h2,h3,h4⟩:=h
 have hx0:0<x:=by
  rw[hx];rcases hp with hp|hp
  .have:=Nat.mul_pos hp (Nat.pow_pos (n:=9-i) (show 0<10 by decide));omega
  .omega
 obtain⟨g1,g2,g3⟩:=part_byte h1 h2 hx0;rw[(part_step hi hx).1]at g1;exact⟨g1,g3⟩
theorem PartIn.step {w wr w2:World}{n q:Nat}{qv ov ov2:Value}{i d k:Nat}(h:PartIn w wr n q qv ov i d k)(hi:i<9)(hp:0<q\/0<d)
 (s1:OwnS 5 1 w.heap.size w2 ov2 (k+1) (bv (digsR n))) (s2:Pres 232 wr w2) (s3:Bel w.heap.size w w2):PartIn w w2 n q qv ov2 (i+1) (d/10) (k+1):=by
 obtain⟨x,_,hd,hx,hn,hq,h1,h2,h3,h4⟩:=h
 have hx0:0<x:=by
  rw[hx];rcases hp with hp|hp
  .have:=Nat.mul_pos hp (Nat.pow_pos (n:=9-i) (show 0<10 by decide));omega
  .omega
 obtain⟨e1,e2⟩:=part_step hi hx;obtain⟨g1,g2,g3⟩:=part_byte h1 h2 hx0;exact⟨x/10,by omega,part_lt hi hd,e2,by omega,hq.pres s2,g2,g3,s1,s3⟩
theorem PartIn.app {w wr w':World}{n q:Nat}{qv ov ov2:Value}{i d k:Nat}(h:PartIn w wr n q qv ov i d k)(hi:i<9)(hp:0<q\/0<d)
 (hown:OwnS 5 1 w.heap.size w' ov2 (k+1) (appF (k*1) (bv (digsR n)) fun _=>.int .u8 (48+(d:Int)%10)))
 (hgrow:(wr.alloc (.cells #[.int .u8 (48+(d:Int)%10)] 5)).grownBy w' ov.ownBlock)
 (hdr:(wr.alloc (.cells #[.int .u8 (48+(d:Int)%10)] 5)).drawn<=w'.drawn):PartIn w w' n q qv ov2 (i+1) (d/10) (k+1):=by
 have hby:=(h.byte hi hp).1;obtain⟨x,_,_,_,_,_,_,_,h3,h4⟩:=id h;refine PartIn.step h hi hp (hown.congr fun j hj=>?_) ((Pres.alloc _ _).trans (Pres.grownS (h3.alloc _) hgrow (by decide))) ((h4.alloc h4.size _).grownS (h3.alloc _) hgrow hdr (by have:=h4.size;simp;omega) NL)
 by_cases e:j<k
 .rw[appF_lt _ _ (by omega)]
 .obtain rfl:j=k:=by omega
  rw[appF_ge _ _ (by omega),hby]
  push_cast;rfl
theorem cells1 (T:TypeId)(w:World)(u:Value):CellsAt T (w.alloc (.cells #[u] T)) (some ⟨w.heap.size,0,none⟩) (1*1) (fun _=>u):=
 CellsAt.of_block (len:=1*1) (off:=0) (cur:=#[u]) (heap_new _ _ rfl) fun k hk=>by
  have e:k=0:=by omega
  subst e;rfl
theorem addr_add0 (B j:Nat):(⟨B,0,none⟩:Addr).add j=⟨B,j,none⟩:=by unfold Addr.add;split<;>simp_all
theorem decimal_c {w:World}{va:Value}{n:Nat}(ha:NatV w va n)(hs:nlen n<=10000000000):
 Calls Tryz.prog 119 #[va] w fun e w'=>e=.returned (.string (decB n))/\Bel w.heap.size w w':=by
 obtain⟨aa,e,hca⟩:=ha;have HA:Hid (NatV w va n):=⟨aa,e,hca⟩
 subst e;clear hca
 by_cases hz:n=0
 .have h0:nlen n=0:=by rw[hz];rfl
  have hz2:((nlen n:Int)==0)=true:=by rw[h0];rfl
  have HD:Hid (decB n=⟨#[48]⟩):=by subst hz;rfl
  clear hz h0 HA
  go_enter Tryz.func119,Tryz.ntmps119
  go_wp2;go_ret;exact⟨by rw[HD.out];rfl,Bel.refl _ _⟩
 .have h0:0<nlen n:=by have:=mt nlen_eq_zero.1 hz;omega
  have hz2:((nlen n:Int)==0)=false:=by simp;omega
  have HZ:=LH hz;have HLEN:Hid ((digsR n).length<=100000000000):=Nat.le_trans (digsR_len n _ (pow_len n _ (lt_pow_nlen n))) (by omega);clear hz
  go_enter Tryz.func119,Tryz.ntmps119
  go_wp2;have HS:Hid (DecIn w w n n (.slice aa (nlen n) (nlen n)) (.slice none 0 0)):=⟨0,Nat.le_refl _,HA.out,by simp,by omega,OwnS.nil _ _ _ _ _,Bel.refl _ _⟩
  go_loopg [0,3] n (fun m a o wr=>DecIn w wr n m a o)
  case atStart=>exact HS.out
  case round=>
   clear HS HA;obtain⟨k,hm,hv,hd,hk,hown,hB⟩:=hrel;obtain⟨am,ev,hcv⟩:=hv;have HV:Hid (NatV wr u0 gk):=⟨am,ev,hcv⟩
   subst ev;have HO:=LH hown;have HBB:=LH hB;have HD:=LH hd;have hlm:=nlen_mono hm;clear hcv hd
   by_cases hz:gk=0
   .have h00:nlen gk=0:=by rw[hz];rfl
    have HE:Hid (k=(digsR n).length):=by
     have e:=HD.out;rw[hz,digsR_zero,List.append_nil]at e
     show _=_
     rw[e,List.length_take];omega
    clear hz;have hz3:decide (0<nlen gk)=false:=by simp;omega
    clear h00
    have hk0:0<k:=by
     have:=digsR_ne (Nat.pos_of_ne_zero HZ.out);have:=List.length_pos_iff.2 this;have:=HE.out;omega
    obtain⟨B,N,rfl,hg1,hg2,hN,hrow⟩:=hown.row hk0;have HR2:=LH hrow;clear hrow hB;obtain rfl:k=(digsR n).length:=HE.out
    go_wp2_with fail
    refine(reverseB_c HR2.out hN (by have:=HLEN.out;omega)).mono ?_;rintro e w2 ⟨rfl,hrow,hon⟩;have HBW:=LH (HBB.out.trans (hon.bel hg1))
    have hcv:=run_convert_bytes_back w2 27 9 5 ⟨B,0,none⟩ N (digsR n).reverse Tryz.underlying27 Tryz.underlying5 Tryz.underlying9 (fun j hj=>by
     rw[List.length_reverse]at hj;have:=hrow.cell (i:=j) hj hN;rw[addr_add0,this];unfold bv;simp[List.getD,hj])
    rw[List.length_reverse]at hcv;have HF:Hid ((⟨(digsR n).reverse.toArray⟩:ByteArray)=decB n):=by unfold decB decL;rw[if_neg HZ.out];rfl
    clear hrow hon;go_wp2;go_ret;exact⟨by rw[<-HF.out];rfl,HBW.out⟩
   .have h00:0<nlen gk:=by have:=mt nlen_eq_zero.1 hz;omega
    have HGZ:=LH hz;have hz3:decide (0<nlen gk)=true:=by simp;omega
    clear hz
    go_wp2_with fail
    refine(short_c HV.out (by omega) (by decide) (by decide)).mono ?_;rintro e w2 ⟨qv,rv,rfl,hq,hr,hb2⟩
    go_wp2_with fail
    refine(small_c hr ?_).mono ?_
    .exact(nlen_le_iff _ 2).2 (Nat.lt_of_lt_of_le (Nat.mod_lt _ (by decide)) (by decide))
    rintro e w3 ⟨rfl,rfl⟩;have HP:Hid (PartIn w w2 n (gk/1000000000) qv u3 0 (gk%1000000000) k):=PartIn.start hm HD.out hk HO.out HBB.out hq hb2;have hqlt:gk/1000000000<gk:=Nat.div_lt_self (Nat.pos_of_ne_zero HGZ.out) (by decide);obtain⟨aq,rfl,-⟩:=hq;generalize hgq:gk/1000000000=q at *;generalize hgd:gk%1000000000=d0 at *;clear hgq hgd hr hb2 hown hB;go_wp2
    go_loopg [3,6,7] 9 (fun g o d i wx=>∃i' d':Nat,g=9-i'/\i=.int .i64 i'/\d=.int .u64 d'/\∃k',PartIn w wx n q (.slice aq (nlen q) (nlen q)) o i' d' k')
    case atStart=>exact⟨0,d0,rfl,rfl,rfl,k,HP.out⟩
    case round=>
     clear HP;obtain⟨i,d,hg,rfl,rfl,k2,hp⟩:=hrel;have HP:=LH hp;obtain⟨x,hi9,hd9,-,-,-,-,hk2,hown,hB⟩:=hp;have hd64:d<1000000000:=Nat.lt_of_lt_of_le hd9 (Nat.pow_le_pow_right (by decide) (show 9-i<=9 by omega));have HO2:=LH hown;have HB2:=LH hB;have hbs:=hB.size;clear hd9 hB hown
     by_cases hgo:i<9/\(0<q\/0<d)
     .obtain⟨hi,hp⟩:=hgo;have HH:=LH hp;have HBY:=LH (HP.out.byte hi hp);have hkl:=HLEN.out;clear hp;have hb1:decide ((i:Int)<9)=true:=by simp;omega
      have hlm1:k2+1<=maxLen:=by have:=HBY.out.2;unfold maxLen;omega
      have hlb1:(k2+1)*1<=140737488355328:=by have:=HBY.out.2;omega
      have hbs1:w.heap.size<=(wr.alloc (.cells #[Value.int .u8 (48+(d:Int)%10)] 5)).heap.size:=by simp;omega
      cases hq0:decide (0<nlen q)with
      |true=>
       have hq1:=of_decide_eq_true hq0
       go_wp2_with (at_builtin;go_must (refine wpList_append_fn rfl (.tmp 34) (.tmp 39) 27 rfl w.heap.size Tryz.underlying27 Tryz.infoU8 rfl (by decide) rfl (HO2.out.alloc _) rfl (cells1 _ _ _) (fun _=>rfl) hlm1 hlb1 hbs1 ?_;intro v' w' hown hgrow hdr))
       have HZ2:=LH (HP.out.app hi HH.out hown hgrow hdr)
       go_roundg (9-(i+1))
       case rel=>exact⟨i+1,d/10,rfl,by go_num,by go_num,k2+1,HZ2.out⟩
       case measure=>omega
      |false=>
       have hq1:=of_decide_eq_false hq0
       have hd1:0<d:=by
        rcases HH.out with h|h
        .have:=mt nlen_eq_zero.1 (show¬q=0 by omega);omega
        .exact h
       go_wp2_with (at_builtin;go_must (refine wpList_append_fn rfl (.tmp 34) (.tmp 39) 27 rfl w.heap.size Tryz.underlying27 Tryz.infoU8 rfl (by decide) rfl (HO2.out.alloc _) rfl (cells1 _ _ _) (fun _=>rfl) hlm1 hlb1 hbs1 ?_;intro v' w' hown hgrow hdr))
       have HZ2:=LH (HP.out.app hi HH.out hown hgrow hdr)
       go_roundg (9-(i+1))
       case rel=>exact⟨i+1,d/10,rfl,by go_num,by go_num,k2+1,HZ2.out⟩
       case measure=>omega
     .have HX:Hid (DecIn w wr n q (.slice aq (nlen q) (nlen q)) u3):=HP.out.stop (by omega)
      by_cases hi:i<9
      .obtain⟨rfl,rfl⟩:q=0/\d=0:=by omega
       have hb1:decide ((i:Int)<9)=true:=by simp;omega
       have hq0:decide (0<nlen 0)=false:=by decide
       clear hgo
       go_wp2_with fail
       go_roundg 0
       case rel=>exact HX.out
       case measure=>exact hqlt
      .have hb1:decide ((i:Int)<9)=false:=by simp;omega
       clear hgo
       go_wp2_with fail
       go_roundg q
       case rel=>exact HX.out
       case measure=>exact hqlt
theorem bits_xor8 (x y:Nat)(hx:x<256)(hy:y<256):bits .xor .u8 (x:Int) y=((x ^^^ y:Nat):Int):=by
 unfold bits;have h1:(BitVec.ofInt IntKind.u8.bits (x:Int))=BitVec.ofNat 8 x:=by simp[IntKind.bits]
 have h2:(BitVec.ofInt IntKind.u8.bits (y:Int))=BitVec.ofNat 8 y:=by simp[IntKind.bits]
 simp only[h1,h2]
 have h3:(BitVec.ofNat 8 x ^^^ BitVec.ofNat 8 y).toNat=x ^^^ y:=by
  simp[BitVec.toNat_xor,Nat.mod_eq_of_lt (show x<2^8 from hx),Nat.mod_eq_of_lt (show y<2^8 from hy)]
 have h4:(x ^^^ y)<256:=Nat.xor_lt_two_pow (n:=8) hx hy
 have h5:IntKind.u8.wrap ((x ^^^ y:Nat):Int)=((x ^^^ y:Nat):Int):=by
  show((x ^^^ y:Nat):Int)%256=_
  omega
 rw[<-h5,<-h3];rfl
def bw (W:List Nat)(k:Nat):Value:=.int .u8 (W.getD k 0:Nat)
def WordT (T:TypeId)(w:World)(v:Value)(W:List Nat):Prop:=(∀k,W.getD k 0<256)/\∃ao cap,v=.slice ao W.length cap/\W.length<=cap/\CellsAt T w ao W.length (bw W)
abbrev WordV (w:World) (v:Value) (W:List Nat):Prop:=WordT 5 w v W
theorem WordT.pres {T:TypeId}{w w':World}{v:Value}{W:List Nat}(h:WordT T w v W)(hp:Pres T w w'):WordT T w' v W:=by
 obtain⟨h0,ao,cap,e,h1,h2⟩:=h;exact⟨h0,ao,cap,e,h1,h2.pres hp⟩
def phOk (l x y:Nat):Bool:=!(x==0) && (x/2^l==0) && (Lib.onesCount (x ^^^ y)==1)
def nxt (W:List Nat)(i:Nat):Nat:=W.getD ((i+1)%W.length) 0
def ckWord (legs:Int)(W:List Nat):Int:=
 if legs<1\/4<legs then 3 else if W.length<2\/16<W.length then 2 else if(List.range W.length).all (fun i=>phOk legs.toNat (W.getD i 0) (nxt W i)) then 0 else 2
def wordRes (l:Nat)(W:List Nat):Int:=if(List.range W.length).all (fun i=>phOk l (W.getD i 0) (nxt W i)) then 0 else 2
theorem wordRes_bad {l k:Nat}{W:List Nat}(hk:k<W.length)(h:phOk l (W.getD k 0) (nxt W k)=false):wordRes l W=2:=by
 unfold wordRes;rw[if_neg];rw[List.all_eq_true];intro e;have:=e k (List.mem_range.2 hk);rw[h]at this;cases this
theorem wordRes_good {l:Nat}{W:List Nat}(h:∀j,j<W.length->phOk l (W.getD j 0) (nxt W j)=true):wordRes l W=0:=by
 unfold wordRes;rw[if_pos];rw[List.all_eq_true];intro j hj;exact h j (List.mem_range.1 hj)
theorem ones_c {w:World}{t q:Nat}(ht:t<256)(hq:q=Lib.onesCount t):
 Calls Tryz.prog 110 #[.int .u8 (t:Int)] w fun e w'=>e=.returned (.int .i64 (q:Nat))/\w'=w:=by
 rw[hq];refine(Tryz.bits_OnesCount8 (t:Int) w (by omega) (by omega)).mono ?_;rintro e w' ⟨rfl,rfl⟩;exact⟨by rw[Int.toNat_natCast],rfl⟩
theorem checkWord_loop {w:World}{v:Value}{W:List Nat}{l:Nat}{T8:TypeId}(hv:WordT T8 w v W)(h1:1<=l)(h4:l<=4)(h2:2<=W.length)(h16:W.length<=16):
 Calls Tryz.prog 40 #[.int .i64 l,v] w fun e w'=>e=.returned (.int .i64 (wordRes l W))/\w=w':=by
 obtain⟨hW,ao,cap,rfl,hcap,hc⟩:=hv;obtain⟨b,o,rfl,hbl,hcell⟩:=hc.open (by omega);have HC:=LH hcell;have HW:=LH hW;clear hc hcell hW;obtain⟨n,hn⟩:∃n,n=W.length:=⟨_,rfl⟩
 have HN:=LH hn;rw[<-hn]at HC h2 h16 hcap|-;clear hn;have d1:decide ((l:Int)<1)=false:=by simp;omega
 have d2:decide ((4:Int)<l)=false:=by simp;omega
 have d3:decide ((n:Int)<2)=false:=by simp;omega
 have d4:decide ((16:Int)<n)=false:=by simp;omega
 go_enter Tryz.func40,Tryz.ntmps40
 go_wp2
 go_loopg [23] n (fun g i wr=>w=wr/\∃k:Nat,g=n-k/\k<=n/\i=.int .i64 k/\Hid (∀j,j<k->phOk l (W.getD j 0) (nxt W j)=true))
 case atStart=>exact⟨rfl,0,rfl,Nat.zero_le _,rfl,fun j hj=>by omega⟩
 case round=>
  obtain⟨rfl,k,hg,hk,rfl,HJ⟩:=hrel
  by_cases hlt:k<n
  .have g0:=HC.out k hlt;have hm:(k+1)%n<n:=Nat.mod_lt _ (by omega);obtain⟨m,hmm⟩:∃m,m=(k+1)%n:=⟨_,rfl⟩
   have hmi:((k:Int)+1)%(n:Int)=(m:Nat):=by rw[hmm];push_cast;rfl
   rw[<-hmm]at hm;have g1:=HC.out m hm;unfold bw at g0 g1;obtain⟨x,hx⟩:∃x,x=W.getD k 0:=⟨_,rfl⟩
   obtain⟨y,hy⟩:∃y,y=W.getD m 0:=⟨_,rfl⟩
   have hxl:x<256:=by rw[hx];exact HW.out _
   have hyl:y<256:=by rw[hy];exact HW.out _
   have HPH:Hid (phOk l (W.getD k 0) (nxt W k)=phOk l x y):=by show _=_;unfold nxt;rw[<-HN.out,<-hmm,<-hx,<-hy]
   rw[<-hx]at g0;rw[<-hy]at g1;have hxor:=bits_xor8 x y hxl hyl;clear hx hy hmm
   by_cases hx0:x=0
   .have hb:((x:Int)==0)=true:=by simp;omega
    have HR:Hid (wordRes l W=2):=wordRes_bad (by rw[<-HN.out];exact hlt) (by rw[HPH.out,hx0];simp[phOk]);clear hx0 hxor g1 hm;go_wp2;go_ret;exact⟨by rw[HR.out];rfl,rfl⟩
   .have hb:((x:Int)==0)=false:=by simp;omega
    have HX:=LH hx0;clear hx0;obtain⟨z,hz⟩:∃z,z=x/2^l:=⟨_,rfl⟩
    have hzi:((x:Int)/2^l)=(z:Nat):=by rw[hz];push_cast;rfl
    by_cases hs:z=0
    .have hb2:((z:Int) !=0)=false:=by simp;omega
     obtain⟨t,ht⟩:∃t,t=x ^^^ y:=⟨_,rfl⟩
     have htl:t<256:=by rw[ht];exact Nat.xor_lt_two_pow (n:=8) hxl hyl
     rw[<-ht]at hxor;have HT:=LH ht;have HZ:Hid (x/2^l=0):=by show _=_;rw[<-hz];exact hs
     clear hz hs ht
     have HPT:Hid (phOk l (W.getD k 0) (nxt W k)=(Lib.onesCount t==1)):=by
      show _=_;rw[HPH.out];unfold phOk
      have e1:(x==0)=false:=by simpa using HX.out
      have e2:(x/2^l==0)=true:=by rw[HZ.out];rfl
      rw[e1,e2,HT.out];rfl
     obtain⟨q,hqt⟩:∃q,q=Lib.onesCount t:=⟨_,rfl⟩
     have HQT:=LH hqt;rw[<-hqt]at HPT;clear hqt
     by_cases hq:q=1
     .have hb3:((q:Int) !=1)=false:=by simp;omega
      have HQ:Hid (∀j,j<k+1->phOk l (W.getD j 0) (nxt W j)=true):=fun j hj=>by
       rcases Nat.lt_or_ge j k with h|h
       .exact HJ.out j h
       .obtain rfl:j=k:=by omega
        rw[HPT.out,hq];rfl
      clear hq
      go_wp2_with fail
      refine(ones_c (t:=t) htl HQT.out).mono ?_;rintro e w9 ⟨rfl,rfl⟩;go_wp2
      go_roundg (n-(k+1))
      case rel=>exact⟨rfl,k+1,rfl,by omega,by push_cast;rfl,HQ.out⟩
      case measure=>omega
     .have hb3:((q:Int) !=1)=true:=by simp;omega
      have HR:Hid (wordRes l W=2):=wordRes_bad (by rw[<-HN.out];exact hlt) (by rw[HPT.out];simpa using hq);clear hq
      go_wp2_with fail
      refine(ones_c (t:=t) htl HQT.out).mono ?_;rintro e w9 ⟨rfl,rfl⟩;go_wp2;go_ret;exact⟨by rw[HR.out];rfl,rfl⟩
    .have hb2:((z:Int) !=0)=true:=by simp;omega
     have HR:Hid (wordRes l W=2):=wordRes_bad (by rw[<-HN.out];exact hlt) (by rw[HPH.out];unfold phOk;rw[<-hz];simp[hs]);clear hz hs hxor;go_wp2;go_ret;exact⟨by rw[HR.out];rfl,rfl⟩
  .have HR:Hid (wordRes l W=0):=wordRes_good (by rw[<-HN.out];intro j hj;exact HJ.out j (by omega));go_wp2;go_ret;exact⟨by rw[HR.out];rfl,rfl⟩
theorem ckWord_wordRes {l:Nat}{W:List Nat}(h1:1<=l)(h4:l<=4)(h2:2<=W.length)(h16:W.length<=16):ckWord l W=wordRes l W:=by
 unfold ckWord;rw[if_neg (by omega),if_neg (by omega)];unfold wordRes;rw[Int.toNat_natCast]
theorem WordT.len {T:TypeId}{w:World}{v:Value}{W:List Nat}(h:WordT T w v W):∃a cap,v=.slice a W.length cap:=by
 obtain⟨-,ao,cap,e,-,-⟩:=h;exact⟨ao,cap,e⟩
theorem checkWord_c {w:World}{v:Value}{W:List Nat}{legs:Int}{T8:TypeId}(hv:WordT T8 w v W):
 Calls Tryz.prog 40 #[.int .i64 legs,v] w fun e w'=>e=.returned (.int .i64 (ckWord legs W))/\w=w':=by
 by_cases c1:legs<1
 .obtain⟨a,cap,rfl⟩:=hv.len;have HR:Hid (ckWord legs W=3):=by show _=_;unfold ckWord;rw[if_pos (by omega)]
  have d1:decide (legs<1)=true:=by simpa using c1
  generalize W.length=n;clear hv c1
  go_enter Tryz.func40,Tryz.ntmps40
  go_wp2;go_ret;exact⟨by rw[HR.out];rfl,rfl⟩
 .by_cases c4:4<legs
  .obtain⟨a,cap,rfl⟩:=hv.len;have HR:Hid (ckWord legs W=3):=by show _=_;unfold ckWord;rw[if_pos (by omega)]
   have d1:decide (legs<1)=false:=by simpa using c1
   have d2:decide (4<legs)=true:=by simpa using c4
   generalize W.length=n;clear hv c1 c4
   go_enter Tryz.func40,Tryz.ntmps40
   go_wp2;go_ret;exact⟨by rw[HR.out];rfl,rfl⟩
  .obtain⟨l,rfl⟩:∃l:Nat,legs=l:=⟨legs.toNat,by omega⟩
   by_cases c2:W.length<2
   .obtain⟨a,cap,rfl⟩:=hv.len;have HR:Hid (ckWord l W=2):=by show _=_;unfold ckWord;rw[if_neg (by omega),if_pos (by omega)]
    have d1:decide ((l:Int)<1)=false:=by simpa using c1
    have d2:decide ((4:Int)<l)=false:=by simpa using c4
    obtain⟨n,hn⟩:∃n,n=W.length:=⟨_,rfl⟩
    rw[<-hn]at c2|-;have d3:decide ((n:Int)<2)=true:=by simp;omega
    clear hv c1 c4 hn c2
    go_enter Tryz.func40,Tryz.ntmps40
    go_wp2;go_ret;exact⟨by rw[HR.out];rfl,rfl⟩
   .by_cases c16:16<W.length
    .obtain⟨a,cap,rfl⟩:=hv.len;have HR:Hid (ckWord l W=2):=by show _=_;unfold ckWord;rw[if_neg (by omega),if_pos (by omega)]
     have d1:decide ((l:Int)<1)=false:=by simpa using c1
     have d2:decide ((4:Int)<l)=false:=by simpa using c4
     obtain⟨n,hn⟩:∃n,n=W.length:=⟨_,rfl⟩
     rw[<-hn]at c2 c16|-;have d3:decide ((n:Int)<2)=false:=by simp;omega
     have d4:decide ((16:Int)<n)=true:=by simp;omega
     clear hv c1 c4 hn c2 c16
     go_enter Tryz.func40,Tryz.ntmps40
     go_wp2;go_ret;exact⟨by rw[HR.out];rfl,rfl⟩
    .rw[ckWord_wordRes (by omega) (by omega) (by omega) (by omega)];exact checkWord_loop hv (by omega) (by omega) (by omega) (by omega)
def evt (W:List Nat)(k:Nat):Int:=
 let t:Int:=(Lib.trailingZeros8 (W.getD k 0 ^^^ nxt W k):Nat)+1
 if W.getD k 0<nxt W k then t else -t
theorem tz_c {w:World}{t q:Nat}(ht:t<256)(hq:q=Lib.trailingZeros8 t):
 Calls Tryz.prog 158 #[.int .u8 (t:Int)] w fun e w'=>e=.returned (.int .i64 (q:Nat))/\w'=w:=by
 rw[hq];refine(Tryz.bits_TrailingZeros8 (t:Int) w (by omega) (by omega)).mono ?_;rintro e w' ⟨rfl,rfl⟩;exact⟨by rw[Int.toNat_natCast],rfl⟩
theorem event_c {w:World}{v:Value}{W:List Nat}{k:Nat}{T8:TypeId}(hv:WordT T8 w v W)(hk:k<W.length)(h16:W.length<=16):
 Calls Tryz.prog 106 #[v,.int .i64 k] w fun e w'=>e=.returned (.int .i64 (evt W k))/\w=w':=by
 obtain⟨hW,ao,cap,rfl,hcap,hc⟩:=hv;obtain⟨b,o,rfl,hbl,hcell⟩:=hc.open (by omega);have HC:=LH hcell;have HW:=LH hW;clear hc hcell hW;obtain⟨n,hn⟩:∃n,n=W.length:=⟨_,rfl⟩
 have HN:=LH hn;rw[<-hn]at HC hk h16 hcap|-;clear hn;have g0:=HC.out k hk;obtain⟨m,hmm⟩:∃m,m=(k+1)%n:=⟨_,rfl⟩
 have hmi:((k:Int)+1)%(n:Int)=(m:Nat):=by rw[hmm];push_cast;rfl
 have hm:m<n:=by rw[hmm];exact Nat.mod_lt _ (by omega)
 have g1:=HC.out m hm;unfold bw at g0 g1;obtain⟨x,hx⟩:∃x,x=W.getD k 0:=⟨_,rfl⟩
 obtain⟨y,hy⟩:∃y,y=W.getD m 0:=⟨_,rfl⟩
 have hxl:x<256:=by rw[hx];exact HW.out _
 have hyl:y<256:=by rw[hy];exact HW.out _
 have hn2:nxt W k=y:=by unfold nxt;rw[<-HN.out,<-hmm,<-hy]
 obtain⟨t,ht⟩:∃t,t=x ^^^ y:=⟨_,rfl⟩
 have htl:t<256:=by rw[ht];exact Nat.xor_lt_two_pow (n:=8) hxl hyl
 obtain⟨q,hq⟩:∃q,q=Lib.trailingZeros8 t:=⟨_,rfl⟩
 have hq8:q<=8:=by rw[hq];exact Lib.trailingZeros8_le8 ⟨t,htl⟩
 have HR:Hid (evt W k=if x<y then(q:Int)+1 else -((q:Int)+1)):=by show _=_;unfold evt;rw[hn2,<-hx,<-ht,<-hq]
 have HQ:=LH hq;rw[<-hx]at g0;rw[<-hy]at g1;have hxor:=bits_xor8 x y hxl hyl;rw[<-ht]at hxor;clear hx hy hmm hn2 ht hq
 go_enter Tryz.func106,Tryz.ntmps106
 go_wp2_with fail
 refine(tz_c (t:=t) htl HQ.out).mono ?_;rintro e w9 ⟨rfl,rfl⟩;go_wp2
 .rename_i hlt
  rw[if_pos hlt]at HR;go_ret;exact⟨by rw[HR.out];rfl,rfl⟩
 .rename_i hlt
  rw[if_neg hlt]at HR;go_ret;exact⟨by rw[HR.out];rfl,rfl⟩
def IntsV (w:World)(v:Value)(E:List Int):Prop:=∃ao cap,v=.slice ao E.length cap/\E.length<=cap/\CellsAt 3 w ao E.length (fun k=>.int .i64 (E.getD k 0))
theorem IntsV.pres {w w':World}{v:Value}{E:List Int}(h:IntsV w v E)(hp:Pres 3 w w'):IntsV w' v E:=by
 obtain⟨ao,cap,e,h1,h2⟩:=h;exact⟨ao,cap,e,h1,h2.pres hp⟩
def evts (W:List Nat):List Int:=(List.range W.length).map (evt W)
theorem evts_len (W:List Nat):(evts W).length=W.length:=by simp[evts]
theorem evts_get {W:List Nat}{k:Nat}(h:k<W.length):(evts W).getD k 0=evt W k:=by
 simp[evts,List.getD,h]
structure EvIn (w wr:World) (ov:Value) (W:List Nat) (k:Nat):Prop where
 own:OwnS 3 1 w.heap.size wr ov k (fun j=>.int .i64 (evt W j))
 bel:Bel w.heap.size w wr
theorem EvIn.step {w wr w':World}{ov ov2:Value}{W:List Nat}{k:Nat}{u:Value}{o:Obj}(h:EvIn w wr ov W k)
 (hown:OwnS 3 1 w.heap.size w' ov2 (k+1) (appF (k*1) (fun j=>.int .i64 (evt W j)) fun _=>u)) (hgrow:(wr.alloc o).grownBy w' ov.ownBlock) (hdr:(wr.alloc o).drawn<=w'.drawn)
 (hu:u=.int .i64 (evt W k)):EvIn w w' ov2 W (k+1):=
 ⟨D4.own_snoc hown hu,(h.bel.alloc h.bel.size _).grownS (h.own.alloc _) hgrow hdr (by have:=h.bel.size;simp;omega) NL⟩
theorem EvIn.done {w wr:World}{ov:Value}{W:List Nat}(h:EvIn w wr ov W W.length):IntsV wr ov (evts W):=by
 obtain⟨ao,cap,rfl,h1,h2⟩:=h.own.cells;refine⟨ao,cap,by rw[evts_len],by rw[evts_len];exact h1,?_⟩;rw[evts_len];refine(h2.mono (by omega)).congr ?_;intro k hk;rw[evts_get hk]
theorem ckWord_zero {legs:Int}{W:List Nat}(h:ckWord legs W=0):1<=legs/\legs<=4/\2<=W.length/\W.length<=16:=by
 unfold ckWord at h;split at h
 .cases h
 .split at h
  .cases h
  .omega
theorem events_bad {w:World}{v:Value}{W:List Nat}{legs:Int}{T8:TypeId}(hv:WordT T8 w v W)(hc:ckWord legs W≠0):
 Calls Tryz.prog 36 #[.int .i64 legs,v] w fun e w'=>e=.returned (.tuple #[.slice none 0 0,.int .i64 (ckWord legs W)])/\w=w':=by
 have HV:=LH hv;obtain⟨c,hcc⟩:∃c,c=ckWord legs W:=⟨_,rfl⟩
 rw[<-hcc]at hc|-;have HC:=LH hcc;have hb:(c !=0)=true:=by simpa using hc
 clear hv hcc hc
 go_enter Tryz.func36,Tryz.ntmps36
 go_wp2_with fail
 refine(checkWord_c HV.out).mono ?_;rintro e w9 ⟨rfl,rfl⟩;rw[<-HC.out];go_wp2
 go_ret2
 exact⟨rfl,rfl⟩
theorem events_good {w:World}{v:Value}{W:List Nat}{legs:Int}{T8:TypeId}(hv:WordT T8 w v W)(hc:ckWord legs W=0):
 Calls Tryz.prog 36 #[.int .i64 legs,v] w fun e w'=>∃ve,e=.returned (.tuple #[ve,.int .i64 0])/\IntsV w' ve (evts W)/\Bel w.heap.size w w':=by
 have HV:=LH hv;obtain⟨-,-,h2,h16⟩:=ckWord_zero hc;obtain⟨a,cap,rfl⟩:=hv.len;have HC:=LH hc;obtain⟨n,hn⟩:∃n,n=W.length:=⟨_,rfl⟩
 have HN:=LH hn;have HS:Hid (EvIn w w (.slice none 0 0) W 0):=⟨OwnS.nil _ _ _ _ _,Bel.refl _ _⟩
 rw[<-hn]at h2 h16 HV|-;clear hv hc hn
 go_enter Tryz.func36,Tryz.ntmps36
 go_wp2_with fail
 refine(checkWord_c HV.out).mono ?_;rintro e w9 ⟨rfl,rfl⟩;rw[HC.out];go_wp2
 go_loopg [7,8,17] n (fun g o _ i wr=>∃k:Nat,g=n-k/\k<=n/\i=.int .i64 k/\EvIn w wr o W k)
 case atStart=>exact⟨0,rfl,Nat.zero_le _,rfl,HS.out⟩
 case round=>
  clear HS;obtain⟨k,hg,hk,rfl,hp⟩:=hrel;have HP:=LH hp;have HO:=LH hp.own;have hbs:=hp.bel.size;have hlm1:k+1<=maxLen:=by unfold maxLen;omega
  have hlb1:(k+1)*8<=140737488355328:=by omega
  have HBS:Hid (∀o:Obj,w.heap.size<=(wr.alloc o).heap.size):=fun o=>by simp;omega
  clear hp
  by_cases hlt:k<n
  .go_wp2_with (first|(go_at_call 106;refine(event_c (k:=k) (HV.out.pres HP.out.bel.pb) (by rw[<-HN.out];exact hlt) (by rw[<-HN.out];exact h16)).mono ?_;rintro e w9 ⟨rfl,rfl⟩)|(at_builtin;go_must (refine wpList_append_fn rfl (.tmp 20) (.tmp 24) 28 rfl w.heap.size Tryz.underlying28 D4.infoInt rfl (by decide) rfl (HO.out.alloc _) rfl (cells1 _ _ _) (fun _=>rfl) hlm1 hlb1 (HBS.out _) ?_;intro v' w' hown hgrow hdr)))
   have HX:=LH (HP.out.step hown hgrow hdr rfl)
   go_roundg (n-(k+1))
   case rel=>exact⟨k+1,rfl,by omega,by push_cast;rfl,HX.out⟩
   case measure=>omega
  .have HE:Hid (k=W.length):=by show _=_;rw[<-HN.out];omega
   have HV2:Hid (IntsV wr u7 (evts W)):=EvIn.done (by rw[<-HE.out];exact HP.out);go_wp2
   go_ret2
   exact⟨_,rfl,HV2.out,HP.out.bel⟩
theorem bits_and1 (z:Nat)(hz:z<256):bits .and .u8 (z:Int) 1=((z%2:Nat):Int):=by
 have:∀z:Fin 256,bits .and .u8 (z.val:Int) 1=((z.val%2:Nat):Int):=by decide+kernel
 exact this ⟨z,hz⟩
def dutyN (l:Nat)(W:List Nat):Nat->Nat
 |0=>0
 |k+1=>dutyN l W k+W.getD k 0/2^l%2
theorem dutyN_le (l:Nat)(W:List Nat)(k:Nat):dutyN l W k<=k:=by
 induction k with
 |zero=>exact Nat.le_refl _
 |succ k ih=>unfold dutyN;omega
theorem duty_bad {w:World}{v:Value}{W:List Nat}{legs:Int}(leg:Int){T8:TypeId}(hv:WordT T8 w v W)(hc:ckWord legs W≠0):
 Calls Tryz.prog 37 #[.int .i64 legs,v,.int .i64 leg] w fun e w'=>∃v,e=.returned (.tuple #[v,.int .i64 (ckWord legs W)])/\QV w' v 0/\Bel w.heap.size w w':=by
 have HV:=LH hv;obtain⟨c,hcc⟩:∃c,c=ckWord legs W:=⟨_,rfl⟩
 rw[<-hcc]at hc|-;have HC:=LH hcc;have hb:(c !=0)=true:=by simpa using hc
 clear hv hcc hc
 go_enter Tryz.func37,Tryz.ntmps37
 go_wp2_with fail
 refine(checkWord_c (HV.out.pres (Pres.alloc _ _))).mono ?_;rintro e w9 ⟨rfl,rfl⟩;rw[<-HC.out];go_wp2
 (try simp only[Exit.inBlock,Exit.then]);refine bodyPost_ret (results_ct rfl _ rfl (v:=?_) ?_) rfl ?_;rotate_left;(go_simp;rfl)
 exact⟨_,rfl,QV.zero _,(Bel.refl _ _).alloc NL _⟩
theorem duty_good {w:World}{v:Value}{W:List Nat}{legs:Int}{l:Nat}{T8:TypeId}(hv:WordT T8 w v W)(hc:ckWord legs W=0)(hl:(l:Int)<legs):
 Calls Tryz.prog 37 #[.int .i64 legs,v,.int .i64 l] w fun e w'=>∃v,e=.returned (.tuple #[v,.int .i64 0])/\QV w' v ((dutyN l W W.length:Nat)/(W.length:Nat):Rat)/\Bel w.heap.size w w':=by
 have HV:=LH hv;obtain⟨-,h4,h2,h16⟩:=ckWord_zero hc;have HC:=LH hc;obtain⟨hW,ao,cap,rfl,hcap,hcl⟩:=hv;obtain⟨b,o,rfl,hbl,hcell⟩:=(hcl.pres (w':=w.alloc (.cells #[.bool false,.slice none 0 0,.slice none 0 0] 39)) (Pres.alloc _ _)).open (by omega);obtain⟨n,hn⟩:∃n,n=W.length:=⟨_,rfl⟩
 have HN:=LH hn;have HCL:=LH hcell;have HW:=LH hW;have d1:decide ((l:Int)<0)=false:=by simp
 have d2:decide ((l:Int)>=legs)=false:=by simp;omega
 rw[<-hn]at h2 h16 HV HCL hcap|-;clear hc hn hcl hcell hW
 go_enter Tryz.func37,Tryz.ntmps37
 go_wp2_with fail
 refine(checkWord_c (HV.out.pres (Pres.alloc _ _))).mono ?_;rintro e w9 ⟨rfl,rfl⟩;rw[HC.out];go_wp2
 go_loopg [9,11,29] n (fun g s _ i wr=>w.alloc (.cells #[.bool false,.slice none 0 0,.slice none 0 0] 39)=wr/\∃k:Nat,g=n-k/\k<=n/\s=.int .i64 (dutyN l W k:Nat)/\i=.int .i64 k)
 case atStart=>exact⟨rfl,0,rfl,Nat.zero_le _,rfl,rfl⟩
 case round=>
  obtain⟨rfl,k,hg,hk,rfl,rfl⟩:=hrel;have hdl:=dutyN_le l W k;obtain⟨s,hs⟩:∃s,s=dutyN l W k:=⟨_,rfl⟩
  have HS:=LH hs;rw[<-hs]at hdl|-;clear hs
  by_cases hlt:k<n
  .have g0:=HCL.out k hlt;unfold bw at g0;obtain⟨x,hx⟩:∃x,x=W.getD k 0:=⟨_,rfl⟩
   have hxl:x<256:=by rw[hx];exact HW.out _
   rw[<-hx]at g0;obtain⟨z,hz⟩:∃z,z=x/2^l:=⟨_,rfl⟩
   have hzi:((x:Int)/2^l)=(z:Nat):=by rw[hz];push_cast;rfl
   have hzl:z<256:=by rw[hz];exact Nat.lt_of_le_of_lt (Nat.div_le_self _ _) hxl
   obtain⟨d,hd⟩:∃d,d=z%2:=⟨_,rfl⟩
   have hand:=bits_and1 z hzl;rw[<-hd]at hand;have hd2:d<2:=by omega
   have HS2:Hid (dutyN l W (k+1)=s+d):=by show _=_;unfold dutyN;rw[<-HS.out,<-hx,<-hz,<-hd]
   clear hx hz hd;go_wp2
   go_roundg (n-(k+1))
   case rel=>exact⟨rfl,k+1,rfl,by omega,by rw[HS2.out];push_cast;rfl,by push_cast;rfl⟩
   case measure=>omega
  .have HE:Hid (s=dutyN l W n):=by show _=_;rw[HS.out,show k=n from by omega]
   go_wp2_with fail
   refine(Of_c (n:=s) (d:=n) (by omega) (by omega) (by omega) (by omega) (by omega)).mono ?_;rintro e w9 ⟨v9,rfl,hQ,hb9⟩;obtain⟨m9,l9,rfl,⟨am9,rfl,hm9⟩,⟨al9,rfl,hl9⟩⟩:=hQ;have hs9:=hb9.size;simp only[World.size_alloc]at hs9;obtain⟨hc0,hc1,hc2,hf0,hf1,hf2⟩:=row3 (w:=w9) (b:=w.heap.size) (x:=.bool false) (y:=.slice none 0 0) (z:=.slice none 0 0) (T:=39) RW1;have hk:BlkT 39 w9 w.heap.size:=(BlkT.new _ w _ _ rfl).bel hb9 (by simp)
   have HB:Bel w.heap.size w w9:=Bel.new.trans (hb9.mono (by simp));go_wp2
   (try simp only[Exit.inBlock,Exit.then]);refine bodyPost_ret (results_ct rfl _ rfl (v:=?_) ?_) rfl ?_;rotate_left;(go_simp;rfl)
   have HR:((dutyN l W n:Nat):Rat)/(n:Nat)=((s:Int):Rat)/((n:Int):Rat):=by rw[<-HE.out];rfl
   rw[HR];exact⟨_,rfl,QV.mk (NatV.pres ⟨_,rfl,hm9⟩ (Pres.set3 hk (by decide) _ _ _ _ _ _)) (NatV.pres ⟨_,rfl,hl9⟩ (Pres.set3 hk (by decide) _ _ _ _ _ _)) rfl rfl rfl,((HB.setCell (by simp) _).setCell (by simp) _).setCell (by simp) _⟩
theorem duty_range {w:World}{v:Value}{W:List Nat}{legs:Int}(leg:Int){T8:TypeId}(hv:WordT T8 w v W)(hc:ckWord legs W=0)(hl:leg<0\/legs<=leg):
 Calls Tryz.prog 37 #[.int .i64 legs,v,.int .i64 leg] w fun e w'=>∃v,e=.returned (.tuple #[v,.int .i64 3])/\QV w' v 0/\Bel w.heap.size w w':=by
 have HV:=LH hv;have HC:=LH hc
 by_cases h0:leg<0
 .have d1:decide (leg<0)=true:=by simpa using h0
  clear hv hc hl h0
  go_enter Tryz.func37,Tryz.ntmps37
  go_wp2_with fail
  refine(checkWord_c (HV.out.pres (Pres.alloc _ _))).mono ?_;rintro e w9 ⟨rfl,rfl⟩;rw[HC.out];go_wp2
  (try simp only[Exit.inBlock,Exit.then]);refine bodyPost_ret (results_ct rfl _ rfl (v:=?_) ?_) rfl ?_;rotate_left;(go_simp;rfl)
  exact⟨_,rfl,QV.zero _,(Bel.refl _ _).alloc NL _⟩
 .have d1:decide (leg<0)=false:=by simpa using h0
  have d2:decide (leg>=legs)=true:=by simp;omega
  clear hv hc hl h0
  go_enter Tryz.func37,Tryz.ntmps37
  go_wp2_with fail
  refine(checkWord_c (HV.out.pres (Pres.alloc _ _))).mono ?_;rintro e w9 ⟨rfl,rfl⟩;rw[HC.out];go_wp2
  (try simp only[Exit.inBlock,Exit.then]);refine bodyPost_ret (results_ct rfl _ rfl (v:=?_) ?_) rfl ?_;rotate_left;(go_simp;rfl)
  exact⟨_,rfl,QV.zero _,(Bel.refl _ _).alloc NL _⟩
theorem txt_cat (q:Rat):ratTxt q=⟨((if q.num<0 then[45] else[])++decL q.num.natAbs++(if q.den=1 then[] else 47::decL q.den)).toArray⟩:=rfl
theorem decB_size {n L:Nat}(h:nlen n<=L):(decB n).size<=10*L+1:=by
 show(decL n).toArray.size<=_
 rw[List.size_toArray];unfold decL;split
 .simp
 .rw[List.length_reverse];exact Nat.le_succ_of_le (digsR_len n _ (pow_len n L ((nlen_le_iff _ _).1 h)))
theorem Text_c {w:World}{v:Value}{q:Rat}{L:Nat}(hv:QV w v q)(hL:QF L q)(hs:L<=1000000000):
 Calls Tryz.prog 58 #[v] w fun e w'=>e=.returned (.string (ratTxt q))/\Bel w.heap.size w w':=by
 have HV:=LH hv;have HF:=LH hL;obtain⟨vm,vl,rfl,hm,hl⟩:=hv;have HM:=LH hm;have HL:=LH hl;obtain⟨al,rfl,-⟩:=hl;have hn1:=hL.1;have hn2:=hL.2;clear hm hL
 go_enter Tryz.func58,Tryz.ntmps58
 go_wp2_with fail
 refine(decimal_c (HM.out.pres (Pres.alloc _ _)) (by omega)).mono ?_;rintro e w1 ⟨rfl,hb1⟩;obtain⟨n0,n1,n2,-,-,-⟩:=row3 ((hb1.block w.heap.size (by simp)).trans (heap_new _ _ rfl));have HB1:Hid (Bel w.heap.size w w1):=Bel.new.trans (hb1.mono (by simp));have hz1:=decB_size hn1;have hz2:=decB_size hn2
 by_cases hd:q.den=1
 .have h0:nlen (q.den-1)=0:=by rw[hd];rfl
  have hz:decide (0<nlen (q.den-1))=false:=by simp;omega
  by_cases hneg:q.num<0
  .have hg:decide (q.num<0)=true:=by simpa using hneg
   have HT:Hid ((⟨#[45]⟩:ByteArray)++decB q.num.natAbs=ratTxt q):=by
    show _=_
    rw[txt_cat,if_pos hneg,if_pos hd];simp[decB];rfl
   clear h0 hneg hd;go_wp2;go_ret;exact⟨by rw[<-HT.out];rfl,HB1.out⟩
  .have hg:decide (q.num<0)=false:=by simpa using hneg
   have HT:Hid (decB q.num.natAbs=ratTxt q):=by
    show _=_
    rw[txt_cat,if_neg hneg,if_pos hd];simp[decB]
   clear h0 hneg hd;go_wp2;go_ret;exact⟨by rw[<-HT.out];rfl,HB1.out⟩
 .have h0:nlen (q.den-1)≠0:=by rw[Ne,nlen_eq_zero];have:=q.den_pos;omega
  have hz:decide (0<nlen (q.den-1))=true:=by simp;omega
  by_cases hneg:q.num<0
  .have hg:decide (q.num<0)=true:=by simpa using hneg
   have HT:Hid (((⟨#[45]⟩:ByteArray)++decB q.num.natAbs)++((⟨#[47]⟩:ByteArray)++decB q.den)=ratTxt q):=by
    show _=_
    rw[txt_cat,if_pos hneg,if_neg hd];simp[decB];rfl
   rw[hg]at HV n0;have HV2:=LH (HV.out.pres HB1.out.pb);clear h0 hneg hd
   go_wp2_with (first|(go_at_call 83;refine(den_c HV2.out HF.out (by omega)).mono ?_;rintro e w2 ⟨dv,rfl,hdv,hb2⟩)|(go_at_call 119;refine(decimal_c hdv (by omega)).mono ?_;rintro e w3 ⟨rfl,hb3⟩));go_ret;exact⟨by rw[<-HT.out];rfl,(HB1.out.trans (hb2.mono HB1.out.size)).trans (hb3.mono (Nat.le_trans HB1.out.size hb2.size))⟩
  .have hg:decide (q.num<0)=false:=by simpa using hneg
   have HT:Hid (decB q.num.natAbs++((⟨#[47]⟩:ByteArray)++decB q.den)=ratTxt q):=by
    show _=_
    rw[txt_cat,if_neg hneg,if_neg hd];simp[decB];rfl
   rw[hg]at HV n0;have HV2:=LH (HV.out.pres HB1.out.pb);clear h0 hneg hd
   go_wp2_with (first|(go_at_call 83;refine(den_c HV2.out HF.out (by omega)).mono ?_;rintro e w2 ⟨dv,rfl,hdv,hb2⟩)|(go_at_call 119;refine(decimal_c hdv (by omega)).mono ?_;rintro e w3 ⟨rfl,hb3⟩));go_ret;exact⟨by rw[<-HT.out];rfl,(HB1.out.trans (hb2.mono HB1.out.size)).trans (hb3.mono (Nat.le_trans HB1.out.size hb2.size))⟩
end Go.Proofs.YtlgjakpoaelehaaGreat
