/- Contracts and plain laws, merged: D2 D3 D4 D5 D6 D7 D8 D9 DA DB L1 L2 -/
import Derived.BigQuiet
import Derived.Deep.RegionWith
import Derived.RegionTactic
import Derived.Test.YtlgjakpoaelehaaGreatSB01
import Derived.Test.YtlgjakpoaelehaaGreatSB03
import Derived.Test.YtlgjakpoaelehaaGreatSB08
import Derived.Test.YtlgjakpoaelehaaGreatSB09
import Derived.Test.YtlgjakpoaelehaaGreatSD02
namespace Go.Proofs.YtlgjakpoaelehaaGreat.D4
open Go.RowKit
set_option maxRecDepth 100000
set_option maxHeartbeats 8000000
theorem ZD.own {base n:Nat}{w:World}{v:Value}(h:OwnS 3 1 base w v (nlen n) (dv n)):ZD w v n:=by
 obtain⟨ao,cap,rfl,h1,h2⟩:=h.cells;exact⟨ao,cap,rfl,h1,h2.mono (by omega)⟩
theorem ZD.ownT {base n k:Nat}{w:World}{v:Value}(h:OwnS 3 1 base w v k (dv n)):∃ao cap,v=.slice ao k cap/\k<=cap/\CellsAt 3 w ao k (dv n):=by
 obtain⟨ao,cap,rfl,h1,h2⟩:=h.cells;exact⟨ao,cap,rfl,h1,h2.mono (by omega)⟩
structure PlusIn (w wr:World) (ov:Value) (a b k:Nat):Prop where
 own:OwnS 3 1 w.heap.size wr ov k (dv (a+b))
 le:k<=nlen (a+b)
 bel:Bel w.heap.size w wr
theorem plus_more {a b k:Nat}(h:k<nlen a\/k<nlen b\/0<cin a b k):k+1<=nlen (a+b):=by
 rcases h with h|h|h
 .have:=nlen_mono (show a<=a+b by omega);omega
 .have:=nlen_mono (show b<=a+b by omega);omega
 .have h1:B4^k<=a+b:=by
   unfold cin at h;have h2:=Nat.mod_le a (B4^k);have h3:=Nat.mod_le b (B4^k)
   by_cases hc:a%B4^k+b%B4^k<B4^k
   .rw[Nat.div_eq_of_lt hc]at h;omega
   .omega
  have:=mt (nlen_le_iff (a+b) k).1 (by omega);omega
theorem plus_stop {a b k:Nat}(h1:nlen a<=k)(h2:nlen b<=k)(h3:cin a b k=0):nlen (a+b)<=k:=by
 rw[nlen_le_iff]at *;unfold cin at h3;rw[mod_of_lt h1,mod_of_lt h2]at h3;have:=(Nat.div_eq_zero_iff).1 h3;have:=B4_pow_pos k;omega
theorem PlusIn.step {w wr w':World}{ov ov2:Value}{a b k:Nat}{u:Value}{o:Obj}(h:PlusIn w wr ov a b k)(hm:k<nlen a\/k<nlen b\/0<cin a b k)
 (hown:OwnS 3 1 w.heap.size w' ov2 (k+1) (appF (k*1) (dv (a+b)) fun _=>u)) (hgrow:(wr.alloc o).grownBy w' ov.ownBlock) (hdr:(wr.alloc o).drawn<=w'.drawn)
 (hu:u=dv (a+b) k):PlusIn w w' ov2 a b (k+1):=
 ⟨own_snoc hown hu,plus_more hm,(h.bel.alloc h.bel.size _).grownS (h.own.alloc _) hgrow hdr (by have:=h.bel.size;simp;omega) NL⟩
theorem plus_c {w:World}{va vb:Value}{a b:Nat}(ha:ZD w va a)(hb:ZD w vb b)(hsa:nlen a<=100000000000)(hsb:nlen b<=100000000000):
 Calls Tryz.prog 178 #[va,vb] w (Gives w fun v w'=>ZD w' v (a+b)):=by
 obtain⟨aa,capa,rfl,-,hca⟩:=ha;obtain⟨ab,capb,rfl,-,hcb⟩:=hb;have HC1:=LH hca;have HC2:=LH hcb;have hsab:nlen (a+b)<=100000000001:=Nat.le_trans (nlen_add a b) (by omega);clear hca hcb
 go_enter Tryz.func178,Tryz.ntmps178
 go_wp2;have HS:Hid (PlusIn w w (.slice none 0 0) a b 0):=⟨OwnS.nil _ _ _ _ _,Nat.zero_le _,Bel.refl _ _⟩
 have HZ:=LH (cin_zero a b)
 go_loopg [5,6,7] (nlen (a+b)+1) (fun g o c i wr=>∃k:Nat,g=nlen (a+b)+1-k/\c=.int .i64 (cin a b k:Nat)/\i=.int .i64 k/\PlusIn w wr o a b k)
 case atStart=>exact⟨0,rfl,by rw[HZ.out];rfl,rfl,HS.out⟩
 case round=>
  clear HS HZ;obtain⟨k,hg,rfl,rfl,hp⟩:=hrel;have HP:=LH hp;have HO:=LH hp.own;have hkl:=hp.le;have hbs:=hp.bel.size;have hlm1:k+1<=maxLen:=by unfold maxLen;omega
  have hlb1:(k+1)*8<=140737488355328:=by omega
  have hcl:=cin_le a b k;have da:=dig_lt' a k;have db:=dig_lt' b k;have HA:=LH (dig_add a b k);have HCS:=LH (cin_succ a b k);obtain⟨c,hc⟩:∃c,c=cin a b k:=⟨_,rfl⟩
  have HCC:=LH hc;rw[<-hc]at hcl HA HCS|-;have HBS:Hid (∀o:Obj,w.heap.size<=(wr.alloc o).heap.size):=fun o=>by simp;omega
  clear hp hc
  by_cases h1:k<nlen a
  .have hmm:k+1<=nlen (a+b):=plus_more (.inl h1);have HM:Hid (k<nlen a\/k<nlen b\/0<cin a b k):=.inl h1;obtain⟨b1,o1,rfl,hl1,hc1⟩:=HC1.out.open (by omega);have g1:=(HP.out.bel.cell (p:=⟨b1,o1+k,none⟩) hl1).trans (hc1 k h1);unfold dv at g1;clear hc1
   by_cases h2:k<nlen b
   .obtain⟨b2,o2,rfl,hl2,hc2⟩:=HC2.out.open (by omega);have g2:=(HP.out.bel.cell (p:=⟨b2,o2+k,none⟩) hl2).trans (hc2 k h2);unfold dv at g2;clear hc2
    go_wp2_with (at_builtin;go_must (refine wpList_append_fn rfl (.tmp 44) (.tmp 47) 28 rfl w.heap.size Tryz.underlying28 infoInt rfl (by decide) rfl (HO.out.alloc _) rfl (cells1 _ _ _) (fun _=>rfl) hlm1 hlb1 (HBS.out _) ?_;intro v' w' hown hgrow hdr))
    have HX:=LH (HP.out.step HM.out hown hgrow hdr (by unfold dv;rw[HA.out];push_cast;rfl))
    go_roundg (nlen (a+b)+1-(k+1))
    case rel=>exact⟨k+1,rfl,by rw[HCS.out];push_cast;rfl,by go_num,HX.out⟩
    case measure=>omega
   .have HD:Hid (dig b k=0):=dig_ge (Nat.lt_of_lt_of_le (lt_pow_nlen b) (B4_pow_mono (by omega)))
    go_wp2_with (at_builtin;go_must (refine wpList_append_fn rfl (.tmp 44) (.tmp 47) 28 rfl w.heap.size Tryz.underlying28 infoInt rfl (by decide) rfl (HO.out.alloc _) rfl (cells1 _ _ _) (fun _=>rfl) hlm1 hlb1 (HBS.out _) ?_;intro v' w' hown hgrow hdr))
    have HX:=LH (HP.out.step HM.out hown hgrow hdr (by unfold dv;rw[HA.out,HD.out];push_cast;rfl))
    go_roundg (nlen (a+b)+1-(k+1))
    case rel=>exact⟨k+1,rfl,by rw[HCS.out,HD.out];push_cast;rfl,by go_num,HX.out⟩
    case measure=>omega
  .have HD1:Hid (dig a k=0):=dig_ge (Nat.lt_of_lt_of_le (lt_pow_nlen a) (B4_pow_mono (by omega)))
   by_cases h2:k<nlen b
   .have hmm:k+1<=nlen (a+b):=plus_more (.inr (.inl h2));have HM:Hid (k<nlen a\/k<nlen b\/0<cin a b k):=.inr (.inl h2);obtain⟨b2,o2,rfl,hl2,hc2⟩:=HC2.out.open (by omega);have g2:=(HP.out.bel.cell (p:=⟨b2,o2+k,none⟩) hl2).trans (hc2 k h2);unfold dv at g2;clear hc2
    go_wp2_with (at_builtin;go_must (refine wpList_append_fn rfl (.tmp 44) (.tmp 47) 28 rfl w.heap.size Tryz.underlying28 infoInt rfl (by decide) rfl (HO.out.alloc _) rfl (cells1 _ _ _) (fun _=>rfl) hlm1 hlb1 (HBS.out _) ?_;intro v' w' hown hgrow hdr))
    have HX:=LH (HP.out.step HM.out hown hgrow hdr (by unfold dv;rw[HA.out,HD1.out];push_cast;rfl))
    go_roundg (nlen (a+b)+1-(k+1))
    case rel=>exact⟨k+1,rfl,by rw[HCS.out,HD1.out];push_cast;rfl,by go_num,HX.out⟩
    case measure=>omega
   .have HD2:Hid (dig b k=0):=dig_ge (Nat.lt_of_lt_of_le (lt_pow_nlen b) (B4_pow_mono (by omega)))
    by_cases h3:0<c
    .have HM:Hid (k<nlen a\/k<nlen b\/0<cin a b k):=.inr (.inr (by rw[<-HCC.out];exact h3));have hmm:k+1<=nlen (a+b):=plus_more HM.out
     go_wp2_with (at_builtin;go_must (refine wpList_append_fn rfl (.tmp 44) (.tmp 47) 28 rfl w.heap.size Tryz.underlying28 infoInt rfl (by decide) rfl (HO.out.alloc _) rfl (cells1 _ _ _) (fun _=>rfl) hlm1 hlb1 (HBS.out _) ?_;intro v' w' hown hgrow hdr))
     have HX:=LH (HP.out.step HM.out hown hgrow hdr (by unfold dv;rw[HA.out,HD1.out,HD2.out];push_cast;rfl))
     go_roundg (nlen (a+b)+1-(k+1))
     case rel=>exact⟨k+1,rfl,by rw[HCS.out,HD1.out,HD2.out];push_cast;rfl,by go_num,HX.out⟩
     case measure=>omega
    .have HE:Hid (k=nlen (a+b)):=by
      have:=plus_stop (a:=a) (b:=b) (k:=k) (by omega) (by omega) (by rw[<-HCC.out];omega)
      show _=_
      omega
     have HV:Hid (ZD wr u5 (a+b)):=ZD.own (by rw[<-HE.out];exact HO.out);go_wp2;go_ret;exact⟨_,rfl,HV.out,HP.out.bel⟩
def ZDF (base:Nat)(w:World)(v:Value)(n:Nat):Prop:=∃ao cap,v=.slice ao (nlen n) cap/\nlen n<=cap/\CellsAt 3 w ao (nlen n) (dv n)/\∀x,ao=some x->base<=x.block
theorem ZDF.zd {base:Nat}{w:World}{v:Value}{n:Nat}(h:ZDF base w v n):ZD w v n:=by
 obtain⟨ao,cap,e,h1,h2,_⟩:=h;exact⟨ao,cap,e,h1,h2⟩
theorem ZDF.mono {base b':Nat}{w:World}{v:Value}{n:Nat}(h:ZDF base w v n)(hb:b'<=base):ZDF b' w v n:=by
 obtain⟨ao,cap,e,h1,h2,h3⟩:=h;exact⟨ao,cap,e,h1,h2,fun x hx=>Nat.le_trans hb (h3 x hx)⟩
theorem ZDF.keep {base:Nat}{w w':World}{v:Value}{n:Nat}(h:ZDF base w v n)(hb:∀k,base<=k->k<w.heap.size->w'.heap[k]?=w.heap[k]?):ZDF base w' v n:=by
 obtain⟨ao,cap,e,h1,h2,h3⟩:=h;refine⟨ao,cap,e,h1,fun h0=>?_,h3⟩;obtain⟨b,off,cur,fr,e2,hh,hc⟩:=h2 h0;exact⟨b,off,cur,fr,e2,by rw[hb b (h3 _ e2) (Array.getElem?_eq_some_iff.1 hh).1];exact hh,hc⟩
theorem ZDF.nil (base:Nat)(w:World):ZDF base w (.slice none 0 0) 0:=by
 refine⟨none,0,by rw[nlen_zero],by rw[nlen_zero];exact Nat.le_refl _,by rw[nlen_zero];exact .zero _ _ _ _,fun x hx=>by cases hx⟩
theorem own_base {T:TypeId}{base k n cap:Nat}{w:World}{ao:Option Addr}{f:Nat->Value}(h:OwnS T 1 base w (.slice ao n cap) k f):∀x,ao=some x->base<=x.block:=by
 obtain⟨xs,h1,_⟩:=h;intro x hx;rcases h1.2 with⟨e,_⟩|⟨g,c,cur,e,hg,_⟩
 .injection e with e;subst e;cases hx
 .injection e with e;subst e;cases hx;exact hg
structure MinusIn (w wr:World) (ov:Value) (a b k:Nat):Prop where
 own:OwnS 3 1 w.heap.size wr ov k (dv (a-b))
 bel:Bel w.heap.size w wr
theorem MinusIn.step {w wr w':World}{ov ov2:Value}{a b k:Nat}{u:Value}{o:Obj}(h:MinusIn w wr ov a b k)
 (hown:OwnS 3 1 w.heap.size w' ov2 (k+1) (appF (k*1) (dv (a-b)) fun _=>u)) (hgrow:(wr.alloc o).grownBy w' ov.ownBlock) (hdr:(wr.alloc o).drawn<=w'.drawn)
 (hu:u=dv (a-b) k):MinusIn w w' ov2 a b (k+1):=
 ⟨own_snoc hown hu,(h.bel.alloc h.bel.size _).grownS (h.own.alloc _) hgrow hdr (by have:=h.bel.size;simp;omega) NL⟩
theorem minusF_c {w:World}{va vb:Value}{a b:Nat}(ha:ZD w va a)(hb:ZD w vb b)(hle:b<=a)(hsa:nlen a<=100000000000):
 Calls Tryz.prog 180 #[va,vb] w (Gives w fun v w'=>ZDF w.heap.size w' v (a-b)):=by
 obtain⟨aa,capa,rfl,-,hca⟩:=ha;obtain⟨ab,capb,rfl,-,hcb⟩:=hb;have HC1:=LH hca;have HC2:=LH hcb;have HLE:=LH hle;have hlb:=nlen_mono hle;clear hca hcb hle
 go_enter Tryz.func180,Tryz.ntmps180
 go_wp2;have HS:Hid (MinusIn w w (.slice none 0 0) a b 0):=⟨OwnS.nil _ _ _ _ _,Bel.refl _ _⟩
 have HZ:=LH (bin_zero a b)
 go_loopg [5,6,7] (nlen a) (fun g o c i wr=>∃k:Nat,g=nlen a-k/\c=.int .i64 (bin a b k:Nat)/\i=.int .i64 k/\k<=nlen a/\MinusIn w wr o a b k)
 case atStart=>exact⟨0,rfl,by rw[HZ.out];rfl,rfl,Nat.zero_le _,HS.out⟩
 case round=>
  clear HS HZ;obtain⟨k,hg,rfl,rfl,hkl,hp⟩:=hrel;have HP:=LH hp;have HO:=LH hp.own;have hbs:=hp.bel.size;have hlm1:k+1<=maxLen:=by unfold maxLen;omega
  have hlb1:(k+1)*8<=140737488355328:=by omega
  have hcl:=bin_le a b k;have da:=dig_lt' a k;have db:=dig_lt' b k;have HA:=LH (dig_sub HLE.out k);have HCS:=LH (bin_succ a b k);obtain⟨c,hc⟩:∃c,c=bin a b k:=⟨_,rfl⟩
  rw[<-hc]at hcl HA HCS|-;have HBS:Hid (∀o:Obj,w.heap.size<=(wr.alloc o).heap.size):=fun o=>by simp;omega
  clear hp hc
  by_cases h1:k<nlen a
  .obtain⟨b1,o1,rfl,hl1,hc1⟩:=HC1.out.open (by omega);have g1:=(HP.out.bel.cell (p:=⟨b1,o1+k,none⟩) hl1).trans (hc1 k h1);unfold dv at g1;clear hc1
   by_cases h2:k<nlen b
   .obtain⟨b2,o2,rfl,hl2,hc2⟩:=HC2.out.open (by omega);have g2:=(HP.out.bel.cell (p:=⟨b2,o2+k,none⟩) hl2).trans (hc2 k h2);unfold dv at g2;clear hc2
    by_cases h3:dig a k<dig b k+c
    .have HQ:Hid (bin a b (k+1)=1):=by show _=_;rw[HCS.out];unfold brw;rw[if_pos (by omega)]
     have HU:Hid ((Value.int .i64 ((dig a k:Int)-c-dig b k+10000))=dv (a-b) k):=by
      show _=_
      unfold dv;rw[HA.out];unfold dif4
      congr 1;omega
     go_wp2_with (at_builtin;go_must (refine wpList_append_fn rfl (.tmp 35) (.tmp 37) 28 rfl w.heap.size Tryz.underlying28 infoInt rfl (by decide) rfl (HO.out.alloc _) rfl (cells1 _ _ _) (fun _=>rfl) hlm1 hlb1 (HBS.out _) ?_;intro v' w' hown hgrow hdr))
     have HX:=LH (HP.out.step hown hgrow hdr HU.out)
     go_roundg (nlen a-(k+1))
     case rel=>exact⟨k+1,rfl,by rw[HQ.out];rfl,by go_num,by omega,HX.out⟩
     case measure=>omega
    .have HQ:Hid (bin a b (k+1)=0):=by show _=_;rw[HCS.out];unfold brw;rw[if_neg (by omega)]
     have HU:Hid ((Value.int .i64 ((dig a k:Int)-c-dig b k))=dv (a-b) k):=by
      show _=_
      unfold dv;rw[HA.out];unfold dif4
      congr 1;omega
     go_wp2_with (at_builtin;go_must (refine wpList_append_fn rfl (.tmp 35) (.tmp 37) 28 rfl w.heap.size Tryz.underlying28 infoInt rfl (by decide) rfl (HO.out.alloc _) rfl (cells1 _ _ _) (fun _=>rfl) hlm1 hlb1 (HBS.out _) ?_;intro v' w' hown hgrow hdr))
     have HX:=LH (HP.out.step hown hgrow hdr HU.out)
     go_roundg (nlen a-(k+1))
     case rel=>exact⟨k+1,rfl,by rw[HQ.out];rfl,by go_num,by omega,HX.out⟩
     case measure=>omega
   .have HD:Hid (dig b k=0):=dig_ge (Nat.lt_of_lt_of_le (lt_pow_nlen b) (B4_pow_mono (by omega)))
    by_cases h3:dig a k<0+c
    .have HQ:Hid (bin a b (k+1)=1):=by show _=_;rw[HCS.out,HD.out];unfold brw;rw[if_pos (by omega)]
     have HU:Hid ((Value.int .i64 ((dig a k:Int)-c+10000))=dv (a-b) k):=by
      show _=_
      unfold dv;rw[HA.out,HD.out];unfold dif4
      congr 1;omega
     go_wp2_with (at_builtin;go_must (refine wpList_append_fn rfl (.tmp 35) (.tmp 37) 28 rfl w.heap.size Tryz.underlying28 infoInt rfl (by decide) rfl (HO.out.alloc _) rfl (cells1 _ _ _) (fun _=>rfl) hlm1 hlb1 (HBS.out _) ?_;intro v' w' hown hgrow hdr))
     have HX:=LH (HP.out.step hown hgrow hdr HU.out)
     go_roundg (nlen a-(k+1))
     case rel=>exact⟨k+1,rfl,by rw[HQ.out];rfl,by go_num,by omega,HX.out⟩
     case measure=>omega
    .have HQ:Hid (bin a b (k+1)=0):=by show _=_;rw[HCS.out,HD.out];unfold brw;rw[if_neg (by omega)]
     have HU:Hid ((Value.int .i64 ((dig a k:Int)-c))=dv (a-b) k):=by
      show _=_
      unfold dv;rw[HA.out,HD.out];unfold dif4
      congr 1;omega
     go_wp2_with (at_builtin;go_must (refine wpList_append_fn rfl (.tmp 35) (.tmp 37) 28 rfl w.heap.size Tryz.underlying28 infoInt rfl (by decide) rfl (HO.out.alloc _) rfl (cells1 _ _ _) (fun _=>rfl) hlm1 hlb1 (HBS.out _) ?_;intro v' w' hown hgrow hdr))
     have HX:=LH (HP.out.step hown hgrow hdr HU.out)
     go_roundg (nlen a-(k+1))
     case rel=>exact⟨k+1,rfl,by rw[HQ.out];rfl,by go_num,by omega,HX.out⟩
     case measure=>omega
  .obtain rfl:k=nlen a:=by omega
   obtain⟨ao,cap,rfl,hcap,hcells⟩:=ZD.ownT HO.out;have HBA:=LH (own_base HO.out);have HCL:=LH hcells;have HLT:Hid (a-b<B4^nlen a):=Nat.lt_of_le_of_lt (Nat.sub_le _ _) (lt_pow_nlen a);clear hcells
   go_wp2_with fail
   refine(trim_c HCL.out HLT.out hcap (by omega)).mono ?_;rintro e w' ⟨rfl,rfl⟩;go_wp2;go_ret;exact⟨_,rfl,⟨ao,cap,rfl,Nat.le_trans ((nlen_le_iff _ _).2 HLT.out) hcap,HCL.out.mono ((nlen_le_iff _ _).2 HLT.out),HBA.out⟩,HP.out.bel⟩
theorem minus_c {w:World}{va vb:Value}{a b:Nat}(ha:ZD w va a)(hb:ZD w vb b)(hle:b<=a)(hsa:nlen a<=100000000000):
 Calls Tryz.prog 180 #[va,vb] w (Gives w fun v w'=>ZD w' v (a-b)):=
 (minusF_c ha hb hle hsa).mono fun _ _ ⟨v,e,h,k⟩=>⟨v,e,h.zd,k⟩
def iv (d:Nat->Nat)(k:Nat):Value:=.int .i64 (d k)
def DRow (wr:World)(B n:Nat)(d:Nat->Nat):Prop:=wr.rowIs B 3 n (iv d)/\∀j,d j<10000
theorem DRow.set {wr:World}{B n:Nat}{d:Nat->Nat}(h:DRow wr B n d)(i v:Nat)(hv:v<10000):DRow (wr.setCell ⟨B,i,none⟩ (.int .i64 v)) B n (fun j=>if j=i then v else d j):=by
 refine⟨(h.1.set i _).congr fun j _=>?_,fun j=>?_⟩
 .by_cases e:j=i<;>simp[iv,e]
 .by_cases e:j=i
  .simp only[e,if_true];exact hv
  .simp only[e,if_false];exact h.2 j
theorem DRow.cell {wr:World}{B n:Nat}{d:Nat->Nat}(h:DRow wr B n d){i:Nat}(hi:i<n):wr.cell? ⟨B,i,none⟩=some (.int .i64 (d i)):=h.1.cell hi
theorem DRow.frozen {wr:World}{B n:Nat}{d:Nat->Nat}(h:DRow wr B n d)(i:Nat):wr.frozen? ⟨B,i,none⟩=false:=h.1.frozen i
theorem DRow.made (w:World)(n:Nat):DRow (w.alloc (.cells (madeCells #[.int .i64 0] n) 3)) w.heap.size n (fun _=>0):=
 ⟨(World.rowIs_made w (.int .i64 0) n 3).congr fun j _=>rfl,fun j=>by show(0:Nat)<_;decide⟩
theorem DRow.cells {wr:World}{B n a:Nat}{d:Nat->Nat}(h:DRow wr B n d)(hv:val d n=a):CellsAt 3 wr (some ⟨B,0,none⟩) n (dv a)/\a<B4^n:=by
 refine⟨(CellsAt.of_row h.1).congr fun k hk=>?_,by rw[<-hv];exact val_lt d n fun j _=>h.2 j⟩;unfold iv dv;rw[<-hv,dig_val d n (fun j _=>h.2 j) k hk]
def MulIn (w wr:World)(B n:Nat)(d:Nat->Nat)(x b i k c:Nat):Prop:=
 ∃d',DRow wr B n d'/\(∀j,i+k<=j->d' j=d j)/\val d' (i+k)+c*B4^(i+k)=val d (i+k)+x*(b%B4^k)*B4^i/\Bel w.heap.size w wr
def MulOut (w wr:World)(B n:Nat)(a b i m:Nat):Prop:=
 ∃d,DRow wr B n d/\(∀j,i+m<=j->d j=0)/\val d n=(a%B4^i)*b/\Bel w.heap.size w wr
theorem mulIn_start {w wr:World}{B n:Nat}{d:Nat->Nat}(x b i:Nat)(h:DRow wr B n d)(hB:Bel w.heap.size w wr):MulIn w wr B n d x b i 0 0:=
 ⟨d,h,fun _ _=>rfl,by simp[Nat.mod_one],hB⟩
theorem mulIn_step {w wr:World}{B n:Nat}{d:Nat->Nat}{x b i k c s:Nat}(h:MulIn w wr B n d x b i k c)(hb:w.heap.size<=B)(hs:s=c+x*dig b k+d (i+k)):
 MulIn w (wr.setCell ⟨B,i+k,none⟩ (.int .i64 (s%10000:Nat))) B n d x b i (k+1) (s/10000):=by
 obtain⟨d',hr,hd,hv,hB⟩:=h;refine⟨_,hr.set (i+k) _ (Nat.mod_lt _ (by decide)),fun j hj=>?_,?_,hB.setCell (p:=⟨B,i+k,none⟩) hb _⟩
 .rw[if_neg (by omega)];exact hd j (by omega)
 .have e1:val (fun j=>if j=i+k then s%10000 else d' j) (i+(k+1))=val d' (i+k)+B4^(i+k)*(s%B4):=by
   rw[<-Nat.add_assoc,val_step (d:=d') (fun j hj=>if_neg (by omega))];rw[if_pos rfl];rfl
  have e2:val d (i+(k+1))=val d (i+k)+B4^(i+k)*d (i+k):=by rw[<-Nat.add_assoc,val]
  rw[e1,e2];exact mul_inner hv rfl hs
theorem mulIn_end {w wr:World}{B n:Nat}{d:Nat->Nat}{a b i m c:Nat}(h:MulIn w wr B n d (dig a i) b i m c)(hb:w.heap.size<=B)(hm:b<B4^m)(hn:i+m<n)(hc:c<10000)
 (hz:∀j,i+m<=j->d j=0) (hv:val d n=(a%B4^i)*b):MulOut w (wr.setCell ⟨B,i+m,none⟩ (.int .i64 c)) B n a b (i+1) m:=by
 obtain⟨d',hr,hd,hv',hB⟩:=h;refine⟨_,hr.set (i+m) c hc,fun j hj=>?_,?_,hB.setCell (p:=⟨B,i+m,none⟩) hb _⟩
 .rw[if_neg (by omega),hd j (by omega)];exact hz j (by omega)
 .have e1:val (fun j=>if j=i+m then c else d' j) n=val (fun j=>if j=i+m then c else d' j) (i+m+1):=
   val_zeros (by omega) fun j h1 _=>by rw[if_neg (by omega),hd j (by omega)];exact hz j (by omega)
  have e2:val (fun j=>if j=i+m then c else d' j) (i+m+1)=val d' (i+m)+B4^(i+m)*c:=by
   rw[val_step (d:=d') (fun j hj=>if_neg (by omega)),if_pos rfl]
  have e3:val d n=val d (i+m):=val_zeros (by omega) fun j h1 _=>hz j h1;rw[e1,e2,mod_succ,Nat.add_mul,<-hv,e3];rw[mod_of_lt hm]at hv';have e4:B4^i*dig a i*b=dig a i*b*B4^i:=by grind
  rw[e4,<-hv',Nat.mul_comm c]
theorem mul_carry {w wr:World}{B n:Nat}{d:Nat->Nat}{x b i k c:Nat}(h:MulIn w wr B n d x b i k c)(hx:x<10000)(hd:∀j,d j<10000):c<10000:=by
 obtain⟨d',hr,_,hv,_⟩:=h;have h1:=val_lt d (i+k) fun j _=>hd j
 have h2:x*(b%B4^k)*B4^i<=9999*B4^(i+k):=by
  have h3:=Nat.mod_lt b (B4_pow_pos k);have h4:x*(b%B4^k)<=9999*B4^k:=Nat.mul_le_mul (by omega) (by omega);have h5:=Nat.mul_le_mul_right (B4^i) h4;rw[Nat.pow_add]
  grind
 have h6:c*B4^(i+k)<10000*B4^(i+k):=by omega
 exact Nat.lt_of_mul_lt_mul_right h6
theorem mulIn_end0 {w wr:World}{B n:Nat}{d:Nat->Nat}{a b i m:Nat}(h:MulIn w wr B n d (dig a i) b i m 0)(hm:b<B4^m)(hn:i+m<n)
 (hz:∀j,i+m<=j->d j=0) (hv:val d n=(a%B4^i)*b):MulOut w wr B n a b (i+1) m:=by
 obtain⟨d',hr,hd,hv',hB⟩:=h;refine⟨d',hr,fun j hj=>by rw[hd j (by omega)];exact hz j (by omega),?_,hB⟩;have e1:val d' n=val d' (i+m):=val_zeros (by omega) fun j h1 _=>by rw[hd j (by omega)];exact hz j (by omega)
 have e3:val d n=val d (i+m):=val_zeros (by omega) fun j h1 _=>hz j h1;rw[e1,mod_succ,Nat.add_mul,<-hv,e3];rw[mod_of_lt hm,Nat.zero_mul,Nat.add_zero]at hv';have e4:B4^i*dig a i*b=dig a i*b*B4^i:=by grind
 rw[e4,hv']
theorem MulIn.drewN {w wr:World}{B n:Nat}{d:Nat->Nat}{x b i k c:Nat}(h:MulIn w wr B n d x b i k c)(m:Nat):MulIn w (wr.drewN m) B n d x b i k c:=by
 obtain⟨d',h1,h2,h3,h4⟩:=h;exact⟨d',h1,h2,h3,h4.drewN m⟩
theorem mul_lt8 {x y:Nat}(hx:x<10000)(hy:y<10000):x*y<=99980001:=Nat.mul_le_mul (show x<=9999 by omega) (show y<=9999 by omega)
theorem times_c {w:World}{va vb:Value}{a b:Nat}(ha:ZD w va a)(hb:ZD w vb b)(hsa:nlen a<=100000000000)(hsb:nlen b<=100000000000):
 Calls Tryz.prog 181 #[va,vb] w (Gives w fun v w'=>ZD w' v (a*b)):=by
 obtain⟨aa,capa,rfl,-,hca⟩:=ha;obtain⟨ab,capb,rfl,-,hcb⟩:=hb;have hmk:=run_make_row' (P:=Tryz.prog) 28 3 (.int .i64 0) 8 Tryz.underlying28 infoInt rfl .i64 .i64 (nlen a+nlen b) (by omega) (by omega);have elen:((nlen a+nlen b:Nat):Int)=(nlen a:Int)+nlen b:=by omega
 rw[elen]at hmk;have HC1:=LH hca;have HC2:=LH hcb;clear hca hcb elen
 go_enter Tryz.func181,Tryz.ntmps181
 go_wp2
 go_loopg [6] (nlen a) (fun g i wr=>∃k:Nat,g=nlen a-k/\k<=nlen a/\i=.int .i64 k/\MulOut w wr w.heap.size (nlen a+nlen b) a b k (nlen b))
 case atStart=>
  refine⟨0,rfl,by omega,rfl,_,DRow.made w _,fun j _=>rfl,?_,(Bel.refl _ _).alloc NL _⟩;rw[val_zeros (Nat.zero_le _) (fun _ _ _=>rfl)];simp[val,Nat.mod_one]
 case round=>
  obtain⟨i,hg,hi,rfl,hmo⟩:=hrel
  by_cases hlt:i<nlen a
  .obtain⟨d,hrow,hz,hv,hB⟩:=hmo;obtain⟨b1,o1,rfl,hl1,hc1⟩:=HC1.out.open (by omega);have ga:=fun wq (hq:Bel w.heap.size w wq)=>(hq.cell (p:=⟨b1,o1+i,none⟩) hl1).trans (hc1 i hlt);unfold dv at ga;have GA:=LH ga;have d1:=dig_lt' a i;have HMI:=LH (mulIn_start (dig a i) b i hrow hB);have HZ:=LH hz;have HV:=LH hv;have hdd:=hrow.2;have HDD:=LH hdd;clear hc1 hrow hz hv hB hdd ga;obtain⟨wo,hwo⟩:∃wo,wo=wr:=⟨_,rfl⟩
   go_wp2
   go_loopg [7,8] (nlen b+2) (fun g2 c i' wq=>∃k c':Nat,g2=nlen b+2-k/\i'=.int .i64 k/\c=.int .i64 c'/\((k<=nlen b/\MulIn w wq w.heap.size (nlen a+nlen b) d (dig a i) b i k c')\/(k=nlen b+1/\c'=0/\MulOut w wq w.heap.size (nlen a+nlen b) a b (i+1) (nlen b))))
   case atStart=>exact⟨0,0,rfl,rfl,rfl,.inl ⟨by omega,HMI.out⟩⟩
   case round=>
    obtain⟨k,c,hg2,rfl,rfl,⟨hk,hmi⟩|⟨rfl,rfl,hmo⟩⟩:=hrel
    .have hcar:=mul_carry hmi d1 HDD.out;have HI:=LH hmi
     by_cases hlt2:k<nlen b
     .obtain⟨b2,o2,rfl,hl2,hc2⟩:=HC2.out.open (by omega);obtain⟨d',hr',hd',-,hB'⟩:=hmi;have g1:=GA.out _ hB';have g2:=(hB'.cell (p:=⟨b2,o2+k,none⟩) hl2).trans (hc2 k hlt2);unfold dv at g2;have d2:=dig_lt' b k;have fc:=hr'.cell (show i+k<nlen a+nlen b by omega);rw[hd' (i+k) NL]at fc;have fz:=hr'.frozen (i+k);have d3:=HDD.out (i+k);have hsm:=mul_lt8 d1 d2;have HB2:=LH hB';clear hc2 hr' hd' hB'
      go_wp2
      go_quiet (fail)
      go_wp2;rw[show((d (i+k):Int)+(c:Int)+(dig a i:Int)*(dig b k:Int))=((c+dig a i*dig b k+d (i+k):Nat):Int)from by push_cast;omega]
      go_roundg (nlen b+2-(k+1))
      case rel=>exact⟨k+1,_,rfl,by go_num,by push_cast;rfl,.inl ⟨by omega,mulIn_step (HI.out.drewN _) NL rfl⟩⟩
      case measure=>omega
     .obtain rfl:k=nlen b:=by omega
      obtain⟨d',hr',hd',-,hB'⟩:=hmi;have fc:=hr'.cell (show i+nlen b<nlen a+nlen b by omega);rw[hd' (i+nlen b) NL,HZ.out _ NL]at fc;have fz:=hr'.frozen (i+nlen b);clear hr' hd' hB'
      by_cases hc0:0<c
      .have HE:=LH (mulIn_end HI.out NL (lt_pow_nlen b) (by omega) hcar HZ.out HV.out);have hcm:(c:Int)%10000=c:=by omega
       have hcd:(c:Int)/10000=(0:Nat):=by omega
       have HCM:=LH hcm;have HCD:=LH hcd;clear hcm hcd;go_wp2;rw[HCM.out,HCD.out]
       go_roundg (nlen b+2-(nlen b+1))
       case rel=>exact⟨nlen b+1,0,rfl,by go_num,rfl,.inr ⟨rfl,rfl,HE.out⟩⟩
       case measure=>omega
      .obtain rfl:c=0:=by omega
       have HE:=LH (mulIn_end0 HI.out (lt_pow_nlen b) (by omega) HZ.out HV.out);clear hc0;go_wp2
       go_roundg (nlen a-(i+1))
       case rel=>exact⟨i+1,rfl,by omega,by go_num,HE.out⟩
       case measure=>omega
    .have HE:=LH hmo;go_wp2
     go_roundg (nlen a-(i+1))
     case rel=>exact⟨i+1,rfl,by omega,by go_num,HE.out⟩
     case measure=>omega
  .obtain rfl:i=nlen a:=by omega
   obtain⟨d,hrow,-,hv,hB⟩:=hmo;rw[mod_of_lt (lt_pow_nlen a)]at hv;have HE:=LH (hrow.cells hv);have HBw:=LH hB;clear hrow hv hB
   go_wp2_with fail
   refine(trim_c HE.out.1 HE.out.2 NL (by omega)).mono ?_;rintro e w' ⟨rfl,rfl⟩;go_wp2;go_ret;exact⟨_,rfl,ZD.mk HE.out.1 HE.out.2 NL,HBw.out⟩
def ZZ (w:World)(v:Value)(z:Int):Prop:=∃vd,v=.agg #[.bool (decide (z<0)),vd]/\ZD w vd z.natAbs
theorem ZZ.pres {w w':World}{v:Value}{z:Int}(h:ZZ w v z)(hp:Pres 3 w w'):ZZ w' v z:=by
 obtain⟨vd,e,h1⟩:=h;exact⟨vd,e,h1.pres hp⟩
theorem ZZ.mk {w:World}{vd:Value}{m:Nat}{z:Int}{b:Bool}(h:ZD w vd m)(hb:decide (z<0)=b)(hz:z.natAbs=m):ZZ w (.agg #[.bool b,vd]) z:=by
 subst hb hz;exact⟨_,rfl,h⟩
theorem ZD.cells' {w:World}{v:Value}{n:Nat}(h:ZD w v n):∃ao cap,v=.slice ao (nlen n) cap:=by
 obtain⟨ao,cap,e,_⟩:=h;exact⟨ao,cap,e⟩
theorem set2_heap {w:World}{b:Nat}{x y x' y':Value}{T:TypeId}(h:w.heap[b]?=some (.cells #[x,y] T)):
 ((w.setCell ⟨b,0,none⟩ x').setCell ⟨b,1,none⟩ y').heap[b]?=some (.cells #[x',y'] T):=by
 simp[World.setCell,Array.getElem?_modify,h]
theorem set21_heap {w:World}{b:Nat}{x y y':Value}{T:TypeId}(h:w.heap[b]?=some (.cells #[x,y] T)):
 (w.setCell ⟨b,1,none⟩ y').heap[b]?=some (.cells #[x,y'] T):=by
 simp[World.setCell,Array.getElem?_modify,h]
theorem loadZ {w:World}{b:Nat}{T:TypeId}{a0 a1:Value}(h:w.heap[b]?=some (.cells #[a0,a1] T)):(loadVar 47 ⟨b,0,none⟩).run Tryz.prog w=.ok (.agg #[a0,a1]) w:=by
 obtain⟨c0,c1,-,-⟩:=row2 h;clear h;go_simp
theorem OwnS.keepFrom {T:TypeId}{sz base:Nat}{w w':World}{v:Value}{n:Nat}{f:Nat->Value}(h:OwnS T sz base w v n f)(hb:∀k,base<=k->w'.heap[k]?=w.heap[k]?):OwnS T sz base w' v n f:=by
 obtain⟨xs,h1,h2⟩:=h;refine⟨xs,⟨h1.1,?_⟩,h2⟩;rcases h1.2 with h1|⟨g,cap,cur,e,hg,hh,r⟩
 .exact .inl h1
 .exact .inr ⟨g,cap,cur,e,hg,by rw[hb g hg];exact hh,r⟩
theorem slice_of {v:Value}{w:World}{T:TypeId}{base k:Nat}{f:Nat->Value}(h:OwnS T 1 base w v k f):∃ao cap,v=.slice ao k cap:=by
 obtain⟨ao,cap,e,_⟩:=h.cells;exact⟨ao,cap,e⟩
structure ZIntIn (w wr:World) (neg:Bool) (ov:Value) (m j:Nat):Prop where
 own:OwnS 3 1 (w.heap.size+2) wr ov j (dv m)
 le:j<=nlen m
 blk:wr.heap[w.heap.size+1]?=some (.cells #[.bool neg,ov] 47)
 res:wr.heap[w.heap.size]?=some (.cells #[.bool false,.slice none 0 0] 47)
 bel:Bel w.heap.size w wr
theorem ZIntIn.step {w wr w':World}{neg:Bool}{ov ov2:Value}{m j:Nat}{u:Value}{o:Obj}(h:ZIntIn w wr neg ov m j)(hm:m/B4^j≠0)
 (hown:OwnS 3 1 (w.heap.size+2) w' ov2 (j+1) (appF (j*1) (dv m) fun _=>u)) (hgrow:(wr.alloc o).grownBy w' ov.ownBlock) (hdr:(wr.alloc o).drawn<=w'.drawn)
 (hu:u=dv m j):ZIntIn w (w'.setCell ⟨w.heap.size+1,1,none⟩ ov2) neg ov2 m (j+1):=by
 have hlt:=BlkT.lt ⟨_,_,h.blk⟩
 have hb:∀b,b<w.heap.size+2->w'.heap[b]?=wr.heap[b]?:=fun b hb=>by
  rw[hgrow.block b (by simp;omega) (fun e=>by have:=(h.own.own b e.symm).1;omega)];exact heap_old _ _ (by omega)
 have hbl:Bel w.heap.size w w':=(h.bel.alloc h.bel.size _).grownS (h.own.alloc _) hgrow hdr (by have:=h.bel.size;simp;omega) (by omega);refine⟨?_,?_,?_,?_,hbl.setCell (by simp) _⟩
 .have h2:=own_snoc hown hu;exact OwnS.keepFrom h2 fun k hk=>Below.heap_setCell _ _ _ _ (by simp;omega)
 .have h1:B4^j<=m:=by
   by_cases hc:m<B4^j
   .exact absurd (Nat.div_eq_of_lt hc) hm
   .omega
  have:=mt (nlen_le_iff m j).1 (by omega);omega
 .exact set21_heap ((hb _ (by omega)).trans h.blk)
 .rw[Below.heap_setCell _ _ _ _ (by simp)];exact(hb _ (by omega)).trans h.res
theorem zint_cells {w wr w':World}{neg:Bool}{ov:Value}{m j:Nat}{o:Obj}(h:ZIntIn w wr neg ov m j)(ho:OwnS 3 1 (w.heap.size+2) wr ov j (dv m))(hgrow:(wr.alloc o).grownBy w' ov.ownBlock):
 w'.cell? ⟨w.heap.size+1,0,none⟩=some (.bool neg)/\w'.cell? ⟨w.heap.size+1,1,none⟩=some ov/\w'.frozen? ⟨w.heap.size+1,0,none⟩=false/\w'.frozen? ⟨w.heap.size+1,1,none⟩=false:=by
 have hlt:=BlkT.lt ⟨_,_,h.blk⟩;exact row2 ((hgrow.block _ (by simp;omega) (fun e=>by have:=(ho.own _ e.symm).1;omega)).trans ((heap_old _ _ (by omega)).trans h.blk))
theorem zint_pos {w:World}{m:Nat}(hm:m<9223372036854775808):
 Calls Tryz.prog 112 #[.int .i64 (m:Int)] w (Gives w fun v w'=>ZZ w' v (m:Int)):=by
 have hnl:nlen m<=5:=(nlen_le_iff _ _).2 (Nat.lt_of_le_of_lt (show m<=9223372036854775808 by omega) (by decide));have HM:=LH hm;clear hm
 go_enter Tryz.func112,Tryz.ntmps112
 go_wp2
 have HS:Hid (ZIntIn w ((w.alloc (.cells #[.bool false,.slice none 0 0] 47)).alloc (.cells #[.bool false,.slice none 0 0] 47)) false (.slice none 0 0) m 0):=
  ⟨OwnS.nil _ _ _ _ _,Nat.zero_le _,heap_new _ _ (by simp),(heap_old _ _ (by simp)).trans (heap_new _ _ rfl),Bel.new.alloc (by simp) _⟩
 have HZ:Hid (m/B4^0=m):=by show _=_;simp
 go_loopg [0] (nlen m+1) (fun g n wr=>∃j ao cap,g=nlen m+1-j/\n=.int .i64 ((m/B4^j:Nat):Int)/\ZIntIn w wr false (.slice ao j cap) m j)
 case atStart=>exact⟨0,none,0,rfl,by rw[HZ.out],HS.out⟩
 case round=>
  clear HS HZ;obtain⟨j,ao,cap,hg,rfl,hp⟩:=hrel;have HP:=LH hp;have HO:=LH hp.own;have hjl:=hp.le;have hbs:=hp.bel.size;have hlt:=BlkT.lt ⟨_,_,hp.blk⟩;obtain⟨c0,c1,f0,f1⟩:=row2 hp.blk;obtain⟨r0,r1,s0,s1⟩:=row2 hp.res;have hlm1:j+1<=maxLen:=by unfold maxLen;omega
  have hlb1:(j+1)*8<=140737488355328:=by omega
  have HBS:Hid (∀o:Obj,w.heap.size+2<=(wr.alloc o).heap.size):=fun o=>by simp;omega
  obtain⟨q,hq⟩:∃q,q=m/B4^j:=⟨_,rfl⟩
  have HD:Hid (dig m j=q%10000):=by rw[hq];rfl
  have HN:Hid (m/B4^(j+1)=q/10000):=by rw[hq,Nat.pow_succ,<-Nat.div_div_eq_div_mul];rfl
  have hqm:q<=9223372036854775808:=by rw[hq];exact Nat.le_trans (Nat.div_le_self _ _) (by have:=HM.out;omega)
  have HQ:=LH hq;rw[<-hq];clear hp hq
  by_cases hz:q=0
  .have HE:Hid (j=nlen m):=by
    have:=HQ.out;rw[hz]at this;have:=(Nat.div_eq_zero_iff).1 this.symm;have:=B4_pow_pos j;have:=(nlen_le_iff m j).2 (by omega)
    show _=_
    omega
   have hb1:((q:Int) !=0)=false:=by simp;omega
   have HV:Hid (ZD wr (.slice ao j cap) m):=ZD.own (by rw[<-HE.out];exact HO.out);clear hz;go_wp2;refine post_box rfl rfl rfl (loadZ (set2_heap HP.out.res)) ⟨_,rfl,ZZ.mk (HV.out.pres (Pres.set2 ⟨_,_,HP.out.res⟩ (by decide) _ _ _ _)) (by simp) (by omega),(HP.out.bel.setCell (by simp) _).setCell (by simp) _⟩
  .have hb1:((q:Int) !=0)=true:=by simp;omega
   have HQZ:Hid (m/B4^j≠0):=by rw[<-HQ.out];exact hz
   have hq0:0<q:=by omega
   have hjl1:j+1<=nlen m:=by
    by_cases hc:j+1<=nlen m
    .exact hc
    .exact absurd (Nat.div_eq_of_lt ((nlen_le_iff m j).1 (by omega))) HQZ.out
   clear hz
   go_wp2_with (at_builtin;go_must (refine wpList_append_fn rfl (.tmp 17) (.tmp 19) 28 rfl (w.heap.size+2) Tryz.underlying28 infoInt rfl (by decide) rfl (HO.out.alloc _) rfl (cells1 _ _ _) (fun _=>rfl) hlm1 hlb1 (HBS.out _) ?_;intro v' w' hown hgrow hdr;obtain⟨ao',cap',rfl⟩:=slice_of hown;have hk1:=zint_cells HP.out HO.out hgrow;obtain⟨c0',c1',f0',f1'⟩:=hk1))
   have HX:=LH (HP.out.step HQZ.out hown hgrow hdr (by unfold dv;rw[HD.out];push_cast;rfl))
   go_roundg (nlen m+1-(j+1))
   case rel=>exact⟨j+1,_,_,rfl,by rw[HN.out];push_cast;rfl,HX.out⟩
   case measure=>omega
theorem zint_neg {w:World}{m:Nat}(hm:m<=9223372036854775808)(h0:0<m):
 Calls Tryz.prog 112 #[.int .i64 (-(m:Int))] w (Gives w fun v w'=>ZZ w' v (-(m:Int))):=by
 have hnl:nlen m<=5:=(nlen_le_iff _ _).2 (Nat.lt_of_le_of_lt (show m<=9223372036854775808 by omega) (by decide));have HM:=LH hm;have HMP:=LH h0;have hbn:decide (-(m:Int)<0)=true:=by simp;omega
 clear hm
 go_enter Tryz.func112,Tryz.ntmps112
 go_wp2
 have HS:Hid (ZIntIn w ((w.alloc (.cells #[.bool false,.slice none 0 0] 47)).alloc (.cells #[.bool true,.slice none 0 0] 47)) true (.slice none 0 0) m 0):=
  ⟨OwnS.nil _ _ _ _ _,Nat.zero_le _,heap_new _ _ (by simp),(heap_old _ _ (by simp)).trans (heap_new _ _ rfl),Bel.new.alloc (by simp) _⟩
 have HZ:Hid (m/B4^0=m):=by show _=_;simp
 go_loopg [0] (nlen m+1) (fun g n wr=>∃j ao cap,g=nlen m+1-j/\n=.int .i64 (-((m/B4^j:Nat):Int))/\ZIntIn w wr true (.slice ao j cap) m j)
 case atStart=>exact⟨0,none,0,rfl,by rw[HZ.out],HS.out⟩
 case round=>
  clear HS HZ;obtain⟨j,ao,cap,hg,rfl,hp⟩:=hrel;have HP:=LH hp;have HO:=LH hp.own;have hjl:=hp.le;have hbs:=hp.bel.size;have hlt:=BlkT.lt ⟨_,_,hp.blk⟩;obtain⟨c0,c1,f0,f1⟩:=row2 hp.blk;obtain⟨r0,r1,s0,s1⟩:=row2 hp.res;have hlm1:j+1<=maxLen:=by unfold maxLen;omega
  have hlb1:(j+1)*8<=140737488355328:=by omega
  have HBS:Hid (∀o:Obj,w.heap.size+2<=(wr.alloc o).heap.size):=fun o=>by simp;omega
  obtain⟨q,hq⟩:∃q,q=m/B4^j:=⟨_,rfl⟩
  have HD:Hid (dig m j=q%10000):=by rw[hq];rfl
  have HN:Hid (m/B4^(j+1)=q/10000):=by rw[hq,Nat.pow_succ,<-Nat.div_div_eq_div_mul];rfl
  have hqm:q<=9223372036854775808:=by rw[hq];exact Nat.le_trans (Nat.div_le_self _ _) (by have:=HM.out;omega)
  have HQ:=LH hq;rw[<-hq];clear hp hq
  by_cases hz:q=0
  .have HE:Hid (j=nlen m):=by
    have:=HQ.out;rw[hz]at this;have:=(Nat.div_eq_zero_iff).1 this.symm;have:=B4_pow_pos j;have:=(nlen_le_iff m j).2 (by omega)
    show _=_
    omega
   have hb1:((-(q:Int)) !=0)=false:=by simp;omega
   have HV:Hid (ZD wr (.slice ao j cap) m):=ZD.own (by rw[<-HE.out];exact HO.out);clear hz;go_wp2;refine post_box rfl rfl rfl (loadZ (set2_heap HP.out.res)) ⟨_,rfl,ZZ.mk (HV.out.pres (Pres.set2 ⟨_,_,HP.out.res⟩ (by decide) _ _ _ _)) (by simp;exact Hid.out HMP) (by omega),(HP.out.bel.setCell (by simp) _).setCell (by simp) _⟩
  .have hb1:((-(q:Int)) !=0)=true:=by simp;omega
   have HQZ:Hid (m/B4^j≠0):=by rw[<-HQ.out];exact hz
   have hq0:0<q:=by omega
   have hjl1:j+1<=nlen m:=by
    by_cases hc:j+1<=nlen m
    .exact hc
    .exact absurd (Nat.div_eq_of_lt ((nlen_le_iff m j).1 (by omega))) HQZ.out
   clear hz;have HT1:(-(q:Int)).tmod 10000=-((q%10000:Nat):Int):=by rw[Int.neg_tmod,Int.tmod_eq_emod_of_nonneg (by omega)];push_cast;rfl
   have HT2:(-(q:Int)).tdiv 10000=-((q/10000:Nat):Int):=by rw[Int.neg_tdiv,Int.tdiv_eq_ediv_of_nonneg (by omega)];push_cast;rfl
   obtain⟨r,hr⟩:∃r,r=q%10000:=⟨_,rfl⟩
   obtain⟨p,hp⟩:∃p,p=q/10000:=⟨_,rfl⟩
   rw[<-hr]at HT1 HD;rw[<-hp]at HT2 HN;have hrl:r<10000:=by omega
   have hpl:p<=922337203685477:=by omega
   clear hr hp
   by_cases hr0:r=0
   .have HR:=LH hr0;subst hr0
    go_wp2_with (at_builtin;go_must (refine wpList_append_fn rfl (.tmp 17) (.tmp 19) 28 rfl (w.heap.size+2) Tryz.underlying28 infoInt rfl (by decide) rfl (HO.out.alloc _) rfl (cells1 _ _ _) (fun _=>rfl) hlm1 hlb1 (HBS.out _) ?_;intro v' w' hown hgrow hdr;obtain⟨ao',cap',rfl⟩:=slice_of hown;have hk1:=zint_cells HP.out HO.out hgrow;obtain⟨c0',c1',f0',f1'⟩:=hk1))
    have HX:=LH (HP.out.step HQZ.out hown hgrow hdr (by unfold dv;rw[HD.out]<;>simp))
    go_roundg (nlen m+1-(j+1))
    case rel=>exact⟨j+1,_,_,rfl,by rw[HN.out],HX.out⟩
    case measure=>omega
   .have hr1:0<r:=by omega
    clear hr0
    go_wp2_with (at_builtin;go_must (refine wpList_append_fn rfl (.tmp 17) (.tmp 19) 28 rfl (w.heap.size+2) Tryz.underlying28 infoInt rfl (by decide) rfl (HO.out.alloc _) rfl (cells1 _ _ _) (fun _=>rfl) hlm1 hlb1 (HBS.out _) ?_;intro v' w' hown hgrow hdr;obtain⟨ao',cap',rfl⟩:=slice_of hown;have hk1:=zint_cells HP.out HO.out hgrow;obtain⟨c0',c1',f0',f1'⟩:=hk1))
    have HX:=LH (HP.out.step HQZ.out hown hgrow hdr (by unfold dv;rw[HD.out]<;>simp))
    go_roundg (nlen m+1-(j+1))
    case rel=>exact⟨j+1,_,_,rfl,by rw[HN.out],HX.out⟩
    case measure=>omega
theorem zint_c {w:World}{n:Int}(h1:-9223372036854775808<=n)(h2:n<9223372036854775808):
 Calls Tryz.prog 112 #[.int .i64 n] w (Gives w fun v w'=>ZZ w' v n):=by
 by_cases h:0<=n
 .obtain⟨m,rfl⟩:=Int.eq_ofNat_of_zero_le h;exact zint_pos (by omega)
 .obtain⟨m,hm⟩:=Int.eq_ofNat_of_zero_le (show 0<= -n by omega);obtain rfl:n=-(m:Int):=by omega
  exact zint_neg (by omega) (by omega)
theorem own_one (T:TypeId)(w:World)(u:Value):OwnS T 1 w.heap.size (w.alloc (.cells #[u] T)) (.slice (some ⟨w.heap.size,0,none⟩) 1 1) 1 (fun _=>u):=by
 refine⟨[u],⟨by simp,.inr ⟨w.heap.size,1,#[u],rfl,Nat.le_refl _,heap_new _ _ rfl,Nat.le_refl _,by unfold maxLen;omega,by simp,by simp⟩⟩,fun j hj=>?_⟩;have e:j=0:=by omega
 subst e;rfl
theorem one_dv (a:Nat):∀j,(dv a j).oneCell'=true:=fun _=>rfl
theorem cells_one {T:TypeId}{w:World}{ao:Option Addr}{n:Nat}{f:Nat->Value}(h:CellsAt T w ao n f):CellsAt T w ao (n*1) f:=h.mono (by omega)
theorem dig_cons_zero {r d:Nat}(hd:d<10000):dig (r*B4+d) 0=d:=by
 unfold dig B4;simp;omega
theorem dig_cons_succ {r d k:Nat}(hd:d<10000):dig (r*B4+d) (k+1)=dig r k:=by
 unfold dig;rw[Nat.pow_succ,Nat.mul_comm (B4^k),<-Nat.div_div_eq_div_mul]
 congr 2
 unfold B4;omega
theorem cons_cells {r d:Nat}(hd:d<10000)(j:Nat):appF (1*1) (fun _=>Value.int .i64 d) (dv r) j=dv (r*B4+d) j:=by
 cases j with
 |zero=>rw[appF_lt _ _ (by omega)];unfold dv;rw[dig_cons_zero hd]
 |succ k=>rw[appF_ge _ _ (by omega)];unfold dv;rw[dig_cons_succ hd];rfl
theorem cons_lt {r d n:Nat}(hd:d<10000)(hr:r<B4^n):r*B4+d<B4^(1+n):=by
 rw[Nat.add_comm 1 n,Nat.pow_succ];have:(r+1)*B4<=B4^n*B4:=Nat.mul_le_mul_right _ hr;rw[Nat.add_mul]at this;unfold B4 at *;omega
theorem guess_le {X b P:Nat}:(X/P)/(b/P+1)*b<=X:=by
 rcases Nat.eq_zero_or_pos P with rfl|hP
 .simp
 have h1:(X/P)/(b/P+1)*(b/P+1)<=X/P:=Nat.div_mul_le_self _ _
 have h2:b<=(b/P+1)*P:=by
  have:=Nat.mod_add_div b P;have:=Nat.mod_lt b hP;rw[Nat.add_mul,Nat.mul_comm (b/P)];omega
 calc(X/P)/(b/P+1)*b<=(X/P)/(b/P+1)*((b/P+1)*P):=Nat.mul_le_mul_left _ h2
  _=(X/P)/(b/P+1)*(b/P+1)*P:=by rw[Nat.mul_assoc]
  _<=X/P*P:=Nat.mul_le_mul_right _ h1
  _<=X:=Nat.div_mul_le_self _ _
theorem over_cons {wr w':World}{v':Value}{ov:Value}{R d:Nat}{u:Value}(hd:d<10000)
 (hown:OwnS 3 1 wr.heap.size w' v' (1+nlen R) (appF (1*1) (fun _=>.int .i64 d) (dv R))) (hgrow:(wr.alloc (.cells #[u] 3)).grownBy w' ov.ownBlock) (hov:ov=.slice (some ⟨wr.heap.size,0,none⟩) 1 1)
 (hdr:(wr.alloc (.cells #[u] 3)).drawn<=w'.drawn):∃ao cap,v'=.slice ao (1+nlen R) cap/\1+nlen R<=cap/\CellsAt 3 w' ao (1+nlen R) (dv (R*B4+d))/\R*B4+d<B4^(1+nlen R)/\Bel wr.heap.size wr w':=by
 subst hov;have h2:=hown.congr (g:=dv (R*B4+d)) fun j _=>cons_cells hd j;obtain⟨ao,cap,e,h3,h4⟩:=h2.cells;refine⟨ao,cap,e,h3,h4.mono (by omega),cons_lt hd (lt_pow_nlen R),?_⟩;exact Bel.new.grown hgrow hdr (by simp) (fun k hk=>by cases hk;exact Nat.le_refl _)
theorem top0_c {w:World}{va:Value}{a:Nat}(ha:ZD w va a)(h4:nlen a<=4):
 Calls Tryz.prog 196 #[va,.int .i64 0] w fun e w'=>e=.returned (.int .i64 a)/\w=w':=by
 have h:=top_c ha (Nat.zero_le _) (by omega) (by omega)
 simpa using h
theorem run_field_D (W:World)(x:Bool)(a:Option Addr)(n c:Nat):(Instr.field 47 (.agg #[.bool x,.slice a n c]) 1).run Tryz.prog W=.ok (.slice a n c) W:=by kernel_rfl
structure FixIn (w2 wq:World) (rv:Value) (X b k:Nat):Prop where
 rest:ZDF w2.heap.size wq rv (X-b*k)
 le:b*k<=X
 bel:Bel w2.heap.size w2 wq
structure OverIn (w wr:World) (B n a b j:Nat) (rv:Value):Prop where
 row:∃f,wr.rowIs B 3 n f/\∀t,j<=t->t<n->f t=dv (a/b) t
 rest:ZDF (B+1) wr rv (a/B4^j%b)
 lt:B<wr.heap.size
 bel:Bel w.heap.size w wr
theorem OverIn.step {w wr w':World}{B n a b j:Nat}{rv rv':Value}{k:Nat}(h:OverIn w wr B n a b (j+1) rv)(hw:w.heap.size<=B)(hb:Bel wr.heap.size wr w')(h0:0<b)
 (hk:k=(a/B4^(j+1)%b*B4+dig a j)/b) (hr:ZDF (B+1) w' rv' (a/B4^(j+1)%b*B4+dig a j-b*k)):OverIn w (w'.setCell ⟨B,j,none⟩ (.int .i64 k)) B n a b j rv':=by
 obtain⟨⟨f,h1,h2⟩,h3,h4,h5⟩:=h;obtain⟨e1,e2,e3⟩:=dig_div a b j h0;have h1':w'.rowIs B 3 n f:=h1.of_block (hb.block _ h4);refine⟨⟨_,h1'.set j _,fun t ht1 ht2=>?_⟩,?_,?_,(h5.next h5.size hb).setCell hw _⟩
 .by_cases e:t=j
  .rw[if_pos e,e];unfold dv;rw[e1,hk]
  .rw[if_neg e];exact h2 t (by omega) ht2
 .rw[e2]
  have h6:a/B4^(j+1)%b*B4+dig a j-b*k=(a/B4^(j+1)%b*B4+dig a j)%b:=by
   rw[hk];exact(Nat.mod_def _ b).symm
  rw[h6]at hr;exact hr.keep fun k hk _=>Below.heap_setCell _ _ _ _ (by simp;omega)
 .have:=hb.size;simp[World.setCell];omega
theorem over_c {w:World}{va vb:Value}{a b:Nat}(ha:ZD w va a)(hb:ZD w vb b)(h0:0<b)(hsa:nlen a<=10000000000)(hsb:nlen b<=10000000000):
 Calls Tryz.prog 162 #[va,vb] w fun e w'=>∃v1 v2,e=.returned (.tuple #[v1,v2])/\ZD w' v1 (a/b)/\ZD w' v2 (a%b)/\Bel w.heap.size w w':=by
 have HVB:=LH hb;obtain⟨aa,capa,rfl,-,hca⟩:=ha;obtain⟨ab,capb,rfl⟩:=hb.cells';have hmk:=run_make_row' (P:=Tryz.prog) 28 3 (.int .i64 0) 8 Tryz.underlying28 infoInt rfl .i64 .i64 (nlen a) (by omega) (by omega);have hfld:=run_field_D;have HC1:=LH hca;have hnb:0<nlen b:=by have:=mt nlen_eq_zero.1 (show¬b=0 by omega);omega
 clear hca hb
 go_enter Tryz.func162,Tryz.ntmps162
 go_wp2
 have HS:Hid (OverIn w (w.alloc (.cells (madeCells #[.int .i64 0] (nlen a)) 3)) w.heap.size (nlen a) a b (nlen a) (.slice none 0 0)):=
  ⟨⟨_,World.rowIs_made w _ _ _,fun t h1 h2=>by omega⟩,by rw[Nat.div_eq_of_lt (lt_pow_nlen a),Nat.zero_mod];exact ZDF.nil _ _,by simp,(Bel.refl _ _).alloc NL _⟩
 clear hmk
 go_loopg [6,8] (nlen a) (fun g r i wr=>∃j:Nat,g=j/\j<=nlen a/\i=.int .i64 ((j:Int)-1)/\OverIn w wr w.heap.size (nlen a) a b j r)
 case atStart=>exact⟨nlen a,rfl,Nat.le_refl _,rfl,HS.out⟩
 case round=>
  clear HS;obtain⟨j,hg,hj,rfl,hin⟩:=hrel;have HI:=LH hin
  cases j with
  |zero=>
   obtain⟨⟨f,hrow,hf⟩,hr,hlt,hB⟩:=hin;have HE:Hid (CellsAt 3 wr (some ⟨w.heap.size,0,none⟩) (nlen a) (dv (a/b))):=CellsAt.of_row' hrow fun t ht=>hf t (Nat.zero_le _) ht;have HL:=LH (Nat.lt_of_le_of_lt (Nat.div_le_self a b) (lt_pow_nlen a));have HR:Hid (ZD wr u6 (a%b)):=by have:=hr.zd;show ZD wr u6 (a%b);simpa using this
   have HB:=LH hB;clear hrow hf hr hB
   go_wp2_with fail
   refine(trim_c HE.out HL.out NL (by omega)).mono ?_;rintro e w' ⟨rfl,rfl⟩;go_wp2
   go_ret2
   exact⟨_,_,rfl,ZD.mk HE.out HL.out NL,HR.out,HB.out⟩
  |succ j=>
   obtain⟨wo,rfl⟩:∃wo:World,wo=wr:=⟨_,rfl⟩
   obtain⟨b1,o1,rfl,hl1,hc1⟩:=HC1.out.open (by omega);have g1:=(hin.bel.cell (p:=⟨b1,o1+j,none⟩) hl1).trans (hc1 j (by omega));unfold dv at g1;have hdl:=dig_lt' a j;obtain⟨R,hR⟩:∃R,R=a/B4^(j+1)%b:=⟨_,rfl⟩
   have hRb:R<b:=by rw[hR];exact Nat.mod_lt _ h0
   have hrest:=hin.rest;rw[<-hR]at hrest;have HRR:=LH hR;have HRZ:=LH hrest;obtain⟨ar,capr,rfl,-,hrc,-⟩:=hrest;have HRC:=LH hrc;have hnR:=nlen_mono (Nat.le_of_lt hRb);have hlm1:1+nlen R<=maxLen:=by unfold maxLen;omega
   have hlb1:(1+nlen R)*8<=140737488355328:=by omega
   have HBS:Hid (∀o:Obj,wo.heap.size<=(wo.alloc o).heap.size):=fun o=>by simp
   have hbs:=hin.bel.size;have hlt:=hin.lt;clear hc1 hin hrc hR
   go_wp2_with (at_builtin;go_must (refine wpList_append_fn rfl (.tmp 24) (.tmp 25) 28 rfl wo.heap.size Tryz.underlying28 infoInt rfl (by decide) rfl (own_one _ _ _) rfl ((cells_one HRC.out).pres (Pres.alloc _ _)) (one_dv R) hlm1 hlb1 (HBS.out _) ?_;intro v' w' hown hgrow hdr))
   obtain⟨ax,capx,rfl,hcx,hxc,hxl,hbw⟩:=over_cons hdl hown hgrow rfl hdr;obtain⟨X,hX⟩:∃X,X=R*B4+dig a j:=⟨_,rfl⟩
   rw[<-hX]at hxc hxl;have HXE:=LH hX;have HXC:=LH hxc;have HXL:=LH hxl;have HBW:=LH hbw
   have hXb:X<b*10000:=by
    have:(R+1)*B4<=b*B4:=Nat.mul_le_mul_right _ hRb;rw[Nat.add_mul]at this;unfold B4 at *;omega
   have hnX1:=(nlen_le_iff _ _).2 hxl;have hnX:nlen X<=nlen b+1:=by omega
   have hXq:X/b<10000:=by rw[Nat.div_lt_iff_lt_mul h0,Nat.mul_comm];exact hXb
   have HN9:Hid (nlen 9999<=100000000000):=Nat.le_trans ((nlen_le_iff 9999 1).2 (by decide)) (by decide);have hbws:=hbw.size;clear hown hgrow hdr hxc hX hxl;refine(trim_c HXC.out HXL.out hcx (by omega)).mono ?_;rintro e w1 ⟨rfl,rfl⟩;obtain⟨w1,hw1⟩:∃w1,w1=w':=⟨_,rfl⟩
   rw[<-hw1]at HXC HBW hbw hbws|-;clear hw1;have HZX:Hid (ZD w1 (.slice ax (nlen X) capx) X):=ZD.mk HXC.out HXL.out hcx;have HB1:Hid (Bel w.heap.size w w1):=HI.out.bel.next HI.out.bel.size hbw;have HVB1:=LH (HVB.out.pres HB1.out.pb);clear hbw
   by_cases hA:nlen b<=3
   .obtain⟨k0,hk0⟩:∃k0,k0=X/b:=⟨_,rfl⟩
    have hk0l:k0<10000:=by omega
    have HKX:Hid (b*k0<=X):=by rw[hk0];exact Nat.mul_div_le _ _
    have HK0:Hid ((X:Int)/b=(k0:Nat)):=by show _=_;rw[hk0];push_cast;rfl
    clear hk0
    go_wp2_with fail
    refine(top0_c HZX.out (by omega)).mono ?_;rintro e w1' ⟨rfl,rfl⟩
    go_wp2_with fail
    refine(top0_c HVB1.out (by omega)).mono ?_;rintro e w1' ⟨rfl,rfl⟩;have hX64:X<10000000000000000:=Nat.lt_of_lt_of_le (lt_pow_nlen X) (Nat.le_trans (B4_pow_mono (show nlen X<=4 by omega)) (by decide))
    go_wp2_with fail
    rw[HK0.out,show wrap64 (k0:Int)=k0 from by unfold wrap64;omega];refine(zint_pos (m:=k0) (by omega)).mono ?_;rintro e w2 ⟨vz,rfl,⟨vd,rfl,hvd⟩,hb2⟩;rw[Int.natAbs_natCast]at hvd;obtain⟨av,capv,rfl⟩:=hvd.cells';have hs2:=hb2.size
    go_wp2_with fail
    refine(times_c (HVB.out.pres (Pres.below ((HB1.out.next HB1.out.size hb2).toBelow))) hvd (by omega) (Nat.le_trans (nlen_mono (show k0<=9999 by omega)) HN9.out)).mono ?_;rintro e w3 ⟨vt,rfl,hvt,hb3⟩;have hs3:=hb3.size
    go_wp2_with fail
    refine(minusF_c (HZX.out.pres (Pres.below ((hb2.next hs2 hb3).toBelow))) hvt HKX.out (by omega)).mono ?_;rintro e w4 ⟨vm,rfl,hvm,hb4⟩;have hs4:=hb4.size;obtain⟨am,capm,em⟩:=hvm.zd.cells';have HFX:Hid (FixIn w1 w4 vm X b k0):=⟨hvm.mono (by omega),HKX.out,(hb2.next hs2 hb3).next (by omega) hb4⟩
    subst em;clear hvm hvt hvd hb2 hb3 hb4;go_wp2
    go_loopg [6,9] (X/b-k0) (fun g2 r kk wq=>∃k ar' cr',g2=X/b-k/\r=.slice ar' (nlen (X-b*k)) cr'/\kk=.int .i64 (k:Nat)/\FixIn w1 wq r X b k)
    case atStart=>exact⟨k0,_,_,rfl,rfl,rfl,HFX.out⟩
    case round=>
     clear HFX;obtain⟨k,ar',cr',hg2,rfl,rfl,hfx⟩:=hrel;have HF:=LH hfx;have hkq:k<=X/b:=by rw[Nat.le_div_iff_mul_le h0,Nat.mul_comm];exact hfx.le
     have hbq:=hfx.bel.size;have HVB2:=LH (HVB.out.pres (Pres.below ((HB1.out.next HB1.out.size hfx.bel).toBelow)));have hnx:=nlen_mono (Nat.sub_le X (b*k));clear hfx
     by_cases hge:b<=X-b*k
     .have HCM:Hid (cmpN (X-b*k) b=if X-b*k=b then 0 else 1):=by show cmpN _ _=_;unfold cmpN;rw[if_neg (by omega)]
      have HKL:Hid (b*(k+1)<=X):=by have:=HF.out.le;show _<=_;rw[Nat.mul_succ];omega
      have hkl:k+1<=X/b:=by rw[Nat.le_div_iff_mul_le h0,Nat.mul_comm];exact HKL.out
      have HGE:=LH hge;clear hge
      go_wp2_with fail
      refine(abs_c HF.out.rest.zd HVB2.out (by omega) (by omega)).mono ?_;rintro e w5 ⟨rfl,hb5⟩;have hs5:=hb5.size;have hcm:0<=cmpN (X-b*k) b:=by rw[HCM.out];split<;>decide
      go_wp2_with fail
      refine(minusF_c (HF.out.rest.zd.pres hb5.pb) (HVB2.out.pres hb5.pb) HGE.out (by omega)).mono ?_;rintro e w6 ⟨vq,rfl,hvq,hb6⟩;obtain⟨aq,capq,eq6⟩:=hvq.zd.cells';have HES:Hid (X-b*k-b=X-b*(k+1)):=by show _=_;rw[Nat.mul_succ];omega
      rw[HES.out]at hvq eq6;have HFN:Hid (FixIn w1 w6 vq X b (k+1)):=⟨hvq.mono (by omega),HKL.out,(HF.out.bel.next (by omega) hb5).next (by omega) hb6⟩
      subst eq6;clear hvq hb5 hb6 hcm;go_wp2
      go_roundg (X/b-(k+1))
      case rel=>exact⟨k+1,_,_,rfl,rfl,by go_num,HFN.out⟩
      case measure=>omega
     .have HKE:Hid (k=X/b):=by
       have:=HF.out.le;have h1:X<b*(k+1):=by rw[Nat.mul_succ];omega
       have h2:X/b<k+1:=by rw[Nat.div_lt_iff_lt_mul h0,Nat.mul_comm];exact h1
       show _=_
       omega
      have HCM:Hid (cmpN (X-b*k) b=-1):=by show cmpN _ _=_;unfold cmpN;rw[if_pos (by omega)]
      clear hge
      go_wp2_with fail
      refine(abs_c HF.out.rest.zd HVB2.out (by omega) (by omega)).mono ?_;rintro e w5 ⟨rfl,hb5⟩;rw[HCM.out];have hs5:=hb5.size;have HB5:Hid (Bel wo.heap.size wo w5):=(HBW.out.next HBW.out.size HF.out.bel).next (by have:=HBW.out.size;omega) hb5;obtain⟨f,hrow,-⟩:=HI.out.row;have hrow5:=hrow.of_block (HB5.out.block _ hlt);have fc:=hrow5.cell (show j<nlen a by omega);have fz:=hrow5.frozen j
      have HST:Hid (OverIn w (w5.setCell ⟨w.heap.size,j,none⟩ (.int .i64 (k:Nat))) w.heap.size (nlen a) a b j (.slice ar' (nlen (X-b*k)) cr')):=
       HI.out.step NL HB5.out h0 (by rw[HKE.out,HXE.out,HRR.out]) (by rw[<-HRR.out,<-HXE.out];exact(HF.out.rest.mono (by have:=HBW.out.size;omega)).keep fun b' _ hb'=>hb5.block _ hb')
      clear hrow hrow5 hb5;go_wp2
      go_roundg j
      case rel=>exact⟨j,rfl,by omega,by go_num,HST.out⟩
      case measure=>omega
   .by_cases hB:nlen b<=nlen X
    .obtain⟨k0,hk0⟩:∃k0,k0=(X/B4^(nlen b-3))/(b/B4^(nlen b-3)+1):=⟨_,rfl⟩
     have HKX:Hid (b*k0<=X):=by rw[hk0,Nat.mul_comm];exact guess_le
     have hk0l:k0<10000:=by
      have:k0<=X/b:=by rw[Nat.le_div_iff_mul_le h0,Nat.mul_comm];exact HKX.out
      omega
     obtain⟨Y1,hY1⟩:∃Y,Y=X/B4^(nlen b-3):=⟨_,rfl⟩
     obtain⟨Y2,hY2⟩:∃Y,Y=b/B4^(nlen b-3):=⟨_,rfl⟩
     have hY1l:Y1<10000000000000000:=by
      rw[hY1,Nat.div_lt_iff_lt_mul (B4_pow_pos _)];refine Nat.lt_of_lt_of_le (lt_pow_nlen X) (Nat.le_trans (B4_pow_mono (show nlen X<=4+(nlen b-3)by omega)) ?_);rw[Nat.pow_add];exact Nat.mul_le_mul_right _ (by decide)
     have hY2l:Y2<10000000000000000:=by
      rw[hY2,Nat.div_lt_iff_lt_mul (B4_pow_pos _)];refine Nat.lt_of_lt_of_le (lt_pow_nlen b) (Nat.le_trans (B4_pow_mono (show nlen b<=4+(nlen b-3)by omega)) ?_);rw[Nat.pow_add];exact Nat.mul_le_mul_right _ (by decide)
     rw[<-hY1,<-hY2]at hk0;have HK0:Hid ((Y1:Int)/((Y2:Int)+1)=(k0:Nat)):=by show _=_;rw[hk0];push_cast;rfl
     have HY1:=LH hY1;have HY2:=LH hY2;have hce:((nlen b:Int)-3)=((nlen b-3:Nat):Int):=by omega
     have HCE:=LH hce;clear hk0 hY1 hY2 hce
     go_wp2_with fail
     rw[HCE.out];refine(top_c HZX.out (f:=nlen b-3) (by omega) (by omega) (by omega)).mono ?_;rintro e w1' ⟨rfl,rfl⟩;rw[<-HY1.out]
     go_wp2_with fail
     rw[HCE.out];refine(top_c HVB1.out (f:=nlen b-3) (by omega) (by omega) (by omega)).mono ?_;rintro e w1' ⟨rfl,rfl⟩;rw[<-HY2.out]
     go_wp2_with fail
     rw[HK0.out,show wrap64 (k0:Int)=k0 from by unfold wrap64;omega];refine(zint_pos (m:=k0) (by omega)).mono ?_;rintro e w2 ⟨vz,rfl,⟨vd,rfl,hvd⟩,hb2⟩;rw[Int.natAbs_natCast]at hvd;obtain⟨av,capv,rfl⟩:=hvd.cells';have hs2:=hb2.size
     go_wp2_with fail
     refine(times_c (HVB.out.pres (Pres.below ((HB1.out.next HB1.out.size hb2).toBelow))) hvd (by omega) (Nat.le_trans (nlen_mono (show k0<=9999 by omega)) HN9.out)).mono ?_;rintro e w3 ⟨vt,rfl,hvt,hb3⟩;have hs3:=hb3.size
     go_wp2_with fail
     refine(minusF_c (HZX.out.pres (Pres.below ((hb2.next hs2 hb3).toBelow))) hvt HKX.out (by omega)).mono ?_;rintro e w4 ⟨vm,rfl,hvm,hb4⟩;have hs4:=hb4.size;obtain⟨am,capm,em⟩:=hvm.zd.cells';have HFX:Hid (FixIn w1 w4 vm X b k0):=⟨hvm.mono (by omega),HKX.out,(hb2.next hs2 hb3).next (by omega) hb4⟩
     subst em;clear hvm hvt hvd hb2 hb3 hb4;go_wp2
     go_loopg [6,9] (X/b-k0) (fun g2 r kk wq=>∃k ar' cr',g2=X/b-k/\r=.slice ar' (nlen (X-b*k)) cr'/\kk=.int .i64 (k:Nat)/\FixIn w1 wq r X b k)
     case atStart=>exact⟨k0,_,_,rfl,rfl,rfl,HFX.out⟩
     case round=>
      clear HFX;obtain⟨k,ar',cr',hg2,rfl,rfl,hfx⟩:=hrel;have HF:=LH hfx;have hkq:k<=X/b:=by rw[Nat.le_div_iff_mul_le h0,Nat.mul_comm];exact hfx.le
      have hbq:=hfx.bel.size;have HVB2:=LH (HVB.out.pres (Pres.below ((HB1.out.next HB1.out.size hfx.bel).toBelow)));have hnx:=nlen_mono (Nat.sub_le X (b*k));clear hfx
      by_cases hge:b<=X-b*k
      .have HCM:Hid (cmpN (X-b*k) b=if X-b*k=b then 0 else 1):=by show cmpN _ _=_;unfold cmpN;rw[if_neg (by omega)]
       have HKL:Hid (b*(k+1)<=X):=by have:=HF.out.le;show _<=_;rw[Nat.mul_succ];omega
       have hkl:k+1<=X/b:=by rw[Nat.le_div_iff_mul_le h0,Nat.mul_comm];exact HKL.out
       have HGE:=LH hge;clear hge
       go_wp2_with fail
       refine(abs_c HF.out.rest.zd HVB2.out (by omega) (by omega)).mono ?_;rintro e w5 ⟨rfl,hb5⟩;have hs5:=hb5.size;have hcm:0<=cmpN (X-b*k) b:=by rw[HCM.out];split<;>decide
       go_wp2_with fail
       refine(minusF_c (HF.out.rest.zd.pres hb5.pb) (HVB2.out.pres hb5.pb) HGE.out (by omega)).mono ?_;rintro e w6 ⟨vq,rfl,hvq,hb6⟩;obtain⟨aq,capq,eq6⟩:=hvq.zd.cells';have HES:Hid (X-b*k-b=X-b*(k+1)):=by show _=_;rw[Nat.mul_succ];omega
       rw[HES.out]at hvq eq6;have HFN:Hid (FixIn w1 w6 vq X b (k+1)):=⟨hvq.mono (by omega),HKL.out,(HF.out.bel.next (by omega) hb5).next (by omega) hb6⟩
       subst eq6;clear hvq hb5 hb6 hcm;go_wp2
       go_roundg (X/b-(k+1))
       case rel=>exact⟨k+1,_,_,rfl,rfl,by go_num,HFN.out⟩
       case measure=>omega
      .have HKE:Hid (k=X/b):=by
        have:=HF.out.le;have h1:X<b*(k+1):=by rw[Nat.mul_succ];omega
        have h2:X/b<k+1:=by rw[Nat.div_lt_iff_lt_mul h0,Nat.mul_comm];exact h1
        show _=_
        omega
       have HCM:Hid (cmpN (X-b*k) b=-1):=by show cmpN _ _=_;unfold cmpN;rw[if_pos (by omega)]
       clear hge
       go_wp2_with fail
       refine(abs_c HF.out.rest.zd HVB2.out (by omega) (by omega)).mono ?_;rintro e w5 ⟨rfl,hb5⟩;rw[HCM.out];have hs5:=hb5.size;have HB5:Hid (Bel wo.heap.size wo w5):=(HBW.out.next HBW.out.size HF.out.bel).next (by have:=HBW.out.size;omega) hb5;obtain⟨f,hrow,-⟩:=HI.out.row;have hrow5:=hrow.of_block (HB5.out.block _ hlt);have fc:=hrow5.cell (show j<nlen a by omega);have fz:=hrow5.frozen j
       have HST:Hid (OverIn w (w5.setCell ⟨w.heap.size,j,none⟩ (.int .i64 (k:Nat))) w.heap.size (nlen a) a b j (.slice ar' (nlen (X-b*k)) cr')):=
        HI.out.step NL HB5.out h0 (by rw[HKE.out,HXE.out,HRR.out]) (by rw[<-HRR.out,<-HXE.out];exact(HF.out.rest.mono (by have:=HBW.out.size;omega)).keep fun b' _ hb'=>hb5.block _ hb')
       clear hrow hrow5 hb5;go_wp2
       go_roundg j
       case rel=>exact⟨j,rfl,by omega,by go_num,HST.out⟩
       case measure=>omega
    .obtain⟨k0,hk0⟩:∃k0,k0=0:=⟨_,rfl⟩
     have hk0l:k0<10000:=by omega
     have HKX:Hid (b*k0<=X):=by rw[hk0];exact Nat.zero_le _
     have HK0:Hid ((0:Int)=(k0:Nat)):=by show _=_;rw[hk0];rfl
     clear hk0
     go_wp2_with fail
     rw[show(Value.int .i64 0)=Value.int .i64 (k0:Nat)from congrArg (Value.int .i64) HK0.out];refine(zint_pos (m:=k0) (by omega)).mono ?_;rintro e w2 ⟨vz,rfl,⟨vd,rfl,hvd⟩,hb2⟩;rw[Int.natAbs_natCast]at hvd;obtain⟨av,capv,rfl⟩:=hvd.cells';have hs2:=hb2.size
     go_wp2_with fail
     refine(times_c (HVB.out.pres (Pres.below ((HB1.out.next HB1.out.size hb2).toBelow))) hvd (by omega) (Nat.le_trans (nlen_mono (show k0<=9999 by omega)) HN9.out)).mono ?_;rintro e w3 ⟨vt,rfl,hvt,hb3⟩;have hs3:=hb3.size
     go_wp2_with fail
     refine(minusF_c (HZX.out.pres (Pres.below ((hb2.next hs2 hb3).toBelow))) hvt HKX.out (by omega)).mono ?_;rintro e w4 ⟨vm,rfl,hvm,hb4⟩;have hs4:=hb4.size;obtain⟨am,capm,em⟩:=hvm.zd.cells';have HFX:Hid (FixIn w1 w4 vm X b k0):=⟨hvm.mono (by omega),HKX.out,(hb2.next hs2 hb3).next (by omega) hb4⟩
     subst em;clear hvm hvt hvd hb2 hb3 hb4;go_wp2
     go_loopg [6,9] (X/b-k0) (fun g2 r kk wq=>∃k ar' cr',g2=X/b-k/\r=.slice ar' (nlen (X-b*k)) cr'/\kk=.int .i64 (k:Nat)/\FixIn w1 wq r X b k)
     case atStart=>exact⟨k0,_,_,rfl,rfl,rfl,HFX.out⟩
     case round=>
      clear HFX;obtain⟨k,ar',cr',hg2,rfl,rfl,hfx⟩:=hrel;have HF:=LH hfx;have hkq:k<=X/b:=by rw[Nat.le_div_iff_mul_le h0,Nat.mul_comm];exact hfx.le
      have hbq:=hfx.bel.size;have HVB2:=LH (HVB.out.pres (Pres.below ((HB1.out.next HB1.out.size hfx.bel).toBelow)));have hnx:=nlen_mono (Nat.sub_le X (b*k));clear hfx
      by_cases hge:b<=X-b*k
      .have HCM:Hid (cmpN (X-b*k) b=if X-b*k=b then 0 else 1):=by show cmpN _ _=_;unfold cmpN;rw[if_neg (by omega)]
       have HKL:Hid (b*(k+1)<=X):=by have:=HF.out.le;show _<=_;rw[Nat.mul_succ];omega
       have hkl:k+1<=X/b:=by rw[Nat.le_div_iff_mul_le h0,Nat.mul_comm];exact HKL.out
       have HGE:=LH hge;clear hge
       go_wp2_with fail
       refine(abs_c HF.out.rest.zd HVB2.out (by omega) (by omega)).mono ?_;rintro e w5 ⟨rfl,hb5⟩;have hs5:=hb5.size;have hcm:0<=cmpN (X-b*k) b:=by rw[HCM.out];split<;>decide
       go_wp2_with fail
       refine(minusF_c (HF.out.rest.zd.pres hb5.pb) (HVB2.out.pres hb5.pb) HGE.out (by omega)).mono ?_;rintro e w6 ⟨vq,rfl,hvq,hb6⟩;obtain⟨aq,capq,eq6⟩:=hvq.zd.cells';have HES:Hid (X-b*k-b=X-b*(k+1)):=by show _=_;rw[Nat.mul_succ];omega
       rw[HES.out]at hvq eq6;have HFN:Hid (FixIn w1 w6 vq X b (k+1)):=⟨hvq.mono (by omega),HKL.out,(HF.out.bel.next (by omega) hb5).next (by omega) hb6⟩
       subst eq6;clear hvq hb5 hb6 hcm;go_wp2
       go_roundg (X/b-(k+1))
       case rel=>exact⟨k+1,_,_,rfl,rfl,by go_num,HFN.out⟩
       case measure=>omega
      .have HKE:Hid (k=X/b):=by
        have:=HF.out.le;have h1:X<b*(k+1):=by rw[Nat.mul_succ];omega
        have h2:X/b<k+1:=by rw[Nat.div_lt_iff_lt_mul h0,Nat.mul_comm];exact h1
        show _=_
        omega
       have HCM:Hid (cmpN (X-b*k) b=-1):=by show cmpN _ _=_;unfold cmpN;rw[if_pos (by omega)]
       clear hge
       go_wp2_with fail
       refine(abs_c HF.out.rest.zd HVB2.out (by omega) (by omega)).mono ?_;rintro e w5 ⟨rfl,hb5⟩;rw[HCM.out];have hs5:=hb5.size;have HB5:Hid (Bel wo.heap.size wo w5):=(HBW.out.next HBW.out.size HF.out.bel).next (by have:=HBW.out.size;omega) hb5;obtain⟨f,hrow,-⟩:=HI.out.row;have hrow5:=hrow.of_block (HB5.out.block _ hlt);have fc:=hrow5.cell (show j<nlen a by omega);have fz:=hrow5.frozen j
       have HST:Hid (OverIn w (w5.setCell ⟨w.heap.size,j,none⟩ (.int .i64 (k:Nat))) w.heap.size (nlen a) a b j (.slice ar' (nlen (X-b*k)) cr')):=
        HI.out.step NL HB5.out h0 (by rw[HKE.out,HXE.out,HRR.out]) (by rw[<-HRR.out,<-HXE.out];exact(HF.out.rest.mono (by have:=HBW.out.size;omega)).keep fun b' _ hb'=>hb5.block _ hb')
       clear hrow hrow5 hb5;go_wp2
       go_roundg j
       case rel=>exact⟨j,rfl,by omega,by go_num,HST.out⟩
       case measure=>omega
theorem sgn_lt4 (neg:Bool)(m:Nat):decide (sgn neg m<0)=(neg && decide (0<nlen m)):=by
 have h:0<nlen m ↔ 0<m:=by
  have:=nlen_eq_zero (a:=m);omega
 unfold sgn
 cases neg<;>simp[h]
theorem ZZ.cells {w:World}{v:Value}{z:Int}(h:ZZ w v z):∃b ao n c,v=.agg #[.bool b,.slice ao n c]:=by
 obtain⟨vd,rfl,hd⟩:=h;obtain⟨ao,c,rfl⟩:=hd.cells';exact⟨_,_,_,_,rfl⟩
theorem ZZ.set {w:World}{b:Nat}{x y x' y':Value}{v:Value}{z:Int}(hv:ZZ w v z)(h:w.heap[b]?=some (.cells #[x,y] 47)):ZZ ((w.setCell ⟨b,0,none⟩ x').setCell ⟨b,1,none⟩ y') v z:=
 hv.pres (Pres.set2 ⟨_,_,h⟩ (by decide) _ _ _ _)
theorem signed_c {w:World}{neg:Bool}{vm:Value}{m:Nat}(hm:ZD w vm m):
 Calls Tryz.prog 155 #[.bool neg,vm] w (Gives w fun v w'=>ZZ w' v (sgn neg m)):=by
 have HM:=LH hm;obtain⟨ao,cap,rfl⟩:=hm.cells';have HS:=LH (sgn_lt4 neg m);have HA:=LH (sgn_natAbs neg m);clear hm
 cases neg<;>(
  go_enter Tryz.func155,Tryz.ntmps155
  go_wp2;refine post_box rfl rfl rfl (loadZ (heap_new _ _ rfl)) ⟨_,rfl,ZZ.mk (HM.out.pres (Pres.alloc _ _)) (HS.out.trans (by simp)) HA.out,(Bel.refl _ _).alloc NL _⟩)
theorem zneg_c {w:World}{va:Value}{x:Int}(ha:ZZ w va x):
 Calls Tryz.prog 156 #[va] w (Gives w fun v w'=>ZZ w' v (-x)):=by
 have HA:=LH ha;obtain⟨ma,rfl,hma⟩:=ha;have HMA:=LH hma;have HZ:=LH (sgn_neg x);clear hma
 go_enter Tryz.func156,Tryz.ntmps156
 go_wp2_with fail
 refine(signed_c (HMA.out.pres ((Pres.alloc _ _).trans (Pres.alloc _ _)))).mono ?_;rintro e w9 ⟨vs,rfl,hvs,hb2⟩;rw[HZ.out]at hvs;obtain⟨bs,as_,ns,cs,rfl⟩:=ZZ.cells hvs;have hrow:=(hb2.block (w.heap.size+1) (by simp)).trans (heap_new _ _ (by simp));obtain⟨hc0,hc1,hf0,hf1⟩:=row2 hrow;have HR:=LH hrow;have HV:=LH hvs;have HBB:Hid (Bel w.heap.size w w9):=(Bel.new.alloc (by simp) _).trans (hb2.mono (by simp;omega))
 clear hrow hvs hb2;go_wp2;exact post_box rfl rfl rfl (loadZ (set2_heap HR.out)) ⟨_,rfl,ZZ.set HV.out HR.out,(HBB.out.setCell (by simp) _).setCell (by simp) _⟩
theorem sgn_mul2' (x y:Int):sgn (decide (x<0) !=decide (y<0)) (x.natAbs*y.natAbs)=x*y:=by
 have:=sgn_mul2 x y;rw[<-this];congr 1
theorem zmul_c {w:World}{va vb:Value}{x y:Int}(ha:ZZ w va x)(hb:ZZ w vb y)(hs:nlen x.natAbs<=10000000000)(hs':nlen y.natAbs<=10000000000):
 Calls Tryz.prog 134 #[va,vb] w (Gives w fun v w'=>ZZ w' v (x*y)):=by
 have HA:=LH ha;obtain⟨ma,rfl,hma⟩:=ha;have HMA:=LH hma;have HB:=LH hb;obtain⟨mb,rfl,hmb⟩:=hb;have HMB:=LH hmb;have HZ:=LH (sgn_mul2 x y);clear hma hmb
 go_enter Tryz.func134,Tryz.ntmps134
 go_wp2;refine name_world ?_;intro W0 hW0;obtain⟨a_0,a_1,-,-⟩:=row2 (at_world hW0 (b:=w.heap.size) ((heap_old _ _ Sd1).trans ((heap_old _ _ Sd1).trans (heap_new _ _ Sd1))));obtain⟨b_0,b_1,-,-⟩:=row2 (at_world hW0 (b:=w.heap.size+1) ((heap_old _ _ Sd1).trans (heap_new _ _ Sd1)));have hR0:=at_world hW0 (b:=w.heap.size+1+1) (heap_new _ _ Sd1);have hsz:w.heap.size+1+1+1<=W0.heap.size:=by rw[hW0];simp
 have hst:SHs w W0 (w.heap.size+1+1) W0:=SHs.start (by omega) (by omega) (by rw[hW0];exact((Bel.new.alloc Sd1 _).alloc Sd1 _));clear hW0
 go_region_held3 (fun w'=>(∀(b o:Nat),b<w.heap.size+1+1->w'.cell? ⟨b,o,none⟩=W0.cell? ⟨b,o,none⟩)/\SHs w W0 (w.heap.size+1+1) w') (exact K2s)
  (first
   |(go_at_call 181;(try (rename _/\_=>hh;rcases hh with⟨hSc,hSb⟩));refine(times_c (HMA.out.pres B2s) (HMB.out.pres B2s) (by omega) (by omega)).mono ?_;rintro e w9 ⟨v1,rfl,hv1,hb1⟩;have hs1:=hb1.size;have hz1:=(hSb.call hb1).near.size)
   |(go_at_call 155;(try (rename _/\_=>hh;rcases hh with⟨hSc,hSb⟩));refine(signed_c (ZD.pres hv1 CH2s)).mono ?_;rintro e w9 ⟨vs,rfl,hvs,hb2⟩;rw[HZ.out]at hvs;obtain⟨bs,as_,ns,cs,rfl⟩:=ZZ.cells hvs;have hs2:=hb2.size;have hz2:=(hSb.call hb2).near.size;have hrow:w9.heap[w.heap.size+1+1]?=some (.cells #[.bool false,.slice none 0 0] 47):=RW2;obtain⟨hc0,hc1,hf0,hf1⟩:=row2 hrow))
 all_goals go_wp2
 all_goals((try (rename _/\_=>hh;rcases hh with⟨hSc,hSb⟩));exact post_box rfl rfl rfl (loadZ (set2_heap hrow)) ⟨_,rfl,ZZ.set hvs hrow,hSb.base⟩)
theorem zadd_same {w:World}{va vb:Value}{x y:Int}(ha:ZZ w va x)(hb:ZZ w vb y)(hs:nlen x.natAbs<=10000000000)(hs':nlen y.natAbs<=10000000000)(h:decide (x<0)=decide (y<0)):
 Calls Tryz.prog 133 #[va,vb] w (Gives w fun v w'=>ZZ w' v (x+y)):=by
 have HA:=LH ha;obtain⟨ma,rfl,hma⟩:=ha;have HMA:=LH hma;have HB:=LH hb;obtain⟨mb,rfl,hmb⟩:=hb;have HMB:=LH hmb;have HZ:=LH (sgn_add_same x y h);have h9:(decide (x<0)==decide (y<0))=true:=by rw[h];simp
 clear h;clear hma hmb
 go_enter Tryz.func133,Tryz.ntmps133
 go_wp2;refine name_world ?_;intro W0 hW0;obtain⟨a_0,a_1,-,-⟩:=row2 (at_world hW0 (b:=w.heap.size) ((heap_old _ _ Sd1).trans ((heap_old _ _ Sd1).trans (heap_new _ _ Sd1))));obtain⟨b_0,b_1,-,-⟩:=row2 (at_world hW0 (b:=w.heap.size+1) ((heap_old _ _ Sd1).trans (heap_new _ _ Sd1)));have hR0:=at_world hW0 (b:=w.heap.size+1+1) (heap_new _ _ Sd1);have hsz:w.heap.size+1+1+1<=W0.heap.size:=by rw[hW0];simp
 have hst:SHs w W0 (w.heap.size+1+1) W0:=SHs.start (by omega) (by omega) (by rw[hW0];exact((Bel.new.alloc Sd1 _).alloc Sd1 _));clear hW0
 go_region_held3 (fun w'=>(∀(b o:Nat),b<w.heap.size+1+1->w'.cell? ⟨b,o,none⟩=W0.cell? ⟨b,o,none⟩)/\SHs w W0 (w.heap.size+1+1) w') (exact K2s)
  (first
   |(go_at_call 178;(try (rename _/\_=>hh;rcases hh with⟨hSc,hSb⟩));refine(plus_c (HMA.out.pres B2s) (HMB.out.pres B2s) (by omega) (by omega)).mono ?_;rintro e w9 ⟨v1,rfl,hv1,hb1⟩;have hs1:=hb1.size;have hz1:=(hSb.call hb1).near.size)
   |(go_at_call 155;(try (rename _/\_=>hh;rcases hh with⟨hSc,hSb⟩));refine(signed_c (ZD.pres hv1 CH2s)).mono ?_;rintro e w9 ⟨vs,rfl,hvs,hb2⟩;rw[HZ.out]at hvs;obtain⟨bs,as_,ns,cs,rfl⟩:=ZZ.cells hvs;have hs2:=hb2.size;have hz2:=(hSb.call hb2).near.size;have hrow:w9.heap[w.heap.size+1+1]?=some (.cells #[.bool false,.slice none 0 0] 47):=RW2;obtain⟨hc0,hc1,hf0,hf1⟩:=row2 hrow))
 all_goals go_wp2
 all_goals((try (rename _/\_=>hh;rcases hh with⟨hSc,hSb⟩));exact post_box rfl rfl rfl (loadZ (set2_heap hrow)) ⟨_,rfl,ZZ.set hvs hrow,hSb.base⟩)
theorem zadd_ge {w:World}{va vb:Value}{x y:Int}(ha:ZZ w va x)(hb:ZZ w vb y)(hs:nlen x.natAbs<=10000000000)(hs':nlen y.natAbs<=10000000000)(h:decide (x<0)≠decide (y<0))(hc:y.natAbs<=x.natAbs):
 Calls Tryz.prog 133 #[va,vb] w (Gives w fun v w'=>ZZ w' v (x+y)):=by
 have HA:=LH ha;obtain⟨ma,rfl,hma⟩:=ha;have HMA:=LH hma;have HB:=LH hb;obtain⟨mb,rfl,hmb⟩:=hb;have HMB:=LH hmb;have HZ:=LH (sgn_add_ge x y h hc);have h9:(decide (x<0)==decide (y<0))=false:=by simpa using h
 have HLE:Hid (y.natAbs<=x.natAbs):=hc;have HCM:Hid (0<=cmpN x.natAbs y.natAbs):=by show 0<=cmpN _ _;unfold cmpN;rw[if_neg (by omega)];split<;>decide
 clear h hc;clear hma hmb
 go_enter Tryz.func133,Tryz.ntmps133
 go_wp2_with fail
 refine(abs_c (HMA.out.pres (((Pres.alloc _ _).trans (Pres.alloc _ _)).trans (Pres.alloc _ _))) (HMB.out.pres (((Pres.alloc _ _).trans (Pres.alloc _ _)).trans (Pres.alloc _ _))) (by omega) (by omega)).mono ?_;rintro e w5 ⟨rfl,hb5⟩;obtain⟨C,hC⟩:∃C,C=cmpN x.natAbs y.natAbs:=⟨_,rfl⟩
 rw[<-hC]at HCM|-;clear hC;have hcm:=HCM.out;obtain⟨a_0,a_1,-,-⟩:=row2 ((hb5.block w.heap.size Sd1).trans ((heap_old _ _ Sd1).trans ((heap_old _ _ Sd1).trans (heap_new _ _ Sd1))));obtain⟨b_0,b_1,-,-⟩:=row2 ((hb5.block (w.heap.size+1) Sd1).trans ((heap_old _ _ Sd1).trans (heap_new _ _ Sd1)));have hR0:=(hb5.block (w.heap.size+1+1) Sd1).trans (heap_new _ _ Sd1);have hsz:w.heap.size+1+1+1<=w5.heap.size:=by have:=hb5.size;simp at this;omega
 have hst:SHs w w5 (w.heap.size+1+1) w5:=SHs.start (by omega) (by omega) (((Bel.new.alloc Sd1 _).alloc Sd1 _).trans (hb5.mono Sd1));clear hb5;go_wp2;refine name_world ?_;intro W0 hW0;rw[<-hW0]at a_0 a_1 b_0 b_1 hR0 hsz hst;clear hW0 hcm
 go_region_held3 (fun w'=>(∀(b o:Nat),b<w.heap.size+1+1->w'.cell? ⟨b,o,none⟩=W0.cell? ⟨b,o,none⟩)/\SHs w W0 (w.heap.size+1+1) w') (exact K2s)
  (first
   |(go_at_call 180;(try (rename _/\_=>hh;rcases hh with⟨hSc,hSb⟩));refine(minus_c (HMA.out.pres B2s) (HMB.out.pres B2s) HLE.out (by omega)).mono ?_;rintro e w9 ⟨v1,rfl,hv1,hb1⟩;have hs1:=hb1.size;have hz1:=(hSb.call hb1).near.size)
   |(go_at_call 155;(try (rename _/\_=>hh;rcases hh with⟨hSc,hSb⟩));refine(signed_c (ZD.pres hv1 CH2s)).mono ?_;rintro e w9 ⟨vs,rfl,hvs,hb2⟩;rw[HZ.out]at hvs;obtain⟨bs,as_,ns,cs,rfl⟩:=ZZ.cells hvs;have hs2:=hb2.size;have hz2:=(hSb.call hb2).near.size;have hrow:w9.heap[w.heap.size+1+1]?=some (.cells #[.bool false,.slice none 0 0] 47):=RW2;obtain⟨hc0,hc1,hf0,hf1⟩:=row2 hrow))
 all_goals go_wp2
 all_goals((try (rename _/\_=>hh;rcases hh with⟨hSc,hSb⟩));exact post_box rfl rfl rfl (loadZ (set2_heap hrow)) ⟨_,rfl,ZZ.set hvs hrow,hSb.base⟩)
theorem zadd_lt {w:World}{va vb:Value}{x y:Int}(ha:ZZ w va x)(hb:ZZ w vb y)(hs:nlen x.natAbs<=10000000000)(hs':nlen y.natAbs<=10000000000)(h:decide (x<0)≠decide (y<0))(hc:x.natAbs<y.natAbs):
 Calls Tryz.prog 133 #[va,vb] w (Gives w fun v w'=>ZZ w' v (x+y)):=by
 have HA:=LH ha;obtain⟨ma,rfl,hma⟩:=ha;have HMA:=LH hma;have HB:=LH hb;obtain⟨mb,rfl,hmb⟩:=hb;have HMB:=LH hmb;have HZ:=LH (sgn_add_lt x y h (by omega));have h9:(decide (x<0)==decide (y<0))=false:=by simpa using h
 have HLE:Hid (x.natAbs<=y.natAbs):=Nat.le_of_lt hc;have HCM:Hid (cmpN x.natAbs y.natAbs<0):=by show cmpN _ _<0;unfold cmpN;rw[if_pos hc];decide
 clear h hc;clear hma hmb
 go_enter Tryz.func133,Tryz.ntmps133
 go_wp2_with fail
 refine(abs_c (HMA.out.pres (((Pres.alloc _ _).trans (Pres.alloc _ _)).trans (Pres.alloc _ _))) (HMB.out.pres (((Pres.alloc _ _).trans (Pres.alloc _ _)).trans (Pres.alloc _ _))) (by omega) (by omega)).mono ?_;rintro e w5 ⟨rfl,hb5⟩;obtain⟨C,hC⟩:∃C,C=cmpN x.natAbs y.natAbs:=⟨_,rfl⟩
 rw[<-hC]at HCM|-;clear hC;have hcm:=HCM.out;obtain⟨a_0,a_1,-,-⟩:=row2 ((hb5.block w.heap.size Sd1).trans ((heap_old _ _ Sd1).trans ((heap_old _ _ Sd1).trans (heap_new _ _ Sd1))));obtain⟨b_0,b_1,-,-⟩:=row2 ((hb5.block (w.heap.size+1) Sd1).trans ((heap_old _ _ Sd1).trans (heap_new _ _ Sd1)));have hR0:=(hb5.block (w.heap.size+1+1) Sd1).trans (heap_new _ _ Sd1);have hsz:w.heap.size+1+1+1<=w5.heap.size:=by have:=hb5.size;simp at this;omega
 have hst:SHs w w5 (w.heap.size+1+1) w5:=SHs.start (by omega) (by omega) (((Bel.new.alloc Sd1 _).alloc Sd1 _).trans (hb5.mono Sd1));clear hb5;go_wp2;refine name_world ?_;intro W0 hW0;rw[<-hW0]at a_0 a_1 b_0 b_1 hR0 hsz hst;clear hW0 hcm
 go_region_held3 (fun w'=>(∀(b o:Nat),b<w.heap.size+1+1->w'.cell? ⟨b,o,none⟩=W0.cell? ⟨b,o,none⟩)/\SHs w W0 (w.heap.size+1+1) w') (exact K2s)
  (first
   |(go_at_call 180;(try (rename _/\_=>hh;rcases hh with⟨hSc,hSb⟩));refine(minus_c (HMB.out.pres B2s) (HMA.out.pres B2s) HLE.out (by omega)).mono ?_;rintro e w9 ⟨v1,rfl,hv1,hb1⟩;have hs1:=hb1.size;have hz1:=(hSb.call hb1).near.size)
   |(go_at_call 155;(try (rename _/\_=>hh;rcases hh with⟨hSc,hSb⟩));refine(signed_c (ZD.pres hv1 CH2s)).mono ?_;rintro e w9 ⟨vs,rfl,hvs,hb2⟩;rw[HZ.out]at hvs;obtain⟨bs,as_,ns,cs,rfl⟩:=ZZ.cells hvs;have hs2:=hb2.size;have hz2:=(hSb.call hb2).near.size;have hrow:w9.heap[w.heap.size+1+1]?=some (.cells #[.bool false,.slice none 0 0] 47):=RW2;obtain⟨hc0,hc1,hf0,hf1⟩:=row2 hrow))
 all_goals go_wp2
 all_goals((try (rename _/\_=>hh;rcases hh with⟨hSc,hSb⟩));exact post_box rfl rfl rfl (loadZ (set2_heap hrow)) ⟨_,rfl,ZZ.set hvs hrow,hSb.base⟩)
theorem zadd_c {w:World}{va vb:Value}{x y:Int}(ha:ZZ w va x)(hb:ZZ w vb y)(hs:nlen x.natAbs<=10000000000)(hs':nlen y.natAbs<=10000000000):
 Calls Tryz.prog 133 #[va,vb] w (Gives w fun v w'=>ZZ w' v (x+y)):=by
 by_cases h:decide (x<0)=decide (y<0)
 .exact zadd_same ha hb hs hs' h
 .by_cases hc:y.natAbs<=x.natAbs
  .exact zadd_ge ha hb hs hs' h hc
  .exact zadd_lt ha hb hs hs' h (by omega)
theorem zcmp_c {w:World}{v v':Value}{x y:Int}(hv:ZZ w v x)(hv':ZZ w v' y)(hs:nlen x.natAbs<=10000000000)(hs':nlen y.natAbs<=10000000000):
 Calls Tryz.prog 136 #[v,v'] w fun e w'=>e=.returned (.int .i64 (cmpZ x y))/\Bel w.heap.size w w':=by
 obtain⟨vm,rfl,hm⟩:=hv;obtain⟨vn,rfl,hn⟩:=hv';have HM:=LH hm;have HN:=LH hn;obtain⟨am,cm,rfl⟩:=hm.cells';obtain⟨an,cn,rfl⟩:=hn.cells'
 by_cases h1:x<0<;>by_cases h2:y<0
 .have HE:=LH (cmpZ_neg x y h1 h2);rw[decide_eq_true h1,decide_eq_true h2]
  go_enter Tryz.func136,Tryz.ntmps136
  go_wp2_with fail
  refine(abs_c (HN.out.pres ((Pres.alloc _ _).trans (Pres.alloc _ _))) (HM.out.pres ((Pres.alloc _ _).trans (Pres.alloc _ _))) (by omega) (by omega)).mono ?_;rintro e w9 ⟨rfl,hb⟩;go_wp2;go_ret;exact⟨by rw[HE.out];rfl,(Bel.new.alloc (by simp) _).trans (hb.mono (by simp<;>omega))⟩
 .have e:cmpZ x y=-1:=by unfold cmpZ;rw[if_pos (by omega)]
  rw[decide_eq_true h1,decide_eq_false h2,e];clear e
  go_enter Tryz.func136,Tryz.ntmps136
  go_wp2;go_ret;exact⟨rfl,Bel.new.alloc (by simp) _⟩
 .have e:cmpZ x y=1:=by unfold cmpZ;rw[if_neg (by omega),if_neg (by omega)]
  rw[decide_eq_false h1,decide_eq_true h2,e];clear e
  go_enter Tryz.func136,Tryz.ntmps136
  go_wp2;go_ret;exact⟨rfl,Bel.new.alloc (by simp) _⟩
 .have HE:=LH (cmpZ_pos x y h1 h2);rw[decide_eq_false h1,decide_eq_false h2]
  go_enter Tryz.func136,Tryz.ntmps136
  go_wp2_with fail
  refine(abs_c (HM.out.pres ((Pres.alloc _ _).trans (Pres.alloc _ _))) (HN.out.pres ((Pres.alloc _ _).trans (Pres.alloc _ _))) (by omega) (by omega)).mono ?_;rintro e w9 ⟨rfl,hb⟩;go_wp2;go_ret;exact⟨by rw[HE.out];rfl,(Bel.new.alloc (by simp) _).trans (hb.mono (by simp<;>omega))⟩
theorem small_c {w:World}{va:Value}{b:Bool}{a:Nat}(ha:ZD w va a)(hl:nlen a<=1000000000000):
 Calls Tryz.prog 194 #[.agg #[.bool b,va]] w fun e w'=>e=.returned (.tuple #[.int .i64 (if nlen a<=4 then(a:Int) else 0),.bool (decide (nlen a<=4))])/\Bel w.heap.size w w':=by
 obtain⟨aa,cap,rfl,-,hc⟩:=ha;have HC:=LH hc;clear hc
 by_cases h4:nlen a<=4
 .have h4':decide (nlen a<=4)=true:=by simpa using h4
  rw[if_pos h4,h4']
  go_enter Tryz.func194,Tryz.ntmps194
  go_wp2;have HT:Hid (a/B4^nlen a=0):=Nat.div_eq_of_lt (lt_pow_nlen a);have HZ:Hid (a/B4^0=a):=by show _=_;simp
  refine name_world ?_;intro W0 hW0;obtain⟨c0,c1,-,-⟩:=row2 (at_world hW0 (b:=w.heap.size) (heap_new _ _ rfl));have HBB:Hid (Bel w.heap.size w W0):=by rw[hW0];exact(Bel.refl _ _).alloc NL _
  clear hW0
  go_loopg [4,5] (nlen a) (fun g n i wr=>W0=wr/\∃k:Nat,g=k/\k<=nlen a/\i=.int .i64 (k-1)/\n=.int .i64 ((a/B4^k:Nat):Int))
  case atStart=>exact⟨rfl,nlen a,rfl,by omega,rfl,by rw[HT.out];rfl⟩
  case round=>
   obtain⟨rfl,k,hg,h2,rfl,rfl⟩:=hrel
   cases k with
   |zero=>
    go_wp2
    go_ret2
    exact⟨by rw[HZ.out];rfl,HBB.out⟩
   |succ j=>
    have hn:a/B4^(j+1)<1000000000000:=by
     rw[Nat.div_lt_iff_lt_mul (B4_pow_pos _)];refine Nat.lt_of_lt_of_le (lt_pow_nlen a) (Nat.le_trans (B4_pow_mono (show nlen a<=3+(j+1)by omega)) ?_);rw[Nat.pow_add];exact Nat.mul_le_mul_right _ (by decide)
    have HD:=LH (div_mod_dig a j);obtain⟨b1,o1,rfl,hbl,hcell⟩:=HC.out.open (by omega);have g0:=(HBB.out.cell (p:=⟨b1,o1+j,none⟩) hbl).trans (hcell j (by omega));unfold dv at g0;have hdl:=dig_lt' a j;obtain⟨q,hq⟩:∃q,q=a/B4^(j+1):=⟨_,rfl⟩
    rw[<-hq]at hn HD;rw[<-hq];clear hcell hq;go_wp2
    go_roundg j
    case rel=>exact⟨rfl,j,rfl,by omega,by go_num,by rw[HD.out];push_cast;rfl⟩
    case measure=>omega
 .have h4':decide (nlen a<=4)=false:=by simpa using h4
  rw[if_neg h4,h4']
  go_enter Tryz.func194,Tryz.ntmps194
  go_wp2
  go_ret2
  exact⟨rfl,(Bel.refl _ _).alloc NL _⟩
theorem small_yes {w:World}{va:Value}{b:Bool}{a:Nat}(ha:ZD w va a)(hl:nlen a<=4):
 Calls Tryz.prog 194 #[.agg #[.bool b,va]] w fun e w'=>e=.returned (.tuple #[.int .i64 a,.bool true])/\Bel w.heap.size w w':=by
 have:=small_c (b:=b) ha (by omega)
 rwa [if_pos hl,decide_eq_true hl]at this
theorem small_no {w:World}{va:Value}{b:Bool}{a:Nat}(ha:ZD w va a)(hl:¬nlen a<=4)(h2:nlen a<=1000000000000):
 Calls Tryz.prog 194 #[.agg #[.bool b,va]] w fun e w'=>e=.returned (.tuple #[.int .i64 0,.bool false])/\Bel w.heap.size w w':=by
 have:=small_c (b:=b) ha h2
 rwa [if_neg hl,decide_eq_false hl]at this
theorem nlen_le_4 {a:Nat}(h:nlen a<=4):a<10000000000000000:=(nlen_le_iff a 4).1 h
theorem zgcd_c {w:World}{va vb:Value}{x y:Int}(ha:ZZ w va x)(hb:ZZ w vb y)(hsx:nlen x.natAbs<=10000000000)(hsy:nlen y.natAbs<=10000000000):
 Calls Tryz.prog 161 #[va,vb] w (Gives w fun v w'=>ZZ w' v (Nat.gcd x.natAbs y.natAbs:Nat)):=by
 obtain⟨ma,rfl,hma⟩:=ha;obtain⟨mb,rfl,hmb⟩:=hb;have HMA:=LH hma;have HMB:=LH hmb;clear hma hmb
 go_enter Tryz.func161,Tryz.ntmps161
 go_wp2;refine name_world ?_;intro W0 hW0;obtain⟨a_0,a_1,-,-⟩:=row2 (at_world hW0 (b:=w.heap.size) ((heap_old _ _ Sd1).trans ((heap_old _ _ Sd1).trans (heap_new _ _ Sd1))));obtain⟨b_0,b_1,-,-⟩:=row2 (at_world hW0 (b:=w.heap.size+1) ((heap_old _ _ Sd1).trans (heap_new _ _ Sd1)));have hR0:=at_world hW0 (b:=w.heap.size+1+1) (heap_new _ _ Sd1);have hsz:w.heap.size+1+1+1<=W0.heap.size:=by rw[hW0];simp
 have hst:SHs w W0 (w.heap.size+1+1) W0:=SHs.start (by omega) (by omega) (by rw[hW0];exact((Bel.new.alloc Sd1 _).alloc Sd1 _));clear hW0;have HR0:=LH hR0;clear hR0
 go_quiet (fail)
 have HBB:Hid (Bel w.heap.size w W0):=hst.base;go_wp2
 go_loopg [5,6] y.natAbs (fun q u v wr=>∃p,ZD wr u p/\ZD wr v q/\nlen p<=10000000000/\nlen q<=10000000000/\Nat.gcd x.natAbs y.natAbs=Nat.gcd p q/\Bel w.heap.size w wr/\wr.heap[w.heap.size+1+1]?=some (.cells #[.bool false,.slice none 0 0] 47))
 case atStart=>exact⟨x.natAbs,HMA.out.pres (Pres.below (HBB.out.drewN _).toBelow),HMB.out.pres (Pres.below (HBB.out.drewN _).toBelow),hsx,hsy,rfl,HBB.out.drewN _,HR0.out⟩
 case round=>
  clear hst hsz a_0 a_1 b_0 b_1;obtain⟨p,hp,hq,hsp,hsq,hg,hB,hR⟩:=hrel;obtain⟨q,rfl⟩:∃q,q=gk:=⟨_,rfl⟩
  have HP:=LH hp;have HQ:=LH hq;have HG:=LH hg;have HB:=LH hB;have HR:=LH hR;obtain⟨ap,cp,rfl⟩:=hp.cells';obtain⟨aq,cq,rfl⟩:=hq.cells';have hbl:=BlkT.lt ⟨_,_,hR⟩;clear hp hq hg hB
  by_cases h0:nlen q=0
  .have hq0:=nlen_eq_zero.1 h0;have hz:decide (0<nlen q)=false:=by simp;omega
   have HGZ:Hid (Nat.gcd x.natAbs y.natAbs=p):=by show _=_;rw[HG.out,hq0,Nat.gcd_zero_right]
   obtain⟨r0,r1,s0,s1⟩:=row2 hR;clear h0 hq0 hR;go_wp2;exact post_box rfl rfl rfl (loadZ (set2_heap HR.out)) ⟨_,rfl,ZZ.set (ZZ.mk HP.out (by rw[HGZ.out];simp) (by rw[HGZ.out];simp)) HR.out,(HB.out.setCell (by simp;omega) _).setCell (by simp;omega) _⟩
  .have hz:decide (0<nlen q)=true:=by simp;omega
   have hq0:q≠0:=fun e=>h0 (nlen_eq_zero.2 e);have hql:p%q<q:=Nat.mod_lt _ (by omega);have hnr:=nlen_mono (Nat.le_of_lt hql);clear h0 hR
   by_cases h2:nlen p<=4
   .by_cases h3:nlen q<=4
    .have l1:=nlen_le_4 h2;have l2:=nlen_le_4 h3
     go_wp2_with fail
     refine(small_yes HP.out (b:=false) h2).mono ?_;rintro e w1 ⟨rfl,hB1⟩
     go_wp2_with fail
     refine(small_yes (HQ.out.below hB1) (b:=false) h3).mono ?_;rintro e w2 ⟨rfl,hB2⟩;have HB12:Hid (Bel wr.heap.size wr w2):=hB1.next hB1.size hB2;clear hB1 hB2;obtain⟨wo,rfl⟩:∃wo:World,wo=wr:=⟨_,rfl⟩
     go_wp2
     go_loopg [7,9] q (fun g x' y' wq=>∃m k:Nat,x'=.int .i64 m/\y'=.int .i64 (g:Nat)/\m<10000000000000000/\g<10000000000000000/\Nat.gcd x.natAbs y.natAbs=Nat.gcd m g/\wq=w2.drewN k)
     case atStart=>exact⟨p,0,rfl,rfl,l1,l2,HG.out,rfl⟩
     case round=>
      clear HG HP HQ;obtain⟨m,k,rfl,rfl,hm,hn,hg,rfl⟩:=hrel;obtain⟨n,rfl⟩:∃n,n=gk:=⟨_,rfl⟩
      have HG:=LH hg;clear hg
      by_cases hz':n=0
      .subst hz';have HRW:Hid (w2.heap[w.heap.size+1+1]?=some (.cells #[.bool false,.slice none 0 0] 47)):=(HB12.out.block _ hbl).trans HR.out;have HB2:Hid (Bel w.heap.size w (w2.drewN k)):=(HB.out.next HB.out.size HB12.out).drewN k;have hbl2:=BlkT.lt ⟨_,_,HRW.out⟩
       go_wp2_with fail
       refine(zint_pos (m:=m) (by omega)).mono ?_;rintro e w3 ⟨v3,rfl,hv3,hB3⟩;have HROW:Hid (w3.heap[w.heap.size+1+1]?=some (.cells #[.bool false,.slice none 0 0] 47)):=(hB3.block _ hbl2).trans HRW.out;obtain⟨r0,r1,s0,s1⟩:=row2 HROW.out;have HBF:Hid (Bel w.heap.size w w3):=HB2.out.next HB2.out.size hB3;obtain⟨bs,as_,ns,cs,rfl⟩:=ZZ.cells hv3;have HV:Hid (ZZ w3 (.agg #[.bool bs,.slice as_ ns cs]) (Nat.gcd x.natAbs y.natAbs:Nat)):=by rw[HG.out,Nat.gcd_zero_right];exact hv3
       clear hv3 hB3;go_wp2;refine post_box rfl rfl rfl (loadZ (set2_heap HROW.out)) ⟨_,rfl,ZZ.set HV.out HROW.out,(HBF.out.setCell (by simp;omega) _).setCell (by simp;omega) _⟩
      .have hml:m%n<n:=Nat.mod_lt _ (by omega);have hne:((n:Int) !=0)=true:=by simp;omega
       have HM:Hid ((m:Int)%n=((m%n:Nat):Int)):=(Int.natCast_emod _ _).symm;go_wp2
       go_quiet (fail)
       go_wp2;rw[HM.out]
       go_roundg (m%n)
       case rel=>exact⟨n,k+_,rfl,rfl,by omega,by omega,by rw[HG.out,Nat.gcd_comm m n,Nat.gcd_rec,Nat.gcd_comm],World.drewN_drewN _ _ _⟩
       case measure=>exact hml
    .have h3':=h3
     go_wp2_with fail
     refine(small_yes HP.out (b:=false) h2).mono ?_;rintro e w1 ⟨rfl,hB1⟩
     go_wp2_with fail
     refine(small_no (HQ.out.below hB1) (b:=false) h3 (by omega)).mono ?_;rintro e w2 ⟨rfl,hB2⟩;have HB12:Hid (Bel wr.heap.size wr w2):=hB1.next hB1.size hB2
     go_wp2_with fail
     refine(over_c (HP.out.below HB12.out) (HQ.out.below HB12.out) (by omega) (by omega) (by omega)).mono ?_;rintro e w3 ⟨v1,v2,rfl,-,hv2,hB3⟩;have HBN:=LH (HB12.out.next HB12.out.size hB3);have HV2:=LH hv2;have HQ1:=LH (HQ.out.below HBN.out);clear hv2 hB3 hB1 hB2;go_wp2
     go_roundg (p%q)
     case rel=>exact⟨q,HQ1.out,HV2.out,by omega,by omega,by rw[HG.out,Nat.gcd_comm p q,Nat.gcd_rec,Nat.gcd_comm],HB.out.next HB.out.size HBN.out,(HBN.out.block _ hbl).trans HR.out⟩
     case measure=>exact hql
   .by_cases h3:nlen q<=4
    .have h3':=h3
     go_wp2_with fail
     refine(small_no HP.out (b:=false) h2 (by omega)).mono ?_;rintro e w1 ⟨rfl,hB1⟩
     go_wp2_with fail
     refine(small_yes (HQ.out.below hB1) (b:=false) h3).mono ?_;rintro e w2 ⟨rfl,hB2⟩;have HB12:Hid (Bel wr.heap.size wr w2):=hB1.next hB1.size hB2
     go_wp2_with fail
     refine(over_c (HP.out.below HB12.out) (HQ.out.below HB12.out) (by omega) (by omega) (by omega)).mono ?_;rintro e w3 ⟨v1,v2,rfl,-,hv2,hB3⟩;have HBN:=LH (HB12.out.next HB12.out.size hB3);have HV2:=LH hv2;have HQ1:=LH (HQ.out.below HBN.out);clear hv2 hB3 hB1 hB2;go_wp2
     go_roundg (p%q)
     case rel=>exact⟨q,HQ1.out,HV2.out,by omega,by omega,by rw[HG.out,Nat.gcd_comm p q,Nat.gcd_rec,Nat.gcd_comm],HB.out.next HB.out.size HBN.out,(HBN.out.block _ hbl).trans HR.out⟩
     case measure=>exact hql
    .have h3':=h3
     go_wp2_with fail
     refine(small_no HP.out (b:=false) h2 (by omega)).mono ?_;rintro e w1 ⟨rfl,hB1⟩
     go_wp2_with fail
     refine(small_no (HQ.out.below hB1) (b:=false) h3 (by omega)).mono ?_;rintro e w2 ⟨rfl,hB2⟩;have HB12:Hid (Bel wr.heap.size wr w2):=hB1.next hB1.size hB2
     go_wp2_with fail
     refine(over_c (HP.out.below HB12.out) (HQ.out.below HB12.out) (by omega) (by omega) (by omega)).mono ?_;rintro e w3 ⟨v1,v2,rfl,-,hv2,hB3⟩;have HBN:=LH (HB12.out.next HB12.out.size hB3);have HV2:=LH hv2;have HQ1:=LH (HQ.out.below HBN.out);clear hv2 hB3 hB1 hB2;go_wp2
     go_roundg (p%q)
     case rel=>exact⟨q,HQ1.out,HV2.out,by omega,by omega,by rw[HG.out,Nat.gcd_comm p q,Nat.gcd_rec,Nat.gcd_comm],HB.out.next HB.out.size HBN.out,(HBN.out.block _ hbl).trans HR.out⟩
     case measure=>exact hql
theorem row4 {w:World}{b:Nat}{v0 v1 v2 v3:Value}{T:TypeId}(h:w.heap[b]?=some (.cells #[v0,v1,v2,v3] T)):
 w.cell? ⟨b,0,none⟩=some v0/\w.cell? ⟨b,1,none⟩=some v1/\w.cell? ⟨b,2,none⟩=some v2/\w.cell? ⟨b,3,none⟩=some v3/\w.frozen? ⟨b,0,none⟩=false/\w.frozen? ⟨b,1,none⟩=false/\w.frozen? ⟨b,2,none⟩=false/\w.frozen? ⟨b,3,none⟩=false:=by
 refine⟨?_,?_,?_,?_,?_,?_,?_,?_⟩<;>simp[World.cell?,World.frozen?,h]
theorem set4_heap {w:World}{b:Nat}{x0 x1 x2 x3 a0 a1 a2 a3:Value}{T:TypeId}(h:w.heap[b]?=some (.cells #[x0,x1,x2,x3] T)):
 ((((w.setCell ⟨b,0,none⟩ a0).setCell ⟨b,1,none⟩ a1).setCell ⟨b,2,none⟩ a2).setCell ⟨b,3,none⟩ a3).heap[b]?=some (.cells #[a0,a1,a2,a3] T):=by
 simp[World.setCell,Array.getElem?_modify,h]
theorem Pres.set4 {T T':TypeId}{w:World}{b:Nat}(h:BlkT T' w b)(hT:T≠T')(a0 a1 a2 a3:Value):Pres T w ((((w.setCell ⟨b,0,none⟩ a0).setCell ⟨b,1,none⟩ a1).setCell ⟨b,2,none⟩ a2).setCell ⟨b,3,none⟩ a3):=
 ((((Pres.setT h hT 0 a0).trans (Pres.setT (h.setCell _ _) hT 1 a1)).trans (Pres.setT ((h.setCell _ _).setCell _ _) hT 2 a2)).trans (Pres.setT (((h.setCell _ _).setCell _ _).setCell _ _) hT 3 a3))
theorem loadQ {w:World}{b:Nat}{T:TypeId}{a0 a1 a2 a3:Value}(h:w.heap[b]?=some (.cells #[a0,a1,a2,a3] T)):(loadVar 49 ⟨b,0,none⟩).run Tryz.prog w=.ok (.agg #[a0,a1,a2,a3]) w:=by
 obtain⟨c0,c1,c2,c3,-,-,-,-⟩:=row4 h;clear h;go_simp
def RQ (w:World)(v:Value)(q:Rat):Prop:=∃vn vd d,v=.agg #[.bool (decide (q.num<0)),vn,.bool false,vd]/\ZD w vn q.num.natAbs/\ZD w vd d/\(d=q.den\/d=0/\q.den=1)
theorem RQ.pres {w w':World}{v:Value}{q:Rat}(h:RQ w v q)(hp:Pres 3 w w'):RQ w' v q:=by
 obtain⟨vn,vd,d,e,h1,h2,h3⟩:=h;exact⟨vn,vd,d,e,h1.pres hp,h2.pres hp,h3⟩
theorem RQ.below {w w':World}{v:Value}{q:Rat}(h:RQ w v q)(hp:Bel w.heap.size w w'):RQ w' v q:=h.pres (.below hp.toBelow)
theorem RQ.zero (w:World):RQ w (.agg #[.bool false,.slice none 0 0,.bool false,.slice none 0 0]) 0:=⟨_,_,0,rfl,ZD.nil w,ZD.nil w,.inr ⟨rfl,rfl⟩⟩
theorem RQ.mk {w:World}{vn vd:Value}{b:Bool}{q:Rat}{m d:Nat}(h1:ZD w vn m)(h2:ZD w vd d)(hb:b=decide (q.num<0))(hm:m=q.num.natAbs)(hd:d=q.den):RQ w (.agg #[.bool b,vn,.bool false,vd]) q:=by
 subst hb hm hd;exact⟨_,_,_,rfl,h1,h2,.inl rfl⟩
theorem ZZ.mag {w:World}{b:Bool}{vd:Value}{z:Int}(h:ZZ w (.agg #[.bool b,vd]) z):ZD w vd z.natAbs:=by
 obtain⟨vx,ex,hx⟩:=h
 injection ex with ex
 injection ex with ex
 injection ex with ex1 ex2
 injection ex2 with ex2 _
 subst ex2;exact hx
theorem ZZ.neg {w:World}{b:Bool}{vd:Value}{z:Int}(h:ZZ w (.agg #[.bool b,vd]) z):b=decide (z<0):=by
 obtain⟨vx,ex,hx⟩:=h
 injection ex with ex
 injection ex with ex
 injection ex with ex1 ex2
 injection ex1 with ex1
theorem RQ.of_zz {w:World}{b c:Bool}{vn vd:Value}{q:Rat}(h:ZZ w (.agg #[.bool b,vn]) q.num)(h2:ZZ w (.agg #[.bool c,vd]) (q.den:Nat)):RQ w (.agg #[.bool b,vn,.bool c,vd]) q:=by
 have e:=h2.neg;have e2:c=false:=by rw[e];simp
 subst e2;refine RQ.mk h.mag h2.mag h.neg rfl (by simp)
theorem RQ.num {w:World}{b c:Bool}{vn vd:Value}{q:Rat}(h:RQ w (.agg #[.bool b,vn,.bool c,vd]) q):ZZ w (.agg #[.bool b,vn]) q.num:=by
 obtain⟨_,_,d,e,h1,h2,h3⟩:=h
 injection e with e
 injection e with e
 injection e with e1 e
 injection e with e2 e
 rw[e1,e2];exact⟨_,rfl,h1⟩
theorem RQ.cells {w:World}{v:Value}{q:Rat}(h:RQ w v q):∃b a1 n1 c1 b2 a2 n2 c2,v=.agg #[.bool b,.slice a1 n1 c1,.bool b2,.slice a2 n2 c2]:=by
 obtain⟨vn,vd,d,rfl,h1,h2,_⟩:=h;obtain⟨a1,c1,rfl⟩:=h1.cells';obtain⟨a2,c2,rfl⟩:=h2.cells';exact⟨_,_,_,_,_,_,_,_,rfl⟩
theorem rden_c {w:World}{v:Value}{q:Rat}(hv:RQ w v q):
 Calls Tryz.prog 135 #[v] w (Gives w fun v w'=>ZZ w' v (q.den:Nat)):=by
 obtain⟨vn,vd,d,rfl,h1,h2,h3⟩:=hv;have HD:=LH h2;obtain⟨ad,cd,rfl⟩:=h2.cells';have h3':=LH h3;clear h1 h2
 by_cases h0:d=0
 .have hd1:q.den=1:=by rcases h3 with h|⟨_,h⟩;exact absurd (h0▸h) (Ne.symm q.den_nz);exact h
  have HD1:=LH hd1;have hl:nlen d=0:=nlen_eq_zero.2 h0;have hb:((nlen d:Int)==0)=true:=by rw[hl];rfl
  clear hd1 hl h0 h3
  go_enter Tryz.func135,Tryz.ntmps135
  go_wp2_with fail
  refine(zint_c (n:=1) (by decide) (by decide)).mono ?_;rintro e w9 ⟨vs,rfl,hvs,hb2⟩;obtain⟨bs,as_,ns,cs,rfl⟩:=ZZ.cells hvs;have HROW:=LH ((hb2.block (w.heap.size+1) (by simp)).trans (heap_new _ _ (by simp)));obtain⟨hc0,hc1,hf0,hf1⟩:=row2 HROW.out;have HV:=LH hvs;have HBB:Hid (Bel w.heap.size w w9):=(Bel.new.alloc (by simp) _).trans (hb2.mono (by simp;omega))
  clear hvs hb2;go_wp2;exact post_box rfl rfl rfl (loadZ (set2_heap HROW.out)) ⟨_,rfl,ZZ.set (by rw[HD1.out];exact HV.out) HROW.out,(HBB.out.setCell (by simp) _).setCell (by simp) _⟩
 .have hd1:d=q.den:=by rcases h3 with h|⟨h,_⟩;exact h;exact absurd h h0
  have hn:nlen d≠0:=fun h=>h0 (nlen_eq_zero.1 h);have hb:((nlen d:Int)==0)=false:=by simp;omega
  have HV:Hid (ZZ w (.agg #[.bool false,.slice ad (nlen d) cd]) (q.den:Nat)):=ZZ.mk HD.out (by simp) (by rw[hd1];simp);clear hd1 hn h0 h3
  go_enter Tryz.func135,Tryz.ntmps135
  go_wp2;refine post_box rfl rfl rfl (loadZ (heap_new _ _ (by simp))) ⟨_,rfl,HV.out.pres ((Pres.alloc _ _).trans (Pres.alloc _ _)),Bel.new.alloc (by simp) _⟩
theorem name_exit {E:Exit->Act->World->Prop}{x:Exit}{a:Act}{w:World}(h:∀W0,W0=w->E x a W0):E x a w:=h w rfl
theorem dig_zero_self {g:Nat}(h:nlen g=1):dig g 0=g:=by
 have h1:=(nlen_le_iff g 1).1 (by omega);unfold dig B4 at *;simp at *;omega
theorem ratOne {x:Int}{d g:Nat}(h0:d≠0)(hg:g=Nat.gcd x.natAbs d)(h1:g=1):x=(mkRat x d).num/\d=(mkRat x d).den:=by
 obtain⟨a,b⟩:=mkRat_num x d h0;rw[<-hg,h1]at a b;rw[a,b];simp
theorem qof_pos {w:World}{va vb:Value}{x:Int}{d:Nat}(ha:ZZ w va x)(hb:ZZ w vb (d:Nat))(h0:0<d)(hsx:nlen x.natAbs<=10000000000)(hsy:nlen d<=10000000000):
 Calls Tryz.prog 111 #[va,vb] w (Gives w fun v w'=>RQ w' v (mkRat x d)):=by
 obtain⟨bx,ax,nx,cx,rfl⟩:=ZZ.cells ha;obtain⟨by_,ay,ny,cy,rfl⟩:=ZZ.cells hb;have hby:by_=false:=by rw[hb.neg];simp
 subst hby;have HX0:=LH ha;have HY0:=LH hb;clear ha hb
 go_enter Tryz.func111,Tryz.ntmps111
 go_wp2_with fail
 refine name_call ?_;intro W0 hW0;have HA0:=LH (at_world hW0 (b:=w.heap.size) ((heap_old _ _ Sd1).trans ((heap_old _ _ Sd1).trans (heap_new _ _ Sd1))));have HB0:=LH (at_world hW0 (b:=w.heap.size+1) ((heap_old _ _ Sd1).trans (heap_new _ _ Sd1)));have HR0:=LH (at_world hW0 (b:=w.heap.size+1+1) (heap_new _ _ Sd1));have hzr:w.heap.size+1+1<W0.heap.size:=by rw[hW0];simp
 have HBW:Hid (Bel w.heap.size w W0):=by rw[hW0];exact(Bel.new.alloc Sd1 _).alloc Sd1 _
 have HX:=LH (HX0.out.pres HBW.out.pb);have HY:=LH (HY0.out.pres HBW.out.pb);obtain⟨a_0,a_1,af_0,af_1⟩:=row2 HA0.out;obtain⟨b_0,b_1,bf_0,bf_1⟩:=row2 HB0.out;clear hW0;refine(zgcd_c HX.out HY.out hsx (by rw[Int.natAbs_natCast];exact hsy)).mono ?_;rintro e w1 ⟨vg,rfl,⟨vgd,rfl,hvg⟩,hb1⟩;rw[Int.natAbs_natCast]at hvg;rw[Int.natAbs_natCast]at hvg;have hg0:0<Nat.gcd x.natAbs d:=Nat.gcd_pos_of_pos_right _ h0
 have HGL:=LH (nlen_mono (Nat.gcd_le_right x.natAbs h0));have HGX:=LH (Nat.gcd_dvd_left x.natAbs d);obtain⟨g,hg⟩:∃g,g=Nat.gcd x.natAbs d:=⟨_,rfl⟩
 have HG:=LH hg;rw[<-hg]at hvg hg0 HGL;have hgl:=HGL.out;have HVG:=LH hvg;obtain⟨ag,cg,rfl⟩:=hvg.cells';have HR1:=LH ((hb1.block _ hzr).trans HR0.out);have HA1:=LH ((hb1.block _ (by omega)).trans HA0.out);have HB1:=LH ((hb1.block _ (by omega)).trans HB0.out);have hz1:w.heap.size+1+1<w1.heap.size:=Nat.lt_of_lt_of_le hzr hb1.size;have hz2:w.heap.size<w1.heap.size:=by omega
 have hz3:w.heap.size+1<w1.heap.size:=by omega
 have HX1:=LH (HX.out.pres hb1.pb);have HY1:=LH (HY.out.pres hb1.pb);have HBW1:Hid (Bel w.heap.size w w1):=HBW.out.next HBW.out.size hb1;obtain⟨a_0,a_1,af_0,af_1⟩:=row2 HA1.out;obtain⟨b_0,b_1,bf_0,bf_1⟩:=row2 HB1.out;obtain⟨r_0,r_1,r_2,r_3,rf_0,rf_1,rf_2,rf_3⟩:=row4 HR1.out;clear hb1 hvg hg
 by_cases h1:g=1
 .have hn1:nlen g=1:=by rw[h1,nlen_one]
  obtain⟨ag',cg',eg,-,hgc⟩:=HVG.out;obtain⟨bg,og,ea,hbg,hgcell⟩:=hgc.open (by omega)
  have gc0:w1.cell? ⟨bg,og,none⟩=some (.int .i64 1):=by
   have:=hgcell 0 (by omega);unfold dv at this;rw[dig_zero_self hn1,h1]at this;exact this
  injection eg with eg1 eg2 eg3
  subst eg1;subst ea;have HRO:=LH (ratOne (x:=x) (Nat.ne_of_gt h0) HG.out h1);rw[hn1];clear hgc hgcell h1;clear eg2 eg3;go_wp2;refine post_box rfl rfl rfl (loadQ ((heap_old _ _ (by simp[World.setCell];omega)).trans (set4_heap HR1.out))) ⟨_,rfl,?_,?_⟩
  .refine RQ.pres ?_ ((Pres.set4 ⟨_,_,HR1.out⟩ (by decide) _ _ _ _).trans (Pres.alloc _ _));exact RQ.of_zz (by rw[<-HRO.out.1];exact HX1.out) (by rw[<-HRO.out.2];exact HY1.out)
  .exact((((HBW1.out.setCell (by simp;omega) _).setCell (by simp;omega) _).setCell (by simp;omega) _).setCell (by simp;omega) _).alloc (by have:=HBW1.out.size;simp[World.setCell];omega) _
 .have HP:=LH (mkRat_parts x d (Nat.ne_of_gt h0));rw[<-HG.out]at HP
  have hcase:(((nlen g:Int)==1)=false)\/(((nlen g:Int)==1)=true/\((dig g 0:Int)==1)=false/\nlen g=1):=by
   by_cases e:nlen g=1
   .refine .inr ⟨by simp;omega,?_,e⟩;rw[dig_zero_self e];simp;omega
   .exact .inl (by simp;omega)
  clear h1;rcases hcase with hc|⟨hc,hd0,hn1⟩
  .skip
   have HXD:=LH HX1.out.mag;have HYD:=LH HY1.out.mag;have HNB:=LH HX1.out.neg
   go_wp2_with fail
   refine(over_c (HXD.out.pres (Pres.alloc _ _)) (HVG.out.pres (Pres.alloc _ _)) hg0 hsx (by omega)).mono ?_;rintro e w2 ⟨q1,q1r,rfl,hq1,-,hb2⟩;obtain⟨aq1,cq1,rfl⟩:=hq1.cells';have hgr:=(hb2.block w1.heap.size (by simp)).trans (heap_new _ _ rfl);obtain⟨gx0,gx1,-,-⟩:=row2 hgr;have HB2:Hid (Bel w1.heap.size w1 w2):=Bel.new.trans (hb2.mono (by simp));have hs2:=HB2.out.size
   have hz4:w1.heap.size<w2.heap.size:=BlkT.lt ⟨_,_,hgr⟩;obtain⟨a20,a21,-,-⟩:=row2 ((HB2.out.block _ hz2).trans HA1.out);obtain⟨b20,b21,-,-⟩:=row2 ((HB2.out.block _ hz3).trans HB1.out);have HQ1:=LH hq1;clear hb2 hq1 hgr
   go_wp2_with fail
   refine(over_c (by have:=HYD.out.pres HB2.out.pb;rwa [Int.natAbs_natCast]at this) (HVG.out.pres HB2.out.pb) hg0 hsy (by omega)).mono ?_;rintro e w3 ⟨q2,q2r,rfl,hq2,-,hb3⟩;obtain⟨aq2,cq2,rfl⟩:=hq2.cells';have HB3:Hid (Bel w1.heap.size w1 w3):=HB2.out.next HB2.out.size hb3;have hs3:=hb3.size;obtain⟨a30,a31,-,-⟩:=row2 ((HB3.out.block _ hz2).trans HA1.out);have HQ1':=LH (HQ1.out.below hb3)
   have HQ2:=LH hq2;clear hq2
   go_wp2_with fail
   refine(signed_c HQ1'.out).mono ?_;rintro e w4 ⟨v1,rfl,hv1,hb4⟩;have HZ1:Hid (sgn bx (x.natAbs/g)=(mkRat x d).num):=by show _=_;rw[HNB.out,<-HP.out.1,<-HP.out.2.1,sgn_int]
   rw[HZ1.out]at hv1;obtain⟨bs1,as1,ns1,cs1,rfl⟩:=ZZ.cells hv1
   go_wp2_with fail
   refine(signed_c (HQ2.out.below hb4)).mono ?_;rintro e w5 ⟨v2,rfl,hv2,hb5⟩;have HZ2:Hid (sgn false (d/g)=((mkRat x d).den:Nat)):=by show _=_;rw[HP.out.2.2.1];rfl
   rw[HZ2.out]at hv2;obtain⟨bs2,as2,ns2,cs2,rfl⟩:=ZZ.cells hv2;have HB5:Hid (Bel w1.heap.size w1 w5):=(HB3.out.next HB3.out.size hb4).next (by have:=hb4.size;omega) hb5;have HR5:=LH ((HB5.out.block _ hz1).trans HR1.out);obtain⟨r50,r51,r52,r53,rf50,rf51,rf52,rf53⟩:=row4 HR5.out;have HV:=LH (RQ.of_zz (hv1.pres hb5.pb) hv2);have HBF:Hid (Bel w.heap.size w w5):=HBW1.out.next HBW1.out.size HB5.out
   clear hv1 hv2 hb3 hb4 hb5;go_wp2;exact post_box rfl rfl rfl (loadQ (set4_heap HR5.out)) ⟨_,rfl,HV.out.pres (Pres.set4 ⟨_,_,HR5.out⟩ (by decide) _ _ _ _),(((HBF.out.setCell (by simp;omega) _).setCell (by simp;omega) _).setCell (by simp;omega) _).setCell (by simp;omega) _⟩
  .obtain⟨ag',cg',eg,-,hgc⟩:=HVG.out;obtain⟨bg,og,ea,hbg,hgcell⟩:=hgc.open (by omega);have gc0:w1.cell? ⟨bg,og,none⟩=some (.int .i64 (dig g 0)):=hgcell 0 (by omega)
   injection eg with eg1 eg2 eg3
   subst eg1;subst ea;have hng:0<nlen g:=by omega
   clear hgc hgcell eg2 eg3 hn1;have HXD:=LH HX1.out.mag;have HYD:=LH HY1.out.mag;have HNB:=LH HX1.out.neg
   go_wp2_with fail
   refine(over_c (HXD.out.pres (Pres.alloc _ _)) (HVG.out.pres (Pres.alloc _ _)) hg0 hsx (by omega)).mono ?_;rintro e w2 ⟨q1,q1r,rfl,hq1,-,hb2⟩;obtain⟨aq1,cq1,rfl⟩:=hq1.cells';have hgr:=(hb2.block w1.heap.size (by simp)).trans (heap_new _ _ rfl);obtain⟨gx0,gx1,-,-⟩:=row2 hgr;have HB2:Hid (Bel w1.heap.size w1 w2):=Bel.new.trans (hb2.mono (by simp));have hs2:=HB2.out.size
   have hz4:w1.heap.size<w2.heap.size:=BlkT.lt ⟨_,_,hgr⟩;obtain⟨a20,a21,-,-⟩:=row2 ((HB2.out.block _ hz2).trans HA1.out);obtain⟨b20,b21,-,-⟩:=row2 ((HB2.out.block _ hz3).trans HB1.out);have HQ1:=LH hq1;clear hb2 hq1 hgr
   go_wp2_with fail
   refine(over_c (by have:=HYD.out.pres HB2.out.pb;rwa [Int.natAbs_natCast]at this) (HVG.out.pres HB2.out.pb) hg0 hsy (by omega)).mono ?_;rintro e w3 ⟨q2,q2r,rfl,hq2,-,hb3⟩;obtain⟨aq2,cq2,rfl⟩:=hq2.cells';have HB3:Hid (Bel w1.heap.size w1 w3):=HB2.out.next HB2.out.size hb3;have hs3:=hb3.size;obtain⟨a30,a31,-,-⟩:=row2 ((HB3.out.block _ hz2).trans HA1.out);have HQ1':=LH (HQ1.out.below hb3)
   have HQ2:=LH hq2;clear hq2
   go_wp2_with fail
   refine(signed_c HQ1'.out).mono ?_;rintro e w4 ⟨v1,rfl,hv1,hb4⟩;have HZ1:Hid (sgn bx (x.natAbs/g)=(mkRat x d).num):=by show _=_;rw[HNB.out,<-HP.out.1,<-HP.out.2.1,sgn_int]
   rw[HZ1.out]at hv1;obtain⟨bs1,as1,ns1,cs1,rfl⟩:=ZZ.cells hv1
   go_wp2_with fail
   refine(signed_c (HQ2.out.below hb4)).mono ?_;rintro e w5 ⟨v2,rfl,hv2,hb5⟩;have HZ2:Hid (sgn false (d/g)=((mkRat x d).den:Nat)):=by show _=_;rw[HP.out.2.2.1];rfl
   rw[HZ2.out]at hv2;obtain⟨bs2,as2,ns2,cs2,rfl⟩:=ZZ.cells hv2;have HB5:Hid (Bel w1.heap.size w1 w5):=(HB3.out.next HB3.out.size hb4).next (by have:=hb4.size;omega) hb5;have HR5:=LH ((HB5.out.block _ hz1).trans HR1.out);obtain⟨r50,r51,r52,r53,rf50,rf51,rf52,rf53⟩:=row4 HR5.out;have HV:=LH (RQ.of_zz (hv1.pres hb5.pb) hv2);have HBF:Hid (Bel w.heap.size w w5):=HBW1.out.next HBW1.out.size HB5.out
   clear hv1 hv2 hb3 hb4 hb5;go_wp2;exact post_box rfl rfl rfl (loadQ (set4_heap HR5.out)) ⟨_,rfl,HV.out.pres (Pres.set4 ⟨_,_,HR5.out⟩ (by decide) _ _ _ _),(((HBF.out.setCell (by simp;omega) _).setCell (by simp;omega) _).setCell (by simp;omega) _).setCell (by simp;omega) _⟩
theorem qof_neg {w:World}{va vb:Value}{x:Int}{d:Nat}(ha:ZZ w va (-x))(hb:ZZ w vb (-(d:Nat)))(h0:0<d)(hsx:nlen x.natAbs<=10000000000)(hsy:nlen d<=10000000000):
 Calls Tryz.prog 111 #[va,vb] w (Gives w fun v w'=>RQ w' v (mkRat x d)):=by
 obtain⟨bx,ax,nx,cx,rfl⟩:=ZZ.cells ha;obtain⟨by_,ay,ny,cy,rfl⟩:=ZZ.cells hb;have hby:by_=true:=by rw[hb.neg];simp;omega
 subst hby;have HX0:=LH ha;have HY0:=LH hb;clear ha hb
 go_enter Tryz.func111,Tryz.ntmps111
 go_wp2_with fail
 refine name_world ?_;intro W0 hW0;have hRA:=at_world hW0 (b:=w.heap.size) ((heap_old _ _ Sd1).trans ((heap_old _ _ Sd1).trans (heap_new _ _ Sd1)));have hRB:=at_world hW0 (b:=w.heap.size+1) ((heap_old _ _ Sd1).trans (heap_new _ _ Sd1));have hRR:=at_world hW0 (b:=w.heap.size+1+1) (heap_new _ _ Sd1);have hzr:w.heap.size+1+1<W0.heap.size:=by rw[hW0];simp
 have HBW0:Hid (Bel w.heap.size w W0):=by rw[hW0];exact(Bel.new.alloc Sd1 _).alloc Sd1 _
 have HXW:=LH (HX0.out.pres HBW0.out.pb);have HYW:=LH (HY0.out.pres HBW0.out.pb);obtain⟨ca0,ca1,fa0,fa1⟩:=row2 hRA;obtain⟨cb0,cb1,fb0,fb1⟩:=row2 hRB;clear hW0
 go_region_with (first
  |(go_at_call_of 156 ax;refine(zneg_c (HXW.out.pres CH2s)).mono ?_;rintro e w9 ⟨vq1,rfl,hQ1,hb1⟩;rw[Int.neg_neg]at hQ1;obtain⟨bq1,aq1,nq1,cq1,rfl⟩:=ZZ.cells hQ1;have hs1:W0.heap.size<=w9.heap.size:=(by first|exact hb1.size|exact Nat.le_trans (by with_reducible assumption) hb1.size);have hrA:w9.heap[w.heap.size]?=some (.cells #[.bool bx,.slice ax nx cx] 47):=RW2;have hrB:w9.heap[w.heap.size+1]?=some (.cells #[.bool true,.slice ay ny cy] 47):=RW2;obtain⟨ca0,ca1,fa0,fa1⟩:=row2 hrA;obtain⟨cb0,cb1,fb0,fb1⟩:=row2 hrB;have hrR:w9.heap[w.heap.size+1+1]?=some (.cells #[.bool false,.slice none 0 0,.bool false,.slice none 0 0] 49):=RW2)
  |(go_at_call_of 156 ay;refine(zneg_c (HYW.out.pres CH2s)).mono ?_;rintro e w9 ⟨vq2,rfl,hQ2,hb2⟩;rw[Int.neg_neg]at hQ2;obtain⟨bq2,aq2,nq2,cq2,rfl⟩:=ZZ.cells hQ2;have hs2:W0.heap.size<=w9.heap.size:=(by first|exact hb2.size|exact Nat.le_trans (by with_reducible assumption) hb2.size);have hrA:w9.heap[w.heap.size]?=some (.cells #[.bool bx,.slice ax nx cx] 47):=RW2;have hrB:w9.heap[w.heap.size+1]?=some (.cells #[.bool true,.slice ay ny cy] 47):=RW2;obtain⟨ca0,ca1,fa0,fa1⟩:=row2 hrA;obtain⟨cb0,cb1,fb0,fb1⟩:=row2 hrB;have hrR:w9.heap[w.heap.size+1+1]?=some (.cells #[.bool false,.slice none 0 0,.bool false,.slice none 0 0] 49):=RW2))
 all_goals
  have hq1:=ZZ.pres (w':=w9) hQ1 CH2s;have hq2:=ZZ.pres (w':=w9) hQ2 CH2s;have e2:bq2=false:=by rw[ZZ.neg hQ2];simp
  subst e2;refine name_exit ?_;intro W1 hW1
  have HA0:Hid (W1.heap[w.heap.size]?=some (.cells #[.bool bq1,.slice aq1 nq1 cq1] 47)):=by
   rw[hW1,Below.heap_setCell _ _ _ _ (by simp),Below.heap_setCell _ _ _ _ (by simp)];exact set2_heap hrA
  have hrB2:((w9.setCell ⟨w.heap.size,0,none⟩ (.bool bq1)).setCell ⟨w.heap.size,1,none⟩ (.slice aq1 nq1 cq1)).heap[w.heap.size+1]?=some (.cells #[.bool true,.slice ay ny cy] 47):=by
   rw[Below.heap_setCell _ _ _ _ (by simp),Below.heap_setCell _ _ _ _ (by simp)];exact hrB
  have HB0:Hid (W1.heap[w.heap.size+1]?=some (.cells #[.bool false,.slice aq2 nq2 cq2] 47)):=by
   rw[hW1];exact set2_heap hrB2
  have HR0:Hid (W1.heap[w.heap.size+1+1]?=some (.cells #[.bool false,.slice none 0 0,.bool false,.slice none 0 0] 49)):=by
   rw[hW1,Below.heap_setCell _ _ _ _ Sd1,Below.heap_setCell _ _ _ _ Sd1,Below.heap_setCell _ _ _ _ Sd1,Below.heap_setCell _ _ _ _ Sd1];exact hrR
  have hpz:Pres 3 w9 W1:=by rw[hW1];exact(Pres.set2 ⟨_,_,hrA⟩ (by decide) _ _ _ _).trans (Pres.set2 ⟨_,_,hrB2⟩ (by decide) _ _ _ _)
  have HX:=LH (hq1.pres hpz);have HY:=LH (hq2.pres hpz)
  have HB9:Hid (Bel w.heap.size w w9):=by
   first
    |exact(HBW0.out.drew.next (by simp;omega) hb1).next (by omega) hb2
    |exact(HBW0.out.drew.next (by simp;omega) hb2).next (by omega) hb1
  have HBW:Hid (Bel w.heap.size w W1):=by rw[hW1];exact(((HB9.out.setCell (by simp) _).setCell (by simp) _).setCell (by simp) _).setCell (by simp) _
  have hzr1:w.heap.size+1+1<W1.heap.size:=by rw[hW1];simp[World.setCell];omega
  clear hW1 hrB2 hpz hq1 hq2 hQ1 hQ2 hrA hrB hrR hRA hRB hRR ca0 ca1 fa0 fa1 cb0 cb1 fb0 fb1 hs1 hs2 hb1 hb2 hzr;have hzr:=hzr1;obtain⟨a_0,a_1,af_0,af_1⟩:=row2 HA0.out;obtain⟨b_0,b_1,bf_0,bf_1⟩:=row2 HB0.out;clear hzr1;obtain⟨bx,rfl⟩:∃b,b=bq1:=⟨_,rfl⟩
  go_wp2_with fail
  refine(zgcd_c HX.out HY.out hsx (by rw[Int.natAbs_natCast];exact hsy)).mono ?_;rintro e w1 ⟨vg,rfl,⟨vgd,rfl,hvg⟩,hb1⟩;rw[Int.natAbs_natCast]at hvg;rw[Int.natAbs_natCast]at hvg;have hg0:0<Nat.gcd x.natAbs d:=Nat.gcd_pos_of_pos_right _ h0;have HGL:=LH (nlen_mono (Nat.gcd_le_right x.natAbs h0));have HGX:=LH (Nat.gcd_dvd_left x.natAbs d);obtain⟨g,hg⟩:∃g,g=Nat.gcd x.natAbs d:=⟨_,rfl⟩
  have HG:=LH hg;rw[<-hg]at hvg hg0 HGL;have hgl:=HGL.out;have HVG:=LH hvg;obtain⟨ag,cg,rfl⟩:=hvg.cells';have HR1:=LH ((hb1.block _ hzr).trans HR0.out);have HA1:=LH ((hb1.block _ (by omega)).trans HA0.out);have HB1:=LH ((hb1.block _ (by omega)).trans HB0.out);have hz1:w.heap.size+1+1<w1.heap.size:=Nat.lt_of_lt_of_le hzr hb1.size;have hz2:w.heap.size<w1.heap.size:=by omega
  have hz3:w.heap.size+1<w1.heap.size:=by omega
  have HX1:=LH (HX.out.pres hb1.pb);have HY1:=LH (HY.out.pres hb1.pb);have HBW1:Hid (Bel w.heap.size w w1):=HBW.out.next HBW.out.size hb1;obtain⟨a_0,a_1,af_0,af_1⟩:=row2 HA1.out;obtain⟨b_0,b_1,bf_0,bf_1⟩:=row2 HB1.out;obtain⟨r_0,r_1,r_2,r_3,rf_0,rf_1,rf_2,rf_3⟩:=row4 HR1.out;clear hb1 hvg hg
  by_cases h1:g=1
  .have hn1:nlen g=1:=by rw[h1,nlen_one]
   obtain⟨ag',cg',eg,-,hgc⟩:=HVG.out;obtain⟨bg,og,ea,hbg,hgcell⟩:=hgc.open (by omega)
   have gc0:w1.cell? ⟨bg,og,none⟩=some (.int .i64 1):=by
    have:=hgcell 0 (by omega);unfold dv at this;rw[dig_zero_self hn1,h1]at this;exact this
   injection eg with eg1 eg2 eg3
   subst eg1;subst ea;have HRO:=LH (ratOne (x:=x) (Nat.ne_of_gt h0) HG.out h1);rw[hn1];clear hgc hgcell h1;clear eg2 eg3;go_wp2;refine post_box rfl rfl rfl (loadQ ((heap_old _ _ (by simp[World.setCell];omega)).trans (set4_heap HR1.out))) ⟨_,rfl,?_,?_⟩
   .refine RQ.pres ?_ ((Pres.set4 ⟨_,_,HR1.out⟩ (by decide) _ _ _ _).trans (Pres.alloc _ _));exact RQ.of_zz (by rw[<-HRO.out.1];exact HX1.out) (by rw[<-HRO.out.2];exact HY1.out)
   .exact((((HBW1.out.setCell (by simp;omega) _).setCell (by simp;omega) _).setCell (by simp;omega) _).setCell (by simp;omega) _).alloc (by have:=HBW1.out.size;simp[World.setCell];omega) _
  .have HP:=LH (mkRat_parts x d (Nat.ne_of_gt h0));rw[<-HG.out]at HP
   have hcase:(((nlen g:Int)==1)=false)\/(((nlen g:Int)==1)=true/\((dig g 0:Int)==1)=false/\nlen g=1):=by
    by_cases e:nlen g=1
    .refine .inr ⟨by simp;omega,?_,e⟩;rw[dig_zero_self e];simp;omega
    .exact .inl (by simp;omega)
   clear h1;rcases hcase with hc|⟨hc,hd0,hn1⟩
   .skip
    have HXD:=LH HX1.out.mag;have HYD:=LH HY1.out.mag;have HNB:=LH HX1.out.neg
    go_wp2_with fail
    refine(over_c (HXD.out.pres (Pres.alloc _ _)) (HVG.out.pres (Pres.alloc _ _)) hg0 hsx (by omega)).mono ?_;rintro e w2 ⟨q1,q1r,rfl,hq1,-,hb2⟩;obtain⟨aq1,cq1,rfl⟩:=hq1.cells';have hgr:=(hb2.block w1.heap.size (by simp)).trans (heap_new _ _ rfl);obtain⟨gx0,gx1,-,-⟩:=row2 hgr;have HB2:Hid (Bel w1.heap.size w1 w2):=Bel.new.trans (hb2.mono (by simp));have hs2:=HB2.out.size
    have hz4:w1.heap.size<w2.heap.size:=BlkT.lt ⟨_,_,hgr⟩;obtain⟨a20,a21,-,-⟩:=row2 ((HB2.out.block _ hz2).trans HA1.out);obtain⟨b20,b21,-,-⟩:=row2 ((HB2.out.block _ hz3).trans HB1.out);have HQ1:=LH hq1;clear hb2 hq1 hgr
    go_wp2_with fail
    refine(over_c (by have:=HYD.out.pres HB2.out.pb;rwa [Int.natAbs_natCast]at this) (HVG.out.pres HB2.out.pb) hg0 hsy (by omega)).mono ?_;rintro e w3 ⟨q2,q2r,rfl,hq2,-,hb3⟩;obtain⟨aq2,cq2,rfl⟩:=hq2.cells';have HB3:Hid (Bel w1.heap.size w1 w3):=HB2.out.next HB2.out.size hb3;have hs3:=hb3.size;obtain⟨a30,a31,-,-⟩:=row2 ((HB3.out.block _ hz2).trans HA1.out);have HQ1':=LH (HQ1.out.below hb3)
    have HQ2:=LH hq2;clear hq2
    go_wp2_with fail
    refine(signed_c HQ1'.out).mono ?_;rintro e w4 ⟨v1,rfl,hv1,hb4⟩;have HZ1:Hid (sgn bx (x.natAbs/g)=(mkRat x d).num):=by show _=_;rw[HNB.out,<-HP.out.1,<-HP.out.2.1,sgn_int]
    rw[HZ1.out]at hv1;obtain⟨bs1,as1,ns1,cs1,rfl⟩:=ZZ.cells hv1
    go_wp2_with fail
    refine(signed_c (HQ2.out.below hb4)).mono ?_;rintro e w5 ⟨v2,rfl,hv2,hb5⟩;have HZ2:Hid (sgn false (d/g)=((mkRat x d).den:Nat)):=by show _=_;rw[HP.out.2.2.1];rfl
    rw[HZ2.out]at hv2;obtain⟨bs2,as2,ns2,cs2,rfl⟩:=ZZ.cells hv2;have HB5:Hid (Bel w1.heap.size w1 w5):=(HB3.out.next HB3.out.size hb4).next (by have:=hb4.size;omega) hb5;have HR5:=LH ((HB5.out.block _ hz1).trans HR1.out);obtain⟨r50,r51,r52,r53,rf50,rf51,rf52,rf53⟩:=row4 HR5.out;have HV:=LH (RQ.of_zz (hv1.pres hb5.pb) hv2);have HBF:Hid (Bel w.heap.size w w5):=HBW1.out.next HBW1.out.size HB5.out
    clear hv1 hv2 hb3 hb4 hb5;go_wp2;exact post_box rfl rfl rfl (loadQ (set4_heap HR5.out)) ⟨_,rfl,HV.out.pres (Pres.set4 ⟨_,_,HR5.out⟩ (by decide) _ _ _ _),(((HBF.out.setCell (by simp;omega) _).setCell (by simp;omega) _).setCell (by simp;omega) _).setCell (by simp;omega) _⟩
   .obtain⟨ag',cg',eg,-,hgc⟩:=HVG.out;obtain⟨bg,og,ea,hbg,hgcell⟩:=hgc.open (by omega);have gc0:w1.cell? ⟨bg,og,none⟩=some (.int .i64 (dig g 0)):=hgcell 0 (by omega)
    injection eg with eg1 eg2 eg3
    subst eg1;subst ea;have hng:0<nlen g:=by omega
    clear hgc hgcell eg2 eg3 hn1;have HXD:=LH HX1.out.mag;have HYD:=LH HY1.out.mag;have HNB:=LH HX1.out.neg
    go_wp2_with fail
    refine(over_c (HXD.out.pres (Pres.alloc _ _)) (HVG.out.pres (Pres.alloc _ _)) hg0 hsx (by omega)).mono ?_;rintro e w2 ⟨q1,q1r,rfl,hq1,-,hb2⟩;obtain⟨aq1,cq1,rfl⟩:=hq1.cells';have hgr:=(hb2.block w1.heap.size (by simp)).trans (heap_new _ _ rfl);obtain⟨gx0,gx1,-,-⟩:=row2 hgr;have HB2:Hid (Bel w1.heap.size w1 w2):=Bel.new.trans (hb2.mono (by simp));have hs2:=HB2.out.size
    have hz4:w1.heap.size<w2.heap.size:=BlkT.lt ⟨_,_,hgr⟩;obtain⟨a20,a21,-,-⟩:=row2 ((HB2.out.block _ hz2).trans HA1.out);obtain⟨b20,b21,-,-⟩:=row2 ((HB2.out.block _ hz3).trans HB1.out);have HQ1:=LH hq1;clear hb2 hq1 hgr
    go_wp2_with fail
    refine(over_c (by have:=HYD.out.pres HB2.out.pb;rwa [Int.natAbs_natCast]at this) (HVG.out.pres HB2.out.pb) hg0 hsy (by omega)).mono ?_;rintro e w3 ⟨q2,q2r,rfl,hq2,-,hb3⟩;obtain⟨aq2,cq2,rfl⟩:=hq2.cells';have HB3:Hid (Bel w1.heap.size w1 w3):=HB2.out.next HB2.out.size hb3;have hs3:=hb3.size;obtain⟨a30,a31,-,-⟩:=row2 ((HB3.out.block _ hz2).trans HA1.out);have HQ1':=LH (HQ1.out.below hb3)
    have HQ2:=LH hq2;clear hq2
    go_wp2_with fail
    refine(signed_c HQ1'.out).mono ?_;rintro e w4 ⟨v1,rfl,hv1,hb4⟩;have HZ1:Hid (sgn bx (x.natAbs/g)=(mkRat x d).num):=by show _=_;rw[HNB.out,<-HP.out.1,<-HP.out.2.1,sgn_int]
    rw[HZ1.out]at hv1;obtain⟨bs1,as1,ns1,cs1,rfl⟩:=ZZ.cells hv1
    go_wp2_with fail
    refine(signed_c (HQ2.out.below hb4)).mono ?_;rintro e w5 ⟨v2,rfl,hv2,hb5⟩;have HZ2:Hid (sgn false (d/g)=((mkRat x d).den:Nat)):=by show _=_;rw[HP.out.2.2.1];rfl
    rw[HZ2.out]at hv2;obtain⟨bs2,as2,ns2,cs2,rfl⟩:=ZZ.cells hv2;have HB5:Hid (Bel w1.heap.size w1 w5):=(HB3.out.next HB3.out.size hb4).next (by have:=hb4.size;omega) hb5;have HR5:=LH ((HB5.out.block _ hz1).trans HR1.out);obtain⟨r50,r51,r52,r53,rf50,rf51,rf52,rf53⟩:=row4 HR5.out;have HV:=LH (RQ.of_zz (hv1.pres hb5.pb) hv2);have HBF:Hid (Bel w.heap.size w w5):=HBW1.out.next HBW1.out.size HB5.out
    clear hv1 hv2 hb3 hb4 hb5;go_wp2;exact post_box rfl rfl rfl (loadQ (set4_heap HR5.out)) ⟨_,rfl,HV.out.pres (Pres.set4 ⟨_,_,HR5.out⟩ (by decide) _ _ _ _),(((HBF.out.setCell (by simp;omega) _).setCell (by simp;omega) _).setCell (by simp;omega) _).setCell (by simp;omega) _⟩
theorem nlen4 {x L:Nat}(h:Go.Proofs.YtlgjakpoaelehaaGreat.nlen x<=L):nlen x<=3*L:=by
 rw[nlen_le_iff];rw[Go.Proofs.YtlgjakpoaelehaaGreat.nlen_le_iff]at h;refine Nat.lt_of_lt_of_le h ?_;rw[Nat.pow_mul];exact Nat.pow_le_pow_left (by decide) L
theorem QF.n4 {L:Nat}{q:Rat}(h:QF L q):nlen q.num.natAbs<=3*L/\nlen ((q.den:Nat):Int).natAbs<=3*L:=⟨nlen4 h.1,by rw[Int.natAbs_natCast];exact nlen4 h.2⟩
theorem RQ.out4 {w:World}{v:Value}{q:Rat}(h:RQ w v q):∃b a1 n1 c1 b2 a2 n2 c2,v=.agg #[.bool b,.slice a1 n1 c1,.bool b2,.slice a2 n2 c2]/\RQ w (.agg #[.bool b,.slice a1 n1 c1,.bool b2,.slice a2 n2 c2]) q/\ZZ w (.agg #[.bool b,.slice a1 n1 c1]) q.num:=by
 obtain⟨b,a1,n1,c1,b2,a2,n2,c2,rfl⟩:=h.cells;exact⟨b,a1,n1,c1,b2,a2,n2,c2,rfl,h,h.num⟩
theorem ZZ.cast {w:World}{v:Value}{a b:Nat}(h:ZZ w v ((a:Int)*(b:Int))):ZZ w v ((a*b:Nat):Int):=by rw[Int.natCast_mul];exact h
theorem sz_mul {x y:Int}{L M:Nat}(h1:Go.Proofs.YtlgjakpoaelehaaGreat.nlen x.natAbs<=L)(h2:Go.Proofs.YtlgjakpoaelehaaGreat.nlen y.natAbs<=M):Go.Proofs.YtlgjakpoaelehaaGreat.nlen (x*y).natAbs<=L+M:=by
 rw[Int.natAbs_mul];exact Nat.le_trans (Go.Proofs.YtlgjakpoaelehaaGreat.nlen_mul _ _) (by omega)
theorem sz_add {x y:Int}{L M:Nat}(h1:Go.Proofs.YtlgjakpoaelehaaGreat.nlen x.natAbs<=L)(h2:Go.Proofs.YtlgjakpoaelehaaGreat.nlen y.natAbs<=L)(hM:L+1<=M):Go.Proofs.YtlgjakpoaelehaaGreat.nlen (x+y).natAbs<=M:=by
 have e:=Go.Proofs.YtlgjakpoaelehaaGreat.nlen_mono (Int.natAbs_add_le x y);have e1:=Go.Proofs.YtlgjakpoaelehaaGreat.nlen_add x.natAbs y.natAbs;omega
theorem RQ.set {w:World}{b:Nat}{x y z u x' y' z' u':Value}{v:Value}{q:Rat}(hv:RQ w v q)(h:w.heap[b]?=some (.cells #[x,y,z,u] 49)):RQ ((((w.setCell ⟨b,0,none⟩ x').setCell ⟨b,1,none⟩ y').setCell ⟨b,2,none⟩ z').setCell ⟨b,3,none⟩ u') v q:=
 hv.pres (Pres.set4 ⟨_,_,h⟩ (by decide) _ _ _ _)
theorem rmul_c {w:World}{va vb:Value}{a b:Rat}{L M:Nat}(ha:RQ w va a)(hb:RQ w vb b)(hL:QF L a)(hM:QF M b)(hs:L+M<=1000000000):
 Calls Tryz.prog 82 #[va,vb] w (Gives w fun v w'=>RQ w' v (a*b)):=by
 obtain⟨ba,a1,n1,c1,b2,a2,n2,c2,rfl,ha1,ha2⟩:=RQ.out4 ha;have HA:=LH ha1;have HNA:=LH ha2;have hA1:=(QF.n4 hL).1;have hA2:=(QF.n4 hL).2;obtain⟨bb,d1,m1,e1,b4,d2,m2,e2,rfl,hb1,hb2⟩:=RQ.out4 hb;have HB:=LH hb1;have HNB:=LH hb2;have hB1:=(QF.n4 hM).1;have hB2:=(QF.n4 hM).2;have HN1:Hid (nlen (a.num*b.num).natAbs<=3*(L+M)):=nlen4 (sz_mul hL.1 hM.1);have HN4:Hid (nlen (a.den*b.den)<=3*(L+M)):=nlen4 (Nat.le_trans (Go.Proofs.YtlgjakpoaelehaaGreat.nlen_mul _ _) (Nat.add_le_add hL.2 hM.2))
 have HNZ:=LH (Nat.mul_pos a.den_pos b.den_pos);have HE:=LH (Rat.mul_def' a b).symm;clear ha ha1 ha2 hb hb1 hb2 hL hM
 go_enter Tryz.func82,Tryz.ntmps82
 go_wp2;refine name_world ?_;intro W0 hW0;obtain⟨a_0,a_1,a_2,a_3,-,-,-,-⟩:=row4 (at_world hW0 (b:=w.heap.size) ((heap_old _ _ Sd1).trans ((heap_old _ _ Sd1).trans (heap_new _ _ Sd1))));obtain⟨b_0,b_1,b_2,b_3,-,-,-,-⟩:=row4 (at_world hW0 (b:=w.heap.size+1) ((heap_old _ _ Sd1).trans (heap_new _ _ Sd1)));have hR0:=at_world hW0 (b:=w.heap.size+1+1) (heap_new _ _ Sd1);have hsz:w.heap.size+1+1+1<=W0.heap.size:=by rw[hW0];simp
 have hst:SHs w W0 (w.heap.size+1+1) W0:=SHs.start (by omega) (by omega) (by rw[hW0];exact((Bel.new.alloc Sd1 _).alloc Sd1 _));clear hW0
 go_region_held3 (fun w'=>(∀(b o:Nat),b<w.heap.size+1+1->w'.cell? ⟨b,o,none⟩=W0.cell? ⟨b,o,none⟩)/\SHs w W0 (w.heap.size+1+1) w') (exact K2s)
  (first
   |(go_at_call_of 135 n1;(try (rename _/\_=>hh;rcases hh with⟨hSc,hSb⟩));refine(rden_c (HA.out.pres B2s)).mono ?_;rintro e w9 ⟨vda,rfl,hda,hbda⟩;obtain⟨fda,pda,qda,rda,rfl⟩:=ZZ.cells hda;have hzda:=(hSb.call hbda).near.size)
   |(go_at_call_of 135 m1;(try (rename _/\_=>hh;rcases hh with⟨hSc,hSb⟩));refine(rden_c (HB.out.pres B2s)).mono ?_;rintro e w9 ⟨vdb,rfl,hdb,hbdb⟩;obtain⟨fdb,pdb,qdb,rdb,rfl⟩:=ZZ.cells hdb;have hzdb:=(hSb.call hbdb).near.size)
   |(go_at_call_of 134 n1;(try (rename _/\_=>hh;rcases hh with⟨hSc,hSb⟩));refine(zmul_c (ZZ.pres HNA.out B2s) (ZZ.pres HNB.out B2s) (by omega) (by omega)).mono ?_;rintro e w9 ⟨vm,rfl,hm,hbm⟩;obtain⟨fm,pm,qm,rm,rfl⟩:=ZZ.cells hm;have hzm:=(hSb.call hbm).near.size)
   |(go_at_call_of 134 pda;(try (rename _/\_=>hh;rcases hh with⟨hSc,hSb⟩));refine(zmul_c (ZZ.pres hda CH2s) (ZZ.pres hdb CH2s) (by omega) (by omega)).mono ?_;rintro e w9 ⟨vd,rfl,hd,hbd⟩;obtain⟨fd,pd,qd,rd,rfl⟩:=ZZ.cells hd;have hzd:=(hSb.call hbd).near.size)
   |(go_at_call 111;(try (rename _/\_=>hh;rcases hh with⟨hSc,hSb⟩));refine(qof_pos (ZZ.pres hm CH2s) (ZZ.cast (ZZ.pres hd CH2s)) HNZ.out (Nat.le_trans HN1.out (by omega)) (Nat.le_trans HN4.out (by omega))).mono ?_;rintro e w9 ⟨vq,rfl,hq,hbq⟩;rw[HE.out]at hq;obtain⟨bq,aq,nq,cq,bq2,aq2,nq2,cq2,rfl⟩:=RQ.cells hq;have hzq:=(hSb.call hbq).near.size;have hrow:w9.heap[w.heap.size+1+1]?=some (.cells #[.bool false,.slice none 0 0,.bool false,.slice none 0 0] 49):=RW2;obtain⟨hc0,hc1,hc2,hc3,hf0,hf1,hf2,hf3⟩:=row4 hrow))
 all_goals go_wp2
 all_goals((try (rename _/\_=>hh;rcases hh with⟨hSc,hSb⟩));exact post_box rfl rfl rfl (loadQ (set4_heap hrow)) ⟨_,rfl,RQ.set hq hrow,hSb.base⟩)
theorem radd_c {w:World}{va vb:Value}{a b:Rat}{L M:Nat}(ha:RQ w va a)(hb:RQ w vb b)(hL:QF L a)(hM:QF M b)(hs:L+M<=1000000000):
 Calls Tryz.prog 73 #[va,vb] w (Gives w fun v w'=>RQ w' v (a+b)):=by
 obtain⟨ba,a1,n1,c1,b2,a2,n2,c2,rfl,ha1,ha2⟩:=RQ.out4 ha;have HA:=LH ha1;have HNA:=LH ha2;have hA1:=(QF.n4 hL).1;have hA2:=(QF.n4 hL).2;obtain⟨bb,d1,m1,e1,b4,d2,m2,e2,rfl,hb1,hb2⟩:=RQ.out4 hb;have HB:=LH hb1;have HNB:=LH hb2;have hB1:=(QF.n4 hM).1;have hB2:=(QF.n4 hM).2;have HN1:Hid (nlen (a.num*(b.den:Int)).natAbs<=3*(L+M)):=nlen4 (sz_mul hL.1 (by rw[Int.natAbs_natCast];exact hM.2))
 have HN2:Hid (nlen (b.num*(a.den:Int)).natAbs<=3*(L+M)):=nlen4 (by rw[Nat.add_comm];exact sz_mul hM.1 (by rw[Int.natAbs_natCast];exact hL.2));have HN3:Hid (nlen (a.num*(b.den:Int)+b.num*(a.den:Int)).natAbs<=3*(L+M+1)):=nlen4 (sz_add (sz_mul hL.1 (by rw[Int.natAbs_natCast];exact hM.2)) (by rw[Nat.add_comm];exact sz_mul hM.1 (by rw[Int.natAbs_natCast];exact hL.2)) NL);have HN4:Hid (nlen (a.den*b.den)<=3*(L+M)):=nlen4 (Nat.le_trans (Go.Proofs.YtlgjakpoaelehaaGreat.nlen_mul _ _) (Nat.add_le_add hL.2 hM.2))
 have HNZ:=LH (Nat.mul_pos a.den_pos b.den_pos);have HE:=LH (Rat.add_def' a b).symm;clear ha ha1 ha2 hb hb1 hb2 hL hM
 go_enter Tryz.func73,Tryz.ntmps73
 go_wp2;refine name_world ?_;intro W0 hW0;obtain⟨a_0,a_1,a_2,a_3,-,-,-,-⟩:=row4 (at_world hW0 (b:=w.heap.size) ((heap_old _ _ Sd1).trans ((heap_old _ _ Sd1).trans (heap_new _ _ Sd1))));obtain⟨b_0,b_1,b_2,b_3,-,-,-,-⟩:=row4 (at_world hW0 (b:=w.heap.size+1) ((heap_old _ _ Sd1).trans (heap_new _ _ Sd1)));have hR0:=at_world hW0 (b:=w.heap.size+1+1) (heap_new _ _ Sd1);have hsz:w.heap.size+1+1+1<=W0.heap.size:=by rw[hW0];simp
 have hst:SHs w W0 (w.heap.size+1+1) W0:=SHs.start (by omega) (by omega) (by rw[hW0];exact((Bel.new.alloc Sd1 _).alloc Sd1 _));clear hW0
 go_region_held3 (fun w'=>(∀(b o:Nat),b<w.heap.size+1+1->w'.cell? ⟨b,o,none⟩=W0.cell? ⟨b,o,none⟩)/\SHs w W0 (w.heap.size+1+1) w') (exact K2s)
  (first
   |(go_at_call_of 135 n1;(try (rename _/\_=>hh;rcases hh with⟨hSc,hSb⟩));refine(rden_c (HA.out.pres B2s)).mono ?_;rintro e w9 ⟨vda,rfl,hda,hbda⟩;obtain⟨fda,pda,qda,rda,rfl⟩:=ZZ.cells hda;have hzda:=(hSb.call hbda).near.size)
   |(go_at_call_of 135 m1;(try (rename _/\_=>hh;rcases hh with⟨hSc,hSb⟩));refine(rden_c (HB.out.pres B2s)).mono ?_;rintro e w9 ⟨vdb,rfl,hdb,hbdb⟩;obtain⟨fdb,pdb,qdb,rdb,rfl⟩:=ZZ.cells hdb;have hzdb:=(hSb.call hbdb).near.size)
   |(go_at_call_of 134 n1;(try (rename _/\_=>hh;rcases hh with⟨hSc,hSb⟩));refine(zmul_c (ZZ.pres HNA.out B2s) (ZZ.pres hdb CH2s) (by omega) (by omega)).mono ?_;rintro e w9 ⟨vm,rfl,hm,hbm⟩;obtain⟨fm,pm,qm,rm,rfl⟩:=ZZ.cells hm;have hzm:=(hSb.call hbm).near.size)
   |(go_at_call_of 134 m1;(try (rename _/\_=>hh;rcases hh with⟨hSc,hSb⟩));refine(zmul_c (ZZ.pres HNB.out B2s) (ZZ.pres hda CH2s) (by omega) (by omega)).mono ?_;rintro e w9 ⟨vn,rfl,hn,hbn⟩;obtain⟨fn,pn,qn,rn,rfl⟩:=ZZ.cells hn;have hzn:=(hSb.call hbn).near.size)
   |(go_at_call 133;(try (rename _/\_=>hh;rcases hh with⟨hSc,hSb⟩));refine(zadd_c (ZZ.pres hm CH2s) (ZZ.pres hn CH2s) (Nat.le_trans HN1.out (by omega)) (Nat.le_trans HN2.out (by omega))).mono ?_;rintro e w9 ⟨vt,rfl,ht,hbt⟩;obtain⟨ft,pt,qt,rt,rfl⟩:=ZZ.cells ht;have hzt:=(hSb.call hbt).near.size)
   |(go_at_call 134;(try (rename _/\_=>hh;rcases hh with⟨hSc,hSb⟩));refine(zmul_c (ZZ.pres hda CH2s) (ZZ.pres hdb CH2s) (by omega) (by omega)).mono ?_;rintro e w9 ⟨vd,rfl,hd,hbd⟩;obtain⟨fd,pd,qd,rd,rfl⟩:=ZZ.cells hd;have hzd:=(hSb.call hbd).near.size)
   |(go_at_call 111;(try (rename _/\_=>hh;rcases hh with⟨hSc,hSb⟩));refine(qof_pos (ZZ.pres ht CH2s) (ZZ.cast (ZZ.pres hd CH2s)) HNZ.out (Nat.le_trans HN3.out (by omega)) (Nat.le_trans HN4.out (by omega))).mono ?_;rintro e w9 ⟨vq,rfl,hq,hbq⟩;rw[HE.out]at hq;obtain⟨bq,aq,nq,cq,bq2,aq2,nq2,cq2,rfl⟩:=RQ.cells hq;have hzq:=(hSb.call hbq).near.size;have hrow:w9.heap[w.heap.size+1+1]?=some (.cells #[.bool false,.slice none 0 0,.bool false,.slice none 0 0] 49):=RW2;obtain⟨hc0,hc1,hc2,hc3,hf0,hf1,hf2,hf3⟩:=row4 hrow))
 all_goals go_wp2
 all_goals((try (rename _/\_=>hh;rcases hh with⟨hSc,hSb⟩));exact post_box rfl rfl rfl (loadQ (set4_heap hrow)) ⟨_,rfl,RQ.set hq hrow,hSb.base⟩)
theorem rneg_c {w:World}{va:Value}{a:Rat}(ha:RQ w va a):
 Calls Tryz.prog 104 #[va] w (Gives w fun v w'=>RQ w' v (-a)):=by
 obtain⟨ba,a1,n1,c1,b2,a2,n2,c2,rfl,ha1,ha2⟩:=RQ.out4 ha;have HA:=LH ha1;have HNA:=LH ha2;clear ha ha1 ha2
 go_enter Tryz.func104,Tryz.ntmps104
 go_wp2;refine name_world ?_;intro W0 hW0;obtain⟨a_0,a_1,a_2,a_3,-,-,-,-⟩:=row4 (at_world hW0 (b:=w.heap.size) ((heap_old _ _ Sd1).trans (heap_new _ _ Sd1)));have hR0:=at_world hW0 (b:=w.heap.size+1) (heap_new _ _ Sd1);have hsz:w.heap.size+1+1<=W0.heap.size:=by rw[hW0];simp
 have hst:SHs w W0 (w.heap.size+1) W0:=SHs.start (by omega) (by omega) (by rw[hW0];exact(Bel.new.alloc Sd1 _));clear hW0
 go_region_held3 (fun w'=>(∀(b o:Nat),b<w.heap.size+1->w'.cell? ⟨b,o,none⟩=W0.cell? ⟨b,o,none⟩)/\SHs w W0 (w.heap.size+1) w') (exact K2s)
  (first
   |(go_at_call 156;(try (rename _/\_=>hh;rcases hh with⟨hSc,hSb⟩));refine(zneg_c (ZZ.pres HNA.out B2s)).mono ?_;rintro e w9 ⟨vm,rfl,hm,hbm⟩;obtain⟨fm,pm,qm,rm,rfl⟩:=ZZ.cells hm;have hzm:=(hSb.call hbm).near.size;have hrow:w9.heap[w.heap.size+1]?=some (.cells #[.bool false,.slice none 0 0,.bool false,.slice none 0 0] 49):=RW2;obtain⟨hc0,hc1,hc2,hc3,hf0,hf1,hf2,hf3⟩:=row4 hrow)
   |(go_at_call_of 135 n1;(try (rename _/\_=>hh;rcases hh with⟨hSc,hSb⟩));refine(rden_c (HA.out.pres B2s)).mono ?_;rintro e w9 ⟨vda,rfl,hda,hbda⟩;obtain⟨fda,pda,qda,rda,rfl⟩:=ZZ.cells hda;have hzda:=(hSb.call hbda).near.size;have hrow:w9.heap[w.heap.size+1]?=some (.cells #[.bool false,.slice none 0 0,.bool false,.slice none 0 0] 49):=RW2;obtain⟨hc0,hc1,hc2,hc3,hf0,hf1,hf2,hf3⟩:=row4 hrow))
 all_goals go_wp2
 all_goals((try (rename _/\_=>hh;rcases hh with⟨hSc,hSb⟩));have hq:=RQ.of_zz (q:=-a) (ZZ.pres (w':=w9) hm CH2s) (ZZ.pres (w':=w9) hda CH2s);exact post_box rfl rfl rfl (loadQ (set4_heap hrow)) ⟨_,rfl,RQ.set hq hrow,hSb.base⟩)
theorem abs_num (a:Rat):sgn false a.num.natAbs=(ratAbs a).num/\(ratAbs a).den=a.den:=by
 obtain⟨h1,h2,h3⟩:=ratAbs_parts a;refine⟨?_,h3⟩;have h4:¬(ratAbs a).num<0:=of_decide_eq_false h1;unfold sgn;simp only[Bool.false_eq_true,if_false];omega
theorem rabs_c {w:World}{va:Value}{a:Rat}(ha:RQ w va a):
 Calls Tryz.prog 103 #[va] w (Gives w fun v w'=>RQ w' v (ratAbs a)):=by
 obtain⟨ba,a1,n1,c1,b2,a2,n2,c2,rfl,ha1,ha2⟩:=RQ.out4 ha;have HA:=LH ha1;have HNA:=LH ha2;have HAB:=LH (abs_num a);clear ha ha1 ha2
 go_enter Tryz.func103,Tryz.ntmps103
 go_wp2;refine name_world ?_;intro W0 hW0;obtain⟨a_0,a_1,a_2,a_3,-,-,-,-⟩:=row4 (at_world hW0 (b:=w.heap.size) ((heap_old _ _ Sd1).trans (heap_new _ _ Sd1)));have hR0:=at_world hW0 (b:=w.heap.size+1) (heap_new _ _ Sd1);have hsz:w.heap.size+1+1<=W0.heap.size:=by rw[hW0];simp
 have hst:SHs w W0 (w.heap.size+1) W0:=SHs.start (by omega) (by omega) (by rw[hW0];exact(Bel.new.alloc Sd1 _));clear hW0
 go_region_held3 (fun w'=>(∀(b o:Nat),b<w.heap.size+1->w'.cell? ⟨b,o,none⟩=W0.cell? ⟨b,o,none⟩)/\SHs w W0 (w.heap.size+1) w') (exact K2s)
  (first
   |(go_at_call 155;(try (rename _/\_=>hh;rcases hh with⟨hSc,hSb⟩));refine(signed_c (ZD.pres HNA.out.mag B2s)).mono ?_;rintro e w9 ⟨vm,rfl,hm,hbm⟩;rw[HAB.out.1]at hm;obtain⟨fm,pm,qm,rm,rfl⟩:=ZZ.cells hm;have hzm:=(hSb.call hbm).near.size;have hrow:w9.heap[w.heap.size+1]?=some (.cells #[.bool false,.slice none 0 0,.bool false,.slice none 0 0] 49):=RW2;obtain⟨hc0,hc1,hc2,hc3,hf0,hf1,hf2,hf3⟩:=row4 hrow)
   |(go_at_call_of 135 n1;(try (rename _/\_=>hh;rcases hh with⟨hSc,hSb⟩));refine(rden_c (HA.out.pres B2s)).mono ?_;rintro e w9 ⟨vda,rfl,hda,hbda⟩;obtain⟨fda,pda,qda,rda,rfl⟩:=ZZ.cells hda;have hzda:=(hSb.call hbda).near.size;have hrow:w9.heap[w.heap.size+1]?=some (.cells #[.bool false,.slice none 0 0,.bool false,.slice none 0 0] 49):=RW2;obtain⟨hc0,hc1,hc2,hc3,hf0,hf1,hf2,hf3⟩:=row4 hrow))
 all_goals go_wp2
 all_goals((try (rename _/\_=>hh;rcases hh with⟨hSc,hSb⟩));have hq:=RQ.of_zz (q:=ratAbs a) (ZZ.pres (w':=w9) hm CH2s) (by rw[HAB.out.2];exact ZZ.pres (w':=w9) hda CH2s);exact post_box rfl rfl rfl (loadQ (set4_heap hrow)) ⟨_,rfl,RQ.set hq hrow,hSb.base⟩)
theorem rsub_c {w:World}{va vb:Value}{a b:Rat}{L M:Nat}(ha:RQ w va a)(hb:RQ w vb b)(hL:QF L a)(hM:QF M b)(hs:L+M<=1000000000):
 Calls Tryz.prog 154 #[va,vb] w (Gives w fun v w'=>RQ w' v (a-b)):=by
 obtain⟨ba,a1,n1,c1,b2,a2,n2,c2,rfl,ha1,ha2⟩:=RQ.out4 ha;have HA:=LH ha1;have HNA:=LH ha2;have hA1:=(QF.n4 hL).1;have hA2:=(QF.n4 hL).2;obtain⟨bb,d1,m1,e1,b4,d2,m2,e2,rfl,hb1,hb2⟩:=RQ.out4 hb;have HB:=LH hb1;have HNB:=LH hb2;have hB1:=(QF.n4 hM).1;have hB2:=(QF.n4 hM).2;have HE:=LH (Rat.sub_eq_add_neg a b).symm;have HL:=LH hL;have HM:=LH hM.neg;clear ha ha1 ha2 hb hb1 hb2 hL hM
 go_enter Tryz.func154,Tryz.ntmps154
 go_wp2;refine name_world ?_;intro W0 hW0;obtain⟨a_0,a_1,a_2,a_3,-,-,-,-⟩:=row4 (at_world hW0 (b:=w.heap.size) ((heap_old _ _ Sd1).trans ((heap_old _ _ Sd1).trans (heap_new _ _ Sd1))));obtain⟨b_0,b_1,b_2,b_3,-,-,-,-⟩:=row4 (at_world hW0 (b:=w.heap.size+1) ((heap_old _ _ Sd1).trans (heap_new _ _ Sd1)));have hR0:=at_world hW0 (b:=w.heap.size+1+1) (heap_new _ _ Sd1);have hsz:w.heap.size+1+1+1<=W0.heap.size:=by rw[hW0];simp
 have hst:SHs w W0 (w.heap.size+1+1) W0:=SHs.start (by omega) (by omega) (by rw[hW0];exact((Bel.new.alloc Sd1 _).alloc Sd1 _));clear hW0
 go_region_held3 (fun w'=>(∀(b o:Nat),b<w.heap.size+1+1->w'.cell? ⟨b,o,none⟩=W0.cell? ⟨b,o,none⟩)/\SHs w W0 (w.heap.size+1+1) w') (exact K2s)
  (first
   |(go_at_call 104;(try (rename _/\_=>hh;rcases hh with⟨hSc,hSb⟩));refine(rneg_c (RQ.pres HB.out B2s)).mono ?_;rintro e w9 ⟨vn,rfl,hn,hbn⟩;obtain⟨fn,an,nn,cn,fn2,an2,nn2,cn2,rfl⟩:=RQ.cells hn;have hzn:=(hSb.call hbn).near.size)
   |(go_at_call 73;(try (rename _/\_=>hh;rcases hh with⟨hSc,hSb⟩));refine(radd_c (RQ.pres HA.out B2s) (RQ.pres hn CH2s) HL.out HM.out hs).mono ?_;rintro e w9 ⟨vq,rfl,hq,hbq⟩;rw[HE.out]at hq;obtain⟨bq,aq,nq,cq,bq2,aq2,nq2,cq2,rfl⟩:=RQ.cells hq;have hzq:=(hSb.call hbq).near.size;have hrow:w9.heap[w.heap.size+1+1]?=some (.cells #[.bool false,.slice none 0 0,.bool false,.slice none 0 0] 49):=RW2;obtain⟨hc0,hc1,hc2,hc3,hf0,hf1,hf2,hf3⟩:=row4 hrow))
 all_goals go_wp2
 all_goals((try (rename _/\_=>hh;rcases hh with⟨hSc,hSb⟩));exact post_box rfl rfl rfl (loadQ (set4_heap hrow)) ⟨_,rfl,RQ.set hq hrow,hSb.base⟩)
theorem rcmp_c {w:World}{va vb:Value}{a b:Rat}{L M:Nat}(ha:RQ w va a)(hb:RQ w vb b)(hL:QF L a)(hM:QF M b)(hs:L+M<=1000000000):
 Calls Tryz.prog 76 #[va,vb] w fun e w'=>e=.returned (.int .i64 (cmpR a b))/\Bel w.heap.size w w':=by
 obtain⟨ba,a1,n1,c1,b2,a2,n2,c2,rfl,ha1,ha2⟩:=RQ.out4 ha;have HA:=LH ha1;have HNA:=LH ha2;have hA1:=(QF.n4 hL).1;have hA2:=(QF.n4 hL).2;obtain⟨bb,d1,m1,e1,b4,d2,m2,e2,rfl,hb1,hb2⟩:=RQ.out4 hb;have HB:=LH hb1;have HNB:=LH hb2;have hB1:=(QF.n4 hM).1;have hB2:=(QF.n4 hM).2;have HN1:Hid (nlen (a.num*(b.den:Int)).natAbs<=3*(L+M)):=nlen4 (sz_mul hL.1 (by rw[Int.natAbs_natCast];exact hM.2))
 have HN2:Hid (nlen (b.num*(a.den:Int)).natAbs<=3*(L+M)):=nlen4 (by rw[Nat.add_comm];exact sz_mul hM.1 (by rw[Int.natAbs_natCast];exact hL.2));clear ha ha1 ha2 hb hb1 hb2 hL hM
 go_enter Tryz.func76,Tryz.ntmps76
 go_wp2;refine name_world ?_;intro W0 hW0;obtain⟨a_0,a_1,a_2,a_3,-,-,-,-⟩:=row4 (at_world hW0 (b:=w.heap.size) ((heap_old _ _ Sd1).trans (heap_new _ _ Sd1)));obtain⟨b_0,b_1,b_2,b_3,-,-,-,-⟩:=row4 (at_world hW0 (b:=w.heap.size+1) (heap_new _ _ Sd1));have hsz:w.heap.size+1+1<=W0.heap.size:=by rw[hW0];simp
 have hst:SHs w W0 (w.heap.size+1+1) W0:=SHs.start (by omega) (by omega) (by rw[hW0];exact(Bel.new.alloc Sd1 _));clear hW0
 go_region_held3 (fun w'=>(∀(b o:Nat),b<w.heap.size+1+1->w'.cell? ⟨b,o,none⟩=W0.cell? ⟨b,o,none⟩)/\SHs w W0 (w.heap.size+1+1) w') (exact K2s)
  (first
   |(go_at_call_of 135 n1;(try (rename _/\_=>hh;rcases hh with⟨hSc,hSb⟩));refine(rden_c (HA.out.pres B2s)).mono ?_;rintro e w9 ⟨vda,rfl,hda,hbda⟩;obtain⟨fda,pda,qda,rda,rfl⟩:=ZZ.cells hda;have hzda:=(hSb.call hbda).near.size)
   |(go_at_call_of 135 m1;(try (rename _/\_=>hh;rcases hh with⟨hSc,hSb⟩));refine(rden_c (HB.out.pres B2s)).mono ?_;rintro e w9 ⟨vdb,rfl,hdb,hbdb⟩;obtain⟨fdb,pdb,qdb,rdb,rfl⟩:=ZZ.cells hdb;have hzdb:=(hSb.call hbdb).near.size)
   |(go_at_call_of 134 n1;(try (rename _/\_=>hh;rcases hh with⟨hSc,hSb⟩));refine(zmul_c (ZZ.pres HNA.out B2s) (ZZ.pres hdb CH2s) (by omega) (by omega)).mono ?_;rintro e w9 ⟨vm,rfl,hm,hbm⟩;obtain⟨fm,pm,qm,rm,rfl⟩:=ZZ.cells hm;have hzm:=(hSb.call hbm).near.size)
   |(go_at_call_of 134 m1;(try (rename _/\_=>hh;rcases hh with⟨hSc,hSb⟩));refine(zmul_c (ZZ.pres HNB.out B2s) (ZZ.pres hda CH2s) (by omega) (by omega)).mono ?_;rintro e w9 ⟨vn,rfl,hn,hbn⟩;obtain⟨fn,pn,qn,rn,rfl⟩:=ZZ.cells hn;have hzn:=(hSb.call hbn).near.size)
   |(go_at_call 136;(try (rename _/\_=>hh;rcases hh with⟨hSc,hSb⟩));refine(zcmp_c (ZZ.pres hm CH2s) (ZZ.pres hn CH2s) (Nat.le_trans HN1.out (by omega)) (Nat.le_trans HN2.out (by omega))).mono ?_;rintro e w9 ⟨rfl,hbt⟩;have hzt:=(hSb.call hbt).near.size))
 all_goals go_wp2
 all_goals((try (rename _/\_=>hh;rcases hh with⟨hSc,hSb⟩));go_ret;exact⟨rfl,hSb.base⟩)
theorem rsign_c {w:World}{va:Value}{a:Rat}{L:Nat}(ha:RQ w va a)(hL:QF L a)(hs:L<=1000000000):
 Calls Tryz.prog 78 #[va] w fun e w'=>e=.returned (.int .i64 (ratSign a))/\Bel w.heap.size w w':=by
 obtain⟨ba,a1,n1,c1,b2,a2,n2,c2,rfl,ha1,ha2⟩:=RQ.out4 ha;have HNA:=LH ha2;have hA1:=(QF.n4 hL).1;clear ha ha1 ha2 hL
 go_enter Tryz.func78,Tryz.ntmps78
 go_wp2_with fail
 refine(zcmp_c (HNA.out.pres (Pres.alloc _ _)) (ZZ.mk (ZD.nil _) rfl rfl:ZZ _ (.agg #[.bool false,.slice none 0 0]) 0) (by omega) (by rw[show(0:Int).natAbs=0 from rfl,nlen_zero];omega)).mono ?_;rintro e w9 ⟨rfl,hb⟩;go_wp2;go_ret;exact⟨rfl,Bel.new.trans (hb.mono (by simp))⟩
theorem div_pos_eq (a b:Rat)(h:0<b.num):mkRat (a.num*b.den) (a.den*b.num.natAbs)=a/b:=by
 rw[<-over_eq a b (by omega)]
 congr 1
 have hb:decide (b.num<0)=false:=decide_eq_false (by omega);unfold sgn;rw[hb]
 by_cases ha:a.num<0
 .rw[decide_eq_true ha];simp only[Int.natCast_mul];rw[show((a.num.natAbs:Nat):Int)=-a.num from by omega];simp<;>grind
 .rw[decide_eq_false ha];simp only[Int.natCast_mul];rw[show((a.num.natAbs:Nat):Int)=a.num from by omega];simp
theorem div_neg_eq (a b:Rat)(h:b.num<0):mkRat (-(a.num*b.den)) (a.den*b.num.natAbs)=a/b:=by
 rw[<-over_eq a b (by omega)]
 congr 1
 have hb:decide (b.num<0)=true:=decide_eq_true h;unfold sgn;rw[hb]
 by_cases ha:a.num<0
 .rw[decide_eq_true ha];simp only[Int.natCast_mul];rw[show((a.num.natAbs:Nat):Int)=-a.num from by omega];simp<;>grind
 .rw[decide_eq_false ha];simp only[Int.natCast_mul];rw[show((a.num.natAbs:Nat):Int)=a.num from by omega];simp
theorem rdiv_pos {w:World}{va vb:Value}{a b:Rat}{L M:Nat}(ha:RQ w va a)(hb:RQ w vb b)(hL:QF L a)(hM:QF M b)(hs:L+M<=1000000000)(h0:0<b.num):
 Calls Tryz.prog 153 #[va,vb] w (Gives w fun v w'=>RQ w' v (a/b)):=by
 obtain⟨ba,a1,n1,c1,b2,a2,n2,c2,rfl,ha1,ha2⟩:=RQ.out4 ha;have HA:=LH ha1;have HNA:=LH ha2;have hA1:=(QF.n4 hL).1;have hA2:=(QF.n4 hL).2;obtain⟨bb,d1,m1,e1,b4,d2,m2,e2,rfl,hb1,hb2⟩:=RQ.out4 hb;have HB:=LH hb1;have HNB:=LH hb2;have hB1:=(QF.n4 hM).1;have hB2:=(QF.n4 hM).2;have HN1:Hid (nlen (a.num*(b.den:Int)).natAbs<=3*(L+M)):=nlen4 (by skip;exact sz_mul hL.1 (by rw[Int.natAbs_natCast];exact hM.2))
 have HN4:Hid (nlen (a.den*b.num.natAbs)<=3*(L+M)):=nlen4 (Nat.le_trans (Go.Proofs.YtlgjakpoaelehaaGreat.nlen_mul _ _) (Nat.add_le_add hL.2 hM.1));have HNZ:=LH (Nat.mul_pos a.den_pos (show 0<b.num.natAbs by omega));have HE:=LH (div_pos_eq a b h0);have HC1:Hid ((a.den:Int)*b.num=((a.den*b.num.natAbs:Nat):Int)):=by show _=_;push_cast;rw[show(b.num.natAbs:Int)=b.num from by omega]
 clear h0;clear ha ha1 ha2 hb hb1 hb2 hL hM
 go_enter Tryz.func153,Tryz.ntmps153
 go_wp2;refine name_world ?_;intro W0 hW0;obtain⟨a_0,a_1,a_2,a_3,-,-,-,-⟩:=row4 (at_world hW0 (b:=w.heap.size) ((heap_old _ _ Sd1).trans ((heap_old _ _ Sd1).trans (heap_new _ _ Sd1))));obtain⟨b_0,b_1,b_2,b_3,-,-,-,-⟩:=row4 (at_world hW0 (b:=w.heap.size+1) ((heap_old _ _ Sd1).trans (heap_new _ _ Sd1)));have hR0:=at_world hW0 (b:=w.heap.size+1+1) (heap_new _ _ Sd1);have hsz:w.heap.size+1+1+1<=W0.heap.size:=by rw[hW0];simp
 have hst:SHs w W0 (w.heap.size+1+1) W0:=SHs.start (by omega) (by omega) (by rw[hW0];exact((Bel.new.alloc Sd1 _).alloc Sd1 _));clear hW0
 go_region_held3 (fun w'=>(∀(b o:Nat),b<w.heap.size+1+1->w'.cell? ⟨b,o,none⟩=W0.cell? ⟨b,o,none⟩)/\SHs w W0 (w.heap.size+1+1) w') (exact K2s)
  (first
   |(go_at_call_of 135 n1;(try (rename _/\_=>hh;rcases hh with⟨hSc,hSb⟩));refine(rden_c (HA.out.pres B2s)).mono ?_;rintro e w9 ⟨vda,rfl,hda,hbda⟩;obtain⟨fda,pda,qda,rda,rfl⟩:=ZZ.cells hda;have hzda:=(hSb.call hbda).near.size)
   |(go_at_call_of 135 m1;(try (rename _/\_=>hh;rcases hh with⟨hSc,hSb⟩));refine(rden_c (HB.out.pres B2s)).mono ?_;rintro e w9 ⟨vdb,rfl,hdb,hbdb⟩;obtain⟨fdb,pdb,qdb,rdb,rfl⟩:=ZZ.cells hdb;have hzdb:=(hSb.call hbdb).near.size)
   |(go_at_call_of 134 n1;(try (rename _/\_=>hh;rcases hh with⟨hSc,hSb⟩));refine(zmul_c (ZZ.pres HNA.out B2s) (ZZ.pres hdb CH2s) (by omega) (by omega)).mono ?_;rintro e w9 ⟨vm,rfl,hm,hbm⟩;obtain⟨fm,pm,qm,rm,rfl⟩:=ZZ.cells hm;have hzm:=(hSb.call hbm).near.size)
   |(go_at_call_of 134 m1;(try (rename _/\_=>hh;rcases hh with⟨hSc,hSb⟩));refine(zmul_c (ZZ.pres hda CH2s) (ZZ.pres HNB.out B2s) (by omega) (by omega)).mono ?_;rintro e w9 ⟨vd,rfl,hd,hbd⟩;obtain⟨fd,pd,qd,rd,rfl⟩:=ZZ.cells hd;have hzd:=(hSb.call hbd).near.size)
   |(go_at_call 111;(try (rename _/\_=>hh;rcases hh with⟨hSc,hSb⟩));rw[HC1.out]at hd;refine(qof_pos (ZZ.pres hm CH2s) (ZZ.pres hd CH2s) HNZ.out (Nat.le_trans HN1.out (by omega)) (Nat.le_trans HN4.out (by omega))).mono ?_;rintro e w9 ⟨vq,rfl,hq,hbq⟩;rw[HE.out]at hq;obtain⟨bq,aq,nq,cq,bq2,aq2,nq2,cq2,rfl⟩:=RQ.cells hq;have hzq:=(hSb.call hbq).near.size;have hrow:w9.heap[w.heap.size+1+1]?=some (.cells #[.bool false,.slice none 0 0,.bool false,.slice none 0 0] 49):=RW2;obtain⟨hc0,hc1,hc2,hc3,hf0,hf1,hf2,hf3⟩:=row4 hrow))
 all_goals go_wp2
 all_goals((try (rename _/\_=>hh;rcases hh with⟨hSc,hSb⟩));exact post_box rfl rfl rfl (loadQ (set4_heap hrow)) ⟨_,rfl,RQ.set hq hrow,hSb.base⟩)
theorem rdiv_neg {w:World}{va vb:Value}{a b:Rat}{L M:Nat}(ha:RQ w va a)(hb:RQ w vb b)(hL:QF L a)(hM:QF M b)(hs:L+M<=1000000000)(h0:b.num<0):
 Calls Tryz.prog 153 #[va,vb] w (Gives w fun v w'=>RQ w' v (a/b)):=by
 obtain⟨ba,a1,n1,c1,b2,a2,n2,c2,rfl,ha1,ha2⟩:=RQ.out4 ha;have HA:=LH ha1;have HNA:=LH ha2;have hA1:=(QF.n4 hL).1;have hA2:=(QF.n4 hL).2;obtain⟨bb,d1,m1,e1,b4,d2,m2,e2,rfl,hb1,hb2⟩:=RQ.out4 hb;have HB:=LH hb1;have HNB:=LH hb2;have hB1:=(QF.n4 hM).1;have hB2:=(QF.n4 hM).2;have HN1:Hid (nlen (-(a.num*(b.den:Int))).natAbs<=3*(L+M)):=nlen4 (by rw[Int.natAbs_neg];exact sz_mul hL.1 (by rw[Int.natAbs_natCast];exact hM.2))
 have HN4:Hid (nlen (a.den*b.num.natAbs)<=3*(L+M)):=nlen4 (Nat.le_trans (Go.Proofs.YtlgjakpoaelehaaGreat.nlen_mul _ _) (Nat.add_le_add hL.2 hM.1));have HNZ:=LH (Nat.mul_pos a.den_pos (show 0<b.num.natAbs by omega));have HE:=LH (div_neg_eq a b h0);have HC1:Hid ((a.den:Int)*b.num=-((a.den*b.num.natAbs:Nat):Int)):=by show _=_;push_cast;rw[show(b.num.natAbs:Int)=-b.num from by omega];grind
 have HC2:Hid (a.num*(b.den:Int)=-(-(a.num*(b.den:Int)))):=by show _=_;rw[Int.neg_neg]
 clear h0;clear ha ha1 ha2 hb hb1 hb2 hL hM
 go_enter Tryz.func153,Tryz.ntmps153
 go_wp2;refine name_world ?_;intro W0 hW0;obtain⟨a_0,a_1,a_2,a_3,-,-,-,-⟩:=row4 (at_world hW0 (b:=w.heap.size) ((heap_old _ _ Sd1).trans ((heap_old _ _ Sd1).trans (heap_new _ _ Sd1))));obtain⟨b_0,b_1,b_2,b_3,-,-,-,-⟩:=row4 (at_world hW0 (b:=w.heap.size+1) ((heap_old _ _ Sd1).trans (heap_new _ _ Sd1)));have hR0:=at_world hW0 (b:=w.heap.size+1+1) (heap_new _ _ Sd1);have hsz:w.heap.size+1+1+1<=W0.heap.size:=by rw[hW0];simp
 have hst:SHs w W0 (w.heap.size+1+1) W0:=SHs.start (by omega) (by omega) (by rw[hW0];exact((Bel.new.alloc Sd1 _).alloc Sd1 _));clear hW0
 go_region_held3 (fun w'=>(∀(b o:Nat),b<w.heap.size+1+1->w'.cell? ⟨b,o,none⟩=W0.cell? ⟨b,o,none⟩)/\SHs w W0 (w.heap.size+1+1) w') (exact K2s)
  (first
   |(go_at_call_of 135 n1;(try (rename _/\_=>hh;rcases hh with⟨hSc,hSb⟩));refine(rden_c (HA.out.pres B2s)).mono ?_;rintro e w9 ⟨vda,rfl,hda,hbda⟩;obtain⟨fda,pda,qda,rda,rfl⟩:=ZZ.cells hda;have hzda:=(hSb.call hbda).near.size)
   |(go_at_call_of 135 m1;(try (rename _/\_=>hh;rcases hh with⟨hSc,hSb⟩));refine(rden_c (HB.out.pres B2s)).mono ?_;rintro e w9 ⟨vdb,rfl,hdb,hbdb⟩;obtain⟨fdb,pdb,qdb,rdb,rfl⟩:=ZZ.cells hdb;have hzdb:=(hSb.call hbdb).near.size)
   |(go_at_call_of 134 n1;(try (rename _/\_=>hh;rcases hh with⟨hSc,hSb⟩));refine(zmul_c (ZZ.pres HNA.out B2s) (ZZ.pres hdb CH2s) (by omega) (by omega)).mono ?_;rintro e w9 ⟨vm,rfl,hm,hbm⟩;obtain⟨fm,pm,qm,rm,rfl⟩:=ZZ.cells hm;have hzm:=(hSb.call hbm).near.size)
   |(go_at_call_of 134 m1;(try (rename _/\_=>hh;rcases hh with⟨hSc,hSb⟩));refine(zmul_c (ZZ.pres hda CH2s) (ZZ.pres HNB.out B2s) (by omega) (by omega)).mono ?_;rintro e w9 ⟨vd,rfl,hd,hbd⟩;obtain⟨fd,pd,qd,rd,rfl⟩:=ZZ.cells hd;have hzd:=(hSb.call hbd).near.size)
   |(go_at_call 111;(try (rename _/\_=>hh;rcases hh with⟨hSc,hSb⟩));rw[HC1.out]at hd;rw[HC2.out]at hm;refine(qof_neg (ZZ.pres hm CH2s) (ZZ.pres hd CH2s) HNZ.out (Nat.le_trans HN1.out (by omega)) (Nat.le_trans HN4.out (by omega))).mono ?_;rintro e w9 ⟨vq,rfl,hq,hbq⟩;rw[HE.out]at hq;obtain⟨bq,aq,nq,cq,bq2,aq2,nq2,cq2,rfl⟩:=RQ.cells hq;have hzq:=(hSb.call hbq).near.size;have hrow:w9.heap[w.heap.size+1+1]?=some (.cells #[.bool false,.slice none 0 0,.bool false,.slice none 0 0] 49):=RW2;obtain⟨hc0,hc1,hc2,hc3,hf0,hf1,hf2,hf3⟩:=row4 hrow))
 all_goals go_wp2
 all_goals((try (rename _/\_=>hh;rcases hh with⟨hSc,hSb⟩));exact post_box rfl rfl rfl (loadQ (set4_heap hrow)) ⟨_,rfl,RQ.set hq hrow,hSb.base⟩)
theorem rdiv_c {w:World}{va vb:Value}{a b:Rat}{L M:Nat}(ha:RQ w va a)(hb:RQ w vb b)(hL:QF L a)(hM:QF M b)(hs:L+M<=1000000000)(h0:b.num≠0):
 Calls Tryz.prog 153 #[va,vb] w (Gives w fun v w'=>RQ w' v (a/b)):=by
 rcases Int.lt_or_lt_of_ne h0 with h|h
 .exact rdiv_neg ha hb hL hM hs h
 .exact rdiv_pos ha hb hL hM hs h
theorem rint_c {w:World}{n:Int}(h1:-9223372036854775808<=n)(h2:n<9223372036854775808):
 Calls Tryz.prog 55 #[.int .i64 n] w (Gives w fun v w'=>RQ w' v (n:Rat)):=by
 go_enter Tryz.func55,Tryz.ntmps55
 go_wp2_with fail
 refine(zint_c h1 h2).mono ?_;rintro e w1 ⟨v1,rfl,hv1,hb1⟩;obtain⟨bs1,as1,ns1,cs1,rfl⟩:=ZZ.cells hv1
 go_wp2_with fail
 refine(zint_c (n:=1) (by decide) (by decide)).mono ?_;rintro e w2 ⟨v2,rfl,hv2,hb2⟩;obtain⟨bs2,as2,ns2,cs2,rfl⟩:=ZZ.cells hv2;have hs1:=hb1.size;have HROW:=LH ((hb2.block w.heap.size (by simp at hs1;omega)).trans ((hb1.block w.heap.size (by simp)).trans (heap_new _ _ rfl)));obtain⟨r50,r51,r52,r53,rf50,rf51,rf52,rf53⟩:=row4 HROW.out;have HV:=LH (RQ.of_zz (q:=(n:Rat)) (by rw[Rat.num_intCast];exact hv1.pres hb2.pb) (by rw[Rat.den_intCast];exact hv2))
 have HBB:Hid (Bel w.heap.size w w2):=(Bel.new.trans (hb1.mono (by simp))).next (by simp at hs1;omega) hb2;clear hv1 hv2 hb1 hb2 hs1;go_wp2;exact post_box rfl rfl rfl (loadQ (set4_heap HROW.out)) ⟨_,rfl,RQ.set HV.out HROW.out,(((HBB.out.setCell (by simp) _).setCell (by simp) _).setCell (by simp) _).setCell (by simp) _⟩
theorem of_pos_eq (n d:Int)(h:0<d):mkRat n d.natAbs=(n:Rat)/(d:Rat):=by
 rw[<-of_eq n d (by omega)]
 congr 1
 have hb:decide (d<0)=false:=by simp;omega
 unfold sgn;rw[hb]
 by_cases ha:n<0<;>simp[ha]<;>omega
theorem of_neg_eq (n d:Int)(h:d<0):mkRat (-n) d.natAbs=(n:Rat)/(d:Rat):=by
 rw[<-of_eq n d (by omega)]
 congr 1
 have hb:decide (d<0)=true:=by simp;omega
 unfold sgn;rw[hb]
 by_cases ha:n<0<;>simp[ha]<;>omega
theorem n4_64 {n:Int}(h1:-9223372036854775808<=n)(h2:n<9223372036854775808):nlen n.natAbs<=10000000000:=
 Nat.le_trans ((nlen_le_iff _ 5).2 (Nat.lt_of_le_of_lt (show n.natAbs<=9223372036854775808 by omega) (by decide))) (by decide)
theorem rof_pos {w:World}{n d:Int}(h1:-9223372036854775808<=n)(h2:n<9223372036854775808)(h3:-9223372036854775808<=d)(h4:d<9223372036854775808)(h0:0<d):
 Calls Tryz.prog 45 #[.int .i64 n,.int .i64 d] w (Gives w fun v w'=>RQ w' v ((n:Rat)/(d:Rat))):=by
 have HN:=LH (n4_64 h1 h2);have HD:=LH (n4_64 h3 h4);have HE:=LH (of_pos_eq n d h0);have HP:Hid (0<d.natAbs):=by show 0<_;omega
 have HC:Hid (d=((d.natAbs:Nat):Int)):=by show _=_;omega
 go_enter Tryz.func45,Tryz.ntmps45
 go_wp2_with fail
 refine(zint_c h1 h2).mono ?_;rintro e w1 ⟨v1,rfl,hv1,hb1⟩;obtain⟨bs1,as1,ns1,cs1,rfl⟩:=ZZ.cells hv1
 go_wp2_with fail
 refine(zint_c h3 h4).mono ?_;rintro e w2 ⟨v2,rfl,hv2,hb2⟩;rw[HC.out]at hv2;obtain⟨bs2,as2,ns2,cs2,rfl⟩:=ZZ.cells hv2
 go_wp2_with fail
 refine(qof_pos (x:=n) (hv1.pres hb2.pb) hv2 HP.out HN.out HD.out).mono ?_;rintro e w3 ⟨v3,rfl,hv3,hb3⟩;rw[HE.out]at hv3;obtain⟨bq,aq,nq,cq,bq2,aq2,nq2,cq2,rfl⟩:=RQ.cells hv3;have hs1:=hb1.size;have hs2:=hb2.size;have HROW:=LH ((hb3.block w.heap.size (by simp at hs1;omega)).trans ((hb2.block w.heap.size (by simp at hs1;omega)).trans ((hb1.block w.heap.size (by simp)).trans (heap_new _ _ rfl))))
 obtain⟨r50,r51,r52,r53,rf50,rf51,rf52,rf53⟩:=row4 HROW.out;have HV:=LH hv3;have HBB:Hid (Bel w.heap.size w w3):=((Bel.new.trans (hb1.mono (by simp))).next (by simp at hs1;omega) hb2).next (by simp at hs1;omega) hb3;clear hv1 hv2 hv3 hb1 hb2 hb3 hs1 hs2;go_wp2;exact post_box rfl rfl rfl (loadQ (set4_heap HROW.out)) ⟨_,rfl,RQ.set HV.out HROW.out,(((HBB.out.setCell (by simp) _).setCell (by simp) _).setCell (by simp) _).setCell (by simp) _⟩
theorem rof_neg {w:World}{n d:Int}(h1:-9223372036854775808<=n)(h2:n<9223372036854775808)(h3:-9223372036854775808<=d)(h4:d<9223372036854775808)(h0:d<0):
 Calls Tryz.prog 45 #[.int .i64 n,.int .i64 d] w (Gives w fun v w'=>RQ w' v ((n:Rat)/(d:Rat))):=by
 have HN:=LH (n4_64 h1 h2);have HD:=LH (n4_64 h3 h4);have HE:=LH (of_neg_eq n d h0);have HP:Hid (0<d.natAbs):=by show 0<_;omega
 have HC:Hid (d=-((d.natAbs:Nat):Int)):=by show _=_;omega
 go_enter Tryz.func45,Tryz.ntmps45
 go_wp2_with fail
 refine(zint_c h1 h2).mono ?_;rintro e w1 ⟨v1,rfl,hv1,hb1⟩;obtain⟨bs1,as1,ns1,cs1,rfl⟩:=ZZ.cells hv1
 go_wp2_with fail
 refine(zint_c h3 h4).mono ?_;rintro e w2 ⟨v2,rfl,hv2,hb2⟩;rw[HC.out]at hv2;obtain⟨bs2,as2,ns2,cs2,rfl⟩:=ZZ.cells hv2
 go_wp2_with fail
 refine(qof_neg (x:=-n) (by rw[Int.neg_neg];exact hv1.pres hb2.pb) hv2 HP.out (by rw[Int.natAbs_neg];exact HN.out) HD.out).mono ?_;rintro e w3 ⟨v3,rfl,hv3,hb3⟩;rw[HE.out]at hv3;obtain⟨bq,aq,nq,cq,bq2,aq2,nq2,cq2,rfl⟩:=RQ.cells hv3;have hs1:=hb1.size;have hs2:=hb2.size;have HROW:=LH ((hb3.block w.heap.size (by simp at hs1;omega)).trans ((hb2.block w.heap.size (by simp at hs1;omega)).trans ((hb1.block w.heap.size (by simp)).trans (heap_new _ _ rfl))))
 obtain⟨r50,r51,r52,r53,rf50,rf51,rf52,rf53⟩:=row4 HROW.out;have HV:=LH hv3;have HBB:Hid (Bel w.heap.size w w3):=((Bel.new.trans (hb1.mono (by simp))).next (by simp at hs1;omega) hb2).next (by simp at hs1;omega) hb3;clear hv1 hv2 hv3 hb1 hb2 hb3 hs1 hs2;go_wp2;exact post_box rfl rfl rfl (loadQ (set4_heap HROW.out)) ⟨_,rfl,RQ.set HV.out HROW.out,(((HBB.out.setCell (by simp) _).setCell (by simp) _).setCell (by simp) _).setCell (by simp) _⟩
theorem rof_c {w:World}{n d:Int}(h1:-9223372036854775808<=n)(h2:n<9223372036854775808)(h3:-9223372036854775808<=d)(h4:d<9223372036854775808)(h0:d≠0):
 Calls Tryz.prog 45 #[.int .i64 n,.int .i64 d] w (Gives w fun v w'=>RQ w' v ((n:Rat)/(d:Rat))):=by
 rcases Int.lt_or_lt_of_ne h0 with h|h
 .exact rof_neg h1 h2 h3 h4 h
 .exact rof_pos h1 h2 h3 h4 h
def padL (n:Nat):Nat->List UInt8
 |0=>[]
 |k+1=>UInt8.ofNat (48+n/10^k%10)::padL n k
theorem padL_len (n k:Nat):(padL n k).length=k:=by
 induction k with
 |zero=>rfl
 |succ k ih=>rw[padL,List.length_cons,ih]
theorem padL_snoc (n k:Nat):padL n (k+1)=padL (n/10) k++[UInt8.ofNat (48+n%10)]:=by
 induction k with
 |zero=>simp[padL]
 |succ k ih=>
  rw[padL,ih,padL,List.cons_append]
  congr 3
  rw[Nat.div_div_eq_div_mul,Nat.pow_succ,Nat.mul_comm 10]
theorem padL_dec (k:Nat):∀n,10^k<=n->n<10^(k+1)->padL n (k+1)=(digsR n).reverse:=by
 induction k with
 |zero=>
  intro n h1 h2;have h3:n/10=0:=by simp at h2;omega
  rw[padL_snoc,digsR_pos (by simp at h1;omega),h3,digsR_zero];rfl
 |succ k ih=>
  intro n h1 h2;have hp:0<10^k:=Nat.pow_pos (by decide);rw[Nat.pow_succ]at h1;have h3:n<10^(k+1)*10:=by rw[<-Nat.pow_succ];exact h2
  rw[padL_snoc,digsR_pos (by omega),List.reverse_cons,ih (n/10) (by omega) (by omega)]
theorem padL_head {n k:Nat}(h:n<10^(k+1)):(padL n (k+1)).head?=some 48 ↔ n<10^k:=by
 have hp:0<10^k:=Nat.pow_pos (by decide);have h1:n/10^k<10:=by rw[Nat.div_lt_iff_lt_mul hp,Nat.mul_comm];rw[Nat.pow_succ]at h;exact h
 rw[padL,List.head?_cons,Nat.mod_eq_of_lt h1];constructor
 .intro e;have e2:(UInt8.ofNat (48+n/10^k)).toNat=48:=by injection e with e;rw[e];rfl
  rw[UInt8.toNat_ofNat']at e2
  have e3:n/10^k=0:=by
   generalize n/10^k=q at *;omega
  exact(Nat.div_eq_zero_iff.1 e3).resolve_left (by omega)
 .intro e;rw[Nat.div_eq_of_lt e];rfl
theorem dig_dec {n i j:Nat}(hj:j<4):dig n i/10^j%10=n/10^(4*i+j)%10:=by
 have e:10^(4*i+j)=B4^i*10^j:=by rw[Nat.pow_add,Nat.pow_mul];rfl
 rw[e,<-Nat.div_div_eq_div_mul];unfold dig;generalize n/B4^i=q;unfold B4
 match j,hj with
 |0,_=>first|(simp;done)|(simp;omega)
 |1,_=>first|(simp;done)|(simp;omega)
 |2,_=>first|(simp;done)|(simp;omega)
 |3,_=>first|(simp;done)|(simp;omega)
theorem charAt (r:Nat)(h:r<10):(ByteArray.extract (⟨#[48,49,50,51,52,53,54,55,56,57]⟩:ByteArray) r (r+1))=⟨#[UInt8.ofNat (48+r)]⟩:=by
 match r,h with
 |0,_=>rfl
 |1,_=>rfl
 |2,_=>rfl
 |3,_=>rfl
 |4,_=>rfl
 |5,_=>rfl
 |6,_=>rfl
 |7,_=>rfl
 |8,_=>rfl
 |9,_=>rfl
def padB (n k:Nat):ByteArray:=⟨(padL n k).toArray⟩
theorem padB_cons {n i j:Nat}(hj:j<4):(⟨#[UInt8.ofNat (48+dig n i/10^j%10)]⟩:ByteArray)++padB n (4*i+j)=padB n (4*i+(j+1)):=by
 unfold padB;rw[dig_dec hj,<-Nat.add_assoc,padL];rfl
theorem padB_size (n k:Nat):(padB n k).size=k:=by
 show(padL n k).toArray.size=k
 rw[List.size_toArray,padL_len]
def zTxt (z:Int):ByteArray:=⟨((if z<0 then[45] else[])++decL z.natAbs).toArray⟩
theorem ztext_c {w:World}{va:Value}{x:Int}(ha:ZZ w va x)(hs:nlen x.natAbs<=10000000000):
 Calls Tryz.prog 157 #[va] w fun e w'=>e=.returned (.string (zTxt x))/\Bel w.heap.size w w':=by
 obtain⟨ma,rfl,am,cm,rfl,-,hma⟩:=ha;have HM:=LH hma;clear hma;obtain⟨n,hn⟩:∃n,n=x.natAbs:=⟨_,rfl⟩
 have HN:=LH hn;rw[<-hn]at HM hs|-;clear hn
 by_cases hz:n=0
 .have h0:nlen n=0:=nlen_eq_zero.2 hz;have hb:((nlen n:Int)==0)=true:=by rw[h0];rfl
  have HD:Hid (zTxt x=⟨#[48]⟩):=by
   have:=HN.out;have e:x=0:=by omega
   subst e;rfl
  clear hz h0
  go_enter Tryz.func157,Tryz.ntmps157
  go_wp2;go_ret;exact⟨by rw[HD.out];rfl,(Bel.refl _ _).alloc NL _⟩
 .have h0:nlen n≠0:=fun e=>hz (nlen_eq_zero.1 e);have hb:((nlen n:Int)==0)=false:=by simp;omega
  have HZ:=LH hz;have HLT:=LH (lt_pow_nlen n);clear hz h0
  go_enter Tryz.func157,Tryz.ntmps157
  go_wp2_with fail
  refine name_world ?_;intro W0 hW0;obtain⟨k0,k1,-,-⟩:=row2 (at_world hW0 (b:=w.heap.size) (heap_new _ _ rfl));have HB0:Hid (Bel w.heap.size w W0):=by rw[hW0];exact(Bel.refl _ _).alloc NL _
  clear hW0;have HP0:Hid (padB n (4*0)=⟨#[]⟩):=rfl
  go_loopg [3,4] (nlen n) (fun g s i wr=>W0=wr/\∃k:Nat,g=nlen n-k/\k<=nlen n/\i=.int .i64 k/\s=.string (padB n (4*k)))
  case atStart=>exact⟨rfl,0,rfl,by omega,rfl,by rw[HP0.out]⟩
  case round=>
   obtain⟨rfl,k,hg,hk,rfl,rfl⟩:=hrel
   by_cases hlt:k<nlen n
   .obtain⟨b1,o1,rfl,hbl,hcell⟩:=HM.out.open (by omega);have g0:=(HB0.out.cell (p:=⟨b1,o1+k,none⟩) hbl).trans (hcell k hlt);unfold dv at g0;have hdl:=dig_lt' n k;have HDZ:Hid (dig n k/10^0=dig n k):=by show _=_;simp
    clear hcell;obtain⟨go,hgo⟩:∃g,g=gk:=⟨_,rfl⟩
    go_wp2
    go_loopg [3,5,6] 4 (fun g s d i wr=>W0=wr/\∃j:Nat,g=4-j/\j<=4/\i=.int .i64 j/\d=.int .i64 (dig n k/10^j:Nat)/\s=.string (padB n (4*k+j)))
    case atStart=>exact⟨rfl,0,rfl,by omega,rfl,by rw[HDZ.out],rfl⟩
    case round=>
     obtain⟨rfl,j,hg2,hj,rfl,rfl,rfl⟩:=hrel
     by_cases hj4:j<4
     .have HPC:=LH (padB_cons (n:=n) (i:=k) hj4);have HDS:Hid (dig n k/10^(j+1)=dig n k/10^j/10):=by show _=_;rw[Nat.pow_succ,Nat.div_div_eq_div_mul]
      have hsz:=padB_size n (4*k+j);obtain⟨d,hd⟩:∃d,d=dig n k/10^j:=⟨_,rfl⟩
      have hdl2:d<10000:=by rw[hd];exact Nat.lt_of_le_of_lt (Nat.div_le_self _ _) hdl
      rw[<-hd]at HPC HDS|-;obtain⟨S,hS⟩:∃S,S=padB n (4*k+j):=⟨_,rfl⟩
      rw[<-hS]at HPC hsz|-;have hsz2:S.size<=40000000003:=by omega
      have hr:d%10<10:=Nat.mod_lt _ (by decide);have HCH:=LH (charAt (d%10) hr);obtain⟨r,hre⟩:∃r,r=d%10:=⟨_,rfl⟩
      have hri:(d:Int)%10=(r:Nat):=by rw[hre];push_cast;rfl
      have HRE:=LH hre;rw[<-hre]at hr HCH HPC;clear hd hS hsz hre;go_wp2;rw[HCH.out,HPC.out]
      go_roundg (4-(j+1))
      case rel=>exact⟨rfl,j+1,rfl,by omega,by go_num,by rw[HDS.out];push_cast;rfl,rfl⟩
      case measure=>omega
     .obtain rfl:j=4:=by omega
      have HS4:Hid (4*k+4=4*(k+1)):=by show _=_;omega
      clear hj4;go_wp2;rw[HS4.out]
      go_roundg (nlen n-(k+1))
      case rel=>exact⟨rfl,k+1,rfl,by omega,by go_num,rfl⟩
      case measure=>omega
   .obtain rfl:k=nlen n:=by omega
    have HL10:Hid (n<10^(4*nlen n)):=by have:=HLT.out;rw[show B4=10^4 from rfl,<-Nat.pow_mul]at this;exact this
    clear hlt;go_wp2
    go_loopg [3] (4*nlen n) (fun g s wr=>W0=wr/\n<10^g/\g<=4*nlen n/\s=.string (padB n g))
    case atStart=>exact⟨rfl,HL10.out,Nat.le_refl _,rfl⟩
    case round=>
     obtain⟨rfl,hlt,hgl,rfl⟩:=hrel
     cases gk with
     |zero=>exact absurd (by simpa using hlt) HZ.out
     |succ m=>
      have HLL:=LH hlt;obtain⟨c,hc⟩:∃c,c=UInt8.ofNat (48+n/10^m%10):=⟨_,rfl⟩
      have HPB:Hid (padB n (m+1)=⟨(c::padL n m).toArray⟩):=by show _=_;rw[hc];rfl
      have HH:Hid (c=48 ↔ n<10^m):=by
       have:=padL_head hlt;rw[padL,List.head?_cons,<-hc]at this
       show _ ↔ _
       rw[<-this];simp
      have hml:=padL_len n m;clear hlt hc;rw[HPB.out]
      by_cases hz:n<10^m
      .obtain rfl:c=48:=HH.out.2 hz;have HLM:=LH hz;have hb0:(((((⟨((48:UInt8)::padL n m).toArray⟩:ByteArray)[0]'(by simp[ByteArray.size])).toNat:Nat):Int)==48)=true:=rfl
       have HEX:Hid ((⟨((48:UInt8)::padL n m).toArray⟩:ByteArray).extract 1 (m+1)=padB n m):=by
        show _=_
        ext1
        simp[padB];exact List.take_of_length_le (by omega)
       clear hz
       go_wp2_with fail
       rw[HEX.out]
       go_roundg m
       case rel=>exact⟨rfl,HLM.out,by omega,rfl⟩
       case measure=>omega
      .have hc:c≠48:=fun e=>hz (HH.out.1 e)
       have hb0:(((((⟨(c::padL n m).toArray⟩:ByteArray)[0]'(by simp[ByteArray.size])).toNat:Nat):Int)==48)=false:=by
        show(((c.toNat:Nat):Int)==48)=false
        simp;intro e;exact hc (UInt8.toNat_inj.1 (by show c.toNat=48;omega))
       have HFIN:Hid (zTxt x=⟨((if x<0 then[45] else[])++(c::padL n m)).toArray⟩):=by
        have e1:padL n (m+1)=c::padL n m:=by have:=HPB.out;unfold padB at this;injection this with this;simpa using this
        show _=_
        unfold zTxt decL;rw[<-HN.out,if_neg HZ.out,<-padL_dec m n (by omega) HLL.out,e1]
       clear hz hc
       by_cases hneg:x<0
       .have hng:decide (x<0)=true:=by simpa using hneg
        rw[hng]at k0|-;have HF2:Hid (zTxt x=(⟨#[45]⟩:ByteArray)++⟨(c::padL n m).toArray⟩):=by rw[HFIN.out,if_pos hneg];rfl
        clear hneg hng;have hsz:(⟨(c::padL n m).toArray⟩:ByteArray).size=m+1:=by show(c::padL n m).toArray.size=_;simp[hml]
        go_wp2;go_ret;exact⟨by rw[HF2.out];rfl,HB0.out⟩
       .have hng:decide (x<0)=false:=by simpa using hneg
        rw[hng]at k0|-;have HF2:Hid (zTxt x=⟨(c::padL n m).toArray⟩):=by rw[HFIN.out,if_neg hneg];rfl
        clear hneg hng;go_wp2;go_ret;exact⟨by rw[HF2.out];rfl,HB0.out⟩
theorem ba_loop (s:ByteArray)(k:Nat):∀i r,s.size-i=k->ByteArray.toList.loop s i r=r.reverse++s.data.toList.drop i:=by
 induction k with
 |zero=>
  intro i r h;unfold ByteArray.toList.loop;have h1:¬i<s.size:=by omega
  rw[if_neg h1,List.drop_eq_nil_of_le (by rw[Array.length_toList];show s.size<=i;omega),List.append_nil]
 |succ k ih=>
  intro i r h;unfold ByteArray.toList.loop;have h1:i<s.size:=by omega
  have h2:i<s.data.toList.length:=by rw[Array.length_toList];exact h1
  rw[if_pos h1,ih (i+1) _ (by omega),List.reverse_cons,List.append_assoc]
  congr 1
  rw[List.drop_eq_getElem_cons h2]
  congr 1
  have:s.get! i=s.data.toList[i]:=by
   show s.data[i]! =_
   have h3:i<s.data.size:=h1;rw[Array.getElem!_eq_getD,Array.getD_eq_getD_getElem?,Array.getElem?_eq_getElem h3];simp
  rw[this];rfl
theorem ba_toList (s:ByteArray):s.toList=s.data.toList:=by
 unfold ByteArray.toList;rw[ba_loop s s.size 0 [] (by omega)];simp
theorem decL_one {d:Nat}(h0:0<d)(h:decL d=[49]):d=1:=by
 unfold decL at h;rw[if_neg (by omega)]at h;have h1:digsR d=[49]:=by rw[<-List.reverse_reverse (digsR d),h];rfl
 rw[digsR_pos h0]at h1
 injection h1 with h1 h2
 have h3:d/10=0:=by
  by_cases e:d/10=0
  .exact e
  .exact absurd h2 (digsR_ne (by omega))
 have h4:=congrArg UInt8.toNat h1;rw[UInt8.toNat_ofNat']at h4;have:(49:UInt8).toNat=49:=rfl;omega
theorem zTxt_den {d:Nat}(h0:0<d)(h1:d≠1):((zTxt (d:Nat)).toList==[49])=false:=by
 rw[beq_eq_false_iff_ne,ba_toList];intro e;unfold zTxt at e;rw[if_neg (by omega),Int.natAbs_natCast]at e;exact h1 (decL_one h0 (by simpa using e))
theorem zTxt_one:zTxt ((1:Nat):Int)=(⟨#[49]⟩:ByteArray):=by
 unfold zTxt decL;rw[if_neg (by omega),Int.natAbs_natCast,if_neg (by decide),digsR_pos (by decide),show 1/10=0 from rfl,digsR_zero];rfl
theorem zTxt_size {z:Int}{L:Nat}(h:Go.Proofs.YtlgjakpoaelehaaGreat.nlen z.natAbs<=L):(zTxt z).size<=10*L+2:=by
 have:=decB_size h;unfold zTxt
 show(((if z<0 then[45] else[])++decL z.natAbs).toArray).size<=_
 rw[List.size_toArray,List.length_append];have h2:(decB z.natAbs).size=(decL z.natAbs).length:=by show(decL z.natAbs).toArray.size=_;rw[List.size_toArray]
 have h3:(if z<0 then[45] else([]:List UInt8)).length<=1:=by split<;>simp
 omega
theorem rtext_c {w:World}{va:Value}{a:Rat}{L:Nat}(ha:RQ w va a)(hL:QF L a)(hs:L<=1000000000):
 Calls Tryz.prog 105 #[va] w fun e w'=>e=.returned (.string (ratTxt a))/\Bel w.heap.size w w':=by
 obtain⟨ba,a1,n1,c1,b2,a2,n2,c2,rfl,ha1,ha2⟩:=RQ.out4 ha;have HA:=LH ha1;have HNA:=LH ha2;have hA1:=(QF.n4 hL).1;have hA2:=(QF.n4 hL).2;have hz1:=zTxt_size hL.1;have hz2:=zTxt_size (z:=(a.den:Nat)) (L:=L) (by rw[Int.natAbs_natCast];exact hL.2);have HDP:=LH a.den_pos;clear ha ha1 ha2 hL
 go_enter Tryz.func105,Tryz.ntmps105
 go_wp2_with fail
 refine(ztext_c (HNA.out.pres (Pres.alloc _ _)) (by omega)).mono ?_;rintro e w1 ⟨rfl,hb1⟩;obtain⟨k0,k1,k2,k3,-,-,-,-⟩:=row4 ((hb1.block w.heap.size (by simp)).trans (heap_new _ _ rfl));have HB1:Hid (Bel w.heap.size w w1):=Bel.new.trans (hb1.mono (by simp));clear hb1
 go_wp2_with fail
 refine(rden_c (HA.out.pres HB1.out.pb)).mono ?_;rintro e w2 ⟨v2,rfl,hv2,hb2⟩;obtain⟨bs,as_,ns,cs,rfl⟩:=ZZ.cells hv2
 go_wp2_with fail
 refine(ztext_c hv2 (by omega)).mono ?_;rintro e w3 ⟨rfl,hb3⟩;have HBB:Hid (Bel w.heap.size w w3):=(HB1.out.next HB1.out.size hb2).next (by have:=HB1.out.size;have:=hb2.size;omega) hb3;clear hv2 hb2 hb3
 by_cases hd:a.den=1
 .have HT:Hid (ratTxt a=zTxt a.num):=by show _=_;unfold ratTxt zTxt;rw[if_pos hd];simp
  rw[hd,zTxt_one];clear hd;go_wp2;go_ret;exact⟨by rw[HT.out];rfl,HBB.out⟩
 .have hne:=zTxt_den HDP.out hd
  have HT:Hid (ratTxt a=(zTxt a.num++(⟨#[47]⟩:ByteArray))++zTxt (a.den:Nat)):=by
   show _=_
   unfold ratTxt zTxt;rw[if_neg hd,if_neg (show¬((a.den:Nat):Int)<0 by omega),Int.natAbs_natCast]
   ext1
   simp
  obtain⟨S1,hS1⟩:∃S,S=zTxt a.num:=⟨_,rfl⟩
  obtain⟨S2,hS2⟩:∃S,S=zTxt (a.den:Nat):=⟨_,rfl⟩
  rw[<-hS1]at HT hz1|-;rw[<-hS2]at HT hz2 hne|-;clear hd hS1 hS2;go_wp2;go_ret;exact⟨by rw[HT.out];rfl,HBB.out⟩
theorem row8 {w:World}{b:Nat}{v0 v1 v2 v3 v4 v5 v6 v7:Value}{T:TypeId}(h:w.heap[b]?=some (.cells #[v0,v1,v2,v3,v4,v5,v6,v7] T)):
 w.cell? ⟨b,0,none⟩=some v0/\w.cell? ⟨b,1,none⟩=some v1/\w.cell? ⟨b,2,none⟩=some v2/\w.cell? ⟨b,3,none⟩=some v3/\w.cell? ⟨b,4,none⟩=some v4/\w.cell? ⟨b,5,none⟩=some v5/\w.cell? ⟨b,6,none⟩=some v6/\w.cell? ⟨b,7,none⟩=some v7/\w.frozen? ⟨b,0,none⟩=false/\w.frozen? ⟨b,1,none⟩=false/\w.frozen? ⟨b,2,none⟩=false/\w.frozen? ⟨b,3,none⟩=false/\w.frozen? ⟨b,4,none⟩=false/\w.frozen? ⟨b,5,none⟩=false/\w.frozen? ⟨b,6,none⟩=false/\w.frozen? ⟨b,7,none⟩=false:=by
 refine⟨?_,?_,?_,?_,?_,?_,?_,?_,?_,?_,?_,?_,?_,?_,?_,?_⟩<;>simp[World.cell?,World.frozen?,h]
theorem set8_heap {w:World}{b:Nat}{x0 x1 x2 x3 x4 x5 x6 x7 a0 a1 a2 a3 a4 a5 a6 a7:Value}{T:TypeId}(h:w.heap[b]?=some (.cells #[x0,x1,x2,x3,x4,x5,x6,x7] T)):
 ((((((((w.setCell ⟨b,0,none⟩ a0).setCell ⟨b,1,none⟩ a1).setCell ⟨b,2,none⟩ a2).setCell ⟨b,3,none⟩ a3).setCell ⟨b,4,none⟩ a4).setCell ⟨b,5,none⟩ a5).setCell ⟨b,6,none⟩ a6).setCell ⟨b,7,none⟩ a7).heap[b]?=some (.cells #[a0,a1,a2,a3,a4,a5,a6,a7] T):=by
 simp[World.setCell,Array.getElem?_modify,h]
theorem Pres.set8 {T T':TypeId}{w:World}{b:Nat}(h:BlkT T' w b)(hT:T≠T')(a0 a1 a2 a3 a4 a5 a6 a7:Value):Pres T w ((((((((w.setCell ⟨b,0,none⟩ a0).setCell ⟨b,1,none⟩ a1).setCell ⟨b,2,none⟩ a2).setCell ⟨b,3,none⟩ a3).setCell ⟨b,4,none⟩ a4).setCell ⟨b,5,none⟩ a5).setCell ⟨b,6,none⟩ a6).setCell ⟨b,7,none⟩ a7):=
 ((((((((Pres.setT h hT 0 a0).trans (Pres.setT (h.setCell _ _) hT 1 a1)).trans (Pres.setT ((h.setCell _ _).setCell _ _) hT 2 a2)).trans (Pres.setT (((h.setCell _ _).setCell _ _).setCell _ _) hT 3 a3)).trans (Pres.setT ((((h.setCell _ _).setCell _ _).setCell _ _).setCell _ _) hT 4 a4)).trans (Pres.setT (((((h.setCell _ _).setCell _ _).setCell _ _).setCell _ _).setCell _ _) hT 5 a5)).trans (Pres.setT ((((((h.setCell _ _).setCell _ _).setCell _ _).setCell _ _).setCell _ _).setCell _ _) hT 6 a6)).trans (Pres.setT (((((((h.setCell _ _).setCell _ _).setCell _ _).setCell _ _).setCell _ _).setCell _ _).setCell _ _) hT 7 a7))
theorem loadRP {w:World}{b:Nat}{T:TypeId}{a0 a1 a2 a3 a4 a5 a6 a7:Value}(h:w.heap[b]?=some (.cells #[a0,a1,a2,a3,a4,a5,a6,a7] T)):(loadVar 133 ⟨b,0,none⟩).run Tryz.prog w=.ok (.agg #[a0,a1,a2,a3,a4,a5,a6,a7]) w:=by
 obtain⟨c0,c1,c2,c3,c4,c5,c6,c7,-,-,-,-,-,-,-,-⟩:=row8 h;clear h;go_simp
def RP (w:World)(v:Value)(x z:Rat):Prop:=∃b1 v1 b2 v2 b3 v3 b4 v4,v=.agg #[.bool b1,v1,.bool b2,v2,.bool b3,v3,.bool b4,v4]/\RQ w (.agg #[.bool b1,v1,.bool b2,v2]) x/\RQ w (.agg #[.bool b3,v3,.bool b4,v4]) z
theorem RP.pres {w w':World}{v:Value}{x z:Rat}(h:RP w v x z)(hp:Pres 3 w w'):RP w' v x z:=by
 obtain⟨b1,v1,b2,v2,b3,v3,b4,v4,e,h1,h2⟩:=h;exact⟨b1,v1,b2,v2,b3,v3,b4,v4,e,h1.pres hp,h2.pres hp⟩
theorem RP.mk {w:World}{x z:Rat}{b1 b2 b3 b4:Bool}{v1 v2 v3 v4:Value}(h1:RQ w (.agg #[.bool b1,v1,.bool b2,v2]) x)(h2:RQ w (.agg #[.bool b3,v3,.bool b4,v4]) z):RP w (.agg #[.bool b1,v1,.bool b2,v2,.bool b3,v3,.bool b4,v4]) x z:=
 ⟨_,_,_,_,_,_,_,_,rfl,h1,h2⟩
theorem RP.cells {w:World}{v:Value}{x z:Rat}(h:RP w v x z):∃b1 a1 n1 c1 b2 a2 n2 c2 b3 a3 n3 c3 b4 a4 n4 c4,v=.agg #[.bool b1,.slice a1 n1 c1,.bool b2,.slice a2 n2 c2,.bool b3,.slice a3 n3 c3,.bool b4,.slice a4 n4 c4]/\
 RQ w (.agg #[.bool b1,.slice a1 n1 c1,.bool b2,.slice a2 n2 c2]) x/\RQ w (.agg #[.bool b3,.slice a3 n3 c3,.bool b4,.slice a4 n4 c4]) z:=by
 obtain⟨b1,v1,b2,v2,b3,v3,b4,v4,rfl,h1,h2⟩:=h;obtain⟨_,a1,n1,c1,_,a2,n2,c2,e1⟩:=RQ.cells h1;obtain⟨_,a3,n3,c3,_,a4,n4,c4,e2⟩:=RQ.cells h2
 injection e1 with e1
 injection e1 with e1
 injection e1 with p1 e1
 injection e1 with p2 e1
 injection e1 with p3 e1
 injection e1 with p4 _
 injection e2 with e2
 injection e2 with e2
 injection e2 with q1 e2
 injection e2 with q2 e2
 injection e2 with q3 e2
 injection e2 with q4 _
 subst p2 p4 q2 q4;exact⟨_,_,_,_,_,_,_,_,_,_,_,_,_,_,_,_,rfl,h1,h2⟩
theorem rpadd_c {w:World}{va vb:Value}{xa za xb zb:Rat}{L M:Nat}(ha:RP w va xa za)(hb:RP w vb xb zb)(hXA:QF L xa)(hZA:QF L za)(hXB:QF M xb)(hZB:QF M zb)(hs:L+M<=1000000000):
 Calls Tryz.prog 53 #[va,vb] w (Gives w fun v w'=>RP w' v (xa+xb) (za+zb)):=by
 have HXA:=LH hXA;have HZA:=LH hZA;have HXB:=LH hXB;have HZB:=LH hZB;obtain⟨s1,a1,n1,c1,s2,a2,n2,c2,s3,a3,n3,c3,s4,a4,n4,c4,rfl,h1,h2⟩:=RP.cells ha;have H1:=LH h1;have H2:=LH h2;obtain⟨t1,d1,m1,e1,t2,d2,m2,e2,t3,d3,m3,e3,t4,d4,m4,e4,rfl,h3,h4⟩:=RP.cells hb;have H3:=LH h3;have H4:=LH h4;clear ha hb h1 h2 h3 h4 hXA hZA hXB hZB
 go_enter Tryz.func53,Tryz.ntmps53
 go_wp2;refine name_world ?_;intro W0 hW0;obtain⟨a_0,a_1,a_2,a_3,a_4,a_5,a_6,a_7,-,-,-,-,-,-,-,-⟩:=row8 (at_world hW0 (b:=w.heap.size) ((heap_old _ _ Sd1).trans ((heap_old _ _ Sd1).trans (heap_new _ _ Sd1))));obtain⟨b_0,b_1,b_2,b_3,b_4,b_5,b_6,b_7,-,-,-,-,-,-,-,-⟩:=row8 (at_world hW0 (b:=w.heap.size+1) ((heap_old _ _ Sd1).trans (heap_new _ _ Sd1)));have hR0:=at_world hW0 (b:=w.heap.size+1+1) (heap_new _ _ Sd1)
 have hsz:w.heap.size+1+1+1<=W0.heap.size:=by rw[hW0];simp
 have hst:SHs w W0 (w.heap.size+1+1) W0:=SHs.start (by omega) (by omega) (by rw[hW0];exact((Bel.new.alloc Sd1 _).alloc Sd1 _));clear hW0
 go_region_held3 (fun w'=>(∀(b o:Nat),b<w.heap.size+1+1->w'.cell? ⟨b,o,none⟩=W0.cell? ⟨b,o,none⟩)/\SHs w W0 (w.heap.size+1+1) w') (exact K2s)
  (first
   |(go_at_call_of 73 n1;(try (rename _/\_=>hh;rcases hh with⟨hSc,hSb⟩));refine(radd_c (RQ.pres H1.out B2s) (RQ.pres H3.out B2s) HXA.out HXB.out hs).mono ?_;rintro e w9 ⟨vq1,rfl,hQ1,hb1⟩;obtain⟨bq1,aq1,nq1,cq1,br1,ar1,nr1,cr1,rfl⟩:=RQ.cells hQ1;have hz1:=(hSb.call hb1).near.size;have hrow:w9.heap[w.heap.size+1+1]?=some (.cells #[.bool false,.slice none 0 0,.bool false,.slice none 0 0,.bool false,.slice none 0 0,.bool false,.slice none 0 0] 133):=RW2;obtain⟨hc0,hc1,hc2,hc3,hc4,hc5,hc6,hc7,hf0,hf1,hf2,hf3,hf4,hf5,hf6,hf7⟩:=row8 hrow)
   |(go_at_call_of 73 n3;(try (rename _/\_=>hh;rcases hh with⟨hSc,hSb⟩));refine(radd_c (RQ.pres H2.out B2s) (RQ.pres H4.out B2s) HZA.out HZB.out hs).mono ?_;rintro e w9 ⟨vq2,rfl,hQ2,hb2⟩;obtain⟨bq2,aq2,nq2,cq2,br2,ar2,nr2,cr2,rfl⟩:=RQ.cells hQ2;have hz2:=(hSb.call hb2).near.size;have hrow:w9.heap[w.heap.size+1+1]?=some (.cells #[.bool false,.slice none 0 0,.bool false,.slice none 0 0,.bool false,.slice none 0 0,.bool false,.slice none 0 0] 133):=RW2;obtain⟨hc0,hc1,hc2,hc3,hc4,hc5,hc6,hc7,hf0,hf1,hf2,hf3,hf4,hf5,hf6,hf7⟩:=row8 hrow))
 all_goals go_wp2
 all_goals((try (rename _/\_=>hh;rcases hh with⟨hSc,hSb⟩));have hq1:=RQ.pres (w':=w9) hQ1 CH2s;have hq2:=RQ.pres (w':=w9) hQ2 CH2s;exact post_box rfl rfl rfl (loadRP (set8_heap hrow)) ⟨_,rfl,RP.mk (RQ.pres hq1 (Pres.set8 ⟨_,_,hrow⟩ (by decide) _ _ _ _ _ _ _ _)) (RQ.pres hq2 (Pres.set8 ⟨_,_,hrow⟩ (by decide) _ _ _ _ _ _ _ _)),hSb.base⟩)
theorem rpsub_c {w:World}{va vb:Value}{xa za xb zb:Rat}{L M:Nat}(ha:RP w va xa za)(hb:RP w vb xb zb)(hXA:QF L xa)(hZA:QF L za)(hXB:QF M xb)(hZB:QF M zb)(hs:L+M<=1000000000):
 Calls Tryz.prog 102 #[va,vb] w (Gives w fun v w'=>RP w' v (xa-xb) (za-zb)):=by
 have HXA:=LH hXA;have HZA:=LH hZA;have HXB:=LH hXB;have HZB:=LH hZB;obtain⟨s1,a1,n1,c1,s2,a2,n2,c2,s3,a3,n3,c3,s4,a4,n4,c4,rfl,h1,h2⟩:=RP.cells ha;have H1:=LH h1;have H2:=LH h2;obtain⟨t1,d1,m1,e1,t2,d2,m2,e2,t3,d3,m3,e3,t4,d4,m4,e4,rfl,h3,h4⟩:=RP.cells hb;have H3:=LH h3;have H4:=LH h4;clear ha hb h1 h2 h3 h4 hXA hZA hXB hZB
 go_enter Tryz.func102,Tryz.ntmps102
 go_wp2;refine name_world ?_;intro W0 hW0;obtain⟨a_0,a_1,a_2,a_3,a_4,a_5,a_6,a_7,-,-,-,-,-,-,-,-⟩:=row8 (at_world hW0 (b:=w.heap.size) ((heap_old _ _ Sd1).trans ((heap_old _ _ Sd1).trans (heap_new _ _ Sd1))));obtain⟨b_0,b_1,b_2,b_3,b_4,b_5,b_6,b_7,-,-,-,-,-,-,-,-⟩:=row8 (at_world hW0 (b:=w.heap.size+1) ((heap_old _ _ Sd1).trans (heap_new _ _ Sd1)));have hR0:=at_world hW0 (b:=w.heap.size+1+1) (heap_new _ _ Sd1)
 have hsz:w.heap.size+1+1+1<=W0.heap.size:=by rw[hW0];simp
 have hst:SHs w W0 (w.heap.size+1+1) W0:=SHs.start (by omega) (by omega) (by rw[hW0];exact((Bel.new.alloc Sd1 _).alloc Sd1 _));clear hW0
 go_region_held3 (fun w'=>(∀(b o:Nat),b<w.heap.size+1+1->w'.cell? ⟨b,o,none⟩=W0.cell? ⟨b,o,none⟩)/\SHs w W0 (w.heap.size+1+1) w') (exact K2s)
  (first
   |(go_at_call_of 154 n1;(try (rename _/\_=>hh;rcases hh with⟨hSc,hSb⟩));refine(rsub_c (RQ.pres H1.out B2s) (RQ.pres H3.out B2s) HXA.out HXB.out hs).mono ?_;rintro e w9 ⟨vq1,rfl,hQ1,hb1⟩;obtain⟨bq1,aq1,nq1,cq1,br1,ar1,nr1,cr1,rfl⟩:=RQ.cells hQ1;have hz1:=(hSb.call hb1).near.size;have hrow:w9.heap[w.heap.size+1+1]?=some (.cells #[.bool false,.slice none 0 0,.bool false,.slice none 0 0,.bool false,.slice none 0 0,.bool false,.slice none 0 0] 133):=RW2;obtain⟨hc0,hc1,hc2,hc3,hc4,hc5,hc6,hc7,hf0,hf1,hf2,hf3,hf4,hf5,hf6,hf7⟩:=row8 hrow)
   |(go_at_call_of 154 n3;(try (rename _/\_=>hh;rcases hh with⟨hSc,hSb⟩));refine(rsub_c (RQ.pres H2.out B2s) (RQ.pres H4.out B2s) HZA.out HZB.out hs).mono ?_;rintro e w9 ⟨vq2,rfl,hQ2,hb2⟩;obtain⟨bq2,aq2,nq2,cq2,br2,ar2,nr2,cr2,rfl⟩:=RQ.cells hQ2;have hz2:=(hSb.call hb2).near.size;have hrow:w9.heap[w.heap.size+1+1]?=some (.cells #[.bool false,.slice none 0 0,.bool false,.slice none 0 0,.bool false,.slice none 0 0,.bool false,.slice none 0 0] 133):=RW2;obtain⟨hc0,hc1,hc2,hc3,hc4,hc5,hc6,hc7,hf0,hf1,hf2,hf3,hf4,hf5,hf6,hf7⟩:=row8 hrow))
 all_goals go_wp2
 all_goals((try (rename _/\_=>hh;rcases hh with⟨hSc,hSb⟩));have hq1:=RQ.pres (w':=w9) hQ1 CH2s;have hq2:=RQ.pres (w':=w9) hQ2 CH2s;exact post_box rfl rfl rfl (loadRP (set8_heap hrow)) ⟨_,rfl,RP.mk (RQ.pres hq1 (Pres.set8 ⟨_,_,hrow⟩ (by decide) _ _ _ _ _ _ _ _)) (RQ.pres hq2 (Pres.set8 ⟨_,_,hrow⟩ (by decide) _ _ _ _ _ _ _ _)),hSb.base⟩)
theorem rscale_c {w:World}{va vb:Value}{xa za k:Rat}{L M:Nat}(ha:RP w va xa za)(hb:RQ w vb k)(hXA:QF L xa)(hZA:QF L za)(hXB:QF M k)(hs:L+M<=1000000000):
 Calls Tryz.prog 54 #[va,vb] w (Gives w fun v w'=>RP w' v (xa*k) (za*k)):=by
 have HXA:=LH hXA;have HZA:=LH hZA;have HXB:=LH hXB;obtain⟨s1,a1,n1,c1,s2,a2,n2,c2,s3,a3,n3,c3,s4,a4,n4,c4,rfl,h1,h2⟩:=RP.cells ha;have H1:=LH h1;have H2:=LH h2;have H3:=LH hb;obtain⟨t1,d1,m1,e1,t2,d2,m2,e2,rfl⟩:=RQ.cells hb;clear ha hb h1 h2 hXA hZA hXB
 go_enter Tryz.func54,Tryz.ntmps54
 go_wp2;refine name_world ?_;intro W0 hW0;obtain⟨a_0,a_1,a_2,a_3,a_4,a_5,a_6,a_7,-,-,-,-,-,-,-,-⟩:=row8 (at_world hW0 (b:=w.heap.size) ((heap_old _ _ Sd1).trans ((heap_old _ _ Sd1).trans (heap_new _ _ Sd1))));obtain⟨b_0,b_1,b_2,b_3,-,-,-,-⟩:=row4 (at_world hW0 (b:=w.heap.size+1) ((heap_old _ _ Sd1).trans (heap_new _ _ Sd1)));have hR0:=at_world hW0 (b:=w.heap.size+1+1) (heap_new _ _ Sd1);have hsz:w.heap.size+1+1+1<=W0.heap.size:=by rw[hW0];simp
 have hst:SHs w W0 (w.heap.size+1+1) W0:=SHs.start (by omega) (by omega) (by rw[hW0];exact((Bel.new.alloc Sd1 _).alloc Sd1 _));clear hW0
 go_region_held3 (fun w'=>(∀(b o:Nat),b<w.heap.size+1+1->w'.cell? ⟨b,o,none⟩=W0.cell? ⟨b,o,none⟩)/\SHs w W0 (w.heap.size+1+1) w') (exact K2s)
  (first
   |(go_at_call_of 82 n1;(try (rename _/\_=>hh;rcases hh with⟨hSc,hSb⟩));refine(rmul_c (RQ.pres H1.out B2s) (RQ.pres H3.out B2s) HXA.out HXB.out hs).mono ?_;rintro e w9 ⟨vq1,rfl,hQ1,hb1⟩;obtain⟨bq1,aq1,nq1,cq1,br1,ar1,nr1,cr1,rfl⟩:=RQ.cells hQ1;have hz1:=(hSb.call hb1).near.size;have hrow:w9.heap[w.heap.size+1+1]?=some (.cells #[.bool false,.slice none 0 0,.bool false,.slice none 0 0,.bool false,.slice none 0 0,.bool false,.slice none 0 0] 133):=RW2;obtain⟨hc0,hc1,hc2,hc3,hc4,hc5,hc6,hc7,hf0,hf1,hf2,hf3,hf4,hf5,hf6,hf7⟩:=row8 hrow)
   |(go_at_call_of 82 n3;(try (rename _/\_=>hh;rcases hh with⟨hSc,hSb⟩));refine(rmul_c (RQ.pres H2.out B2s) (RQ.pres H3.out B2s) HZA.out HXB.out hs).mono ?_;rintro e w9 ⟨vq2,rfl,hQ2,hb2⟩;obtain⟨bq2,aq2,nq2,cq2,br2,ar2,nr2,cr2,rfl⟩:=RQ.cells hQ2;have hz2:=(hSb.call hb2).near.size;have hrow:w9.heap[w.heap.size+1+1]?=some (.cells #[.bool false,.slice none 0 0,.bool false,.slice none 0 0,.bool false,.slice none 0 0,.bool false,.slice none 0 0] 133):=RW2;obtain⟨hc0,hc1,hc2,hc3,hc4,hc5,hc6,hc7,hf0,hf1,hf2,hf3,hf4,hf5,hf6,hf7⟩:=row8 hrow))
 all_goals go_wp2
 all_goals((try (rename _/\_=>hh;rcases hh with⟨hSc,hSb⟩));have hq1:=RQ.pres (w':=w9) hQ1 CH2s;have hq2:=RQ.pres (w':=w9) hQ2 CH2s;exact post_box rfl rfl rfl (loadRP (set8_heap hrow)) ⟨_,rfl,RP.mk (RQ.pres hq1 (Pres.set8 ⟨_,_,hrow⟩ (by decide) _ _ _ _ _ _ _ _)) (RQ.pres hq2 (Pres.set8 ⟨_,_,hrow⟩ (by decide) _ _ _ _ _ _ _ _)),hSb.base⟩)
def RB (w:World)(B:Nat)(q:Rat):Prop:=∃b1 a1 n1 c1 b2 a2 n2 c2,w.heap[B]?=some (.cells #[.bool b1,.slice a1 n1 c1,.bool b2,.slice a2 n2 c2] 49)/\RQ w (.agg #[.bool b1,.slice a1 n1 c1,.bool b2,.slice a2 n2 c2]) q
theorem RB.keep {w w':World}{B:Nat}{q:Rat}(h:RB w B q)(hb:w'.heap[B]?=w.heap[B]?)(hp:Pres 3 w w'):RB w' B q:=by
 obtain⟨b1,a1,n1,c1,b2,a2,n2,c2,h1,h2⟩:=h;exact⟨b1,a1,n1,c1,b2,a2,n2,c2,hb.trans h1,h2.pres hp⟩
theorem RB.lt {w:World}{B:Nat}{q:Rat}(h:RB w B q):B<w.heap.size:=by obtain⟨b1,a1,n1,c1,b2,a2,n2,c2,h1,h2⟩:=h;exact BlkT.lt ⟨_,_,h1⟩
theorem RB.bel {w w':World}{B:Nat}{q:Rat}(h:RB w B q)(hb:Bel w.heap.size w w'):RB w' B q:=h.keep (hb.block _ h.lt) hb.pb
theorem RB.blk {w:World}{B:Nat}{q:Rat}(h:RB w B q):BlkT 49 w B:=by obtain⟨b1,a1,n1,c1,b2,a2,n2,c2,h1,h2⟩:=h;exact⟨_,_,h1⟩
theorem post_box2 {P:Program}{fn:Func}{Qp:Ending->World->Prop}{a:Act}{w:World}{p p':Tmp}{ty ty':TypeId}{b b':Nat}{v v':Value}(hr:fn.results=#[.cell p ty,.cell p' ty'])(hp:a.tmps.getD p undef=.pointer (some ⟨b,0,none⟩))(hp':a.tmps.getD p' undef=.pointer (some ⟨b',0,none⟩))(hd:a.defers=[])
 (hl:(loadVar ty ⟨b,0,none⟩).run P w=.ok v w) (hl':(loadVar ty' ⟨b',0,none⟩).run P w=.ok v' w) (h:Qp (.returned (.tuple #[v,v'])) w):bodyPost P fn Qp Exit.ret a w:=
 bodyPost_ret (results_cc hr _ hp hl hp' hl') hd h
theorem loadQ39 {w:World}{b:Nat}{T:TypeId}{a0 a1 a2:Value}(h:w.heap[b]?=some (.cells #[a0,a1,a2] T)):(loadVar 39 ⟨b,0,none⟩).run Tryz.prog w=.ok (.agg #[a0,a1,a2]) w:=by
 obtain⟨c0,c1,c2,-,-,-⟩:=row3 h;clear h;go_simp
theorem name_post {P:Program}{fn:Func}{Qp:Ending->World->Prop}{e:Exit}{a:Act}{w:World}(h:∀W0,W0=w->bodyPost P fn Qp e a W0):bodyPost P fn Qp e a w:=h w rfl
def numVal (n d:Int)(p:Nat):Rat:=((n:Rat)/((if d=0 then 1 else d:Int):Rat))^(p%4+1)
theorem QF.pow {L:Nat}{b:Rat}(h:QF L b):∀k,QF (L*(k+1)) (b^(k+1))
 |0=>by rw[Nat.zero_add,Nat.mul_one,Rat.pow_succ,Rat.pow_zero,Rat.one_mul];exact h
 |k+1=>by rw[Rat.pow_succ,Nat.mul_succ];exact(QF.pow h k).mul h
theorem numVal_QF {n d:Int}(h1:-9223372036854775808<=n)(h2:n<9223372036854775808)(h3:-9223372036854775808<=d)(h4:d<9223372036854775808)(p:Nat):QF 8 (numVal n d p):=by
 unfold numVal
 have h:QF 2 ((n:Rat)/((if d=0 then 1 else d:Int):Rat)):=by
  split
  .exact QF.of h1 h2 (by decide) (by decide) (by decide)
  .exact QF.of h1 h2 h3 h4 (by assumption)
 exact(QF.pow h (p%4)).mono (by have:=Nat.mod_lt p (show 0<4 by decide);omega)
structure BothIn (w wr:World) (B4 B6 B7 B8:Nat) (n d:Int) (p:Nat) (b:Rat) (k:Nat):Prop where
 box:wr.heap[w.heap.size]?=some (.cells #[.int .i64 n,.int .i64 d,.int .u8 p] 24)
 r1:wr.heap[w.heap.size+1]?=some (.cells #[.bool false,.slice none 0 0,.slice none 0 0] 39)
 r2:wr.heap[w.heap.size+1+1]?=some (.cells #[.bool false,.slice none 0 0,.bool false,.slice none 0 0] 49)
 q4:QB wr B4 b
 q6:RB wr B6 b
 q7:QB wr B7 (b^(k+1))
 q8:RB wr B8 (b^(k+1))
 l4:w.heap.size+1+1<B4
 l6:B4<B6
 l7:B6<B7
 l8:B6<B8
 ne:B7≠B8
 bel:Bel w.heap.size w wr
theorem BothIn.call {w wr w':World}{B4 B6 B7 B8:Nat}{n d:Int}{p:Nat}{b:Rat}{k:Nat}(h:BothIn w wr B4 B6 B7 B8 n d p b k)(hb:Bel wr.heap.size wr w'):BothIn w w' B4 B6 B7 B8 n d p b k:=by
 have h1:=h.q4.lt;have h2:=h.l4;exact⟨(hb.block _ (by omega)).trans h.box,(hb.block _ (by omega)).trans h.r1,(hb.block _ (by omega)).trans h.r2,h.q4.bel hb,h.q6.bel hb,h.q7.bel hb,h.q8.bel hb,h.l4,h.l6,h.l7,h.l8,h.ne,h.bel.next h.bel.size hb⟩
theorem BothIn.stepQ {w wr:World}{B4 B6 B7 B8:Nat}{n d:Int}{p:Nat}{b:Rat}{k:Nat}(h:BothIn w wr B4 B6 B7 B8 n d p b k){x:Bool}{am:Option Addr}{m:Nat}{al:Option Addr}{l:Nat}(hv:QV wr (.agg #[.bool x,.slice am m m,.slice al l l]) (b^(k+1)*b))
 {w2:World} (hw2:w2=((wr.setCell ⟨B7,0,none⟩ (.bool x)).setCell ⟨B7,1,none⟩ (.slice am m m)).setCell ⟨B7,2,none⟩ (.slice al l l)):
 QB w2 B7 (b^(k+1+1))/\RB w2 B8 (b^(k+1))/\(∀j,j≠B7->w2.heap[j]?=wr.heap[j]?)/\Pres 232 wr w2/\Pres 3 wr w2/\Bel w.heap.size w w2:=by
 obtain⟨_,_,_,_,_,h1,_⟩:=id h.q7;have hl:=h.l4;have hl6:=h.l6;have hl7:=h.l7
 have hk:∀j,j≠B7->w2.heap[j]?=wr.heap[j]?:=fun j hj=>by
  rw[hw2,Below.heap_setCell _ _ _ _ hj,Below.heap_setCell _ _ _ _ hj,Below.heap_setCell _ _ _ _ hj]
 have hp:Pres 232 wr w2:=by rw[hw2];exact Pres.set3 ⟨_,_,h1⟩ (by decide) _ _ _ _ _ _
 have hp2:Pres 3 wr w2:=by rw[hw2];exact Pres.set3 ⟨_,_,h1⟩ (by decide) _ _ _ _ _ _
 refine⟨⟨_,_,_,_,_,by rw[hw2];exact set3_heap h1,by rw[Rat.pow_succ];exact hv.pres hp⟩,h.q8.keep (hk _ (Ne.symm h.ne)) hp2,hk,hp,hp2,?_⟩;rw[hw2];exact((h.bel.setCell (by simp;omega) _).setCell (by simp;omega) _).setCell (by simp;omega) _
theorem BothIn.step {w wr w1 w2 w3:World}{B4 B6 B7 B8:Nat}{n d:Int}{p:Nat}{b:Rat}{k:Nat}(h:BothIn w wr B4 B6 B7 B8 n d p b k)(hb1:Bel wr.heap.size wr w1)
 {x:Bool} {am:Option Addr} {m:Nat} {al:Option Addr} {l:Nat} (hv:QV w1 (.agg #[.bool x,.slice am m m,.slice al l l]) (b^(k+1)*b))
 (hw2:w2=((w1.setCell ⟨B7,0,none⟩ (.bool x)).setCell ⟨B7,1,none⟩ (.slice am m m)).setCell ⟨B7,2,none⟩ (.slice al l l)) (hb3:Bel w2.heap.size w2 w3)
 {b1 b2:Bool} {a1 a2:Option Addr} {n1 c1 n2 c2:Nat} (hr:RQ w3 (.agg #[.bool b1,.slice a1 n1 c1,.bool b2,.slice a2 n2 c2]) (b^(k+1)*b)):
 BothIn w ((((w3.setCell ⟨B8,0,none⟩ (.bool b1)).setCell ⟨B8,1,none⟩ (.slice a1 n1 c1)).setCell ⟨B8,2,none⟩ (.bool b2)).setCell ⟨B8,3,none⟩ (.slice a2 n2 c2)) B4 B6 B7 B8 n d p b (k+1):=by
 have hc:=h.call hb1;have hl:=h.l4;have hl6:=h.l6;have hl7:=h.l7;have hl8:=h.l8;have hne:=h.ne;obtain⟨s1,s2,s3,s4,s5,s6⟩:=hc.stepQ hv hw2;obtain⟨_,_,_,_,_,_,_,_,g1,_⟩:=id (s2.bel hb3);generalize hw4:((((w3.setCell ⟨B8,0,none⟩ (.bool b1)).setCell ⟨B8,1,none⟩ (.slice a1 n1 c1)).setCell ⟨B8,2,none⟩ (.bool b2)).setCell ⟨B8,3,none⟩ (.slice a2 n2 c2))=w4;have hz2:=s1.lt;have hz8:=s2.lt
 have hk:∀j,j≠B8->w4.heap[j]?=w3.heap[j]?:=fun j hj=>by
  rw[<-hw4,Below.heap_setCell _ _ _ _ hj,Below.heap_setCell _ _ _ _ hj,Below.heap_setCell _ _ _ _ hj,Below.heap_setCell _ _ _ _ hj]
 have hp:Pres 232 w3 w4:=by rw[<-hw4];exact Pres.set4 ⟨_,_,g1⟩ (by decide) _ _ _ _
 have hp2:Pres 3 w3 w4:=by rw[<-hw4];exact Pres.set4 ⟨_,_,g1⟩ (by decide) _ _ _ _
 have hold:∀j,j<B7->j<B8->w4.heap[j]?=w1.heap[j]?:=fun j h7 h8=>((hk j (by omega)).trans (hb3.block j (by omega))).trans (s3 j (by omega));have p32:Pres 232 w1 w4:=(s4.trans hb3.pb).trans hp;have pint:Pres 3 w1 w4:=(s5.trans hb3.pb).trans hp2
 refine⟨(hold _ (by omega) (by omega)).trans hc.box,(hold _ (by omega) (by omega)).trans hc.r1,(hold _ (by omega) (by omega)).trans hc.r2,hc.q4.keep (hold _ (by omega) (by omega)) p32,hc.q6.keep (hold _ (by omega) (by omega)) pint,
  (s1.bel hb3).keep (hk _ hne) hp,⟨_,_,_,_,_,_,_,_,by rw[<-hw4];exact set4_heap g1,by rw[Rat.pow_succ];exact hr.pres hp2⟩,hl,hl6,hl7,hl8,hne,?_⟩
 rw[<-hw4];exact((((s6.next s6.size hb3).setCell (by simp;omega) _).setCell (by simp;omega) _).setCell (by simp;omega) _).setCell (by simp;omega) _
theorem both_c {w:World}{n d:Int}{p:Nat}(h1:-9223372036854775808<=n)(h2:n<9223372036854775808)(h3:-9223372036854775808<=d)(h4:d<9223372036854775808)(hp:p<256):
 Calls Tryz.prog 20 #[.agg #[.int .i64 n,.int .i64 d,.int .u8 p]] w fun e w'=>∃v1 v2,e=.returned (.tuple #[v1,v2])/\QV w' v1 (numVal n d p)/\RQ w' v2 (numVal n d p)/\Bel w.heap.size w w':=by
 obtain⟨d',hd'⟩:∃d':Int,d'=if d=0 then 1 else d:=⟨_,rfl⟩
 have HNV:Hid (numVal n d p=((n:Rat)/(d':Rat))^(p%4+1)):=by show _=_;rw[hd'];rfl
 have hd0:d'≠0:=by rw[hd'];split<;>omega
 have hd1:-9223372036854775808<=d':=by rw[hd'];split<;>omega
 have hd2:d'<9223372036854775808:=by rw[hd'];split<;>omega
 have HQF:=LH (QF.of h1 h2 hd1 hd2 hd0);have HD0:=LH hd0
 by_cases hz:d=0
 .subst hz;obtain rfl:d'=1:=hd'
  go_enter Tryz.func20,Tryz.ntmps20
  go_wp2_with fail
  refine name_call ?_;intro W0 hW0;have HBX0:=LH (at_world hW0 (b:=w.heap.size) ((heap_old _ _ Sd1).trans ((heap_old _ _ Sd1).trans (heap_new _ _ Sd1))));have HR10:=LH (at_world hW0 (b:=w.heap.size+1) ((heap_old _ _ Sd1).trans (heap_new _ _ Sd1)));have HR20:=LH (at_world hW0 (b:=w.heap.size+1+1) (heap_new _ _ Sd1));have hz0:w.heap.size+1+1<W0.heap.size:=by rw[hW0];simp
  have HBW:Hid (Bel w.heap.size w W0):=by rw[hW0];exact(Bel.new.alloc Sd1 _).alloc Sd1 _
  clear hW0;refine(Of_c h1 h2 hd1 hd2 HD0.out).mono ?_;rintro e w1 ⟨v1,rfl,hv1,hb1⟩;obtain⟨x,am,m,al,l,rfl⟩:=QV.cells hv1;have HV1:=LH hv1;have hz1:=hb1.size;have hza:w.heap.size<w1.heap.size:=by omega
  obtain⟨k0,k1,k2,-,-,-⟩:=row3 ((hb1.block w.heap.size (by omega)).trans HBX0.out);have HB1:=LH hb1;clear hv1 hb1
  go_wp2_with fail
  refine name_call ?_;intro W1 hW1;have HQ4:Hid (QB W1 w1.heap.size ((n:Rat)/((1:Int):Rat))):=⟨_,_,_,_,_,at_world hW1 (heap_new _ _ rfl),HV1.out.pres (by rw[hW1];exact Pres.alloc _ _)⟩
  have HBN1:Hid (Bel W0.heap.size W0 W1):=by rw[hW1];exact HB1.out.alloc (by omega) _
  have hz2:w1.heap.size+1<=W1.heap.size:=by rw[hW1];simp
  have hz9:W0.heap.size<=W1.heap.size:=by omega
  obtain⟨B4,hB4⟩:∃B,B=w1.heap.size:=⟨_,rfl⟩
  rw[<-hB4]at HQ4 hz1 hz2|-;clear hW1 k0 k1 k2 hB4;refine(rof_c h1 h2 hd1 hd2 HD0.out).mono ?_;rintro e w2 ⟨v2,rfl,hv2,hb2⟩;obtain⟨b1,a1,n1,c1,b2,a2,n2,c2,rfl⟩:=RQ.cells hv2;have HV2:=LH hv2;have hz3:=hb2.size;have HQ4b:=LH (HQ4.out.bel hb2);have HBN2:Hid (Bel W0.heap.size W0 w2):=HBN1.out.next hz9 hb2;clear hv2 hb2;obtain⟨y0,y1,y2,y3,y4,hq4h,hq4v⟩:=HQ4b.out;obtain⟨k0,k1,k2,-,-,-⟩:=row3 hq4h
  have HQ4H:=LH hq4h;have HQ4V:=LH hq4v;have hzb:B4<w2.heap.size:=by omega
  clear hq4h hq4v
  go_wp2_with fail
  refine name_world ?_;intro W5 hW5;obtain⟨B6,hB6⟩:∃B,B=w2.heap.size:=⟨_,rfl⟩
  have hq4h5:=at_world hW5 ((heap_old _ _ hzb).trans HQ4H.out);have HQ6H:=LH (at_world hW5 (b:=w2.heap.size) (heap_new _ _ rfl));have HBN5:Hid (Bel w2.heap.size w2 W5):=by rw[hW5];exact(Bel.refl _ _).alloc NL _
  have hz5:w2.heap.size<W5.heap.size:=by rw[hW5];simp
  rw[<-hB6]at HQ6H hz5 hzb|-;obtain⟨i0,i1,i2,-,-,-⟩:=row3 hq4h5;obtain⟨j0,j1,j2,j3,-,-,-,-⟩:=row4 HQ6H.out;have HQ4H5:=LH hq4h5;have hz6:B4<W5.heap.size:=by omega
  have hz7:B4<W5.heap.size+1:=by omega
  have hz8:B6<W5.heap.size+1:=by omega
  have hn1:B4≠W5.heap.size:=by omega
  have hn2:B4≠W5.heap.size+1:=by omega
  have hn3:B6≠W5.heap.size:=by omega
  have hn4:B6≠W5.heap.size+1:=by omega
  clear hW5 k0 k1 k2 hq4h5 hB6
  go_region
  .refine name_exit ?_;intro W2 hW2;have HP32:Hid (Pres 232 W5 W2):=by rw[hW2];exact((Pres.alloc _ _).trans (Pres.alloc _ _)).trans (Pres.drew _)
   have HPI:Hid (Pres 3 W5 W2):=by rw[hW2];exact((Pres.alloc _ _).trans (Pres.alloc _ _)).trans (Pres.drew _)
   have HBN9:Hid (Bel W5.heap.size W5 W2):=by rw[hW2];exact(Bel.new.alloc (by simp) _).drew
   have HB05:Hid (Bel W0.heap.size W0 W2):=(HBN2.out.next HBN2.out.size HBN5.out).next (by have:=HBN2.out.size;omega) HBN9.out;have HVQ:Hid (QV W2 (.agg #[.bool y0,.slice y1 y2 y2,.slice y3 y4 y4]) ((n:Rat)/((1:Int):Rat))):=HQ4V.out.pres (HBN5.out.pb.trans HP32.out);have HVR:Hid (RQ W2 (.agg #[.bool b1,.slice a1 n1 c1,.bool b2,.slice a2 n2 c2]) ((n:Rat)/((1:Int):Rat))):=HV2.out.pres (HBN5.out.pb.trans HPI.out)
   have HS:Hid (BothIn w W2 B4 B6 (W5.heap.size) (W5.heap.size+1) n (1:Int) p ((n:Rat)/((1:Int):Rat)) 0):=by
    refine⟨(HB05.out.block _ (by omega)).trans HBX0.out,(HB05.out.block _ (by omega)).trans HR10.out,(HB05.out.block _ (by omega)).trans HR20.out,
     ⟨_,_,_,_,_,(HBN9.out.block _ hz6).trans HQ4H5.out,HVQ.out⟩,⟨_,_,_,_,_,_,_,_,(HBN9.out.block _ hz5).trans HQ6H.out,HVR.out⟩,
     ⟨_,_,_,_,_,by rw[hW2];exact(heap_drew _ _).trans ((heap_old _ _ (by simp)).trans (heap_new _ _ rfl)),by rw[Nat.zero_add,Rat.pow_succ,Rat.pow_zero,Rat.one_mul];exact HVQ.out⟩,
     ⟨_,_,_,_,_,_,_,_,by rw[hW2];exact(heap_drew _ _).trans (heap_new _ _ (by simp)),by rw[Nat.zero_add,Rat.pow_succ,Rat.pow_zero,Rat.one_mul];exact HVR.out⟩,
     by omega,hzb,by omega,by omega,by omega,HBW.out.next HBW.out.size HB05.out⟩
   obtain⟨B7,hB7⟩:∃B,B=W5.heap.size:=⟨_,rfl⟩
   rw[<-hB7]at HS|-;obtain⟨B8,hB8⟩:∃B,B=B7+1:=⟨_,rfl⟩
   rw[<-hB8]at HS|-;clear hW2 hB7 hB8 HP32 HPI HBN9 HB05 HVQ HVR i0 i1 i2 j0 j1 j2 j3 HQ4H5 HQ6H HBN5 hz5 hz6 hz7 hz8 hn1 hn2 hn3 hn4 HQ4H HQ4V HV2 HQ4b HBN2 hz3 HQ4 hz1 hz2 hz9 HBN1 HB1 HV1 hza hz0 HBW HBX0 HR10 HR20 hzb;obtain⟨b,hb⟩:∃b,b=((n:Rat)/((1:Int):Rat)):=⟨_,rfl⟩
   rw[<-hb]at HS HQF HNV;clear hb;go_wp2
   go_loopg [9] (p%4) (fun g i wr=>∃k:Nat,g=p%4-k/\k<=p%4/\i=.int .u8 k/\BothIn w wr B4 B6 B7 B8 n (1:Int) p b k)
   case atStart=>exact⟨0,rfl,Nat.zero_le _,rfl,HS.out⟩
   case round=>
    clear HS;obtain⟨k,hg,hk,rfl,hin⟩:=hrel;have HI:=LH hin;have hp4:=Nat.mod_lt p (show 0<4 by decide);obtain⟨x7,am7,m7,al7,l7,h7,v7⟩:=hin.q7;obtain⟨x4,am4,m4,al4,l4,h4',v4⟩:=hin.q4;obtain⟨e1,d1,o1,g1,e2,d2,o2,g2,h8,v8⟩:=hin.q8;obtain⟨s70,s71,s72,-,-,-⟩:=row3 h7;obtain⟨-,-,p0,-,-,-⟩:=row3 hin.box;have H4V:=LH v4;have H7V:=LH v7;have l4':=hin.l4;have l6':=hin.l6;have l7':=hin.l7;have l8':=hin.l8
    have hne:=hin.ne;have hz7:=hin.q7.lt;have hz8:=hin.q8.lt
    by_cases hlt:k<p%4
    .obtain⟨s40,s41,s42,-,-,-⟩:=row3 h4';have HQP:=LH (QF.pow HQF.out k);clear hin h7 h4' h8 v7 v4 v8
     go_wp2_with fail
     refine(qmul_c H7V.out H4V.out HQP.out HQF.out (by omega)).mono ?_;rintro e w1' ⟨u1,rfl,hu1,hb1⟩;obtain⟨x9,am9,m9,al9,l9,rfl⟩:=QV.cells hu1;have HB1:=LH hb1;have HU1:=LH hu1;have HC:=LH (HI.out.call hb1);have hc7:=HC.out.q7;have hc8:=HC.out.q8;have hc6:=HC.out.q6;obtain⟨_,_,_,_,_,hc7h,_⟩:=hc7;obtain⟨c70,c71,c72,cf0,cf1,cf2⟩:=row3 hc7h;obtain⟨e1',d1',o1',g1',e2',d2',o2',g2',hc8h,hc8v⟩:=hc8
     obtain⟨c80,c81,c82,c83,-,-,-,-⟩:=row4 hc8h;obtain⟨e3',d3',o3',g3',e4',d4',o4',g4',hc6h,hc6v⟩:=hc6;obtain⟨c60,c61,c62,c63,-,-,-,-⟩:=row4 hc6h;have H8V:=LH hc8v;have H6V:=LH hc6v;have hn76:B7≠B6:=by omega
     clear hu1 hb1 hc7h hc8h hc6h hc8v hc6v s70 s71 s72 s40 s41 s42 p0
     go_wp2_with fail
     refine name_call ?_;intro w2' hw2;obtain⟨t1,t2,t3,t4,t5,t6⟩:=HC.out.stepQ HU1.out hw2;have HW2:=LH hw2;have HT2:=LH t2;clear hw2;refine(rmul_c (H8V.out.pres t5) (H6V.out.pres t5) HQP.out HQF.out (by omega)).mono ?_;rintro e w3' ⟨u3,rfl,hu3,hb3⟩;obtain⟨f1,i1,j1,q1,f2,i2,j2,q2,rfl⟩:=RQ.cells hu3;obtain⟨_,_,_,_,_,_,_,_,hc8h,_⟩:=HT2.out.bel hb3;obtain⟨c80,c81,c82,c83,cg0,cg1,cg2,cg3⟩:=row4 hc8h
     have HST:=LH (HI.out.step HB1.out HU1.out HW2.out hb3 hu3);clear t1 t2 t3 t4 t5 t6 hu3 hb3 hc8h;go_wp2
     go_roundg (p%4-(k+1))
     case rel=>exact⟨k+1,rfl,by omega,by go_num,HST.out⟩
     case measure=>omega
    .obtain rfl:k=p%4:=by omega
     obtain⟨s80,s81,s82,s83,-,-,-,-⟩:=row4 h8;obtain⟨r10,r11,r12,rf10,rf11,rf12⟩:=row3 hin.r1;obtain⟨r20,r21,r22,r23,rf20,rf21,rf22,rf23⟩:=row4 hin.r2;have H8V:=LH v8;have hn1:B7≠w.heap.size+1:=by omega
     have hn2:B8≠w.heap.size+1:=by omega
     have hn3:B7≠w.heap.size+1+1:=by omega
     have hn4:B8≠w.heap.size+1+1:=by omega
     have HR1:=LH hin.r1;have HR2:=LH hin.r2;have HBE:=LH hin.bel;clear hin h7 h4' h8 v7 v4 v8
     go_wp2_with fail
     go_region
     all_goals
      go_wp2
      have HP1:Hid ((((wr.setCell ⟨w.heap.size+1,0,none⟩ (.bool x7)).setCell ⟨w.heap.size+1,1,none⟩ (.slice am7 m7 m7)).setCell ⟨w.heap.size+1,2,none⟩ (.slice al7 l7 l7)).heap[w.heap.size+1+1]?=some (.cells #[.bool false,.slice none 0 0,.bool false,.slice none 0 0] 49)):=by
       show _=_
       rw[Below.heap_setCell _ _ _ _ (by simp),Below.heap_setCell _ _ _ _ (by simp),Below.heap_setCell _ _ _ _ (by simp)];exact HR2.out
      have HS1:Hid ((((wr.setCell ⟨w.heap.size+1,0,none⟩ (.bool x7)).setCell ⟨w.heap.size+1,1,none⟩ (.slice am7 m7 m7)).setCell ⟨w.heap.size+1,2,none⟩ (.slice al7 l7 l7)).heap[w.heap.size+1]?=some (.cells #[.bool x7,.slice am7 m7 m7,.slice al7 l7 l7] 39)):=set3_heap HR1.out;refine name_post ?_;intro W9 hW9;have P32:Pres 232 wr W9:=by rw[hW9];exact((Pres.set3 ⟨_,_,HR1.out⟩ (by decide) _ _ _ _ _ _).trans (Pres.set4 ⟨_,_,HP1.out⟩ (by decide) _ _ _ _)).trans (Pres.drew _)
      have PI:Pres 3 wr W9:=by rw[hW9];exact((Pres.set3 ⟨_,_,HR1.out⟩ (by decide) _ _ _ _ _ _).trans (Pres.set4 ⟨_,_,HP1.out⟩ (by decide) _ _ _ _)).trans (Pres.drew _)
      have G1:W9.heap[w.heap.size+1]?=some (.cells #[.bool x7,.slice am7 m7 m7,.slice al7 l7 l7] 39):=by
       rw[hW9,heap_drew,Below.heap_setCell _ _ _ _ (by simp),Below.heap_setCell _ _ _ _ (by simp),Below.heap_setCell _ _ _ _ (by simp),Below.heap_setCell _ _ _ _ (by simp)];exact HS1.out
      have G2:W9.heap[w.heap.size+1+1]?=some (.cells #[.bool e1,.slice d1 o1 g1,.bool e2,.slice d2 o2 g2] 49):=by
       rw[hW9,heap_drew];exact set4_heap HP1.out
      have GB:Bel w.heap.size w W9:=by
       rw[hW9];exact(((((((HBE.out.setCell Sd1 _).setCell Sd1 _).setCell Sd1 _).setCell Sd1 _).setCell Sd1 _).setCell Sd1 _).setCell Sd1 _).drew
      exact post_box2 rfl rfl rfl rfl (loadQ39 G1) (loadQ G2) ⟨_,_,rfl,by rw[HNV.out];exact H7V.out.pres P32,by rw[HNV.out];exact H8V.out.pres PI,GB⟩
  .refine name_exit ?_;intro W2 hW2;have HP32:Hid (Pres 232 W5 W2):=by rw[hW2];exact((Pres.alloc _ _).trans (Pres.alloc _ _)).trans (Pres.drew _)
   have HPI:Hid (Pres 3 W5 W2):=by rw[hW2];exact((Pres.alloc _ _).trans (Pres.alloc _ _)).trans (Pres.drew _)
   have HBN9:Hid (Bel W5.heap.size W5 W2):=by rw[hW2];exact(Bel.new.alloc (by simp) _).drew
   have HB05:Hid (Bel W0.heap.size W0 W2):=(HBN2.out.next HBN2.out.size HBN5.out).next (by have:=HBN2.out.size;omega) HBN9.out;have HVQ:Hid (QV W2 (.agg #[.bool y0,.slice y1 y2 y2,.slice y3 y4 y4]) ((n:Rat)/((1:Int):Rat))):=HQ4V.out.pres (HBN5.out.pb.trans HP32.out);have HVR:Hid (RQ W2 (.agg #[.bool b1,.slice a1 n1 c1,.bool b2,.slice a2 n2 c2]) ((n:Rat)/((1:Int):Rat))):=HV2.out.pres (HBN5.out.pb.trans HPI.out)
   have HS:Hid (BothIn w W2 B4 B6 (W5.heap.size+1) (W5.heap.size) n (1:Int) p ((n:Rat)/((1:Int):Rat)) 0):=by
    refine⟨(HB05.out.block _ (by omega)).trans HBX0.out,(HB05.out.block _ (by omega)).trans HR10.out,(HB05.out.block _ (by omega)).trans HR20.out,
     ⟨_,_,_,_,_,(HBN9.out.block _ hz6).trans HQ4H5.out,HVQ.out⟩,⟨_,_,_,_,_,_,_,_,(HBN9.out.block _ hz5).trans HQ6H.out,HVR.out⟩,
     ⟨_,_,_,_,_,by rw[hW2];exact(heap_drew _ _).trans (heap_new _ _ (by simp)),by rw[Nat.zero_add,Rat.pow_succ,Rat.pow_zero,Rat.one_mul];exact HVQ.out⟩,
     ⟨_,_,_,_,_,_,_,_,by rw[hW2];exact(heap_drew _ _).trans ((heap_old _ _ (by simp)).trans (heap_new _ _ rfl)),by rw[Nat.zero_add,Rat.pow_succ,Rat.pow_zero,Rat.one_mul];exact HVR.out⟩,
     by omega,hzb,by omega,by omega,by omega,HBW.out.next HBW.out.size HB05.out⟩
   obtain⟨B8,hB7⟩:∃B,B=W5.heap.size:=⟨_,rfl⟩
   rw[<-hB7]at HS|-;obtain⟨B7,hB8⟩:∃B,B=B8+1:=⟨_,rfl⟩
   rw[<-hB8]at HS|-;clear hW2 hB7 hB8 HP32 HPI HBN9 HB05 HVQ HVR i0 i1 i2 j0 j1 j2 j3 HQ4H5 HQ6H HBN5 hz5 hz6 hz7 hz8 hn1 hn2 hn3 hn4 HQ4H HQ4V HV2 HQ4b HBN2 hz3 HQ4 hz1 hz2 hz9 HBN1 HB1 HV1 hza hz0 HBW HBX0 HR10 HR20 hzb;obtain⟨b,hb⟩:∃b,b=((n:Rat)/((1:Int):Rat)):=⟨_,rfl⟩
   rw[<-hb]at HS HQF HNV;clear hb;go_wp2
   go_loopg [9] (p%4) (fun g i wr=>∃k:Nat,g=p%4-k/\k<=p%4/\i=.int .u8 k/\BothIn w wr B4 B6 B7 B8 n (1:Int) p b k)
   case atStart=>exact⟨0,rfl,Nat.zero_le _,rfl,HS.out⟩
   case round=>
    clear HS;obtain⟨k,hg,hk,rfl,hin⟩:=hrel;have HI:=LH hin;have hp4:=Nat.mod_lt p (show 0<4 by decide);obtain⟨x7,am7,m7,al7,l7,h7,v7⟩:=hin.q7;obtain⟨x4,am4,m4,al4,l4,h4',v4⟩:=hin.q4;obtain⟨e1,d1,o1,g1,e2,d2,o2,g2,h8,v8⟩:=hin.q8;obtain⟨s70,s71,s72,-,-,-⟩:=row3 h7;obtain⟨-,-,p0,-,-,-⟩:=row3 hin.box;have H4V:=LH v4;have H7V:=LH v7;have l4':=hin.l4;have l6':=hin.l6;have l7':=hin.l7;have l8':=hin.l8
    have hne:=hin.ne;have hz7:=hin.q7.lt;have hz8:=hin.q8.lt
    by_cases hlt:k<p%4
    .obtain⟨s40,s41,s42,-,-,-⟩:=row3 h4';have HQP:=LH (QF.pow HQF.out k);clear hin h7 h4' h8 v7 v4 v8
     go_wp2_with fail
     refine(qmul_c H7V.out H4V.out HQP.out HQF.out (by omega)).mono ?_;rintro e w1' ⟨u1,rfl,hu1,hb1⟩;obtain⟨x9,am9,m9,al9,l9,rfl⟩:=QV.cells hu1;have HB1:=LH hb1;have HU1:=LH hu1;have HC:=LH (HI.out.call hb1);have hc7:=HC.out.q7;have hc8:=HC.out.q8;have hc6:=HC.out.q6;obtain⟨_,_,_,_,_,hc7h,_⟩:=hc7;obtain⟨c70,c71,c72,cf0,cf1,cf2⟩:=row3 hc7h;obtain⟨e1',d1',o1',g1',e2',d2',o2',g2',hc8h,hc8v⟩:=hc8
     obtain⟨c80,c81,c82,c83,-,-,-,-⟩:=row4 hc8h;obtain⟨e3',d3',o3',g3',e4',d4',o4',g4',hc6h,hc6v⟩:=hc6;obtain⟨c60,c61,c62,c63,-,-,-,-⟩:=row4 hc6h;have H8V:=LH hc8v;have H6V:=LH hc6v;have hn76:B7≠B6:=by omega
     clear hu1 hb1 hc7h hc8h hc6h hc8v hc6v s70 s71 s72 s40 s41 s42 p0
     go_wp2_with fail
     refine name_call ?_;intro w2' hw2;obtain⟨t1,t2,t3,t4,t5,t6⟩:=HC.out.stepQ HU1.out hw2;have HW2:=LH hw2;have HT2:=LH t2;clear hw2;refine(rmul_c (H8V.out.pres t5) (H6V.out.pres t5) HQP.out HQF.out (by omega)).mono ?_;rintro e w3' ⟨u3,rfl,hu3,hb3⟩;obtain⟨f1,i1,j1,q1,f2,i2,j2,q2,rfl⟩:=RQ.cells hu3;obtain⟨_,_,_,_,_,_,_,_,hc8h,_⟩:=HT2.out.bel hb3;obtain⟨c80,c81,c82,c83,cg0,cg1,cg2,cg3⟩:=row4 hc8h
     have HST:=LH (HI.out.step HB1.out HU1.out HW2.out hb3 hu3);clear t1 t2 t3 t4 t5 t6 hu3 hb3 hc8h;go_wp2
     go_roundg (p%4-(k+1))
     case rel=>exact⟨k+1,rfl,by omega,by go_num,HST.out⟩
     case measure=>omega
    .obtain rfl:k=p%4:=by omega
     obtain⟨s80,s81,s82,s83,-,-,-,-⟩:=row4 h8;obtain⟨r10,r11,r12,rf10,rf11,rf12⟩:=row3 hin.r1;obtain⟨r20,r21,r22,r23,rf20,rf21,rf22,rf23⟩:=row4 hin.r2;have H8V:=LH v8;have hn1:B7≠w.heap.size+1:=by omega
     have hn2:B8≠w.heap.size+1:=by omega
     have hn3:B7≠w.heap.size+1+1:=by omega
     have hn4:B8≠w.heap.size+1+1:=by omega
     have HR1:=LH hin.r1;have HR2:=LH hin.r2;have HBE:=LH hin.bel;clear hin h7 h4' h8 v7 v4 v8
     go_wp2_with fail
     go_region
     all_goals
      go_wp2
      have HP1:Hid ((((wr.setCell ⟨w.heap.size+1,0,none⟩ (.bool x7)).setCell ⟨w.heap.size+1,1,none⟩ (.slice am7 m7 m7)).setCell ⟨w.heap.size+1,2,none⟩ (.slice al7 l7 l7)).heap[w.heap.size+1+1]?=some (.cells #[.bool false,.slice none 0 0,.bool false,.slice none 0 0] 49)):=by
       show _=_
       rw[Below.heap_setCell _ _ _ _ (by simp),Below.heap_setCell _ _ _ _ (by simp),Below.heap_setCell _ _ _ _ (by simp)];exact HR2.out
      have HS1:Hid ((((wr.setCell ⟨w.heap.size+1,0,none⟩ (.bool x7)).setCell ⟨w.heap.size+1,1,none⟩ (.slice am7 m7 m7)).setCell ⟨w.heap.size+1,2,none⟩ (.slice al7 l7 l7)).heap[w.heap.size+1]?=some (.cells #[.bool x7,.slice am7 m7 m7,.slice al7 l7 l7] 39)):=set3_heap HR1.out;refine name_post ?_;intro W9 hW9;have P32:Pres 232 wr W9:=by rw[hW9];exact((Pres.set3 ⟨_,_,HR1.out⟩ (by decide) _ _ _ _ _ _).trans (Pres.set4 ⟨_,_,HP1.out⟩ (by decide) _ _ _ _)).trans (Pres.drew _)
      have PI:Pres 3 wr W9:=by rw[hW9];exact((Pres.set3 ⟨_,_,HR1.out⟩ (by decide) _ _ _ _ _ _).trans (Pres.set4 ⟨_,_,HP1.out⟩ (by decide) _ _ _ _)).trans (Pres.drew _)
      have G1:W9.heap[w.heap.size+1]?=some (.cells #[.bool x7,.slice am7 m7 m7,.slice al7 l7 l7] 39):=by
       rw[hW9,heap_drew,Below.heap_setCell _ _ _ _ (by simp),Below.heap_setCell _ _ _ _ (by simp),Below.heap_setCell _ _ _ _ (by simp),Below.heap_setCell _ _ _ _ (by simp)];exact HS1.out
      have G2:W9.heap[w.heap.size+1+1]?=some (.cells #[.bool e1,.slice d1 o1 g1,.bool e2,.slice d2 o2 g2] 49):=by
       rw[hW9,heap_drew];exact set4_heap HP1.out
      have GB:Bel w.heap.size w W9:=by
       rw[hW9];exact(((((((HBE.out.setCell Sd1 _).setCell Sd1 _).setCell Sd1 _).setCell Sd1 _).setCell Sd1 _).setCell Sd1 _).setCell Sd1 _).drew
      exact post_box2 rfl rfl rfl rfl (loadQ39 G1) (loadQ G2) ⟨_,_,rfl,by rw[HNV.out];exact H7V.out.pres P32,by rw[HNV.out];exact H8V.out.pres PI,GB⟩
 .obtain rfl:d'=d:=by rw[hd',if_neg hz]
  have hzb0:(d'==0)=false:=by simpa using hz
  clear hz hd'
  go_enter Tryz.func20,Tryz.ntmps20
  go_wp2_with fail
  refine name_call ?_;intro W0 hW0;have HBX0:=LH (at_world hW0 (b:=w.heap.size) ((heap_old _ _ Sd1).trans ((heap_old _ _ Sd1).trans (heap_new _ _ Sd1))));have HR10:=LH (at_world hW0 (b:=w.heap.size+1) ((heap_old _ _ Sd1).trans (heap_new _ _ Sd1)));have HR20:=LH (at_world hW0 (b:=w.heap.size+1+1) (heap_new _ _ Sd1));have hz0:w.heap.size+1+1<W0.heap.size:=by rw[hW0];simp
  have HBW:Hid (Bel w.heap.size w W0):=by rw[hW0];exact(Bel.new.alloc Sd1 _).alloc Sd1 _
  clear hW0;refine(Of_c h1 h2 hd1 hd2 HD0.out).mono ?_;rintro e w1 ⟨v1,rfl,hv1,hb1⟩;obtain⟨x,am,m,al,l,rfl⟩:=QV.cells hv1;have HV1:=LH hv1;have hz1:=hb1.size;have hza:w.heap.size<w1.heap.size:=by omega
  obtain⟨k0,k1,k2,-,-,-⟩:=row3 ((hb1.block w.heap.size (by omega)).trans HBX0.out);have HB1:=LH hb1;clear hv1 hb1
  go_wp2_with fail
  refine name_call ?_;intro W1 hW1;have HQ4:Hid (QB W1 w1.heap.size ((n:Rat)/(d':Rat))):=⟨_,_,_,_,_,at_world hW1 (heap_new _ _ rfl),HV1.out.pres (by rw[hW1];exact Pres.alloc _ _)⟩
  have HBN1:Hid (Bel W0.heap.size W0 W1):=by rw[hW1];exact HB1.out.alloc (by omega) _
  have hz2:w1.heap.size+1<=W1.heap.size:=by rw[hW1];simp
  have hz9:W0.heap.size<=W1.heap.size:=by omega
  obtain⟨B4,hB4⟩:∃B,B=w1.heap.size:=⟨_,rfl⟩
  rw[<-hB4]at HQ4 hz1 hz2|-;clear hW1 k0 k1 k2 hB4;refine(rof_c h1 h2 hd1 hd2 HD0.out).mono ?_;rintro e w2 ⟨v2,rfl,hv2,hb2⟩;obtain⟨b1,a1,n1,c1,b2,a2,n2,c2,rfl⟩:=RQ.cells hv2;have HV2:=LH hv2;have hz3:=hb2.size;have HQ4b:=LH (HQ4.out.bel hb2);have HBN2:Hid (Bel W0.heap.size W0 w2):=HBN1.out.next hz9 hb2;clear hv2 hb2;obtain⟨y0,y1,y2,y3,y4,hq4h,hq4v⟩:=HQ4b.out;obtain⟨k0,k1,k2,-,-,-⟩:=row3 hq4h
  have HQ4H:=LH hq4h;have HQ4V:=LH hq4v;have hzb:B4<w2.heap.size:=by omega
  clear hq4h hq4v
  go_wp2_with fail
  refine name_world ?_;intro W5 hW5;obtain⟨B6,hB6⟩:∃B,B=w2.heap.size:=⟨_,rfl⟩
  have hq4h5:=at_world hW5 ((heap_old _ _ hzb).trans HQ4H.out);have HQ6H:=LH (at_world hW5 (b:=w2.heap.size) (heap_new _ _ rfl));have HBN5:Hid (Bel w2.heap.size w2 W5):=by rw[hW5];exact(Bel.refl _ _).alloc NL _
  have hz5:w2.heap.size<W5.heap.size:=by rw[hW5];simp
  rw[<-hB6]at HQ6H hz5 hzb|-;obtain⟨i0,i1,i2,-,-,-⟩:=row3 hq4h5;obtain⟨j0,j1,j2,j3,-,-,-,-⟩:=row4 HQ6H.out;have HQ4H5:=LH hq4h5;have hz6:B4<W5.heap.size:=by omega
  have hz7:B4<W5.heap.size+1:=by omega
  have hz8:B6<W5.heap.size+1:=by omega
  have hn1:B4≠W5.heap.size:=by omega
  have hn2:B4≠W5.heap.size+1:=by omega
  have hn3:B6≠W5.heap.size:=by omega
  have hn4:B6≠W5.heap.size+1:=by omega
  clear hW5 k0 k1 k2 hq4h5 hB6
  go_region
  .refine name_exit ?_;intro W2 hW2;have HP32:Hid (Pres 232 W5 W2):=by rw[hW2];exact((Pres.alloc _ _).trans (Pres.alloc _ _)).trans (Pres.drew _)
   have HPI:Hid (Pres 3 W5 W2):=by rw[hW2];exact((Pres.alloc _ _).trans (Pres.alloc _ _)).trans (Pres.drew _)
   have HBN9:Hid (Bel W5.heap.size W5 W2):=by rw[hW2];exact(Bel.new.alloc (by simp) _).drew
   have HB05:Hid (Bel W0.heap.size W0 W2):=(HBN2.out.next HBN2.out.size HBN5.out).next (by have:=HBN2.out.size;omega) HBN9.out;have HVQ:Hid (QV W2 (.agg #[.bool y0,.slice y1 y2 y2,.slice y3 y4 y4]) ((n:Rat)/(d':Rat))):=HQ4V.out.pres (HBN5.out.pb.trans HP32.out);have HVR:Hid (RQ W2 (.agg #[.bool b1,.slice a1 n1 c1,.bool b2,.slice a2 n2 c2]) ((n:Rat)/(d':Rat))):=HV2.out.pres (HBN5.out.pb.trans HPI.out)
   have HS:Hid (BothIn w W2 B4 B6 (W5.heap.size) (W5.heap.size+1) n d' p ((n:Rat)/(d':Rat)) 0):=by
    refine⟨(HB05.out.block _ (by omega)).trans HBX0.out,(HB05.out.block _ (by omega)).trans HR10.out,(HB05.out.block _ (by omega)).trans HR20.out,
     ⟨_,_,_,_,_,(HBN9.out.block _ hz6).trans HQ4H5.out,HVQ.out⟩,⟨_,_,_,_,_,_,_,_,(HBN9.out.block _ hz5).trans HQ6H.out,HVR.out⟩,
     ⟨_,_,_,_,_,by rw[hW2];exact(heap_drew _ _).trans ((heap_old _ _ (by simp)).trans (heap_new _ _ rfl)),by rw[Nat.zero_add,Rat.pow_succ,Rat.pow_zero,Rat.one_mul];exact HVQ.out⟩,
     ⟨_,_,_,_,_,_,_,_,by rw[hW2];exact(heap_drew _ _).trans (heap_new _ _ (by simp)),by rw[Nat.zero_add,Rat.pow_succ,Rat.pow_zero,Rat.one_mul];exact HVR.out⟩,
     by omega,hzb,by omega,by omega,by omega,HBW.out.next HBW.out.size HB05.out⟩
   obtain⟨B7,hB7⟩:∃B,B=W5.heap.size:=⟨_,rfl⟩
   rw[<-hB7]at HS|-;obtain⟨B8,hB8⟩:∃B,B=B7+1:=⟨_,rfl⟩
   rw[<-hB8]at HS|-;clear hW2 hB7 hB8 HP32 HPI HBN9 HB05 HVQ HVR i0 i1 i2 j0 j1 j2 j3 HQ4H5 HQ6H HBN5 hz5 hz6 hz7 hz8 hn1 hn2 hn3 hn4 HQ4H HQ4V HV2 HQ4b HBN2 hz3 HQ4 hz1 hz2 hz9 HBN1 HB1 HV1 hza hz0 HBW HBX0 HR10 HR20 hzb;obtain⟨b,hb⟩:∃b,b=((n:Rat)/(d':Rat)):=⟨_,rfl⟩
   rw[<-hb]at HS HQF HNV;clear hb;go_wp2
   go_loopg [9] (p%4) (fun g i wr=>∃k:Nat,g=p%4-k/\k<=p%4/\i=.int .u8 k/\BothIn w wr B4 B6 B7 B8 n d' p b k)
   case atStart=>exact⟨0,rfl,Nat.zero_le _,rfl,HS.out⟩
   case round=>
    clear HS;obtain⟨k,hg,hk,rfl,hin⟩:=hrel;have HI:=LH hin;have hp4:=Nat.mod_lt p (show 0<4 by decide);obtain⟨x7,am7,m7,al7,l7,h7,v7⟩:=hin.q7;obtain⟨x4,am4,m4,al4,l4,h4',v4⟩:=hin.q4;obtain⟨e1,d1,o1,g1,e2,d2,o2,g2,h8,v8⟩:=hin.q8;obtain⟨s70,s71,s72,-,-,-⟩:=row3 h7;obtain⟨-,-,p0,-,-,-⟩:=row3 hin.box;have H4V:=LH v4;have H7V:=LH v7;have l4':=hin.l4;have l6':=hin.l6;have l7':=hin.l7;have l8':=hin.l8
    have hne:=hin.ne;have hz7:=hin.q7.lt;have hz8:=hin.q8.lt
    by_cases hlt:k<p%4
    .obtain⟨s40,s41,s42,-,-,-⟩:=row3 h4';have HQP:=LH (QF.pow HQF.out k);clear hin h7 h4' h8 v7 v4 v8
     go_wp2_with fail
     refine(qmul_c H7V.out H4V.out HQP.out HQF.out (by omega)).mono ?_;rintro e w1' ⟨u1,rfl,hu1,hb1⟩;obtain⟨x9,am9,m9,al9,l9,rfl⟩:=QV.cells hu1;have HB1:=LH hb1;have HU1:=LH hu1;have HC:=LH (HI.out.call hb1);have hc7:=HC.out.q7;have hc8:=HC.out.q8;have hc6:=HC.out.q6;obtain⟨_,_,_,_,_,hc7h,_⟩:=hc7;obtain⟨c70,c71,c72,cf0,cf1,cf2⟩:=row3 hc7h;obtain⟨e1',d1',o1',g1',e2',d2',o2',g2',hc8h,hc8v⟩:=hc8
     obtain⟨c80,c81,c82,c83,-,-,-,-⟩:=row4 hc8h;obtain⟨e3',d3',o3',g3',e4',d4',o4',g4',hc6h,hc6v⟩:=hc6;obtain⟨c60,c61,c62,c63,-,-,-,-⟩:=row4 hc6h;have H8V:=LH hc8v;have H6V:=LH hc6v;have hn76:B7≠B6:=by omega
     clear hu1 hb1 hc7h hc8h hc6h hc8v hc6v s70 s71 s72 s40 s41 s42 p0
     go_wp2_with fail
     refine name_call ?_;intro w2' hw2;obtain⟨t1,t2,t3,t4,t5,t6⟩:=HC.out.stepQ HU1.out hw2;have HW2:=LH hw2;have HT2:=LH t2;clear hw2;refine(rmul_c (H8V.out.pres t5) (H6V.out.pres t5) HQP.out HQF.out (by omega)).mono ?_;rintro e w3' ⟨u3,rfl,hu3,hb3⟩;obtain⟨f1,i1,j1,q1,f2,i2,j2,q2,rfl⟩:=RQ.cells hu3;obtain⟨_,_,_,_,_,_,_,_,hc8h,_⟩:=HT2.out.bel hb3;obtain⟨c80,c81,c82,c83,cg0,cg1,cg2,cg3⟩:=row4 hc8h
     have HST:=LH (HI.out.step HB1.out HU1.out HW2.out hb3 hu3);clear t1 t2 t3 t4 t5 t6 hu3 hb3 hc8h;go_wp2
     go_roundg (p%4-(k+1))
     case rel=>exact⟨k+1,rfl,by omega,by go_num,HST.out⟩
     case measure=>omega
    .obtain rfl:k=p%4:=by omega
     obtain⟨s80,s81,s82,s83,-,-,-,-⟩:=row4 h8;obtain⟨r10,r11,r12,rf10,rf11,rf12⟩:=row3 hin.r1;obtain⟨r20,r21,r22,r23,rf20,rf21,rf22,rf23⟩:=row4 hin.r2;have H8V:=LH v8;have hn1:B7≠w.heap.size+1:=by omega
     have hn2:B8≠w.heap.size+1:=by omega
     have hn3:B7≠w.heap.size+1+1:=by omega
     have hn4:B8≠w.heap.size+1+1:=by omega
     have HR1:=LH hin.r1;have HR2:=LH hin.r2;have HBE:=LH hin.bel;clear hin h7 h4' h8 v7 v4 v8
     go_wp2_with fail
     go_region
     all_goals
      go_wp2
      have HP1:Hid ((((wr.setCell ⟨w.heap.size+1,0,none⟩ (.bool x7)).setCell ⟨w.heap.size+1,1,none⟩ (.slice am7 m7 m7)).setCell ⟨w.heap.size+1,2,none⟩ (.slice al7 l7 l7)).heap[w.heap.size+1+1]?=some (.cells #[.bool false,.slice none 0 0,.bool false,.slice none 0 0] 49)):=by
       show _=_
       rw[Below.heap_setCell _ _ _ _ (by simp),Below.heap_setCell _ _ _ _ (by simp),Below.heap_setCell _ _ _ _ (by simp)];exact HR2.out
      have HS1:Hid ((((wr.setCell ⟨w.heap.size+1,0,none⟩ (.bool x7)).setCell ⟨w.heap.size+1,1,none⟩ (.slice am7 m7 m7)).setCell ⟨w.heap.size+1,2,none⟩ (.slice al7 l7 l7)).heap[w.heap.size+1]?=some (.cells #[.bool x7,.slice am7 m7 m7,.slice al7 l7 l7] 39)):=set3_heap HR1.out;refine name_post ?_;intro W9 hW9;have P32:Pres 232 wr W9:=by rw[hW9];exact((Pres.set3 ⟨_,_,HR1.out⟩ (by decide) _ _ _ _ _ _).trans (Pres.set4 ⟨_,_,HP1.out⟩ (by decide) _ _ _ _)).trans (Pres.drew _)
      have PI:Pres 3 wr W9:=by rw[hW9];exact((Pres.set3 ⟨_,_,HR1.out⟩ (by decide) _ _ _ _ _ _).trans (Pres.set4 ⟨_,_,HP1.out⟩ (by decide) _ _ _ _)).trans (Pres.drew _)
      have G1:W9.heap[w.heap.size+1]?=some (.cells #[.bool x7,.slice am7 m7 m7,.slice al7 l7 l7] 39):=by
       rw[hW9,heap_drew,Below.heap_setCell _ _ _ _ (by simp),Below.heap_setCell _ _ _ _ (by simp),Below.heap_setCell _ _ _ _ (by simp),Below.heap_setCell _ _ _ _ (by simp)];exact HS1.out
      have G2:W9.heap[w.heap.size+1+1]?=some (.cells #[.bool e1,.slice d1 o1 g1,.bool e2,.slice d2 o2 g2] 49):=by
       rw[hW9,heap_drew];exact set4_heap HP1.out
      have GB:Bel w.heap.size w W9:=by
       rw[hW9];exact(((((((HBE.out.setCell Sd1 _).setCell Sd1 _).setCell Sd1 _).setCell Sd1 _).setCell Sd1 _).setCell Sd1 _).setCell Sd1 _).drew
      exact post_box2 rfl rfl rfl rfl (loadQ39 G1) (loadQ G2) ⟨_,_,rfl,by rw[HNV.out];exact H7V.out.pres P32,by rw[HNV.out];exact H8V.out.pres PI,GB⟩
  .refine name_exit ?_;intro W2 hW2;have HP32:Hid (Pres 232 W5 W2):=by rw[hW2];exact((Pres.alloc _ _).trans (Pres.alloc _ _)).trans (Pres.drew _)
   have HPI:Hid (Pres 3 W5 W2):=by rw[hW2];exact((Pres.alloc _ _).trans (Pres.alloc _ _)).trans (Pres.drew _)
   have HBN9:Hid (Bel W5.heap.size W5 W2):=by rw[hW2];exact(Bel.new.alloc (by simp) _).drew
   have HB05:Hid (Bel W0.heap.size W0 W2):=(HBN2.out.next HBN2.out.size HBN5.out).next (by have:=HBN2.out.size;omega) HBN9.out;have HVQ:Hid (QV W2 (.agg #[.bool y0,.slice y1 y2 y2,.slice y3 y4 y4]) ((n:Rat)/(d':Rat))):=HQ4V.out.pres (HBN5.out.pb.trans HP32.out);have HVR:Hid (RQ W2 (.agg #[.bool b1,.slice a1 n1 c1,.bool b2,.slice a2 n2 c2]) ((n:Rat)/(d':Rat))):=HV2.out.pres (HBN5.out.pb.trans HPI.out)
   have HS:Hid (BothIn w W2 B4 B6 (W5.heap.size+1) (W5.heap.size) n d' p ((n:Rat)/(d':Rat)) 0):=by
    refine⟨(HB05.out.block _ (by omega)).trans HBX0.out,(HB05.out.block _ (by omega)).trans HR10.out,(HB05.out.block _ (by omega)).trans HR20.out,
     ⟨_,_,_,_,_,(HBN9.out.block _ hz6).trans HQ4H5.out,HVQ.out⟩,⟨_,_,_,_,_,_,_,_,(HBN9.out.block _ hz5).trans HQ6H.out,HVR.out⟩,
     ⟨_,_,_,_,_,by rw[hW2];exact(heap_drew _ _).trans (heap_new _ _ (by simp)),by rw[Nat.zero_add,Rat.pow_succ,Rat.pow_zero,Rat.one_mul];exact HVQ.out⟩,
     ⟨_,_,_,_,_,_,_,_,by rw[hW2];exact(heap_drew _ _).trans ((heap_old _ _ (by simp)).trans (heap_new _ _ rfl)),by rw[Nat.zero_add,Rat.pow_succ,Rat.pow_zero,Rat.one_mul];exact HVR.out⟩,
     by omega,hzb,by omega,by omega,by omega,HBW.out.next HBW.out.size HB05.out⟩
   obtain⟨B8,hB7⟩:∃B,B=W5.heap.size:=⟨_,rfl⟩
   rw[<-hB7]at HS|-;obtain⟨B7,hB8⟩:∃B,B=B8+1:=⟨_,rfl⟩
   rw[<-hB8]at HS|-;clear hW2 hB7 hB8 HP32 HPI HBN9 HB05 HVQ HVR i0 i1 i2 j0 j1 j2 j3 HQ4H5 HQ6H HBN5 hz5 hz6 hz7 hz8 hn1 hn2 hn3 hn4 HQ4H HQ4V HV2 HQ4b HBN2 hz3 HQ4 hz1 hz2 hz9 HBN1 HB1 HV1 hza hz0 HBW HBX0 HR10 HR20 hzb;obtain⟨b,hb⟩:∃b,b=((n:Rat)/(d':Rat)):=⟨_,rfl⟩
   rw[<-hb]at HS HQF HNV;clear hb;go_wp2
   go_loopg [9] (p%4) (fun g i wr=>∃k:Nat,g=p%4-k/\k<=p%4/\i=.int .u8 k/\BothIn w wr B4 B6 B7 B8 n d' p b k)
   case atStart=>exact⟨0,rfl,Nat.zero_le _,rfl,HS.out⟩
   case round=>
    clear HS;obtain⟨k,hg,hk,rfl,hin⟩:=hrel;have HI:=LH hin;have hp4:=Nat.mod_lt p (show 0<4 by decide);obtain⟨x7,am7,m7,al7,l7,h7,v7⟩:=hin.q7;obtain⟨x4,am4,m4,al4,l4,h4',v4⟩:=hin.q4;obtain⟨e1,d1,o1,g1,e2,d2,o2,g2,h8,v8⟩:=hin.q8;obtain⟨s70,s71,s72,-,-,-⟩:=row3 h7;obtain⟨-,-,p0,-,-,-⟩:=row3 hin.box;have H4V:=LH v4;have H7V:=LH v7;have l4':=hin.l4;have l6':=hin.l6;have l7':=hin.l7;have l8':=hin.l8
    have hne:=hin.ne;have hz7:=hin.q7.lt;have hz8:=hin.q8.lt
    by_cases hlt:k<p%4
    .obtain⟨s40,s41,s42,-,-,-⟩:=row3 h4';have HQP:=LH (QF.pow HQF.out k);clear hin h7 h4' h8 v7 v4 v8
     go_wp2_with fail
     refine(qmul_c H7V.out H4V.out HQP.out HQF.out (by omega)).mono ?_;rintro e w1' ⟨u1,rfl,hu1,hb1⟩;obtain⟨x9,am9,m9,al9,l9,rfl⟩:=QV.cells hu1;have HB1:=LH hb1;have HU1:=LH hu1;have HC:=LH (HI.out.call hb1);have hc7:=HC.out.q7;have hc8:=HC.out.q8;have hc6:=HC.out.q6;obtain⟨_,_,_,_,_,hc7h,_⟩:=hc7;obtain⟨c70,c71,c72,cf0,cf1,cf2⟩:=row3 hc7h;obtain⟨e1',d1',o1',g1',e2',d2',o2',g2',hc8h,hc8v⟩:=hc8
     obtain⟨c80,c81,c82,c83,-,-,-,-⟩:=row4 hc8h;obtain⟨e3',d3',o3',g3',e4',d4',o4',g4',hc6h,hc6v⟩:=hc6;obtain⟨c60,c61,c62,c63,-,-,-,-⟩:=row4 hc6h;have H8V:=LH hc8v;have H6V:=LH hc6v;have hn76:B7≠B6:=by omega
     clear hu1 hb1 hc7h hc8h hc6h hc8v hc6v s70 s71 s72 s40 s41 s42 p0
     go_wp2_with fail
     refine name_call ?_;intro w2' hw2;obtain⟨t1,t2,t3,t4,t5,t6⟩:=HC.out.stepQ HU1.out hw2;have HW2:=LH hw2;have HT2:=LH t2;clear hw2;refine(rmul_c (H8V.out.pres t5) (H6V.out.pres t5) HQP.out HQF.out (by omega)).mono ?_;rintro e w3' ⟨u3,rfl,hu3,hb3⟩;obtain⟨f1,i1,j1,q1,f2,i2,j2,q2,rfl⟩:=RQ.cells hu3;obtain⟨_,_,_,_,_,_,_,_,hc8h,_⟩:=HT2.out.bel hb3;obtain⟨c80,c81,c82,c83,cg0,cg1,cg2,cg3⟩:=row4 hc8h
     have HST:=LH (HI.out.step HB1.out HU1.out HW2.out hb3 hu3);clear t1 t2 t3 t4 t5 t6 hu3 hb3 hc8h;go_wp2
     go_roundg (p%4-(k+1))
     case rel=>exact⟨k+1,rfl,by omega,by go_num,HST.out⟩
     case measure=>omega
    .obtain rfl:k=p%4:=by omega
     obtain⟨s80,s81,s82,s83,-,-,-,-⟩:=row4 h8;obtain⟨r10,r11,r12,rf10,rf11,rf12⟩:=row3 hin.r1;obtain⟨r20,r21,r22,r23,rf20,rf21,rf22,rf23⟩:=row4 hin.r2;have H8V:=LH v8;have hn1:B7≠w.heap.size+1:=by omega
     have hn2:B8≠w.heap.size+1:=by omega
     have hn3:B7≠w.heap.size+1+1:=by omega
     have hn4:B8≠w.heap.size+1+1:=by omega
     have HR1:=LH hin.r1;have HR2:=LH hin.r2;have HBE:=LH hin.bel;clear hin h7 h4' h8 v7 v4 v8
     go_wp2_with fail
     go_region
     all_goals
      go_wp2
      have HP1:Hid ((((wr.setCell ⟨w.heap.size+1,0,none⟩ (.bool x7)).setCell ⟨w.heap.size+1,1,none⟩ (.slice am7 m7 m7)).setCell ⟨w.heap.size+1,2,none⟩ (.slice al7 l7 l7)).heap[w.heap.size+1+1]?=some (.cells #[.bool false,.slice none 0 0,.bool false,.slice none 0 0] 49)):=by
       show _=_
       rw[Below.heap_setCell _ _ _ _ (by simp),Below.heap_setCell _ _ _ _ (by simp),Below.heap_setCell _ _ _ _ (by simp)];exact HR2.out
      have HS1:Hid ((((wr.setCell ⟨w.heap.size+1,0,none⟩ (.bool x7)).setCell ⟨w.heap.size+1,1,none⟩ (.slice am7 m7 m7)).setCell ⟨w.heap.size+1,2,none⟩ (.slice al7 l7 l7)).heap[w.heap.size+1]?=some (.cells #[.bool x7,.slice am7 m7 m7,.slice al7 l7 l7] 39)):=set3_heap HR1.out;refine name_post ?_;intro W9 hW9;have P32:Pres 232 wr W9:=by rw[hW9];exact((Pres.set3 ⟨_,_,HR1.out⟩ (by decide) _ _ _ _ _ _).trans (Pres.set4 ⟨_,_,HP1.out⟩ (by decide) _ _ _ _)).trans (Pres.drew _)
      have PI:Pres 3 wr W9:=by rw[hW9];exact((Pres.set3 ⟨_,_,HR1.out⟩ (by decide) _ _ _ _ _ _).trans (Pres.set4 ⟨_,_,HP1.out⟩ (by decide) _ _ _ _)).trans (Pres.drew _)
      have G1:W9.heap[w.heap.size+1]?=some (.cells #[.bool x7,.slice am7 m7 m7,.slice al7 l7 l7] 39):=by
       rw[hW9,heap_drew,Below.heap_setCell _ _ _ _ (by simp),Below.heap_setCell _ _ _ _ (by simp),Below.heap_setCell _ _ _ _ (by simp),Below.heap_setCell _ _ _ _ (by simp)];exact HS1.out
      have G2:W9.heap[w.heap.size+1+1]?=some (.cells #[.bool e1,.slice d1 o1 g1,.bool e2,.slice d2 o2 g2] 49):=by
       rw[hW9,heap_drew];exact set4_heap HP1.out
      have GB:Bel w.heap.size w W9:=by
       rw[hW9];exact(((((((HBE.out.setCell Sd1 _).setCell Sd1 _).setCell Sd1 _).setCell Sd1 _).setCell Sd1 _).setCell Sd1 _).setCell Sd1 _).drew
      exact post_box2 rfl rfl rfl rfl (loadQ39 G1) (loadQ G2) ⟨_,_,rfl,by rw[HNV.out];exact H7V.out.pres P32,by rw[HNV.out];exact H8V.out.pres PI,GB⟩
theorem set68 {w W W9:World}{b b':Nat}{x0 x1 x2 x3 x4 x5 y0 y1 y2 y3 y4 y5 y6 y7 a0 a1 a2 a3 a4 a5 c0 c1 c2 c3 c4 c5 c6 c7:Value}{T T':TypeId}(h:W.heap[b]?=some (.cells #[x0,x1,x2,x3,x4,x5] T))(h':W.heap[b']?=some (.cells #[y0,y1,y2,y3,y4,y5,y6,y7] T'))(hne:b≠b')(hb:w.heap.size<=b)(hb':w.heap.size<=b')(hB:Bel w.heap.size w W)
 (hW:W9=((((((((((((((W.setCell ⟨b,0,none⟩ a0).setCell ⟨b,1,none⟩ a1).setCell ⟨b,2,none⟩ a2).setCell ⟨b,3,none⟩ a3).setCell ⟨b,4,none⟩ a4).setCell ⟨b,5,none⟩ a5).setCell ⟨b',0,none⟩ c0).setCell ⟨b',1,none⟩ c1).setCell ⟨b',2,none⟩ c2).setCell ⟨b',3,none⟩ c3).setCell ⟨b',4,none⟩ c4).setCell ⟨b',5,none⟩ c5).setCell ⟨b',6,none⟩ c6).setCell ⟨b',7,none⟩ c7).drew):
 W9.heap[b]?=some (.cells #[a0,a1,a2,a3,a4,a5] T)/\W9.heap[b']?=some (.cells #[c0,c1,c2,c3,c4,c5,c6,c7] T')/\(∀S:TypeId,S≠T->S≠T'->Pres S W W9)/\Bel w.heap.size w W9:=by
 have h1:((((((W.setCell ⟨b,0,none⟩ a0).setCell ⟨b,1,none⟩ a1).setCell ⟨b,2,none⟩ a2).setCell ⟨b,3,none⟩ a3).setCell ⟨b,4,none⟩ a4).setCell ⟨b,5,none⟩ a5).heap[b']?=some (.cells #[y0,y1,y2,y3,y4,y5,y6,y7] T'):=by
  rw[Below.heap_setCell _ _ _ _ (Ne.symm hne),Below.heap_setCell _ _ _ _ (Ne.symm hne),Below.heap_setCell _ _ _ _ (Ne.symm hne),Below.heap_setCell _ _ _ _ (Ne.symm hne),Below.heap_setCell _ _ _ _ (Ne.symm hne),Below.heap_setCell _ _ _ _ (Ne.symm hne)];exact h'
 subst hW;refine⟨?_,(heap_drew _ _).trans (set8_heap h1),fun S hS hS'=>((Pres.set6 ⟨_,_,h⟩ hS _ _ _ _ _ _).trans (Pres.set8 ⟨_,_,h1⟩ hS' _ _ _ _ _ _ _ _)).trans (Pres.drew _),?_⟩
 .rw[heap_drew,Below.heap_setCell _ _ _ _ hne,Below.heap_setCell _ _ _ _ hne,Below.heap_setCell _ _ _ _ hne,Below.heap_setCell _ _ _ _ hne,Below.heap_setCell _ _ _ _ hne,Below.heap_setCell _ _ _ _ hne,Below.heap_setCell _ _ _ _ hne,Below.heap_setCell _ _ _ _ hne];exact set6_heap h
 .exact((((((((((((((hB.setCell (p:=⟨b,0,none⟩) hb _).setCell (p:=⟨b,1,none⟩) hb _).setCell (p:=⟨b,2,none⟩) hb _).setCell (p:=⟨b,3,none⟩) hb _).setCell (p:=⟨b,4,none⟩) hb _).setCell (p:=⟨b,5,none⟩) hb _).setCell (p:=⟨b',0,none⟩) hb' _).setCell (p:=⟨b',1,none⟩) hb' _).setCell (p:=⟨b',2,none⟩) hb' _).setCell (p:=⟨b',3,none⟩) hb' _).setCell (p:=⟨b',4,none⟩) hb' _).setCell (p:=⟨b',5,none⟩) hb' _).setCell (p:=⟨b',6,none⟩) hb' _).setCell (p:=⟨b',7,none⟩) hb' _).drew
theorem txt_eq_self (a:Rat):((ratTxt a).toList==(ratTxt a).toList)=true:=by simp
theorem same_c {w:World}{va vb:Value}{a:Rat}{L:Nat}(ha:QV w va a)(hb:RQ w vb a)(hL:QF L a)(hs:L<=1000000000):
 Calls Tryz.prog 35 #[va,vb] w fun e w'=>e=.returned (.bool true)/\Bel w.heap.size w w':=by
 have HA:=LH ha;have HB:=LH hb;have HF:=LH hL;obtain⟨x,am,m,al,l,rfl⟩:=QV.cells ha;obtain⟨b1,a1,n1,c1,b2,a2,n2,c2,rfl⟩:=RQ.cells hb;clear ha hb hL
 go_enter Tryz.func35,Tryz.ntmps35
 go_wp2;refine name_world ?_;intro W0 hW0;obtain⟨a_0,a_1,a_2,-,-,-⟩:=row3 (at_world hW0 (b:=w.heap.size) ((heap_old _ _ Sd1).trans (heap_new _ _ Sd1)));obtain⟨b_0,b_1,b_2,b_3,-,-,-,-⟩:=row4 (at_world hW0 (b:=w.heap.size+1) (heap_new _ _ Sd1));have hsz:w.heap.size+1+1<=W0.heap.size:=by rw[hW0];simp
 have hst:SHs w W0 (w.heap.size+1+1) W0:=SHs.start (by omega) (by omega) (by rw[hW0];exact(Bel.new.alloc Sd1 _));clear hW0
 go_region_held3 (fun w'=>(∀(b o:Nat),b<w.heap.size+1+1->w'.cell? ⟨b,o,none⟩=W0.cell? ⟨b,o,none⟩)/\SHs w W0 (w.heap.size+1+1) w') (exact K2s)
  (first
   |(go_at_call 58;(try (rename _/\_=>hh;rcases hh with⟨hSc,hSb⟩));refine(Text_c (QV.pres HA.out B2s) HF.out hs).mono ?_;rintro e w9 ⟨rfl,hb1⟩;have hz1:=(hSb.call hb1).near.size)
   |(go_at_call 105;(try (rename _/\_=>hh;rcases hh with⟨hSc,hSb⟩));refine(rtext_c (RQ.pres HB.out B2s) HF.out hs).mono ?_;rintro e w9 ⟨rfl,hb2⟩;have hz2:=(hSb.call hb2).near.size))
 all_goals go_wp2
 all_goals((try (rename _/\_=>hh;rcases hh with⟨hSc,hSb⟩));go_ret;exact⟨by simp,hSb.base⟩)
theorem samePoint_c {w:World}{va vb:Value}{x z:Rat}{L:Nat}(ha:PV w va x z)(hb:RP w vb x z)(hx:QF L x)(hz:QF L z)(hs:L<=1000000000):
 Calls Tryz.prog 56 #[va,vb] w fun e w'=>e=.returned (.bool true)/\Bel w.heap.size w w':=by
 obtain⟨m1,l1,m2,l2,rfl,h1,h2⟩:=ha;obtain⟨b1,a1,n1,c1,b2,a2,n2,c2,b3,a3,n3,c3,b4,a4,n4,c4,rfl,h3,h4⟩:=RP.cells hb;have H1:=LH h1;have H2:=LH h2;have H3:=LH h3;have H4:=LH h4;have HX:=LH hx;have HZ:=LH hz;clear h1 h2 h3 h4 hx hz hb
 go_enter Tryz.func56,Tryz.ntmps56
 go_wp2_with fail
 refine(same_c (H1.out.pres ((Pres.alloc _ _).trans (Pres.alloc _ _))) (H3.out.pres ((Pres.alloc _ _).trans (Pres.alloc _ _))) HX.out hs).mono ?_;rintro e w1 ⟨rfl,hb1⟩;obtain⟨p0,p1,p2,p3,p4,p5,-,-,-,-,-,-⟩:=row6 ((hb1.block w.heap.size Sd1).trans ((heap_old _ _ Sd1).trans (heap_new _ _ Sd1)));obtain⟨q0,q1,q2,q3,q4,q5,q6,q7,-,-,-,-,-,-,-,-⟩:=row8 ((hb1.block (w.heap.size+1) Sd1).trans (heap_new _ _ Sd1))
 have HB1:Hid (Bel w.heap.size w w1):=(Bel.new.alloc Sd1 _).trans (hb1.mono Sd1);clear hb1
 go_wp2_with fail
 refine(same_c (H2.out.pres HB1.out.pb) (H4.out.pres HB1.out.pb) HZ.out hs).mono ?_;rintro e w2 ⟨rfl,hb2⟩;have HB2:Hid (Bel w.heap.size w w2):=HB1.out.next HB1.out.size hb2;clear hb2;go_wp2;go_ret;exact⟨rfl,HB2.out⟩
theorem bothPoints_c {w:World}{n d n' d':Int}{p p':Nat}(h1:-9223372036854775808<=n)(h2:n<9223372036854775808)(h3:-9223372036854775808<=d)(h4:d<9223372036854775808)(hp:p<256)
 (h1':-9223372036854775808<=n') (h2':n'<9223372036854775808) (h3':-9223372036854775808<=d') (h4':d'<9223372036854775808) (hp':p'<256):
 Calls Tryz.prog 50 #[.agg #[.int .i64 n,.int .i64 d,.int .u8 p,.int .i64 n',.int .i64 d',.int .u8 p']] w fun e w'=>∃v1 v2,e=.returned (.tuple #[v1,v2])/\PV w' v1 (numVal n d p) (numVal n' d' p')/\RP w' v2 (numVal n d p) (numVal n' d' p')/\Bel w.heap.size w w':=by
 go_enter Tryz.func50,Tryz.ntmps50
 go_wp2_with fail
 refine name_call ?_;intro W0 hW0;have HBX0:=LH (at_world hW0 (b:=w.heap.size) ((heap_old _ _ Sd1).trans ((heap_old _ _ Sd1).trans (heap_new _ _ Sd1))));have HR10:=LH (at_world hW0 (b:=w.heap.size+1) ((heap_old _ _ Sd1).trans (heap_new _ _ Sd1)));have HR20:=LH (at_world hW0 (b:=w.heap.size+1+1) (heap_new _ _ Sd1));have hz0:w.heap.size+1+1<W0.heap.size:=by rw[hW0];simp
 have HBW:Hid (Bel w.heap.size w W0):=by rw[hW0];exact(Bel.new.alloc Sd1 _).alloc Sd1 _
 clear hW0;refine(both_c h1 h2 h3 h4 hp).mono ?_;rintro e w1 ⟨v1,v2,rfl,hv1,hv2,hb1⟩;obtain⟨x,am,m,al,l,rfl⟩:=QV.cells hv1;obtain⟨b1,a1,n1,c1,b2,a2,n2,c2,rfl⟩:=RQ.cells hv2;have HV1:=LH hv1;have HV2:=LH hv2;have HB1:=LH hb1;have hz1:=hb1.size;have hza:w.heap.size<w1.heap.size:=by omega
 have hzb:w.heap.size<w1.heap.size+1:=by omega
 obtain⟨k0,k1,k2,k3,k4,k5,-,-,-,-,-,-⟩:=row6 ((hb1.block w.heap.size (by omega)).trans HBX0.out);clear hv1 hv2 hb1
 go_wp2_with fail
 refine name_call ?_;intro W1 hW1;obtain⟨C4,hC4⟩:∃B,B=w1.heap.size:=⟨_,rfl⟩
 have HQ4:Hid (QB W1 C4 (numVal n d p)):=⟨_,_,_,_,_,at_world hW1 ((heap_old _ _ (by simp[hC4])).trans (heap_new _ _ hC4)),HV1.out.pres (by rw[hW1];exact(Pres.alloc _ _).trans (Pres.alloc _ _))⟩
 have HR5:Hid (RB W1 (C4+1) (numVal n d p)):=⟨_,_,_,_,_,_,_,_,at_world hW1 (heap_new _ _ (by simp[hC4])),HV2.out.pres (by rw[hW1];exact(Pres.alloc _ _).trans (Pres.alloc _ _))⟩
 have HBN1:Hid (Bel W0.heap.size W0 W1):=by rw[hW1];exact(HB1.out.alloc (by omega) _).alloc (by simp;omega) _
 have hzc:w.heap.size+1+1<C4:=by omega
 rw[<-hC4];clear hW1 k0 k1 k2 k3 k4 k5 hza hzb hz1 hC4;refine(both_c h1' h2' h3' h4' hp').mono ?_;rintro e w2 ⟨v3,v4,rfl,hv3,hv4,hb2⟩;obtain⟨x',am',m',al',l',rfl⟩:=QV.cells hv3;obtain⟨b3,a3,n3,c3,b4,a4,n4,c4,rfl⟩:=RQ.cells hv4;have HV3:=LH hv3;have HV4:=LH hv4;have HQ4b:=LH (HQ4.out.bel hb2);have HR5b:=LH (HR5.out.bel hb2);have HBN2:Hid (Bel W0.heap.size W0 w2):=HBN1.out.next HBN1.out.size hb2
 have hzd:=HR5b.out.lt;clear hv3 hv4 hb2
 go_wp2_with fail
 refine name_world ?_;intro W2 hW2;obtain⟨C6,hC6⟩:∃B,B=w2.heap.size:=⟨_,rfl⟩
 have HB2:Hid (Bel w2.heap.size w2 W2):=by rw[hW2];exact Bel.new.alloc (by simp) _
 obtain⟨y1,am4,m4,al4,l4,h4h,h4v⟩:=HQ4b.out.bel HB2.out;obtain⟨f1,g1,i1,j1,f2,g2,i2,j2,h5h,h5v⟩:=HR5b.out.bel HB2.out;have h6h:=at_world hW2 ((heap_old _ _ (by simp[hC6])).trans (heap_new _ _ hC6));have h7h:=at_world hW2 (heap_new _ (C6+1) (by simp[hC6]));have H6V:Hid (QV W2 _ _):=HV3.out.pres HB2.out.pb;have H7V:Hid (RQ W2 _ _):=HV4.out.pres HB2.out.pb;have H4V:=LH h4v
 have H5V:=LH h5v;have HBF:Hid (Bel W0.heap.size W0 W2):=HBN2.out.next HBN2.out.size HB2.out;have HR1:=LH ((HBF.out.block _ (by omega)).trans HR10.out);have HR2:=LH ((HBF.out.block _ hz0).trans HR20.out);obtain⟨s40,s41,s42,-,-,-⟩:=row3 h4h;obtain⟨s50,s51,s52,s53,-,-,-,-⟩:=row4 h5h;obtain⟨s60,s61,s62,-,-,-⟩:=row3 h6h;obtain⟨s70,s71,s72,s73,-,-,-,-⟩:=row4 h7h;obtain⟨r10,r11,r12,r13,r14,r15,f10,f11,f12,f13,f14,f15⟩:=row6 HR1.out
 obtain⟨r20,r21,r22,r23,r24,r25,r26,r27,f20,f21,f22,f23,f24,f25,f26,f27⟩:=row8 HR2.out;have HBE:Hid (Bel w.heap.size w W2):=HBW.out.next HBW.out.size HBF.out;have hne1:C4≠w.heap.size+1:=by omega
 have hne5:C4≠w.heap.size:=by omega
 have hne6:C6≠w.heap.size:=by omega
 have hne2:C4≠w.heap.size+1+1:=by omega
 have hne3:C6≠w.heap.size+1:=by omega
 have hne4:C6≠w.heap.size+1+1:=by omega
 rw[<-hC6];clear hW2 h4h h5h h6h h7h h4v h5v hC6 HQ4b HR5b HQ4 HR5 hzd
 go_region
 all_goals
  go_wp2;refine name_post ?_;intro W9 hW9;obtain⟨G1,G2,GP,GB⟩:=set68 HR1.out HR2.out (by omega) (by omega) (by omega) HBE.out hW9;have P32:=GP 232 (by decide) (by decide);have PI:=GP 3 (by decide) (by decide);exact post_box2 rfl rfl rfl rfl (loadPt G1) (loadRP G2) ⟨_,_,rfl,PV.mk (H4V.out.pres P32) (H6V.out.pres P32),RP.mk (H5V.out.pres PI) (H7V.out.pres PI),GB⟩
end Go.Proofs.YtlgjakpoaelehaaGreat.D4
