/- Contracts and plain laws, merged: N6 N8 -/
import Derived.Test.YtlgjakpoaelehaaGreatSB13
import Derived.Test.YtlgjakpoaelehaaGreatSB15
import Derived.Test.YtlgjakpoaelehaaGreatSB19
import Derived.Test.YtlgjakpoaelehaaGreatSE03
namespace Go.Proofs.YtlgjakpoaelehaaGreat
open Go.RowKit
set_option maxRecDepth 100000
set_option maxHeartbeats 8000000
def moved (x z:Rat)(i:Nat)(h:HoldD):HoldD:=⟨h.x+x*((i:Nat):Int),h.z+z*((i:Nat):Int),h.b,h.c⟩
def unrL (x z:Rat)(m:List HoldD)(k:Nat):List HoldD:=(List.range k).flatMap fun i=>m.map (moved x z i)
theorem unrL_succ (x z:Rat)(m:List HoldD)(k:Nat):unrL x z m (k+1)=unrL x z m k++m.map (moved x z k):=by
 unfold unrL;rw[List.range_succ,List.flatMap_append];simp
theorem unrL_length (x z:Rat)(m:List HoldD):∀k,(unrL x z m k).length=k*m.length
 |0=>by simp[unrL]
 |k+1=>by rw[unrL_succ,List.length_append,unrL_length x z m k,List.length_map,Nat.add_mul,Nat.one_mul]
theorem unrL_mem {x z:Rat}{m:List HoldD}{k:Nat}{h:HoldD}(hh:h∈unrL x z m k):∃i h',i<k/\h'∈m/\h=moved x z i h':=by
 unfold unrL at hh;obtain⟨i,hi,hm⟩:=List.mem_flatMap.1 hh;obtain⟨h',hm',e⟩:=List.mem_map.1 hm;exact⟨i,h',List.mem_range.1 hi,hm',e.symm⟩
theorem getD_mem {α:Type}{l:List α}{d:α}{i:Nat}(hi:i<l.length):l.getD i d∈l:=by rw[List.getD_eq_getElem?_getD,List.getElem?_eq_getElem hi];exact List.getElem_mem hi
theorem QF.nat {i:Nat}(hi:i<=1000):QF 1 (((i:Nat):Int):Rat):=by
 have h1:nlen i<=1:=(nlen_le_iff _ _).2 (by unfold W32;omega);constructor
 .show nlen (((i:Nat):Int):Rat).num.natAbs<=1
  rw[Rat.num_intCast,Int.natAbs_natCast];exact h1
 .show nlen (((i:Nat):Int):Rat).den<=1
  rw[Rat.den_intCast,nlen_one];exact Nat.le_refl _
theorem moved_F {x z:Rat}{h:HoldD}{i:Nat}(hh:HoldF 8 h)(hx:QF 8 x)(hz:QF 8 z)(hi:i<=1000):HoldF 20 (moved x z i h):=
 ⟨(hh.x.add (hx.mul (QF.nat hi))).mono (by decide),(hh.z.add (hz.mul (QF.nat hi))).mono (by decide),hh.b.mono (by decide),hh.c.mono (by decide)⟩
theorem unrL_F {x z:Rat}{m:List HoldD}{k:Nat}(hF:∀i,i<m.length->HoldF 8 (m.getD i hold0))(hx:QF 8 x)(hz:QF 8 z)(hk:k<=1000):∀i,i<(unrL x z m k).length->HoldF 20 ((unrL x z m k).getD i hold0):=fun i hi=>by
 obtain⟨j,h',hj,hm,e⟩:=unrL_mem (getD_mem (d:=hold0) hi);rw[e];obtain⟨n,hn,en⟩:=List.mem_iff_getElem.1 hm;have:=hF n hn;rw[List.getD_eq_getElem?_getD,List.getElem?_eq_getElem hn,Option.getD_some,en]at this;exact moved_F this hx hz (by omega)
theorem take_map_succ {α β:Type}(f:α->β)(l:List α)(d:α){k:Nat}(hk:k<l.length):(l.take (k+1)).map f=(l.take k).map f++[f (l.getD k d)]:=by
 rw[List.take_add_one,List.getElem?_eq_getElem hk,List.getD_eq_getElem?_getD,List.getElem?_eq_getElem hk,List.map_append];rfl
def unE (m:List HoldD)(x z:Rat)(c:Int):Int:=
 if ckMap m≠0\/(x=0/\z=0) then 2 else if c<1 then 3 else if(64:Int)/(m.length:Int)<c then 5 else ckMap (unrL x z m c.toNat)
theorem apartB_zero {x z:Rat}:apartB x z 0 0=false ↔ x=0/\z=0:=by
 unfold apartB;simp only[Bool.or_eq_false_iff,bne_eq_false_iff_eq];rw[cmpR_eq,cmpR_eq]
theorem ckMap_pos {m:List HoldD}(h:ckMap m=0):1<=m.length/\m.length<=64:=by
 unfold ckMap at h;split at h
 .cases h
 .omega
theorem ckMap_two {m:List HoldD}(h:ckMap m≠0):ckMap m=2:=by
 unfold ckMap mapRes at h|-;split
 .rfl
 .split
  .rename_i h1 h2;rw[if_neg h1,if_pos h2]at h;exact absurd rfl h
  .rfl
theorem unroll_c {w:World}{ao:Option Addr}{cap:Nat}{m:List HoldD}{g:Nat->Value}{vby:Value}{x z:Rat}{c:Int}(hm:HoldsV w ao m g)(hF:∀i,i<m.length->HoldF 8 (m.getD i hold0))(hcap:m.length<=cap)(hby:PV w vby x z)(hx:QF 8 x)(hz:QF 8 z)(h70:m.length<=100):
 Calls Tryz.prog 51 #[.slice ao m.length cap,vby,.int .i64 c] w fun e w'=>∃v,e=.returned (.tuple #[v,.int .i64 (unE m x z c)])/\(unE m x z c≠0->v=.slice none 0 0)/\(unE m x z c=0->∃ao' cap' g',v=.slice ao' (unrL x z m c.toNat).length cap'/\(unrL x z m c.toNat).length<=cap'/\HoldsV w' ao' (unrL x z m c.toNat) g')/\Bel w.heap.size w w':=by
 obtain⟨x0,a0,n0,c0,k0,x1,a1,n1,c1,k1,rfl,hq0,hq1⟩:=PV.cells hby;have HM:=LH hm;have HF:=LH hF;have HBY:=LH hby;have HX:=LH hx;have HZ:=LH hz;clear hm hF hby hq0 hq1 hx hz;obtain⟨n,hn⟩:∃n,n=m.length:=⟨_,rfl⟩
 have HN:=LH hn;rw[<-hn]at hcap h70|-
 by_cases hck:ckMap m=0
 .have HCK:=LH hck;have hp:=ckMap_pos hck;rw[<-hn]at hp;clear hn hck
  go_enter Tryz.func51,Tryz.ntmps51
  go_wp2_with fail
  refine D4.name_call ?_;intro W1 hW1;have HK1:Hid (W1.heap[w.heap.size]?=some (.cells #[.bool x0,.slice a0 n0 n0,.slice c0 k0 k0,.bool x1,.slice a1 n1 n1,.slice c1 k1 k1] 95)):=by show _=_;rw[hW1];exact heap_new _ _ rfl
  have HB1:Hid (Bel w.heap.size w W1):=by rw[hW1];exact(Bel.refl _ _).alloc NL _
  have l1:=BlkT.lt ⟨_,_,HK1.out⟩;clear hW1;refine(by rw[HN.out];exact checkMap_c (cap:=cap) (HM.out.bel HB1.out) HF.out (by rw[<-HN.out];exact hcap) (by decide):Calls _ _ _ _ _).mono ?_;rintro e w2 ⟨rfl,hb2⟩;rw[HCK.out];have HK2:=LH ((hb2.block _ l1).trans HK1.out);have HB2:Hid (Bel w.heap.size w w2):=HB1.out.next HB1.out.size hb2;clear hb2 HK1 HB1;have l2:=BlkT.lt ⟨_,_,HK2.out⟩;obtain⟨r0,r1,r2,r3,r4,r5,-,-,-,-,-,-⟩:=row6 HK2.out
  go_wp2_with fail
  refine(apart_c (HBY.out.pres HB2.out.pb) (PV.mk (QV.zero _) (QV.zero _)) HX.out HZ.out (QF.zero 1 (by decide)) (QF.zero 1 (by decide)) (by decide)).mono ?_;rintro e w3 ⟨rfl,hb3⟩;have HK3:=LH ((hb3.block _ l2).trans HK2.out);have HB3:Hid (Bel w.heap.size w w3):=HB2.out.next HB2.out.size hb3;clear hb3 HK2 HB2 r0 r1 r2 r3 r4 r5;have l3:=BlkT.lt ⟨_,_,HK3.out⟩;obtain⟨p,hp⟩:∃p,p=apartB x z 0 0:=⟨_,rfl⟩
  have HP:=LH hp;rw[<-hp];clear hp
  cases p
  .have HE:Hid (unE m x z c=2):=by show _=_;unfold unE;rw[if_pos (.inr (apartB_zero.1 HP.out.symm))]
   go_wp2
   go_ret2
   exact⟨_,by rw[HE.out];rfl,fun _=>rfl,fun h=>absurd (HE.out.symm.trans h) (by decide),HB3.out⟩
  have HNE:Hid (¬(ckMap m≠0\/(x=0/\z=0))):=fun h=>by
   rcases h with h|h
   .exact h HCK.out
   .have:=apartB_zero.2 h;rw[<-HP.out]at this;cases this
  by_cases h1:c<1
  .have HE:Hid (unE m x z c=3):=by show _=_;unfold unE;rw[if_neg HNE.out,if_pos h1]
   have d:decide (c<1)=true:=decide_eq_true h1;clear h1;go_wp2
   go_ret2
   exact⟨_,by rw[HE.out];rfl,fun _=>rfl,fun h=>absurd (HE.out.symm.trans h) (by decide),HB3.out⟩
  have d:decide (c<1)=false:=decide_eq_false h1
  by_cases h5:(64:Int)/(n:Int)<c
  .have HE:Hid (unE m x z c=5):=by show _=_;unfold unE;rw[if_neg HNE.out,if_neg h1,<-HN.out,if_pos h5]
   have d5:decide ((64:Int)/(n:Int)<c)=true:=decide_eq_true h5;clear h1 h5;go_wp2
   go_ret2
   exact⟨_,by rw[HE.out];rfl,fun _=>rfl,fun h=>absurd (HE.out.symm.trans h) (by decide),HB3.out⟩
  have d5:decide ((64:Int)/(n:Int)<c)=false:=decide_eq_false h5;have HE:Hid (unE m x z c=ckMap (unrL x z m c.toNat)):=by show _=_;unfold unE;rw[if_neg HNE.out,if_neg h1,<-HN.out,if_neg h5]
  have hkn:c*(n:Int)<=64:=(Int.le_ediv_iff_mul_le (by omega)).1 (by omega);obtain⟨k,rfl⟩:∃k:Nat,c=(k:Int):=⟨c.toNat,by omega⟩
  rw[Int.toNat_natCast]at HE;have hkn':k*n<=64:=by exact_mod_cast hkn
  have hk64:k<=64:=Nat.le_trans (Nat.le_mul_of_pos_right k (by omega)) hkn';have HKN:=LH hkn';have HK64:=LH hk64;have HP1:=LH hp;clear hkn hkn' h1 h5 hk64;go_wp2;clear d d5
  go_loopg [8,32] k (fun g s8 s32 wr=>∃i:Nat,g=k-i/\i<=k/\s32=.int .i64 i/\D4.RowH w3.heap.size wr s8 (unrL x z m i)/\Bel w3.heap.size w3 wr)
  case atStart=>exact⟨0,rfl,Nat.zero_le _,rfl,D4.RowH.nil _ _,Bel.refl _ _⟩
  case round=>
   obtain⟨i,hg,hi,rfl,hrow,hbr⟩:=hrel;have HW:=LH hbr;have HA:=LH hrow;clear hrow hbr
   by_cases hlt:i<k
   .go_wp2
    go_loopg [8,37] n (fun g s8 s37 wq=>∃j:Nat,g=n-j/\j<=n/\s37=.int .i64 j/\D4.RowH w3.heap.size wq s8 (unrL x z m i++(m.take j).map (moved x z i))/\Bel w3.heap.size w3 wq)
    case atStart=>exact⟨0,rfl,Nat.zero_le _,rfl,by simpa using HA.out,HW.out⟩
    case round=>
     obtain⟨j,hgj,hj,rfl,hrow,hbr⟩:=hrel
     by_cases hjn:j<n
     .have HL:Hid ((unrL x z m i++(m.take j).map (moved x z i)).length=i*n+j):=by
       show _=_
       rw[List.length_append,unrL_length,List.length_map,List.length_take,<-HN.out,Nat.min_eq_left hj]
      have hLs:i*n+j<64:=by
       have h1:(i+1)*n<=k*n:=Nat.mul_le_mul_right n hlt;have:=HKN.out;rw[Nat.add_mul]at h1;omega
      have HTS:Hid ((m.take (j+1)).map (moved x z i)=(m.take j).map (moved x z i)++[moved x z i (m.getD j hold0)]):=take_map_succ _ _ _ (by rw[<-HN.out];exact hjn);have HBW:Hid (Bel w.heap.size w wr):=HB3.out.next HB3.out.size hbr;obtain⟨b,o,rfl,hbl,y0,b0,m0,d0,j0,y1,b1,m1,d1,j1,y2,b2,m2,d2,j2,y3,b3,m3,d3,j3,f0,f1,f2,f3,f4,f5,f6,f7,f8,f9,f10,f11,q0,q1,q2,q3⟩:=(HM.out.bel HBW.out).el (i:=j) (by rw[<-HN.out];exact hjn)
      have HFH:=LH (HF.out j (by rw[<-HN.out];exact hjn));obtain⟨h,hh⟩:∃h,h=m.getD j hold0:=⟨_,rfl⟩
      rw[<-hh]at q0 q1 q2 q3 HFH HTS;have Q0:=LH q0;have Q1:=LH q1;have Q2:=LH q2;have Q3:=LH q3;have HROW:=LH hrow;have HBR:=LH hbr;have hbrs:=hbr.size;clear hrow hbr q0 q1 q2 q3 hh
      go_upto_region 14 with(with_reducible refine wpList_store_row rfl 97 (.tmp 11) (.tmp 40) rfl wr.heap.size #[.bool y0,.slice b0 m0 m0,.slice d0 j0 j0,.bool y1,.slice b1 m1 m1,.slice d1 j1 j1,.bool y2,.slice b2 m2 m2,.slice d2 j2 j2,.bool y3,.slice b3 m3 m3,.slice d3 j3 j3] (by kernel_rfl) (by kernel_rfl) 97 #[.bool false,.slice none 0 0,.slice none 0 0,.bool false,.slice none 0 0,.slice none 0 0,.bool false,.slice none 0 0,.slice none 0 0,.bool false,.slice none 0 0,.slice none 0 0] (heap_new _ _ rfl) (by kernel_rfl) (by kernel_rfl) (by kernel_rfl) ?_)
      refine name_world ?_;intro W0 hW0;clear f0 f1 f2 f3 f4 f5 f6 f7 f8 f9 f10 f11;have HKX:Hid (W0.heap[wr.heap.size]?=some (.cells #[.bool y0,.slice b0 m0 m0,.slice d0 j0 j0,.bool y1,.slice b1 m1 m1,.slice d1 j1 j1,.bool y2,.slice b2 m2 m2,.slice d2 j2 j2,.bool y3,.slice b3 m3 m3,.slice d3 j3 j3] 97)):=by show _=_;rw[hW0];exact setRow_heap _ _ _ _ _ _ (heap_new _ _ rfl)
      have HE0:Hid (Bel wr.heap.size wr W0):=by show Bel _ _ _;rw[hW0];exact Bel.new.setRow NL _
      clear hW0;obtain⟨BX,hBX⟩:∃B,B=wr.heap.size:=⟨_,rfl⟩
      have HBX:=LH hBX;rw[<-hBX]at HKX|-;clear hBX;have lX:=BlkT.lt ⟨_,_,HKX.out⟩;have HBW0:Hid (Bel w3.heap.size w3 W0):=HBR.out.next HBR.out.size HE0.out;have HK4:=LH ((HBW0.out.block _ l3).trans HK3.out);have HPW:Hid (Pres 232 wr W0):=Pres.below HE0.out.toBelow;have hi64:i<=1000:=by have:=HK64.out;omega
      refine D4.unReg_c _ _ _ _ _ _ _ _ _ _ _ _ _ _ _ _ _ _ _ _ _ _ _ _ _ _ _ _ _ _ _ _ _ _ _ _ _ _ _ _ _ _ _ _ _ _ _ _ _ _ _ _ _ _ _ _ HK4 HKX (LH (HBY.out.pres (Pres.below (HB3.out.next HB3.out.size HBW0.out).toBelow))) (LH (PV.mk (Q0.out.pres HPW.out) (Q1.out.pres HPW.out))) HX.out HZ.out HFH.out.x HFH.out.z (QF.nat hi64) hi64 (fun v41 v42 v43 v44 v45 v46 v47 e0 e1 e2 e3 e4 e5 w5 hpv hb5=>?_)
      obtain⟨s0,t0,q0,z0,i0,s1,t1,q1,z1,i1,ev,hq0,hq1⟩:=PV.cells hpv;simp only[Value.agg.injEq,Array.mk.injEq,List.cons.injEq,and_true]at ev;obtain⟨rfl,rfl,rfl,rfl,rfl,rfl⟩:=ev;obtain⟨W5,hW5⟩:∃W,W=w5.setCells BX 0 [.bool s0,.slice t0 q0 q0,.slice z0 i0 i0,.bool s1,.slice t1 q1 q1,.slice z1 i1 i1]:=⟨_,rfl⟩
      rw[<-hW5];rw[D4.setCells_eq]at hW5;have hx5:=(hb5.block BX lX).trans HKX.out;have HX5:Hid (W5.heap[BX]?=some (.cells #[.bool s0,.slice t0 q0 q0,.slice z0 i0 i0,.bool s1,.slice t1 q1 q1,.slice z1 i1 i1,.bool y2,.slice b2 m2 m2,.slice d2 j2 j2,.bool y3,.slice b3 m3 m3,.slice d3 j3 j3] 97)):=by show _=_;rw[hW5];exact(D4.setsL_heap _ hx5).trans (by kernel_rfl)
      have HP5:Hid (Pres 232 w5 W5):=by show Pres _ _ _;rw[hW5];exact D4.Pres.setsL _ hx5 (by decide)
      have HB5:Hid (Bel w3.heap.size w3 W5):=by show Bel _ _ _;rw[hW5];exact D4.Bel.setsL _ (HBW0.out.next HBW0.out.size hb5) (by rw[HBX.out];exact hbrs)
      have HR5:Hid (Bel wr.heap.size wr W5):=by show Bel _ _ _;rw[hW5];exact D4.Bel.setsL _ (HE0.out.next HE0.out.size hb5) (by rw[HBX.out];exact Nat.le_refl _)
      have HPB:Hid (Pres 232 wr W5):=Pres.below HR5.out.toBelow;have K0:=LH (hq0.pres HP5.out);have K1:=LH (hq1.pres HP5.out);have K2:=LH (Q2.out.pres HPB.out);have K3:=LH (Q3.out.pres HPB.out);obtain⟨f,ho,hh⟩:=HROW.out.bel HR5.out;rw[HL.out]at ho;have HO:=LH (ho.alloc (.cells #[.bool s0,.slice t0 q0 q0,.slice z0 i0 i0,.bool s1,.slice t1 q1 q1,.slice z1 i1 i1,.bool y2,.slice b2 m2 m2,.slice d2 j2 j2,.bool y3,.slice b3 m3 m3,.slice d3 j3 j3] 97))
      have HH:=LH hh;have hz5:w3.heap.size<=W5.heap.size+1:=by have:=HB5.out.size;omega
      clear hW5 hx5 hpv hb5 hq0 hq1 Q0 Q1 Q2 Q3 HPB HP5 HR5 HROW HKX HK4 HBW0 HE0 HPW ho hh lX;obtain⟨p0,p1,p2,p3,p4,p5,p6,p7,p8,p9,p10,p11,-⟩:=D4.row12f HX5.out
      go_upto_region 16 with(at_builtin;refine wpList_append_fn rfl (.tmp 49) (.tmp 51) 33 rfl w3.heap.size Tryz.underlying33 D4.infoHold rfl (by decide) rfl HO.out rfl (D4.cells_lit (heap_new _ _ rfl) rfl) (D4.one_lit rfl) (by unfold maxLen;omega) (by omega) (by simpa using hz5) ?_;intro v' w6 hown hgrow hdr)
      have ho1:=hown;rw[<-HL.out]at ho1;have HR6:Hid (D4.RowH w3.heap.size w6 v' ((unrL x z m i++(m.take j).map (moved x z i))++[moved x z i h])):=D4.RowH.snoc ho1 HH.out ⟨K0.out,K1.out,K2.out,K3.out⟩ ((Pres.alloc _ _).trans (Pres.grownS HO.out hgrow (by decide)));have HB6:Hid (Bel w3.heap.size w3 w6):=(HB5.out.alloc HB5.out.size _).grownS HO.out hgrow hdr (by simpa using hz5) NL;clear ho1 hown hgrow hdr HO HH K0 K1 K2 K3 HB5 HX5 p0 p1 p2 p3 p4 p5 p6 p7 p8 p9 p10 p11
      go_wp2
      go_roundg (n-(j+1))
      case rel=>exact⟨j+1,rfl,by omega,by push_cast;rfl,by rw[HTS.out,<-List.append_assoc];exact HR6.out,HB6.out⟩
      case measure=>omega
     .have h:=hrow;rw[List.take_of_length_le (by rw[<-HN.out];omega),<-unrL_succ]at h;have HR6:=LH h;clear h;have HB6:=LH hbr;have hk64:=HK64.out;clear hrow hbr;go_wp2
      go_roundg (k-(i+1))
      case rel=>exact⟨i+1,rfl,by omega,by push_cast;rfl,HR6.out,HB6.out⟩
      case measure=>omega
   .obtain rfl:i=k:=by omega
    obtain⟨bo,bc,bg,rfl,hbc,hbh⟩:=HA.out.holds;obtain⟨L,hL⟩:∃L,L=unrL x z m i:=⟨_,rfl⟩
    have HLF:Hid (∀q,q<L.length->HoldF 20 (L.getD q hold0)):=by rw[hL];exact unrL_F HF.out HX.out HZ.out (by have:=HK64.out;omega)
    rw[<-hL]at hbc hbh HE|-;have HH:=LH hbh;have HC:=LH hbc;have HLL:=LH hL;clear hbh hbc HA hL
    go_wp2_with fail
    refine(checkMap_c HH.out HLF.out HC.out (by decide)).mono ?_;rintro e w9 ⟨rfl,hb9⟩;have HB9:Hid (Bel w.heap.size w w9):=(HB3.out.next HB3.out.size HW.out).next (HB3.out.next HB3.out.size HW.out).size hb9;have HH9:=LH (HH.out.bel hb9);clear hb9
    by_cases hcl:ckMap L=0
    .rw[hcl];have HE0:=LH (HE.out.trans hcl);clear hcl;go_wp2
     go_ret2
     rw[Int.toNat_natCast,<-HLL.out];exact⟨_,by rw[HE0.out];rfl,fun h=>absurd HE0.out h,fun _=>⟨_,_,_,rfl,HC.out,HH9.out⟩,HB9.out⟩
    .rw[ckMap_two hcl];have HE0:=LH (HE.out.trans (ckMap_two hcl));clear hcl;go_wp2
     go_ret2
     exact⟨_,by rw[HE0.out];rfl,fun _=>rfl,fun h=>absurd (HE0.out.symm.trans h) (by decide),HB9.out⟩
 .have HCK:=LH hck;have HE:Hid (unE m x z c=2):=by show _=_;unfold unE;rw[if_pos (.inl HCK.out)]
  rw[HE.out];have d:=LH (ckMap_two hck);clear hn hck
  go_enter Tryz.func51,Tryz.ntmps51
  go_wp2_with fail
  refine(by rw[HN.out];exact checkMap_c (cap:=cap) (HM.out.bel Bel.new) HF.out (by rw[<-HN.out];exact hcap) (by decide):Calls _ _ _ _ _).mono ?_;rintro e w2 ⟨rfl,hb2⟩;rw[d.out];have HB2:Hid (Bel w.heap.size w w2):=Bel.new.trans (hb2.mono (by simp));clear hb2;go_wp2
  go_ret2
  exact⟨_,rfl,fun _=>rfl,fun h=>by simp at h,HB2.out⟩
end Go.Proofs.YtlgjakpoaelehaaGreat
namespace Go.Proofs.YtlgjakpoaelehaaGreat.D4
open Go.RowKit
set_option maxRecDepth 100000
set_option maxHeartbeats 8000000
def wantE (m:List HoldD)(x z:Rat)(c:Int):Int:=
 if ckMap m≠0\/(x=0/\z=0) then 2 else if c<1 then 3 else if(64:Int)/(m.length:Int)<c then 5 else 0
theorem unrolls_long (HK:WakesOk){w:World}{ao:Option Addr}{n cap:Nat}{vs:Array Value}{c:Int}(hn:70<n)(_hs:vs.size=6):
 Calls Tryz.prog 9 #[.slice ao n cap,.agg vs,.int .i64 c] w fun e w'=>e=.returned (.bool true)/\Bel w.heap.size w w':=by
 have d:decide (70<(n:Int))=true:=by simp;omega
 clear hn
 go_enter Tryz.func9,Tryz.ntmps9
 go_wp2_with fail
 refine(HK _).mono ?_;rintro e w2 ⟨rfl,hb⟩;have HB:=LH hb;clear hb;go_wp2;go_ret;exact⟨rfl,Bel.new.trans (HB.out.mono (by simp))⟩
theorem unrolls_c (HK:WakesOk){T:TypeId}{w:World}{ao:Option Addr}{cap:Nat}{l:List SpotD}{bx bz:NumD}{c:Int}(hl:SpotsV T w ao l)(hbx:NumOk bx)(hbz:NumOk bz)(h70:l.length<=70):
 Calls Tryz.prog 9 #[.slice ao l.length cap,.agg #[.int .i64 bx.n,.int .i64 bx.d,.int .u8 bx.p,.int .i64 bz.n,.int .i64 bz.d,.int .u8 bz.p],.int .i64 c] w fun e w'=>e=.returned (.bool true)/\Bel w.heap.size w w':=by
 have HL:=LH hl;have HBX:=LH hbx;have HBZ:=LH hbz;obtain⟨m,hm⟩:∃m,m=l.map SpotD.hold:=⟨_,rfl⟩
 obtain⟨n,hn⟩:∃n,n=l.length:=⟨_,rfl⟩
 have HN:=LH hn;have HMN:Hid (m.length=n):=by show _=_;rw[hm,hn,List.length_map]
 have HF:Hid (∀i,i<m.length->HoldF 8 (m.getD i hold0)):=fun i hi=>by
  rw[hm]at hi|-;rw[List.length_map]at hi;rw[List.getD_eq_getElem?_getD,List.getElem?_map,List.getElem?_eq_getElem hi];exact SpotOk.HF (hl.ok _ (List.getElem_mem hi))
 have HMM:=LH hm;rw[<-hn]at h70|-;clear hl hbx hbz hm hn;have d:decide (70<(n:Int))=false:=by simp;omega
 go_enter Tryz.func9,Tryz.ntmps9
 go_wp2_with fail
 refine name_call ?_;intro W0 hW0;have HK0:Hid (W0.heap[w.heap.size]?=some (.cells #[.int .i64 bx.n,.int .i64 bx.d,.int .u8 bx.p,.int .i64 bz.n,.int .i64 bz.d,.int .u8 bz.p] 74)):=by show _=_;rw[hW0];exact heap_new _ _ rfl
 have HB0:Hid (Bel w.heap.size w W0):=by show Bel _ _ _;rw[hW0];exact(Bel.refl _ _).alloc NL _
 have l0:=BlkT.lt ⟨_,_,HK0.out⟩;clear hW0 d;refine(by rw[HN.out];exact spots_c (cap:=cap) (HL.out.bel HB0.out) (by rw[<-HN.out];omega):Calls _ _ _ _ _).mono ?_;rintro e w1 ⟨v1,v2,rfl,hH,hR,hb1⟩;rw[<-HMM.out]at hH hR;obtain⟨ah,ch,gh,rfl,hch,hhh⟩:=hH.holds;obtain⟨ar,cr,gr,rfl,hcr,hrr⟩:=hR.holds;rw[HMN.out]at hch hcr|-;have HH:=LH hhh;have HR:=LH hrr;have HCH:=LH hch;have HCR:=LH hcr
 have HK1:=LH ((hb1.block _ l0).trans HK0.out);have HB1:Hid (Bel w.heap.size w w1):=HB0.out.next HB0.out.size hb1;clear hb1 hH hR hhh hrr hch hcr HK0 HB0 HL HMM l0;obtain⟨r0,r1,r2,r3,r4,r5,-,-,-,-,-,-⟩:=row6 HK1.out
 go_wp2_with fail
 refine(bothPoints_c HBX.out.n1 HBX.out.n2 HBX.out.d1 HBX.out.d2 HBX.out.p HBZ.out.n1 HBZ.out.n2 HBZ.out.d1 HBZ.out.d2 HBZ.out.p).mono ?_;rintro e w2 ⟨v1,v2,rfl,hv1,hv2,hb2⟩;clear r0 r1 r2 r3 r4 r5 HK1;obtain⟨x0,a0,n0,c0,k0,x1,a1,n1,c1,k1,rfl,-,-⟩:=PV.cells hv1;obtain⟨b1,e1,m1,d1,b2,e2,m2,d2,b3,e3,m3,d3,b4,e4,m4,d4,rfl,-,-⟩:=RP.cells hv2;have HXF:=HBX.out.QF;have HZF:=HBZ.out.QF;obtain⟨x,hx⟩:∃x,x=numVal bx.n bx.d bx.p:=⟨_,rfl⟩
 obtain⟨z,hz⟩:∃z,z=numVal bz.n bz.d bz.p:=⟨_,rfl⟩
 unfold NumD.q at HXF HZF;rw[<-hx]at hv1 hv2 HXF;rw[<-hz]at hv1 hv2 HZF;have HV1:=LH hv1;have HV2:=LH hv2;have HX:=LH HXF;have HZ:=LH HZF;have HH2:=LH (HH.out.bel hb2);have HR2:=LH (HR.out.bel hb2);have HB2:Hid (Bel w.heap.size w w2):=HB1.out.next HB1.out.size hb2;clear hx hz hv1 hv2 HXF HZF HBX HBZ hb2 HH HR HB1
 go_upto_region 5 with(first|(with_reducible refine wpList_store_row rfl 95 (.tmp 9) (.tmp 31) rfl w2.heap.size #[.bool x0,.slice a0 n0 n0,.slice c0 k0 k0,.bool x1,.slice a1 n1 n1,.slice c1 k1 k1] (by kernel_rfl) (by kernel_rfl) 95 #[.bool false,.slice none 0 0,.slice none 0 0,.bool false,.slice none 0 0,.slice none 0 0] ((heap_old _ _ Sd1).trans (heap_new _ _ rfl)) (by kernel_rfl) (by kernel_rfl) (by kernel_rfl) ?_)|(with_reducible refine wpList_store_row rfl 133 (.tmp 10) (.tmp 32) rfl (w2.heap.size+1) #[.bool b1,.slice e1 m1 d1,.bool b2,.slice e2 m2 d2,.bool b3,.slice e3 m3 d3,.bool b4,.slice e4 m4 d4] (by kernel_rfl) (by kernel_rfl) 133 #[.bool false,.slice none 0 0,.bool false,.slice none 0 0,.bool false,.slice none 0 0,.bool false,.slice none 0 0] ((setRow_other _ _ _ _ (by omega)).trans (heap_new _ _ Sd1)) (by kernel_rfl) (by kernel_rfl) (by kernel_rfl) ?_))
 refine name_world ?_;intro W3 hW3;have HKP:Hid (W3.heap[w2.heap.size]?=some (.cells #[.bool x0,.slice a0 n0 n0,.slice c0 k0 k0,.bool x1,.slice a1 n1 n1,.slice c1 k1 k1] 95)):=by show _=_;rw[hW3];exact(setRow_other _ _ _ _ (by omega)).trans (setRow_heap _ _ _ _ _ _ ((heap_old _ _ Sd1).trans (heap_new _ _ rfl)))
 have HKR:Hid (W3.heap[w2.heap.size+1]?=some (.cells #[.bool b1,.slice e1 m1 d1,.bool b2,.slice e2 m2 d2,.bool b3,.slice e3 m3 d3,.bool b4,.slice e4 m4 d4] 133)):=by show _=_;rw[hW3];exact setRow_heap _ _ _ _ _ _ ((setRow_other _ _ _ _ (by omega)).trans (heap_new _ _ Sd1))
 have hb3:Bel w2.heap.size w2 W3:=by rw[hW3];exact((Bel.new.alloc Sd1 _).setRow NL _).setRow (by omega) _
 have HB3:Hid (Bel w.heap.size w W3):=HB2.out.next HB2.out.size hb3;have HV3:=LH (HV1.out.pres hb3.pb);have HW3:=LH (HV2.out.pres hb3.pb);have HH3:=LH (HH2.out.bel hb3);have HR3:=LH (HR2.out.bel hb3);obtain⟨BP,hBP⟩:∃B,B=w2.heap.size:=⟨_,rfl⟩
 rw[<-hBP]at HKP HKR|-;clear hW3 hb3 HB2 HV1 HV2 HH2 HR2 hBP;have l3:=BlkT.lt ⟨_,_,HKR.out⟩;obtain⟨r0,r1,r2,r3,r4,r5,-,-,-,-,-,-⟩:=row6 HKP.out;have hU:=unroll_c (c:=c) HH3.out HF.out (by rw[HMN.out];exact HCH.out) HV3.out HX.out HZ.out (by rw[HMN.out];omega);rw[HMN.out]at hU
 go_wp2_with fail
 refine hU.mono ?_;clear hU r0 r1 r2 r3 r4 r5;rintro e w4 ⟨vm,rfl,hE1,hE2,hb4⟩;have HKR4:=LH ((hb4.block _ l3).trans HKR.out);have HB4:Hid (Bel w.heap.size w w4):=HB3.out.next HB3.out.size hb4;have HW4:=LH (HW3.out.pres hb4.pb);have HR4:=LH (HR3.out.bel hb4);have HE1:=LH hE1;have HE2:=LH hE2;have hM:=refMap_c HR4.out HF.out (by rw[HMN.out];exact HCR.out) (by decide)
 rw[HMN.out]at hM;clear hE1 hE2 hb4 HKP HKR HB3 HV3 HW3 HH3 HR3 l3;obtain⟨E,hE⟩:∃E,E=unE m x z c:=⟨_,rfl⟩
 have HEE:=LH hE;rw[<-hE]at HE1 HE2|-;clear hE
 go_wp2_with fail
 refine hM.mono ?_;clear hM;rintro e w5 ⟨rfl,hb5⟩;have l4:=BlkT.lt ⟨_,_,HKR4.out⟩;have HKR5:=LH ((hb5.block _ l4).trans HKR4.out);have HB5:Hid (Bel w.heap.size w w5):=HB4.out.next HB4.out.size hb5;have HW5:=LH (HW4.out.pres hb5.pb);have HR5:=LH (HR4.out.bel hb5)
 have HE25:Hid (E=0->∃ao' cap' g',vm=.slice ao' (unrL x z m c.toNat).length cap'/\(unrL x z m c.toNat).length<=cap'/\HoldsV w5 ao' (unrL x z m c.toNat) g'):=fun h=>by
  obtain⟨p1,p2,p3,p4,p5,p6⟩:=HE2.out h;exact⟨p1,p2,p3,p4,p5,p6.bel hb5⟩
 clear hb5 HKR4 HB4 HW4 HR4 HE2 l4;obtain⟨q0,q1,q2,q3,q4,q5,q6,q7,-⟩:=row8 HKR5.out;obtain⟨C,hC⟩:∃C,C=ckMap m:=⟨_,rfl⟩
 have HC:=LH hC;rw[<-hC];clear hC
 go_wp2_with fail
 refine(equal_c HW5.out (RP.mk (RQ.zero _) (RQ.zero _)) HX.out HZ.out (QF.zero 1 (by decide)) (QF.zero 1 (by decide)) (by decide)).mono ?_;rintro e w6 ⟨rfl,hb6⟩;have l5:=BlkT.lt ⟨_,_,HKR5.out⟩;have HKR6:=LH ((hb6.block _ l5).trans HKR5.out);have HB6:Hid (Bel w.heap.size w w6):=HB5.out.next HB5.out.size hb6;have HW6:=LH (HW5.out.pres hb6.pb);have HR6:=LH (HR5.out.bel hb6)
 have HE26:Hid (E=0->∃ao' cap' g',vm=.slice ao' (unrL x z m c.toNat).length cap'/\(unrL x z m c.toNat).length<=cap'/\HoldsV w6 ao' (unrL x z m c.toNat) g'):=fun h=>by
  obtain⟨p1,p2,p3,p4,p5,p6⟩:=HE25.out h;exact⟨p1,p2,p3,p4,p5,p6.bel hb6⟩
 clear hb6 HKR5 HB5 HW5 HR5 HE25 l5 q0 q1 q2 q3 q4 q5 q6 q7;obtain⟨p,hp⟩:∃p,p=apartB x z 0 0:=⟨_,rfl⟩
 rw[<-hp]
 have hcase:(p=false/\E=2/\decide (0<c)=true)\/(p=false/\E=2/\decide (0<c)=false)\/(p=true/\C=2/\E=2/\decide (0<c)=true)\/(p=true/\C=2/\E=2/\decide (0<c)=false)\/
  (p=true/\C=0/\E=3/\decide (c<1)=true/\decide (0<c)=false)\/(p=true/\C=0/\E=5/\decide (c<1)=false/\decide (0<c)=true/\decide ((64:Int)/(n:Int)<c)=true/\1<=n)\/
  (p=true/\C=0/\E=ckMap (unrL x z m c.toNat)/\1<=c/\c*(n:Int)<=64/\decide ((64:Int)/(n:Int)<c)=false/\1<=n):=by
  have hE:=HEE.out;have hC:=HC.out;unfold unE at hE;rw[<-hC,HMN.out]at hE;have hd:decide (0<c)=true\/decide (0<c)=false:=by cases decide (0<c)<;>simp
  cases p
  .rw[if_pos (.inr (apartB_zero.1 hp.symm))]at hE;rcases hd with h|h
   .exact .inl ⟨rfl,hE,h⟩
   .exact .inr (.inl ⟨rfl,hE,h⟩)
  .have hnz:¬(x=0/\z=0):=fun h=>by rw[apartB_zero.2 h]at hp;cases hp
   by_cases h0:C=0
   .have hpos:=ckMap_pos (hC▸h0);rw[HMN.out]at hpos;rw[if_neg (by simp[h0];exact fun a b=>hnz ⟨a,b⟩)]at hE
    by_cases h1:c<1
    .rw[if_pos h1]at hE;exact .inr (.inr (.inr (.inr (.inl ⟨rfl,h0,hE,decide_eq_true h1,decide_eq_false (by omega)⟩))))
    .rw[if_neg h1]at hE
     by_cases h5:(64:Int)/(n:Int)<c
     .rw[if_pos h5]at hE;exact .inr (.inr (.inr (.inr (.inr (.inl ⟨rfl,h0,hE,decide_eq_false h1,decide_eq_true (by omega),decide_eq_true h5,hpos.1⟩)))))
     .rw[if_neg h5]at hE;exact .inr (.inr (.inr (.inr (.inr (.inr ⟨rfl,h0,hE,by omega,(Int.le_ediv_iff_mul_le (by omega)).1 (by omega),decide_eq_false h5,hpos.1⟩)))))
   .rw[if_pos (.inl h0)]at hE;have h2:C=2:=by rw[hC];exact ckMap_two (fun h=>h0 (by rw[hC];exact h))
    rcases hd with h|h
    .exact .inr (.inr (.inl ⟨rfl,h2,hE,h⟩))
    .exact .inr (.inr (.inr (.inl ⟨rfl,h2,hE,h⟩)))
 clear hp HC HEE;rcases hcase with⟨rfl,rfl,d0⟩|⟨rfl,rfl,d0⟩|⟨rfl,rfl,rfl,d0⟩|⟨rfl,rfl,rfl,d0⟩|⟨rfl,rfl,rfl,d1,d0⟩|⟨rfl,rfl,rfl,d1,d0,d5,hn1⟩|⟨rfl,rfl,rfl,hc1,hcn,d5,hn1⟩;rotate_left 6
 .obtain⟨k,rfl⟩:∃k:Nat,c=(k:Int):=⟨c.toNat,by omega⟩
  have hkn:k*n<=64:=by exact_mod_cast hcn
  have hk1:1<=k:=by omega
  have hk64:k<=64:=Nat.le_trans (Nat.le_mul_of_pos_right k hn1) hkn;have d1:decide ((k:Int)<1)=false:=decide_eq_false (by omega);obtain⟨E,hE⟩:∃E,E=ckMap (unrL x z m (k:Int).toNat):=⟨_,rfl⟩
  rw[<-hE]at HE1 HE26|-;rw[Int.toNat_natCast]at hE HE26;have HEE:=LH hE;have HKN:=LH hkn;have HK64:=LH hk64;clear hE hc1 hcn hkn;go_wp2;clear d1 d5
  go_loopg [14,15] k (fun g s14 s15 wr=>∃i:Nat,g=k-i/\i<=k/\s15=.int .i64 i/\RowR w6.heap.size wr s14 (unrL x z m i)/\Bel w6.heap.size w6 wr)
  case atStart=>exact⟨0,rfl,Nat.zero_le _,rfl,RowR.nil _ _,Bel.refl _ _⟩
  case round=>
   obtain⟨i,hg,hi,rfl,hrow,hbr⟩:=hrel;have HW:=LH hbr;have HA:=LH hrow;clear hrow hbr
   by_cases hlt:i<k
   .go_wp2
    go_loopg [14,16] n (fun g s14 s16 wq=>∃j:Nat,g=n-j/\j<=n/\s16=.int .i64 j/\RowR w6.heap.size wq s14 (unrL x z m i++(m.take j).map (moved x z i))/\Bel w6.heap.size w6 wq)
    case atStart=>exact⟨0,rfl,Nat.zero_le _,rfl,by simpa using HA.out,HW.out⟩
    case round=>
     obtain⟨j,hgj,hj,rfl,hrow,hbr⟩:=hrel
     by_cases hjn:j<n
     .have HL:Hid ((unrL x z m i++(m.take j).map (moved x z i)).length=i*n+j):=by
       show _=_
       rw[List.length_append,unrL_length,List.length_map,List.length_take,HMN.out,Nat.min_eq_left hj]
      have hLs:i*n+j<64:=by
       have h1:(i+1)*n<=k*n:=Nat.mul_le_mul_right n hlt;have:=HKN.out;rw[Nat.add_mul]at h1;omega
      have HTS:Hid ((m.take (j+1)).map (moved x z i)=(m.take j).map (moved x z i)++[moved x z i (m.getD j hold0)]):=take_map_succ _ _ _ (by rw[HMN.out];exact hjn);obtain⟨b,o,rfl,hbl,X,A,M,D,f0,f1,f2,f3,f4,f5,f6,f7,f8,f9,f10,f11,f12,f13,f14,f15,q0,q1,q2,q3⟩:=(HR6.out.bel hbr).el (i:=j) (by rw[HMN.out];exact hjn);have HFH:=LH (HF.out j (by rw[HMN.out];exact hjn));obtain⟨h,hh⟩:∃h,h=m.getD j hold0:=⟨_,rfl⟩
      rw[<-hh]at q0 q1 q2 q3 HFH HTS;have Q0:=LH q0;have Q1:=LH q1;have Q2:=LH q2;have Q3:=LH q3;have HROW:=LH hrow;have HBR:=LH hbr;have hbrs:=hbr.size;clear hrow hbr q0 q1 q2 q3 hh
      go_upto_region 21 with(with_reducible refine wpList_store_row rfl 140 (.tmp 17) (.tmp 78) rfl wr.heap.size #[.bool (X 0),.slice (A 0) (M 0) (D 0),.bool (X 1),.slice (A 1) (M 1) (D 1),.bool (X 2),.slice (A 2) (M 2) (D 2),.bool (X 3),.slice (A 3) (M 3) (D 3),.bool (X 4),.slice (A 4) (M 4) (D 4),.bool (X 5),.slice (A 5) (M 5) (D 5),.bool (X 6),.slice (A 6) (M 6) (D 6),.bool (X 7),.slice (A 7) (M 7) (D 7)] (by kernel_rfl) (by kernel_rfl) 140 #[.bool false,.slice none 0 0,.bool false,.slice none 0 0,.bool false,.slice none 0 0,.bool false,.slice none 0 0,.bool false,.slice none 0 0,.bool false,.slice none 0 0,.bool false,.slice none 0 0,.bool false,.slice none 0 0] (heap_new _ _ rfl) (by kernel_rfl) (by kernel_rfl) (by kernel_rfl) ?_)
      refine name_world ?_;intro W0 hW0;clear f0 f1 f2 f3 f4 f5 f6 f7 f8 f9 f10 f11 f12 f13 f14 f15;have HKX:Hid (W0.heap[wr.heap.size]?=some (.cells #[.bool (X 0),.slice (A 0) (M 0) (D 0),.bool (X 1),.slice (A 1) (M 1) (D 1),.bool (X 2),.slice (A 2) (M 2) (D 2),.bool (X 3),.slice (A 3) (M 3) (D 3),.bool (X 4),.slice (A 4) (M 4) (D 4),.bool (X 5),.slice (A 5) (M 5) (D 5),.bool (X 6),.slice (A 6) (M 6) (D 6),.bool (X 7),.slice (A 7) (M 7) (D 7)] 140)):=by show _=_;rw[hW0];exact setRow_heap _ _ _ _ _ _ (heap_new _ _ rfl)
      have HE0:Hid (Bel wr.heap.size wr W0):=by show Bel _ _ _;rw[hW0];exact Bel.new.setRow NL _
      clear hW0;obtain⟨BX,hBX⟩:∃B,B=wr.heap.size:=⟨_,rfl⟩
      have HBX:=LH hBX;rw[<-hBX]at HKX|-;clear hBX;have lX:=BlkT.lt ⟨_,_,HKX.out⟩;have l6:=BlkT.lt ⟨_,_,HKR6.out⟩;have HBW0:Hid (Bel w6.heap.size w6 W0):=HBR.out.next HBR.out.size HE0.out;have HK4:=LH ((HBW0.out.block _ l6).trans HKR6.out);have HPW:Hid (Pres 3 wr W0):=Pres.below HE0.out.toBelow;have hi64:i<=1000:=by have:=HK64.out;omega
      refine ruReg_c _ _ _ _ _ _ _ _ _ _ _ _ _ _ _ _ _ _ _ _ _ _ _ _ _ _ _ _ _ _ _ _ _ _ _ _ _ _ _ _ _ _ _ _ _ _ _ _ _ _ _ _ _ _ _ _ _ _ _ _ _ _ _ _ _ _ _ _ _ _ _ _ _ _ _ _ _ _ _ _ _ _ _ _ _ _ _ _ _ _ _ _ _ _ _ _ _ _ _ _ _ _ _ _ _ _ _ _ _ _ _ _ _ _ _ _ _ _ _ _ _ _ _ _ _ _ _ _ _ _ _ _ _ _ _ _ _ _ _ _ _ _ _ _ _ _ _ _ _ _ _ _ _ _ _ _ _ _ _ _ _ HK4 HKX (LH (HW6.out.pres HBW0.out.pb)) (LH (RP.mk (Q0.out.pres HPW.out) (Q1.out.pres HPW.out))) HX.out HZ.out HFH.out.x HFH.out.z (QF.nat hi64) hi64 (fun v79 v80 v81 v82 v83 v84 v85 e0 e1 e2 e3 e4 e5 e6 e7 w7 hpv hb7=>?_)
      obtain⟨s0,t0,j0,z0,s1,t1,j1,z1,s2,t2,j2,z2,s3,t3,j3,z3,ev,hq0,hq1⟩:=RP.cells hpv;simp only[Value.agg.injEq,Array.mk.injEq,List.cons.injEq,and_true]at ev;obtain⟨rfl,rfl,rfl,rfl,rfl,rfl,rfl,rfl⟩:=ev;obtain⟨W5,hW5⟩:∃W,W=w7.setCells BX 0 [.bool s0,.slice t0 j0 z0,.bool s1,.slice t1 j1 z1,.bool s2,.slice t2 j2 z2,.bool s3,.slice t3 j3 z3]:=⟨_,rfl⟩
      rw[<-hW5];rw[setCells_eq]at hW5;have hx5:=(hb7.block BX lX).trans HKX.out;have HX5:Hid (W5.heap[BX]?=some (.cells #[.bool s0,.slice t0 j0 z0,.bool s1,.slice t1 j1 z1,.bool s2,.slice t2 j2 z2,.bool s3,.slice t3 j3 z3,.bool (X 4),.slice (A 4) (M 4) (D 4),.bool (X 5),.slice (A 5) (M 5) (D 5),.bool (X 6),.slice (A 6) (M 6) (D 6),.bool (X 7),.slice (A 7) (M 7) (D 7)] 140)):=by show _=_;rw[hW5];exact(setsL_heap _ hx5).trans (by kernel_rfl)
      have HP5:Hid (Pres 3 w7 W5):=by show Pres _ _ _;rw[hW5];exact Pres.setsL _ hx5 (by decide)
      have HB5:Hid (Bel w6.heap.size w6 W5):=by show Bel _ _ _;rw[hW5];exact Bel.setsL _ (HBW0.out.next HBW0.out.size hb7) (by rw[HBX.out];exact hbrs)
      have HR5:Hid (Bel wr.heap.size wr W5):=by show Bel _ _ _;rw[hW5];exact Bel.setsL _ (HE0.out.next HE0.out.size hb7) (by rw[HBX.out];exact Nat.le_refl _)
      have HPB:Hid (Pres 3 wr W5):=Pres.below HR5.out.toBelow;have K0:=LH (hq0.pres HP5.out);have K1:=LH (hq1.pres HP5.out);have K2:=LH (Q2.out.pres HPB.out);have K3:=LH (Q3.out.pres HPB.out);obtain⟨f,ho,hh⟩:=HROW.out.bel HR5.out;rw[HL.out]at ho;have HO:=LH (ho.alloc (.cells #[.bool s0,.slice t0 j0 z0,.bool s1,.slice t1 j1 z1,.bool s2,.slice t2 j2 z2,.bool s3,.slice t3 j3 z3,.bool (X 4),.slice (A 4) (M 4) (D 4),.bool (X 5),.slice (A 5) (M 5) (D 5),.bool (X 6),.slice (A 6) (M 6) (D 6),.bool (X 7),.slice (A 7) (M 7) (D 7)] 140))
      have HHH:=LH hh;have hz5:w6.heap.size<=W5.heap.size+1:=by have:=HB5.out.size;omega
      clear hW5 hx5 hpv hb7 hq0 hq1 Q0 Q1 Q2 Q3 HPB HP5 HR5 HROW HKX HK4 HBW0 HE0 HPW ho hh lX l6;obtain⟨p0,p1,p2,p3,p4,p5,p6,p7,p8,p9,p10,p11,p12,p13,p14,p15,-⟩:=row16f HX5.out
      go_upto_region 19 with(at_builtin;refine wpList_append_fn rfl (.tmp 87) (.tmp 89) 45 rfl w6.heap.size Tryz.underlying45 infoRHold rfl (by decide) rfl HO.out rfl (cells_lit (heap_new _ _ rfl) rfl) (one_lit rfl) (by unfold maxLen;omega) (by omega) (by simpa using hz5) ?_;intro v' w8 hown hgrow hdr)
      have ho1:=hown;rw[<-HL.out]at ho1;have HR8:Hid (RowR w6.heap.size w8 v' ((unrL x z m i++(m.take j).map (moved x z i))++[moved x z i h])):=RowR.snoc ho1 HHH.out ⟨K0.out,K1.out,K2.out,K3.out⟩ ((Pres.alloc _ _).trans (Pres.grownS HO.out hgrow (by decide)));have HB8:Hid (Bel w6.heap.size w6 w8):=(HB5.out.alloc HB5.out.size _).grownS HO.out hgrow hdr (by simpa using hz5) NL;clear ho1 hown hgrow hdr HO HHH K0 K1 K2 K3 HB5 HX5 p0 p1 p2 p3 p4 p5 p6 p7 p8 p9 p10 p11 p12 p13 p14 p15
      go_wp2
      go_roundg (n-(j+1))
      case rel=>exact⟨j+1,rfl,by omega,by push_cast;rfl,by rw[HTS.out,<-List.append_assoc];exact HR8.out,HB8.out⟩
      case measure=>omega
     .have h:=hrow;rw[List.take_of_length_le (by rw[HMN.out];omega),<-unrL_succ]at h;have HR8:=LH h;have HB8:=LH hbr;have hk64:=HK64.out;clear h hrow hbr;go_wp2
      go_roundg (k-(i+1))
      case rel=>exact⟨i+1,rfl,by omega,by push_cast;rfl,HR8.out,HB8.out⟩
      case measure=>omega
   .obtain rfl:i=k:=by omega
    obtain⟨bo,bc,bg,rfl,hbc,hbh⟩:=HA.out.holds;obtain⟨L,hL⟩:∃L,L=unrL x z m i:=⟨_,rfl⟩
    have HLF:Hid (∀q,q<L.length->HoldF 20 (L.getD q hold0)):=by rw[hL];exact unrL_F HF.out HX.out HZ.out (by have:=HK64.out;omega)
    have hL64:L.length<=64:=by rw[hL,unrL_length,HMN.out];exact HKN.out
    rw[<-hL]at hbc hbh HEE HE26|-;have HHL:=LH hbh;have HCL:=LH hbc;have HL64:=LH hL64;clear hbh hbc HA hL hL64
    go_wp2_with fail
    refine(refMap_c HHL.out HLF.out HCL.out (by decide)).mono ?_;rintro e w9 ⟨rfl,hb9⟩;have HB9:Hid (Bel w.heap.size w w9):=(HB6.out.next HB6.out.size HW.out).next (HB6.out.next HB6.out.size HW.out).size hb9;have HHL9:=LH (HHL.out.bel hb9)
    have HE29:Hid (E=0->∃ao' cap' g',vm=.slice ao' L.length cap'/\L.length<=cap'/\HoldsV w9 ao' L g'):=fun h=>by
     obtain⟨p1,p2,p3,p4,p5,p6⟩:=HE26.out h;exact⟨p1,p2,p3,p4,p5,(p6.bel HW.out).bel hb9⟩
    clear hb9 HE26 HHL
    by_cases hcl:ckMap L=0
    .obtain rfl:E=0:=HEE.out.trans hcl;obtain⟨ao',cap',g',rfl,hc',hh'⟩:=HE29.out rfl;rw[hcl];have HH9:=LH hh';obtain⟨N,hN⟩:∃N,N=L.length:=⟨_,rfl⟩
     have HNN:=LH hN;rw[<-hN];have hN64:N<=64:=by rw[hN];exact HL64.out
     clear HEE hcl HE29 HE1 hh' hc' hN;go_wp2
     go_loopg [18] N (fun g s18 wr=>∃q:Nat,g=N-q/\q<=N/\s18=.int .i64 q/\Bel w9.heap.size w9 wr)
     case atStart=>exact⟨0,rfl,Nat.zero_le _,rfl,Bel.refl _ _⟩
     case round=>
      obtain⟨q,hgq,hq,rfl,hbr⟩:=hrel
      by_cases hqn:q<N
      .obtain⟨b,o,rfl,hbl,y0,b0,m0,d0,j0,y1,b1,m1,d1,j1,y2,b2,m2,d2,j2,y3,b3,m3,d3,j3,f0,f1,f2,f3,f4,f5,f6,f7,f8,f9,f10,f11,q0,q1,q2,q3⟩:=(HH9.out.bel hbr).el (i:=q) (by rw[<-HNN.out];exact hqn);obtain⟨b',o',rfl,hbl',X,A,M,D,g0,g1,g2,g3,g4,g5,g6,g7,g8,g9,g10,g11,g12,g13,g14,g15,p0,p1,p2,p3⟩:=(HHL9.out.bel hbr).el (i:=q) (by rw[<-HNN.out];exact hqn);have hF9:=HLF.out q (by rw[<-HNN.out];exact hqn);have HBR:=LH hbr
       go_upto_region 32 with fail
       refine cmReg_c _ _ _ _ _ _ _ _ _ _ _ _ _ _ _ _ _ _ _ _ _ _ _ _ _ _ _ _ _ _ _ _ _ _ _ _ _ _ _ _ _ _ _ _ _ _ _ _ _ _ _ _ _ _ _ _ _ _ _ _ _ _ _ _ _ _ _ _ _ _ _ _ _ _ _ _ _ _ _ _ _ _ _ _ _ _ _ _ _ _ _ _ _ _ _ _ _ _ _ _ _ _ _ _ _ _ _ _ _ _ _ _ _ _ _ _ _ _ _ _ _ _ _ _ _ _ _ _ _ _ _ _ _ _ _ _ _ _ _ _ _ _ _ _ _ _ _ _ _ _ _ _ _ _ _ _ _ _ _ _ _ hqn hqn hbl hbl' f0 f1 f2 f3 f4 f5 f6 f7 f8 f9 f10 f11 g0 g1 g2 g3 g4 g5 g6 g7 g8 g9 g10 g11 g12 g13 g14 g15 (LH (PV.mk q0 q1)) (LH (RP.mk p0 p1)) (LH q2) (LH p2) (LH q3) (LH p3) hF9 (fun _ _ _ _ _ _ _ _ _ _ _ _ _ _ _ _ _ _ _ _ _ _ _ _ _ _ _ _ _ _ _ _ _ _ _ _ _ _ _ w10 hb10=>?_)
       have HB10:Hid (Bel w9.heap.size w9 w10):=HBR.out.next HBR.out.size hb10;clear f0 f1 f2 f3 f4 f5 f6 f7 f8 f9 f10 f11 g0 g1 g2 g3 g4 g5 g6 g7 g8 g9 g10 g11 g12 g13 g14 g15 q0 q1 q2 q3 p0 p1 p2 p3 hF9 hbr hb10 hbl hbl';go_wp2
       go_roundg (N-(q+1))
       case rel=>exact⟨q+1,rfl,by omega,by push_cast;rfl,HB10.out⟩
       case measure=>omega
      .have HBR:=LH hbr;clear hbr
       go_wp2_with fail
       refine(HK _).mono ?_;rintro e w10 ⟨rfl,hb10⟩;have HB10:Hid (Bel w.heap.size w w10):=(HB9.out.next HB9.out.size HBR.out).next (HB9.out.next HB9.out.size HBR.out).size hb10;clear hb10;go_wp2;go_ret;exact⟨rfl,HB10.out⟩
    .have h2:=ckMap_two hcl;obtain rfl:E=2:=HEE.out.trans h2;obtain rfl:vm=.slice none 0 0:=HE1.out (by decide);rw[h2];clear HEE hcl h2 HE1 HE29
     go_wp2_with fail
     refine(HK _).mono ?_;rintro e w10 ⟨rfl,hb10⟩;have HB10:Hid (Bel w.heap.size w w10):=HB9.out.next HB9.out.size hb10;clear hb10;go_wp2;go_ret;exact⟨rfl,HB10.out⟩
 all_goals obtain rfl:vm=.slice none 0 0:=HE1.out (by decide)
 all_goals clear HE1 HE26
 all_goals go_wp2
 all_goals go_loopg [14,15] 0 (fun g s14 s15 wr=>g=0/\s14=.slice none 0 0/\s15=.int .i64 0/\Bel w.heap.size w wr)
 all_goals try (case atStart=>exact⟨rfl,rfl,rfl,HB6.out⟩)
 all_goals
  obtain⟨rfl,rfl,rfl,hbr⟩:=hrel;have HBR:=LH hbr;clear hbr
  go_wp2_with fail
  refine(HK _).mono ?_;rintro e w7 ⟨rfl,hb7⟩;have HB7:Hid (Bel w.heap.size w w7):=HBR.out.next HBR.out.size hb7;clear hb7;go_wp2;go_ret;exact⟨rfl,HB7.out⟩
end Go.Proofs.YtlgjakpoaelehaaGreat.D4
