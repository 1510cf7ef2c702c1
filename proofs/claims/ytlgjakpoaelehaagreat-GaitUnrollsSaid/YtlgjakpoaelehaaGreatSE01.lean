/- Contracts and plain laws, merged: N1 N2 -/
import Derived.Test.YtlgjakpoaelehaaGreatSB08
import Derived.Test.YtlgjakpoaelehaaGreatSB13
import Derived.Test.YtlgjakpoaelehaaGreatSD03
namespace Go.Proofs.YtlgjakpoaelehaaGreat.D4
open Go.RowKit
set_option maxRecDepth 100000
set_option maxHeartbeats 4000000
theorem equal_c {w:World}{va vb:Value}{xa za xb zb:Rat}{L M:Nat}(ha:RP w va xa za)(hb:RP w vb xb zb)(hXA:QF L xa)(hZA:QF L za)(hXB:QF M xb)(hZB:QF M zb)(hs:L+M<=1000000000):
 Calls Tryz.prog 52 #[va,vb] w fun e w'=>e=.returned (.bool (!apartB xa za xb zb))/\Bel w.heap.size w w':=by
 obtain⟨b1,a1,n1,c1,b2,a2,n2,c2,b3,a3,n3,c3,b4,a4,n4,c4,rfl,h1,h2⟩:=RP.cells ha;obtain⟨b5,a5,n5,c5,b6,a6,n6,c6,b7,a7,n7,c7,b8,a8,n8,c8,rfl,h3,h4⟩:=RP.cells hb;have HXA:=LH hXA;have HZA:=LH hZA;have HXB:=LH hXB;have HZB:=LH hZB;have H1:=LH h1;have H2:=LH h2;have H3:=LH h3;have H4:=LH h4;clear h1 h2 h3 h4 ha hb hXA hZA hXB hZB
 go_enter Tryz.func52,Tryz.ntmps52
 go_wp2_with fail
 refine(rcmp_c (H1.out.pres ((Pres.alloc _ _).trans (Pres.alloc _ _))) (H3.out.pres ((Pres.alloc _ _).trans (Pres.alloc _ _))) HXA.out HXB.out hs).mono ?_;rintro e w1 ⟨rfl,hb1⟩;obtain⟨p0,p1,p2,p3,p4,p5,p6,p7,-,-,-,-,-,-,-,-⟩:=row8 ((hb1.block w.heap.size Sd1).trans ((heap_old _ _ Sd1).trans (heap_new _ _ Sd1)));obtain⟨q0,q1,q2,q3,q4,q5,q6,q7,-,-,-,-,-,-,-,-⟩:=row8 ((hb1.block (w.heap.size+1) Sd1).trans (heap_new _ _ Sd1))
 have HB1:Hid (Bel w.heap.size w w1):=(Bel.new.alloc Sd1 _).trans (hb1.mono Sd1);have HP1:Hid (Pres 3 w w1):=((Pres.alloc _ _).trans (Pres.alloc _ _)).trans hb1.pb;clear hb1
 by_cases hc:cmpR xa xb=0
 .have hb:(cmpR xa xb==0)=true:=by simpa using hc
  have HR:Hid (apartB xa za xb zb=(cmpR za zb !=0)):=by show _=_;unfold apartB;simp[hc]
  generalize cmpR xa xb=c1 at hb|-;clear hc
  go_wp2_with fail
  refine(rcmp_c (H2.out.pres HP1.out) (H4.out.pres HP1.out) HZA.out HZB.out hs).mono ?_;rintro e w2 ⟨rfl,hb2⟩;generalize cmpR za zb=c2 at HR|-;go_wp2;go_ret;exact⟨by rw[HR.out,bne,Bool.not_not];rfl,HB1.out.trans (hb2.mono HB1.out.size)⟩
 .have hb:(cmpR xa xb==0)=false:=by simpa using hc
  have HR:Hid (apartB xa za xb zb=true):=by show _=_;unfold apartB;simp[hc]
  generalize cmpR xa xb=c1 at hb|-;clear hc;go_wp2;go_ret;exact⟨by rw[HR.out];rfl,HB1.out⟩
structure RHoldAt (w:World) (g:Nat->Value) (j:Nat) (h:HoldD):Prop where
 x:RQ w (.agg #[g j,g (j+1),g (j+2),g (j+3)]) h.x
 z:RQ w (.agg #[g (j+4),g (j+5),g (j+6),g (j+7)]) h.z
 b:RQ w (.agg #[g (j+8),g (j+9),g (j+10),g (j+11)]) h.b
 c:RQ w (.agg #[g (j+12),g (j+13),g (j+14),g (j+15)]) h.c
theorem RHoldAt.pres {w w':World}{g:Nat->Value}{j:Nat}{h:HoldD}(hh:RHoldAt w g j h)(hp:Pres 3 w w'):RHoldAt w' g j h:=
 ⟨hh.x.pres hp,hh.z.pres hp,hh.b.pres hp,hh.c.pres hp⟩
structure RHoldsV (w:World) (ao:Option Addr) (m:List HoldD) (g:Nat->Value):Prop where
 cells:CellsAt 140 w ao (m.length*16) g
 at':∀i,i<m.length->RHoldAt w g (i*16) (m.getD i hold0)
theorem RHoldsV.bel {w w':World}{ao:Option Addr}{m:List HoldD}{g:Nat->Value}(h:RHoldsV w ao m g)(hb:Bel w.heap.size w w'):RHoldsV w' ao m g:=
 ⟨h.cells.bel hb,fun i hi=>(h.at' i hi).pres hb.pb⟩
theorem RHoldsV.el {w:World}{ao:Option Addr}{m:List HoldD}{g:Nat->Value}(h:RHoldsV w ao m g){i:Nat}(hi:i<m.length):
 ∃bl o,ao=some ⟨bl,o,none⟩/\bl<w.heap.size/\∃(x:Nat->Bool) (a:Nat->Option Addr) (n c:Nat->Nat),
  w.cell? ⟨bl,o+i*16,none⟩=some (.bool (x 0))/\w.cell? ⟨bl,o+i*16+1,none⟩=some (.slice (a 0) (n 0) (c 0))/\w.cell? ⟨bl,o+i*16+2,none⟩=some (.bool (x 1))/\w.cell? ⟨bl,o+i*16+3,none⟩=some (.slice (a 1) (n 1) (c 1))/\w.cell? ⟨bl,o+i*16+4,none⟩=some (.bool (x 2))/\w.cell? ⟨bl,o+i*16+5,none⟩=some (.slice (a 2) (n 2) (c 2))/\w.cell? ⟨bl,o+i*16+6,none⟩=some (.bool (x 3))/\w.cell? ⟨bl,o+i*16+7,none⟩=some (.slice (a 3) (n 3) (c 3))/\w.cell? ⟨bl,o+i*16+8,none⟩=some (.bool (x 4))/\w.cell? ⟨bl,o+i*16+9,none⟩=some (.slice (a 4) (n 4) (c 4))/\w.cell? ⟨bl,o+i*16+10,none⟩=some (.bool (x 5))/\w.cell? ⟨bl,o+i*16+11,none⟩=some (.slice (a 5) (n 5) (c 5))/\w.cell? ⟨bl,o+i*16+12,none⟩=some (.bool (x 6))/\w.cell? ⟨bl,o+i*16+13,none⟩=some (.slice (a 6) (n 6) (c 6))/\w.cell? ⟨bl,o+i*16+14,none⟩=some (.bool (x 7))/\w.cell? ⟨bl,o+i*16+15,none⟩=some (.slice (a 7) (n 7) (c 7))/\
  RQ w (.agg #[.bool (x 0),.slice (a 0) (n 0) (c 0),.bool (x 1),.slice (a 1) (n 1) (c 1)]) (m.getD i hold0).x/\RQ w (.agg #[.bool (x 2),.slice (a 2) (n 2) (c 2),.bool (x 3),.slice (a 3) (n 3) (c 3)]) (m.getD i hold0).z/\
  RQ w (.agg #[.bool (x 4),.slice (a 4) (n 4) (c 4),.bool (x 5),.slice (a 5) (n 5) (c 5)]) (m.getD i hold0).b/\RQ w (.agg #[.bool (x 6),.slice (a 6) (n 6) (c 6),.bool (x 7),.slice (a 7) (n 7) (c 7)]) (m.getD i hold0).c:=by
 obtain⟨q0,q1,q2,q3⟩:=h.at' i hi;obtain⟨bl,o,rfl,hb,hcell⟩:=h.cells.open (by omega);obtain⟨x0,a0,n0,c0,x1,a1,n1,c1,e0⟩:=q0.cells;obtain⟨x2,a2,n2,c2,x3,a3,n3,c3,e1⟩:=q1.cells;obtain⟨x4,a4,n4,c4,x5,a5,n5,c5,e2⟩:=q2.cells;obtain⟨x6,a6,n6,c6,x7,a7,n7,c7,e3⟩:=q3.cells;rw[e0]at q0;rw[e1]at q1;rw[e2]at q2;rw[e3]at q3;simp only[Value.agg.injEq,Array.mk.injEq,List.cons.injEq,and_true]at e0 e1 e2 e3;obtain⟨f0,f1,f2,f3⟩:=e0
 obtain⟨f4,f5,f6,f7⟩:=e1;obtain⟨f8,f9,f10,f11⟩:=e2;obtain⟨f12,f13,f14,f15⟩:=e3
 have H:∀j v,j<16->g (i*16+j)=v->w.cell? ⟨bl,o+i*16+j,none⟩=some v:=fun j v hj e=>by
  rw[<-e,<-hcell (i*16+j) (by omega),Nat.add_assoc]
 refine⟨bl,o,rfl,hb,fun j=>[x0,x1,x2,x3,x4,x5,x6,x7].getD j false,fun j=>[a0,a1,a2,a3,a4,a5,a6,a7].getD j none,fun j=>[n0,n1,n2,n3,n4,n5,n6,n7].getD j 0,fun j=>[c0,c1,c2,c3,c4,c5,c6,c7].getD j 0,H 0 _ (by omega) f0,H 1 _ (by omega) f1,H 2 _ (by omega) f2,H 3 _ (by omega) f3,H 4 _ (by omega) f4,H 5 _ (by omega) f5,H 6 _ (by omega) f6,H 7 _ (by omega) f7,H 8 _ (by omega) f8,H 9 _ (by omega) f9,H 10 _ (by omega) f10,H 11 _ (by omega) f11,H 12 _ (by omega) f12,H 13 _ (by omega) f13,H 14 _ (by omega) f14,H 15 _ (by omega) f15,q0,q1,q2,q3⟩
theorem refMap_loop {w:World}{ao:Option Addr}{cap L:Nat}{m:List HoldD}{g:Nat->Value}(hm:RHoldsV w ao m g)(hF:∀i,i<m.length->HoldF L (m.getD i hold0))(hcap:m.length<=cap)(hL:L<=100000000)(h1:1<=m.length)(h64:m.length<=64):
 Calls Tryz.prog 27 #[.slice ao m.length cap] w fun e w'=>e=.returned (.int .i64 (mapRes m))/\Bel w.heap.size w w':=by
 have HM:=LH hm;have HF:=LH hF;clear hm hF;obtain⟨n,hn⟩:∃n,n=m.length:=⟨_,rfl⟩
 have HN:=LH hn;rw[<-hn]at h1 h64 hcap|-;clear hn;have d3:decide ((n:Int)<1)=false:=by simp;omega
 have d4:decide ((64:Int)<n)=false:=by simp;omega
 go_enter Tryz.func27,Tryz.ntmps27
 go_wp2
 go_loopg [3] n (fun g s wr=>∃i:Nat,g=n-i/\i<=n/\s=.int .i64 i/\(∀j,j<i->holdOk m j=true)/\Bel w.heap.size w wr)
 case atStart=>exact⟨0,rfl,Nat.zero_le _,rfl,fun j hj=>by omega,Bel.refl _ _⟩
 case round=>
  obtain⟨i,hg,hi,rfl,hj,hbr⟩:=hrel;have HJ:=LH hj;have HB:=LH hbr;clear hj
  by_cases hlt:i<n
  .obtain⟨b,o,rfl,hbl,x,a,nn,c,f0,f1,f2,f3,f4,f5,f6,f7,f8,f9,f10,f11,f12,f13,f14,f15,q0,q1,q2,q3⟩:=(HM.out.bel (by exact hbr)).el (i:=i) (by rw[<-HN.out];exact hlt);obtain⟨h,hh⟩:∃h,h=m.getD i hold0:=⟨_,rfl⟩
   have HH:=LH hh;have HFI:=LH (HF.out i (by rw[<-HN.out];exact hlt));rw[<-hh]at q0 q1 q2 q3;rw[<-HH.out]at HFI;have Q2:=LH q2;have Q3:=LH q3;clear hh q0 q1 q2 q3 hbr f0 f1 f2 f3 f4 f5 f6 f7;obtain⟨wo,rfl⟩:∃wo:World,wo=wr:=⟨_,rfl⟩
   go_wp2_with fail
   refine(rsign_c Q2.out HFI.out.b (by omega)).mono ?_;rintro e w1 ⟨rfl,hb1⟩;have HB1:=LH hb1
   by_cases hs:ratSign h.b<0
   .have ds:decide (ratSign h.b<0)=true:=decide_eq_true hs;have HE:Hid (mapRes m=2):=mapRes_bad (by rw[<-HN.out];exact hlt) (holdOk_bear (by rw[<-HH.out];exact hs));clear hs hb1;go_wp2;go_ret;exact⟨by rw[HE.out];rfl,HB.out.trans (HB1.out.mono HB.out.size)⟩
   have ds:decide (ratSign h.b<0)=false:=decide_eq_false hs;have HS:=LH hs;have g12:=(hb1.cell hbl).trans f12;have g13:=(hb1.cell hbl).trans f13;have g14:=(hb1.cell hbl).trans f14;have g15:=(hb1.cell hbl).trans f15;clear hs hb1 f8 f9 f10 f11 f12 f13 f14 f15
   go_wp2_with fail
   refine(rsign_c (Q3.out.pres HB1.out.pb) HFI.out.c (by omega)).mono ?_;rintro e w2 ⟨rfl,hb2⟩;have HT2:Hid (Bel w.heap.size w w2):=(HB.out.trans (HB1.out.mono HB.out.size)).next (HB.out.trans (HB1.out.mono HB.out.size)).size hb2;clear hb2 g12 g13 g14 g15 ds
   by_cases hs:ratSign h.c<0
   .have ds:decide (ratSign h.c<0)=true:=decide_eq_true hs;have HE:Hid (mapRes m=2):=mapRes_bad (by rw[<-HN.out];exact hlt) (holdOk_cost (by rw[<-HH.out];exact hs));clear hs;go_wp2;go_ret;exact⟨by rw[HE.out];rfl,HT2.out⟩
   have ds:decide (ratSign h.c<0)=false:=decide_eq_false hs;have HS2:=LH hs;clear hs;go_wp2
   go_loopg [4] i (fun g s wr=>∃k:Nat,g=i-k/\k<=i/\s=.int .i64 k/\(∀j,j<k->apartB h.x h.z (m.getD j hold0).x (m.getD j hold0).z=true)/\Bel w.heap.size w wr)
   case atStart=>exact⟨0,rfl,Nat.zero_le _,rfl,fun j hj=>by omega,HT2.out⟩
   case round=>
    obtain⟨k,hgk,hk,rfl,hj,hbr⟩:=hrel;have HJ2:=LH hj;have HT3:=LH hbr;clear hj hbr
    by_cases hkl:k<i
    .obtain⟨W0,rfl⟩:∃wo:World,wo=wr:=⟨_,rfl⟩
     obtain⟨b',o',eb,hbl1,x',a',nn',c',f0,f1,f2,f3,f4,f5,f6,f7,f8,f9,f10,f11,f12,f13,f14,f15,q0,q1,q2,q3⟩:=(HM.out.bel HT3.out).el (i:=i) (by rw[<-HN.out];omega);obtain⟨rfl,rfl⟩:b=b'/\o=o':=by cases eb;exact⟨rfl,rfl⟩
     obtain⟨b',o',eb',hbl2,y,d,mm,l,g0,g1,g2,g3,g4,g5,g6,g7,g8,g9,g10,g11,g12,g13,g14,g15,r0,r1,r2,r3⟩:=(HM.out.bel HT3.out).el (i:=k) (by rw[<-HN.out];omega);obtain⟨rfl,rfl⟩:b=b'/\o=o':=by cases eb';exact⟨rfl,rfl⟩
     obtain⟨h',hh'⟩:∃h,h=m.getD k hold0:=⟨_,rfl⟩
     have HH':=LH hh';have HFK:=LH (HF.out k (by rw[<-HN.out];omega));rw[<-hh']at r0 r1;rw[<-HH.out]at q0 q1;rw[<-HH'.out]at HFK;have Q0:=LH q0;have Q1:=LH q1;have R0:=LH r0;have R1:=LH r1;have hst:SHs w W0 W0.heap.size W0:=SHs.start HT3.out.size NL HT3.out;have hkn:k<n:=by omega
     clear eb eb' hh' q0 q1 q2 q3 r0 r1 r2 r3 f8 f9 f10 f11 f12 f13 f14 f15 g8 g9 g10 g11 g12 g13 g14 g15;go_wp2
     go_region_held3 (fun w'=>(∀(b o:Nat),b<W0.heap.size->w'.cell? ⟨b,o,none⟩=W0.cell? ⟨b,o,none⟩)/\SHs w W0 (W0.heap.size) w') (exact K2s)
      ((go_at_call 52;(try (rename _/\_=>hh;rcases hh with⟨hSc,hSb⟩));refine(equal_c (RP.mk (Q0.out.pres hSb.near.pb) (Q1.out.pres hSb.near.pb)) (RP.mk (R0.out.pres hSb.near.pb) (R1.out.pres hSb.near.pb)) HFI.out.x HFI.out.z HFK.out.x HFK.out.z (by omega)).mono ?_;rintro e w3 ⟨rfl,hb3⟩))
     all_goals
      (try (rename _/\_=>hh;rcases hh with⟨hSc,hSb⟩))
      have HB4:=LH hSb.base;obtain⟨p,hp⟩:∃p,p=apartB h.x h.z h'.x h'.z:=⟨_,rfl⟩
      have HP:=LH hp;rw[<-hp];clear hp
      cases p
      .have HE:Hid (mapRes m=2):=mapRes_bad (by rw[<-HN.out];exact hlt) (holdOk_near hkl (by rw[<-HH.out,<-HH'.out];exact HP.out.symm));go_wp2;go_ret;exact⟨by rw[HE.out];rfl,HB4.out⟩
      .go_wp2
       go_roundg (i-(k+1))
       case rel=>exact⟨k+1,rfl,by omega,by push_cast;rfl,(fun j hj=>by
        rcases Nat.lt_or_ge j k with h|h
        .exact HJ2.out j h
        .obtain rfl:j=k:=by omega
         rw[<-HH'.out];exact HP.out.symm),HB4.out⟩
       case measure=>omega
    .obtain rfl:k=i:=by omega
     have HOK:Hid (holdOk m k=true):=holdOk_good (by rw[<-HH.out];have:0<=ratSign h.b:=HS.out;omega) (by rw[<-HH.out];have:0<=ratSign h.c:=HS2.out;omega) (by rw[<-HH.out];exact HJ2.out);go_wp2
     go_roundg (n-(k+1))
     case rel=>exact⟨k+1,rfl,by omega,by push_cast;rfl,(fun j hj=>by
      rcases Nat.lt_or_ge j k with h|h
      .exact HJ.out j h
      .obtain rfl:j=k:=by omega
       exact HOK.out),HT3.out⟩
     case measure=>omega
  .obtain rfl:i=n:=by omega
   have HE:Hid (mapRes m=0):=mapRes_good (by rw[<-HN.out];exact HJ.out);clear hbr;go_wp2;go_ret;exact⟨by rw[HE.out];rfl,HB.out⟩
theorem refMap_c {w:World}{ao:Option Addr}{cap L:Nat}{m:List HoldD}{g:Nat->Value}(hm:RHoldsV w ao m g)(hF:∀i,i<m.length->HoldF L (m.getD i hold0))(hcap:m.length<=cap)(hL:L<=100000000):
 Calls Tryz.prog 27 #[.slice ao m.length cap] w fun e w'=>e=.returned (.int .i64 (ckMap m))/\Bel w.heap.size w w':=by
 by_cases hn:m.length<1\/64<m.length
 .have HE:Hid (ckMap m=2):=by show _=_;unfold ckMap;rw[if_pos hn]
  rcases hn with hn|hn
  .have d3:decide ((m.length:Int)<1)=true:=by simp;omega
   generalize m.length=n at d3 hn|-;clear hF hm hn
   go_enter Tryz.func27,Tryz.ntmps27
   go_wp2;go_ret;exact⟨by rw[HE.out];rfl,Bel.refl _ _⟩
  .have d3:decide ((m.length:Int)<1)=false:=by simp;omega
   have d4:decide (64<(m.length:Int))=true:=by simp;omega
   generalize m.length=n at d3 d4 hn|-;clear hF hm hn
   go_enter Tryz.func27,Tryz.ntmps27
   go_wp2;go_ret;exact⟨by rw[HE.out];rfl,Bel.refl _ _⟩
 .have e:ckMap m=mapRes m:=by unfold ckMap;rw[if_neg hn]
  rw[e];exact refMap_loop hm hF hcap hL (by omega) (by omega)
def setsL (w:World)(b:Nat):List (Nat×Value)->World
 |[]=>w
 |(o,v)::l=>setsL (w.setCell ⟨b,o,none⟩ v) b l
def setsA (c:Array Value):List (Nat×Value)->Array Value
 |[]=>c
 |(o,v)::l=>setsA (c.setIfInBounds o v) l
theorem setsL_heap {w:World}{b:Nat}{cur:Array Value}{T:TypeId}{fr:Nat×Nat}(l:List (Nat×Value))(h:w.heap[b]?=some (.cells cur T fr)):(setsL w b l).heap[b]?=some (.cells (setsA cur l) T fr):=by
 induction l generalizing w cur with
 |nil=>exact h
 |cons p l ih=>exact ih (by simp[World.setCell,Array.getElem?_modify,h])
theorem setsL_other {w:World}{b k:Nat}(l:List (Nat×Value))(hk:k≠b):(setsL w b l).heap[k]?=w.heap[k]?:=by
 induction l generalizing w with
 |nil=>rfl
 |cons p l ih=>exact(ih).trans (Below.heap_setCell _ _ _ _ hk)
theorem Pres.setsL {T T':TypeId}{w:World}{b:Nat}{cur:Array Value}{fr:Nat×Nat}(l:List (Nat×Value))(h:w.heap[b]?=some (.cells cur T' fr))(hT:T≠T'):Pres T w (setsL w b l):=by
 induction l generalizing w cur with
 |nil=>exact Pres.refl _ _
 |cons p l ih=>exact(Pres.setCell h hT _).trans (ih (w:=w.setCell ⟨b,p.1,none⟩ p.2) (cur:=cur.setIfInBounds p.1 p.2) (by simp[World.setCell,Array.getElem?_modify,h]))
theorem Bel.setsL {N b:Nat}{a w:World}(l:List (Nat×Value))(h:Bel N a w)(hb:N<=b):Bel N a (setsL w b l):=by
 induction l generalizing w with
 |nil=>exact h
 |cons p l ih=>exact ih (h.setCell hb _)
structure NumD where
 n:Int
 d:Int
 p:Nat
structure NumOk (x:NumD):Prop where
 n1:-9223372036854775808<=x.n
 n2:x.n<9223372036854775808
 d1:-9223372036854775808<=x.d
 d2:x.d<9223372036854775808
 p:x.p<256
def NumD.q (x:NumD):Rat:=numVal x.n x.d x.p
theorem NumOk.QF {x:NumD}(h:NumOk x):QF 8 x.q:=numVal_QF h.n1 h.n2 h.d1 h.d2 x.p
def num0:NumD:=⟨0,0,0⟩
structure SpotD where
 x:NumD
 z:NumD
 b:NumD
 c:NumD
def spot0:SpotD:=⟨num0,num0,num0,num0⟩
structure SpotOk (s:SpotD):Prop where
 x:NumOk s.x
 z:NumOk s.z
 b:NumOk s.b
 c:NumOk s.c
def SpotD.hold (s:SpotD):HoldD:=⟨s.x.q,s.z.q,s.b.q,s.c.q⟩
theorem SpotOk.HF {s:SpotD}(h:SpotOk s):HoldF 8 s.hold:=⟨h.x.QF,h.z.QF,h.b.QF,h.c.QF⟩
def NumD.cell (x:NumD):Nat->Value
 |0=>.int .i64 x.n
 |1=>.int .i64 x.d
 |_=>.int .u8 x.p
def SpotD.cell (s:SpotD)(k:Nat):Value:=(match k/3 with|0=>s.x|1=>s.z|2=>s.b|_=>s.c).cell (k%3)
structure SpotsV (T:TypeId) (w:World) (ao:Option Addr) (l:List SpotD):Prop where
 cells:CellsAt T w ao (l.length*12) fun k=>(l.getD (k/12) spot0).cell (k%12)
 ok:∀s∈l,SpotOk s
theorem SpotsV.bel {T:TypeId}{w w':World}{ao:Option Addr}{l:List SpotD}(h:SpotsV T w ao l)(hb:Bel w.heap.size w w'):SpotsV T w' ao l:=⟨h.cells.bel hb,h.ok⟩
theorem SpotsV.el {T:TypeId}{w:World}{ao:Option Addr}{l:List SpotD}(h:SpotsV T w ao l){i:Nat}(hi:i<l.length):
 ∃bl o s,ao=some ⟨bl,o,none⟩/\bl<w.heap.size/\s=l.getD i spot0/\SpotOk s/\w.cell? ⟨bl,o+i*12,none⟩=some (.int .i64 s.x.n)/\w.cell? ⟨bl,o+i*12+1,none⟩=some (.int .i64 s.x.d)/\w.cell? ⟨bl,o+i*12+2,none⟩=some (.int .u8 s.x.p)/\
  w.cell? ⟨bl,o+i*12+3,none⟩=some (.int .i64 s.z.n)/\w.cell? ⟨bl,o+i*12+4,none⟩=some (.int .i64 s.z.d)/\w.cell? ⟨bl,o+i*12+5,none⟩=some (.int .u8 s.z.p)/\
  w.cell? ⟨bl,o+i*12+6,none⟩=some (.int .i64 s.b.n)/\w.cell? ⟨bl,o+i*12+7,none⟩=some (.int .i64 s.b.d)/\w.cell? ⟨bl,o+i*12+8,none⟩=some (.int .u8 s.b.p)/\
  w.cell? ⟨bl,o+i*12+9,none⟩=some (.int .i64 s.c.n)/\w.cell? ⟨bl,o+i*12+10,none⟩=some (.int .i64 s.c.d)/\w.cell? ⟨bl,o+i*12+11,none⟩=some (.int .u8 s.c.p):=by
 obtain⟨bl,o,rfl,hb,hcell⟩:=h.cells.open (by omega)
 have H:∀j,j<12->w.cell? ⟨bl,o+i*12+j,none⟩=some ((l.getD i spot0).cell j):=fun j hj=>by
  have e:=hcell (i*12+j) (by omega);rw[show(i*12+j)/12=i by omega,show(i*12+j)%12=j by omega]at e;rw[Nat.add_assoc];exact e
 have hm:l.getD i spot0∈l:=by rw[List.getD_eq_getElem?_getD,List.getElem?_eq_getElem hi];exact List.getElem_mem hi
 exact⟨bl,o,_,rfl,hb,rfl,h.ok _ hm,H 0 (by omega),H 1 (by omega),H 2 (by omega),H 3 (by omega),H 4 (by omega),H 5 (by omega),H 6 (by omega),H 7 (by omega),H 8 (by omega),H 9 (by omega),H 10 (by omega),H 11 (by omega)⟩
def RowH (base:Nat)(w:World)(v:Value)(m:List HoldD):Prop:=∃f,OwnS 97 12 base w v m.length f/\∀i,i<m.length->HoldAt w f (i*12) (m.getD i hold0)
def RowR (base:Nat)(w:World)(v:Value)(m:List HoldD):Prop:=∃f,OwnS 140 16 base w v m.length f/\∀i,i<m.length->RHoldAt w f (i*16) (m.getD i hold0)
theorem RowH.nil (base:Nat)(w:World):RowH base w (.slice none 0 0) []:=⟨_,OwnS.nil _ _ _ _ (fun _=>undef),fun i hi=>by simp at hi⟩
theorem RowR.nil (base:Nat)(w:World):RowR base w (.slice none 0 0) []:=⟨_,OwnS.nil _ _ _ _ (fun _=>undef),fun i hi=>by simp at hi⟩
theorem RowH.bel {base:Nat}{w w':World}{v:Value}{m:List HoldD}(h:RowH base w v m)(hb:Bel w.heap.size w w'):RowH base w' v m:=by
 obtain⟨f,ho,hh⟩:=h;exact⟨f,ho.bel hb,fun i hi=>(hh i hi).pres hb.pb⟩
theorem RowR.bel {base:Nat}{w w':World}{v:Value}{m:List HoldD}(h:RowR base w v m)(hb:Bel w.heap.size w w'):RowR base w' v m:=by
 obtain⟨f,ho,hh⟩:=h;exact⟨f,ho.bel hb,fun i hi=>(hh i hi).pres hb.pb⟩
theorem RowH.holds {base:Nat}{w:World}{v:Value}{m:List HoldD}(h:RowH base w v m):∃ao cap g,v=.slice ao m.length cap/\m.length<=cap/\HoldsV w ao m g:=by
 obtain⟨f,ho,hh⟩:=h;obtain⟨ao,cap,e,hc,hcells⟩:=ho.cells;exact⟨ao,cap,f,e,hc,hcells,hh⟩
theorem RowR.holds {base:Nat}{w:World}{v:Value}{m:List HoldD}(h:RowR base w v m):∃ao cap g,v=.slice ao m.length cap/\m.length<=cap/\RHoldsV w ao m g:=by
 obtain⟨f,ho,hh⟩:=h;obtain⟨ao,cap,e,hc,hcells⟩:=ho.cells;exact⟨ao,cap,f,e,hc,hcells,hh⟩
theorem getD_snoc {α:Type}(l:List α)(x d:α)(i:Nat):(l++[x]).getD i d=if i<l.length then l.getD i d else if i=l.length then x else d:=by
 simp only[List.getD_eq_getElem?_getD,List.getElem?_append]
 by_cases h:i<l.length
 .simp[h]
 .rw[if_neg h,if_neg h]
  by_cases e:i=l.length
  .subst e;simp
  .rw[if_neg e,List.getElem?_eq_none (by simp;omega)];rfl
theorem RowH.snoc {base:Nat}{w w':World}{v':Value}{m:List HoldD}{f g:Nat->Value}{x:HoldD}(ho:OwnS 97 12 base w' v' (m.length+1) (appF (m.length*12) f g))(hm:∀i,i<m.length->HoldAt w f (i*12) (m.getD i hold0))(hx:HoldAt w g 0 x)(hp:Pres 232 w w'):RowH base w' v' (m++[x]):=by
 refine⟨_,by rw[List.length_append];exact ho,fun i hi=>?_⟩;rw[List.length_append]at hi;rw[getD_snoc]
 by_cases h:i<m.length
 .rw[if_pos h];obtain⟨h1,h2,h3,h4⟩:=(hm i h).pres hp;have E:∀j,j<12->appF (m.length*12) f g (i*12+j)=f (i*12+j):=fun j hj=>appF_lt _ _ (by omega);have E0:appF (m.length*12) f g (i*12)=f (i*12):=E 0 (by omega);exact⟨by rw[E0,E 1,E 2]<;>first|exact h1|omega,by rw[E 3,E 4,E 5]<;>first|exact h2|omega,by rw[E 6,E 7,E 8]<;>first|exact h3|omega,by rw[E 9,E 10,E 11]<;>first|exact h4|omega⟩
 .obtain rfl:i=m.length:=by simp at hi;omega
  rw[if_neg h,if_pos rfl];obtain⟨h1,h2,h3,h4⟩:=hx.pres hp;have E:∀j,appF (m.length*12) f g (m.length*12+j)=g (0+j):=fun j=>by rw[appF_ge _ _ (by omega)];congr 1;omega
  have E0:appF (m.length*12) f g (m.length*12)=g 0:=E 0;exact⟨by rw[E0,E 1,E 2];exact h1,by rw[E 3,E 4,E 5];exact h2,by rw[E 6,E 7,E 8];exact h3,by rw[E 9,E 10,E 11];exact h4⟩
theorem RowR.snoc {base:Nat}{w w':World}{v':Value}{m:List HoldD}{f g:Nat->Value}{x:HoldD}(ho:OwnS 140 16 base w' v' (m.length+1) (appF (m.length*16) f g))(hm:∀i,i<m.length->RHoldAt w f (i*16) (m.getD i hold0))(hx:RHoldAt w g 0 x)(hp:Pres 3 w w'):RowR base w' v' (m++[x]):=by
 refine⟨_,by rw[List.length_append];exact ho,fun i hi=>?_⟩;rw[List.length_append]at hi;rw[getD_snoc]
 by_cases h:i<m.length
 .rw[if_pos h];obtain⟨h1,h2,h3,h4⟩:=(hm i h).pres hp;have E:∀j,j<16->appF (m.length*16) f g (i*16+j)=f (i*16+j):=fun j hj=>appF_lt _ _ (by omega);have E0:appF (m.length*16) f g (i*16)=f (i*16):=E 0 (by omega);exact⟨by rw[E0,E 1,E 2,E 3]<;>first|exact h1|omega,by rw[E 4,E 5,E 6,E 7]<;>first|exact h2|omega,by rw[E 8,E 9,E 10,E 11]<;>first|exact h3|omega,by rw[E 12,E 13,E 14,E 15]<;>first|exact h4|omega⟩
 .obtain rfl:i=m.length:=by simp at hi;omega
  rw[if_neg h,if_pos rfl];obtain⟨h1,h2,h3,h4⟩:=hx.pres hp;have E:∀j,appF (m.length*16) f g (m.length*16+j)=g (0+j):=fun j=>by rw[appF_ge _ _ (by omega)];congr 1;omega
  have E0:appF (m.length*16) f g (m.length*16)=g 0:=E 0;exact⟨by rw[E0,E 1,E 2,E 3];exact h1,by rw[E 4,E 5,E 6,E 7];exact h2,by rw[E 8,E 9,E 10,E 11];exact h3,by rw[E 12,E 13,E 14,E 15];exact h4⟩
theorem infoHold:(Tryz.prog.info? 97).map (fun i=>(i.zero,i.size,i.bytes))=some (some (.agg #[.bool false,.slice none 0 0,.slice none 0 0,.bool false,.slice none 0 0,.slice none 0 0,.bool false,.slice none 0 0,.slice none 0 0,.bool false,.slice none 0 0,.slice none 0 0]),12,224):=by kernel_rfl
theorem infoRHold:(Tryz.prog.info? 140).map (fun i=>(i.zero,i.size,i.bytes))=some (some (.agg #[.bool false,.slice none 0 0,.bool false,.slice none 0 0,.bool false,.slice none 0 0,.bool false,.slice none 0 0,.bool false,.slice none 0 0,.bool false,.slice none 0 0,.bool false,.slice none 0 0,.bool false,.slice none 0 0]),16,256):=by kernel_rfl
end Go.Proofs.YtlgjakpoaelehaaGreat.D4
