/- Contracts and plain laws, merged: S2 S3 S4 S5 K2 -/
import Derived.Deep.CutRange
import Derived.Test.YtlgjakpoaelehaaGreatSB11
import Derived.Test.YtlgjakpoaelehaaGreatSB15
namespace Go.Proofs.YtlgjakpoaelehaaGreat
open Go.RowKit
set_option maxRecDepth 100000
set_option maxHeartbeats 16000000
theorem row3_then {w:World}{b:Nat}{T:TypeId}{G:Prop}(h:w.heap[b]?=some (.cells #[.bool false,.slice none 0 0,.slice none 0 0] T))
 (k:w.cell? ⟨b,0,none⟩=some (.bool false)->w.cell? ⟨b,1,none⟩=some (.slice none 0 0)->w.cell? ⟨b,2,none⟩=some (.slice none 0 0)->w.frozen? ⟨b,0,none⟩=false->w.frozen? ⟨b,1,none⟩=false->w.frozen? ⟨b,2,none⟩=false->w.heap[b]?=some (.cells #[.bool false,.slice none 0 0,.slice none 0 0] T)->G):G:=by
 obtain⟨a0,a1,a2,b0,b1,b2⟩:=row3 h;exact k a0 a1 a2 b0 b1 b2 h
structure SX (w W0:World) (N A B:Nat) (w':World):Prop where
 sh:SHs w W0 N w'
 size:W0.heap.size<=w'.heap.size
 ha:N<=A
 hb:N<=B
 cells:∀(b o:Nat),b<W0.heap.size->b≠A->b≠B->w'.cell? ⟨b,o,none⟩=W0.cell? ⟨b,o,none⟩
theorem SX.start {w W0:World}{N A B:Nat}(h:SHs w W0 N W0)(ha:N<=A)(hb:N<=B):SX w W0 N A B W0:=⟨h,Nat.le_refl _,ha,hb,fun _ _ _ _ _=>rfl⟩
theorem SX.call {w W0 w' w9:World}{N A B:Nat}(h:SX w W0 N A B w')(hb:Bel w'.heap.size w' w9):SX w W0 N A B w9:=
 ⟨h.sh.call hb,Nat.le_trans h.size hb.size,h.ha,h.hb,fun b o h1 h2 h3=>(hb.cell (p:=⟨b,o,none⟩) (Nat.lt_of_lt_of_le h1 h.size)).trans (h.cells b o h1 h2 h3)⟩
theorem SX.drew {w W0 w':World}{N A B:Nat}(h:SX w W0 N A B w'):SX w W0 N A B w'.drew:=⟨h.sh.drew,h.size,h.ha,h.hb,h.cells⟩
theorem SX.drewN {w W0 w':World}{N A B:Nat}(h:SX w W0 N A B w')(n:Nat):SX w W0 N A B (w'.drewN n):=⟨h.sh.drewN n,h.size,h.ha,h.hb,h.cells⟩
theorem SX.alloc {w W0 w':World}{N A B:Nat}(h:SX w W0 N A B w')(o:Obj):SX w W0 N A B (w'.alloc o):=
 ⟨h.sh.alloc o,Nat.le_trans h.size (by simp),h.ha,h.hb,fun b o' h1 h2 h3=>by
  rw[<-h.cells b o' h1 h2 h3];exact World.cell?_alloc_lt _ _ _ (Nat.lt_of_lt_of_le h1 h.size)⟩
theorem SX.setA {w W0 w':World}{N A B:Nat}(h:SX w W0 N A B w')(i:Nat)(u:Value):SX w W0 N A B (w'.setCell ⟨A,i,none⟩ u):=
 ⟨h.sh.setCell h.ha u,by rw[World.size_setCell];exact h.size,h.ha,h.hb,fun b o h1 h2 h3=>(cell_set_ne (by simp;omega)).trans (h.cells b o h1 h2 h3)⟩
theorem SX.setB {w W0 w':World}{N A B:Nat}(h:SX w W0 N A B w')(i:Nat)(u:Value):SX w W0 N A B (w'.setCell ⟨B,i,none⟩ u):=
 ⟨h.sh.setCell h.hb u,by rw[World.size_setCell];exact h.size,h.ha,h.hb,fun b o h1 h2 h3=>(cell_set_ne (by simp;omega)).trans (h.cells b o h1 h2 h3)⟩
theorem SX.hold {w W0 w':World}{N A B:Nat}(h:SX w W0 N A B w'):(∀(b o:Nat),b<W0.heap.size->b≠A->b≠B->w'.cell? ⟨b,o,none⟩=W0.cell? ⟨b,o,none⟩)/\SX w W0 N A B w':=⟨h.cells,h⟩
structure MmIn (W3 wr:World) (p:ProbD) (F:List Int) (B10 B11 k:Nat):Prop where
 lo:∃(x:Bool) (a:Option Addr) (n:Nat) (c:Option Addr) (m:Nat),wr.heap[B10]?=some (.cells #[.bool x,.slice a n n,.slice c m m] 39)/\QV wr (.agg #[.bool x,.slice a n n,.slice c m m]) (mmK ltB (footX p F) k)
 hi:∃(x:Bool) (a:Option Addr) (n:Nat) (c:Option Addr) (m:Nat),wr.heap[B11]?=some (.cells #[.bool x,.slice a n n,.slice c m m] 39)/\QV wr (.agg #[.bool x,.slice a n n,.slice c m m]) (mmK gtB (footX p F) k)
 bel:Bel W3.heap.size W3 wr
theorem QF.mm {f:Rat->Rat->Bool}{X:Nat->Rat}{L n k:Nat}(h:∀i,i<n->QF L (X i))(h0:0<n)(hk:k<=n):QF L (mmK f X k):=by
 obtain⟨i,hi,e⟩:=mmK_is f X k;rw[e];exact h i (by omega)
def q2 (a b:Rat)(i:Nat):Rat:=if i=0 then a else b
theorem QS.two {w:World}{b:Nat}{v0 v1 v2 v3 v4 v5:Value}{x y:Rat}(hb:w.heap[b]?=some (.cells #[v0,v1,v2,v3,v4,v5] 39))(h0:QV w (.agg #[v0,v1,v2]) x)(h1:QV w (.agg #[v3,v4,v5]) y):QS w (some ⟨b,0,none⟩) 2 (q2 x y):=
 QS.lit hb rfl fun i hi=>by
  match i,hi with
  |0,_=>exact h0
  |1,_=>exact h1
theorem pk_two (f:Rat->Rat->Bool)(x y:Rat):pk f (q2 x y) 2=if f y x then y else x:=rfl
theorem QF.q2 {L:Nat}{x y:Rat}(hx:QF L x)(hy:QF L y):∀i,i<2->QF L (q2 x y i):=fun i hi=>by
 match i,hi with
 |0,_=>exact hx
 |1,_=>exact hy
theorem next_ok {f:Nat->Bool}{i:Nat}(h:∀j,j<i->f j=true)(hi:f i=true):∀j,j<i+1->f j=true:=fun j hj=>by
 rcases Nat.lt_or_ge j i with h1|h1
 .exact h j h1
 .obtain rfl:j=i:=by omega
  exact hi
theorem MmIn.step {W3 w9:World}{p:ProbD}{F:List Int}{B10 B11 k:Nat}{x0 y0:Bool}{a0 c0 d0 e0:Option Addr}{n0 m0 k0 j0:Nat}{x y:Bool}{a c d e:Option Addr}{n m j i:Nat}(h10:W3.heap.size<=B10)(h11:W3.heap.size<=B11)(hne:B10≠B11)
 (hr10:w9.heap[B10]?=some (.cells #[.bool x0,.slice a0 n0 n0,.slice c0 m0 m0] 39)) (hr11:w9.heap[B11]?=some (.cells #[.bool y0,.slice d0 k0 k0,.slice e0 j0 j0] 39))
 (hl:QV w9 (.agg #[.bool x,.slice a n n,.slice c m m]) (if ltB (footX p F k) (mmK ltB (footX p F) k) then footX p F k else mmK ltB (footX p F) k)) (hh:QV w9 (.agg #[.bool y,.slice d j j,.slice e i i]) (if gtB (footX p F k) (mmK gtB (footX p F) k) then footX p F k else mmK gtB (footX p F) k)) (hb:Bel W3.heap.size W3 w9):
 MmIn W3 ((((((w9.setCell ⟨B10,0,none⟩ (.bool x)).setCell ⟨B10,1,none⟩ (.slice a n n)).setCell ⟨B10,2,none⟩ (.slice c m m)).setCell ⟨B11,0,none⟩ (.bool y)).setCell ⟨B11,1,none⟩ (.slice d j j)).setCell ⟨B11,2,none⟩ (.slice e i i)) p F B10 B11 (k+1):=by
 have hp1:Pres 232 w9 (((w9.setCell ⟨B10,0,none⟩ (.bool x)).setCell ⟨B10,1,none⟩ (.slice a n n)).setCell ⟨B10,2,none⟩ (.slice c m m)):=Pres.set3 ⟨_,_,hr10⟩ (by decide) _ _ _ _ _ _
 have hr11':(((w9.setCell ⟨B10,0,none⟩ (.bool x)).setCell ⟨B10,1,none⟩ (.slice a n n)).setCell ⟨B10,2,none⟩ (.slice c m m)).heap[B11]?=some (.cells #[.bool y0,.slice d0 k0 k0,.slice e0 j0 j0] 39):=by
  rw[Below.heap_setCell _ _ _ _ (by simp;omega),Below.heap_setCell _ _ _ _ (by simp;omega),Below.heap_setCell _ _ _ _ (by simp;omega)];exact hr11
 have hp2:=Pres.set3 (T:=232) ⟨_,_,hr11'⟩ (by decide) 0 1 2 (.bool y) (.slice d j j) (.slice e i i);refine⟨⟨x,a,n,c,m,?_,(hl.pres hp1).pres hp2⟩,⟨y,d,j,e,i,set3_heap hr11',(hh.pres hp1).pres hp2⟩,?_⟩
 .rw[Below.heap_setCell _ _ _ _ (by simp;omega),Below.heap_setCell _ _ _ _ (by simp;omega),Below.heap_setCell _ _ _ _ (by simp;omega)];exact set3_heap hr10
 .exact(((((hb.setCell (by exact h10) _).setCell (by exact h10) _).setCell (by exact h10) _).setCell (by exact h11) _).setCell (by exact h11) _).setCell (by exact h11) _
theorem stands_loop {w:World}{pv sv:Value}{p:ProbD}{s:StateD}{L ph:Nat}(hp:PVal w pv p)(hs:StateV w sv s)(hF:ProbF L p)(h1L:1<=L)(hph:s.phase=ph)(hpl:ph<p.word.length)
 (h4:s.holds.length<=4) (hr:∀i,i<s.holds.length->∃m:Nat,s.holds.getD i 0=m/\m<p.map.length) (hne:0<(feetK (p.word.getD ph 0) s.holds s.holds.length).length):
 Calls Tryz.prog 147 #[pv,sv] w fun e w'=>e=.returned (.bool (standsB p s))/\Bel w.heap.size w w':=by
 obtain⟨g,mo,mc,wo,wc,so,sc,go,gc,rfl,⟨hmc,mg,hm⟩,hk,hw,-⟩:=hp.lit;obtain⟨hv,rfl,lo,lc,rfl,hlc,hlx⟩:=hs;have HR:Hid (standsB p s=feetRes p (feetK (p.word.getD ph 0) s.holds s.holds.length)):=by show _=_;unfold standsB;rw[hph];rfl
 generalize standsB p s=R at HR|-;rw[hph];generalize s.holds=hs at *;obtain⟨x,hx⟩:∃x,x=p.word.getD ph 0:=⟨_,rfl⟩
 rw[<-hx]at HR hne;have HX:=LH hx;have hxl:x<256:=by rw[hx];exact hw.1 _
 clear hph hx hp;have HM:=LH hm;have HK:=LH hk;have HW:=LH hw;have HL:=LH hlx;have HNE:=LH hne;have HFF:=LH hF;have HRN:=LH hr;have HPL:=LH hpl;have HL1:=LH h1L;have hn4:=h4;clear hm hk hw hlx hne hF hr hpl;obtain⟨n,hn⟩:∃n,n=p.map.length:=⟨_,rfl⟩
 obtain⟨nw,hnw⟩:∃n,n=p.word.length:=⟨_,rfl⟩
 obtain⟨nl,hnl⟩:∃n,n=hs.length:=⟨_,rfl⟩
 have HN:=LH hn;have HNL:=LH hnl;have HNW:=LH hnw;rw[<-hn]at hmc|-;rw[<-hnw]at|-;rw[<-hnl]at hlc h4 hn4 HR|-;generalize p.walker.legs=legs at *;generalize p.start.length=n3 at *;generalize p.goal.length=n5 at *;clear hn hnw hnl
 go_enter Tryz.func147,Tryz.ntmps147
 go_wp2_with fail
 refine name_world ?_;intro W1 hW1;have hk0:=at_world hW1 (b:=w.heap.size) ((heap_old _ _ (by simp)).trans (heap_new _ _ rfl));have hk1:=at_world hW1 (b:=w.heap.size+1) (heap_new _ _ (by simp));have hBW:Bel w.heap.size w W1:=by rw[hW1];exact Bel.new.alloc (by simp) _
 have hz1:W1.heap.size=w.heap.size+1+1:=by rw[hW1];simp
 have HK0:=LH hk0;have HK1:=LH hk1;have HBW:=LH hBW;clear hW1;go_wp2
 go_loopg [5,6,7,18] nl (fun g ov _ _ i wr=>∃k:Nat,g=nl-k/\k<=nl/\i=.int .i64 k/\FeetIn W1 wr ov x hs k)
 case atStart=>exact⟨0,rfl,Nat.zero_le _,rfl,OwnS.nil _ _ _ _ _,Bel.refl _ _⟩
 case round=>
  obtain⟨k,hg,hk,rfl,hf⟩:=hrel;have HP:=LH hf;have HO:=LH hf.own;have hbs:=hf.bel.size;have hkk:=feetK_len x hs k;have HBR:Hid (Bel w.heap.size w wr):=HBW.out.trans (hf.bel.mono (by omega))
  by_cases hlt:k<nl
  .obtain⟨f0,f1,-,-⟩:=row2 ((hf.bel.block _ (by omega)).trans HK1.out);obtain⟨-,-,-,-,-,-,-,-,-,-,-,-,-,-,-,-,-,-,-,-,-,-,-,-,-,-,e26,-,-,-,-,-⟩:=row32 ((hf.bel.block _ (by omega)).trans HK0.out);have hb0:w.heap.size<wr.heap.size:=by omega
   have hb1:w.heap.size+1<wr.heap.size:=by omega
   have hwd:=HW.out.pres HBR.out.pb;obtain⟨-,wo',wc',ew,hwc,hwx⟩:=hwd;obtain⟨rfl,rfl⟩:wo=wo'/\wc=wc':=by cases ew;exact⟨rfl,rfl⟩
   have hlx:=HL.out.bel HBR.out;obtain⟨bw',ow,rfl,hbw,hcw⟩:=hwx.open (by have:=HPL.out;omega);have g0:=hcw ph HPL.out;obtain⟨bl,ol,rfl,hbl,hcl⟩:=hlx.open (by have:=HNL.out;omega);have g1:=hcl k (by have:=HNL.out;omega);unfold bw at g0;rw[<-HX.out]at g0;obtain⟨y,hy⟩:∃y,y=hs.getD k 0:=⟨_,rfl⟩
   simp only[<-hy]at g1;have HY:=LH hy;have hphw:ph<nw:=by have:=HPL.out;have:=HNW.out;omega
   obtain⟨z,hz⟩:∃z,z=x/2^k:=⟨_,rfl⟩
   have hzi:((x:Int)/2^k)=(z:Nat):=by rw[hz];push_cast;rfl
   have hand:=shr_bit (k:=k) hxl;rw[<-hz]at hand;have hzl:z<256:=by rw[hz];exact Nat.lt_of_le_of_lt (Nat.div_le_self _ _) hxl
   have hlm1:(feetK x hs k).length+1<=maxLen:=by unfold maxLen;omega
   have hlb1:((feetK x hs k).length+1)*8<=140737488355328:=by omega
   have HBS:Hid (∀o:Obj,W1.heap.size<=(wr.alloc o).heap.size):=fun o=>by simp;omega
   clear hf hy hz hcw hcl hwx hlx ew hwc;obtain⟨q,hq⟩:∃q,q=bit x k:=⟨_,rfl⟩
   have HQ:=LH hq;rw[<-hq]at hand;clear hq
   cases q
   .have h1:bits .and .u8 (z:Int) 1=0:=hand;clear hand;go_wp2
    go_roundg (nl-(k+1))
    case rel=>exact⟨k+1,rfl,by omega,by push_cast;rfl,HP.out.skip HQ.out.symm⟩
    case measure=>omega
   .have h1:bits .and .u8 (z:Int) 1=1:=hand;clear hand
    go_wp2_with (at_builtin;go_must (refine wpList_append_fn rfl (.tmp 33) (.tmp 35) 28 rfl W1.heap.size Tryz.underlying28 D4.infoInt rfl (by decide) rfl (HO.out.alloc _) rfl (cells1 _ _ _) (fun _=>rfl) hlm1 hlb1 (HBS.out _) ?_;intro v' w' hown hgrow hdr))
    have HXX:=LH (HP.out.step HQ.out.symm HY.out hown hgrow hdr)
    go_roundg (nl-(k+1))
    case rel=>exact⟨k+1,rfl,by omega,by push_cast;rfl,HXX.out⟩
    case measure=>omega
  .obtain rfl:k=nl:=by omega
   have hne:0<(feetK x hs k).length:=by rw[HNL.out];exact HNE.out
   obtain⟨F,hF⟩:∃F,F=feetK x hs k:=⟨_,rfl⟩
   have HFE:=LH hF;obtain⟨ao,ac,rfl,hac,hxf⟩:=hf.own.cells;rw[<-hF]at HR hne hac hxf hkk|-;rw[Nat.mul_one]at hxf;have HFB:=LH hf.bel;clear hF hf HP HO
   go_wp2_with fail
   obtain⟨W0,hW0⟩:∃W0,W0=wr:=⟨_,rfl⟩
   rw[<-hW0]at HBR HFB hbs hxf|-;have HXF:=LH hxf;have HP2:=LH ((HFB.out.block _ (by omega)).trans HK0.out);obtain⟨-,-,-,-,-,-,-,-,-,-,-,-,-,-,e14,e15,e16,-,-,-,-,-,-,-,-,-,-,-,-,-,-,-⟩:=row32 HP2.out;have hlp:w.heap.size<W0.heap.size:=by omega
   have HWQ:Hid (QV W0 (.agg #[g 14,g 15,g 16]) p.walker.weight):=HK.out.weight.pres HBR.out.pb;have HWF:Hid (QF L p.walker.weight):=HFF.out.walker.weight;have HLS:Hid (L<=100000):=HFF.out.size;have HN0:Hid ((((F.length:Int):Rat)).num≠0):=by show _≠_;rw[Rat.num_intCast];omega
   have HNF:Hid (QF 1 ((F.length:Int):Rat)):=by
    refine⟨?_,?_⟩
    .rw[Rat.num_intCast,Int.natAbs_natCast];exact(nlen_le_iff _ 1).2 (by unfold W32;omega)
    .rw[Rat.den_intCast];exact(nlen_le_iff _ 1).2 (by unfold W32;omega)
   have hst:SHs w W0 W0.heap.size W0:=SHs.start HBR.out.size NL HBR.out;clear hW0 hk0 hk1 hBW hxf
   go_cut [8,9]from 38 to 47 (fun s8 _ wx=>∃(B:Nat) (x0:Bool) (am:Option Addr) (m0:Nat) (al:Option Addr) (l0:Nat),s8=.pointer (some ⟨B,0,none⟩)/\W0.heap.size<=B/\wx.heap[B]?=some (.cells #[.bool x0,.slice am m0 m0,.slice al l0 l0] 39)/\QV wx (.agg #[.bool x0,.slice am m0 m0,.slice al l0 l0]) (loadQF p F)/\Bel W0.heap.size W0 wx)
   case first=>
    go_region_held3 (fun w'=>(∀(b o:Nat),b<W0.heap.size->w'.cell? ⟨b,o,none⟩=W0.cell? ⟨b,o,none⟩)/\SHs w W0 (W0.heap.size) w') (exact K2s)
     (first
      |(go_at_call 48;(try (rename _/\_=>hh;rcases hh with⟨hSc,hSb⟩));refine(Int_c (n:=F.length) (by omega) (by omega)).mono ?_;rintro e w20 ⟨vq,rfl,hQ1,hb1⟩;have hz1:=(hSb.call hb1).near.size;have hy1:=hb1.size;(try simp at hy1);try (refine row3_then (w:=w20) (b:=W0.heap.size) (T:=39) ?_ ?_;(focus ((first|with_reducible assumption|exact heap_new _ _ (by simp)|((refine(Below.block (Bel.toBelow (by with_reducible assumption)) _ (by(try dsimp only);first|omega|(simp;done)|(simp;omega))).trans ?_);first|with_reducible assumption|exact heap_new _ _ (by simp)|((refine(Below.block (Bel.toBelow (by with_reducible assumption)) _ (by(try dsimp only);first|omega|(simp;done)|(simp;omega))).trans ?_);first|with_reducible assumption|exact heap_new _ _ (by simp)|((refine(Below.block (Bel.toBelow (by with_reducible assumption)) _ (by(try dsimp only);first|omega|(simp;done)|(simp;omega))).trans ?_);exact heap_new _ _ (by simp)))));done));intro k0 k1 k2 j0 j1 j2 hrw))
      |(go_at_call 49;(try (rename _/\_=>hh;rcases hh with⟨hSc,hSb⟩));refine(Div_c (HWQ.out.pres (Pres.below (hSb.near).toBelow)) (hQ1.pres CH2s) HWF.out HNF.out HN0.out (by have:=HLS.out;omega)).mono ?_;rintro e w21 ⟨vq2,rfl,hQ2,hb2⟩;have hz2:=(hSb.call hb2).near.size;obtain⟨x0,am,m0,al,l0,rfl⟩:=QV.cells hQ2;try (first|(refine row3_then (w:=w21) (b:=W0.heap.size) (T:=39) ?_ ?_;(focus ((first|with_reducible assumption|exact heap_new _ _ (by simp)|((refine(Below.block (Bel.toBelow (by with_reducible assumption)) _ (by(try dsimp only);first|omega|(simp;done)|(simp;omega))).trans ?_);first|with_reducible assumption|exact heap_new _ _ (by simp)|((refine(Below.block (Bel.toBelow (by with_reducible assumption)) _ (by(try dsimp only);first|omega|(simp;done)|(simp;omega))).trans ?_);first|with_reducible assumption|exact heap_new _ _ (by simp)|((refine(Below.block (Bel.toBelow (by with_reducible assumption)) _ (by(try dsimp only);first|omega|(simp;done)|(simp;omega))).trans ?_);exact heap_new _ _ (by simp)))));done));intro k0 k1 k2 j0 j1 j2 hrw)|(refine row3_then (w:=w21) (b:=w20.heap.size) (T:=39) ?_ ?_;(focus ((first|with_reducible assumption|exact heap_new _ _ (by simp)|((refine(Below.block (Bel.toBelow (by with_reducible assumption)) _ (by(try dsimp only);first|omega|(simp;done)|(simp;omega))).trans ?_);first|with_reducible assumption|exact heap_new _ _ (by simp)|((refine(Below.block (Bel.toBelow (by with_reducible assumption)) _ (by(try dsimp only);first|omega|(simp;done)|(simp;omega))).trans ?_);first|with_reducible assumption|exact heap_new _ _ (by simp)|((refine(Below.block (Bel.toBelow (by with_reducible assumption)) _ (by(try dsimp only);first|omega|(simp;done)|(simp;omega))).trans ?_);exact heap_new _ _ (by simp)))));done));intro k0 k1 k2 j0 j1 j2 hrw))))
    all_goals go_wp2_with fail
    all_goals go_meet
    all_goals(case rel=>
     (try (rename _/\_=>hh;rcases hh with⟨hSc,hSb⟩))
     first
     |exact⟨_,x0,am,m0,al,l0,rfl,by omega,set3_heap hrw,hQ2.pres (Pres.set3 ⟨_,_,hrw⟩ (by decide) _ _ _ _ _ _),hSb.near⟩
     |exact⟨_,x0,am,m0,al,l0,rfl,by omega,heap_new _ _ (by simp),hQ2.pres (Pres.alloc _ _),hSb.near⟩)
   case rest=>
    obtain⟨B8,x8,am8,m8,al8,l8,rfl,hB8,hk8,hq8,hb8⟩:=hcut;have HBC:Hid (Bel w.heap.size w wc):=HBR.out.trans (hb8.mono HBR.out.size);have HPC:=LH ((hb8.block _ hlp).trans HP2.out);have HXC:=LH (HXF.out.bel hb8);have hzc:=hb8.size;have hB8l:=BlkT.lt ⟨_,_,hk8⟩;have hB8g:w.heap.size+1<B8:=by omega
    have HQ8:=LH hq8;have HK8:=LH hk8;have hwc1:w.heap.size+1<wc.heap.size:=by omega
    clear hq8 hk8 hb8 HBR HP2 HXF HWQ hst e14 e15 e16 HNE HL HK1;generalize wc=W3 at *
    have HFR:Hid (∀i,i<F.length->∃m:Nat,F.getD i 0=m/\m<p.map.length):=fun i hi=>by
     have hmem:=feetK_mem (x:=x) (hs:=hs) (k:=k) (by have:=HNL.out;omega) (h:=F.getD i 0) (by rw[HFE.out,getD_get (by rw[<-HFE.out];exact hi)];exact List.getElem_mem _);obtain⟨j,hj,e⟩:=List.mem_iff_getElem.1 hmem;have:=HRN.out j hj;rw[getD_get hj,e]at this;exact this
    obtain⟨f0,hf0,hf0n⟩:=HFR.out 0 hne;obtain⟨bf,of,rfl,hbf,hcf⟩:=HXC.out.open hne;have g0:=hcf 0 hne;unfold intCells at g0;rw[hf0,Nat.add_zero]at g0;obtain⟨bm,om,rfl,hbm,x0,a0,n0,c0,k0,x1,a1,n1,c1,k1,x2,a2,n2,c2,k2,x3,a3,n3',c3,k3,m0,m1,m2,-,-,-,-,-,-,-,-,-,q0,-,-,-⟩:=(HM.out.bel HBC.out).el hf0n;have HX0:Hid (footX p F 0=(p.map.getD f0 hold0).x):=by show _=_;unfold footX holdN;rw[hf0];rfl
    rw[<-HX0.out]at q0;have Q0:=LH q0;obtain⟨e0,-,-,-,-,-,-,-,-,-,-,-,-,-,-,-,-,-,-,-,-,-,-,-,-,-,-,-,-,-,-,-⟩:=row32 HPC.out;have hfn:f0<n:=by have:=HN.out;omega
    clear q0 hcf hf0
    go_wp2_with fail
    go_cut [10,11]from 48 to 65 (fun s10 s11 wx=>∃B10 B11:Nat,s10=.pointer (some ⟨B10,0,none⟩)/\s11=.pointer (some ⟨B11,0,none⟩)/\W3.heap.size<=B10/\W3.heap.size<=B11/\B10≠B11/\wx.heap[B10]?=some (.cells #[.bool x0,.slice a0 n0 n0,.slice c0 k0 k0] 39)/\
     wx.heap[B11]?=some (.cells #[.bool x0,.slice a0 n0 n0,.slice c0 k0 k0] 39)/\Bel W3.heap.size W3 wx)
    case first=>
     have hl0:w.heap.size<W3.heap.size:=by omega
     go_region
     all_goals go_wp2_with fail
     all_goals go_meet
     all_goals(case rel=>
      first
      |exact⟨W3.heap.size,W3.heap.size+1,rfl,rfl,by omega,by omega,by omega,(heap_old _ _ (by simp)).trans (heap_new _ _ rfl),heap_new _ _ (by simp),Bel.new.alloc (by simp) _⟩
      |exact⟨W3.heap.size+1,W3.heap.size,rfl,rfl,by omega,by omega,by omega,heap_new _ _ (by simp),(heap_old _ _ (by simp)).trans (heap_new _ _ rfl),Bel.new.alloc (by simp) _⟩
      |exact⟨W3.heap.size,W3.heap.size+1,rfl,rfl,by omega,by omega,by omega,(heap_old _ _ (by simp)).trans (heap_new _ _ rfl),heap_new _ _ (by simp),(Bel.new.alloc (by simp) _).drew⟩
      |exact⟨W3.heap.size+1,W3.heap.size,rfl,rfl,by omega,by omega,by omega,heap_new _ _ (by simp),(heap_old _ _ (by simp)).trans (heap_new _ _ rfl),(Bel.new.alloc (by simp) _).drew⟩)
    case rest=>
     obtain⟨B10,B11,rfl,rfl,hB10,hB11,hBne,hk10,hk11,hb9⟩:=hcut;have HMM:Hid (MmIn W3 wc p F B10 B11 0):=⟨⟨_,_,_,_,_,hk10,Q0.out.pres hb9.pb⟩,⟨_,_,_,_,_,hk11,Q0.out.pres hb9.pb⟩,hb9⟩
     have HFX:Hid (∀i,i<F.length->QF L (footX p F i)):=fun i hi=>by
      obtain⟨m,e,hm⟩:=HFR.out i hi;unfold footX holdN;rw[e];exact(HFF.out.map m hm).x
     clear hk10 hk11 hb9 g0 m0 m1 m2 e0 hf0n HX0 Q0 hfn hbm;obtain⟨nf,hnf⟩:∃nf,nf=F.length:=⟨_,rfl⟩
     have HNF2:=LH hnf;rw[<-hnf]at hne hac hkk|-;clear hnf;go_wp2
     go_loopg [12,13,14,68] nf (fun g _ _ _ iv wr=>∃k:Nat,g=nf-k/\k<=nf/\iv=.int .i64 k/\(∀j,j<k->footOk p F j=true)/\MmIn W3 wr p F B10 B11 k)
     case atStart=>exact⟨0,rfl,Nat.zero_le _,rfl,fun j hj=>by omega,HMM.out⟩
     case round=>
      clear HMM;obtain⟨i,hgi,hi,rfl,hj,hmm⟩:=hrel;have HJ:=LH hj;have HMI:=LH hmm;have HBI:Hid (Bel w.heap.size w wr):=HBC.out.trans (hmm.bel.mono HBC.out.size);have hsw:=hmm.bel.size
      by_cases hlt2:i<nf
      .have HXI:=LH (HXC.out.bel hmm.bel);obtain⟨bf',of',ef,hbfl,hcf⟩:=HXI.out.open (by have:=HNF2.out;omega);obtain⟨rfl,rfl⟩:bf=bf'/\of=of':=by cases ef;exact⟨rfl,rfl⟩
       obtain⟨fi,hfi,hfin⟩:=HFR.out i (by rw[<-HNF2.out];exact hlt2);have g0:=hcf i (by rw[<-HNF2.out];exact hlt2);unfold intCells at g0;rw[hfi]at g0;obtain⟨bm',om',em,hbm,y0,b0,l0,d0,j0,y1,b1,l1,d1,j1,y2,b2,l2,d2,j2,y3,b3,l3,d3,j3,m0,m1,m2,m3,m4,m5,m6,m7,m8,m9,m10,m11,q0,-,q2,-⟩:=(HM.out.bel HBI.out).el hfin;obtain⟨rfl,rfl⟩:bm=bm'/\om=om':=by cases em;exact⟨rfl,rfl⟩
       have hXi:footX p F i=(p.map.getD fi hold0).x:=by unfold footX holdN;rw[hfi];rfl
       have hBi:holdN p (F.getD i 0)=p.map.getD fi hold0:=by unfold holdN;rw[hfi];rfl
       rw[<-hXi]at q0;obtain⟨h,hh⟩:∃h,h=p.map.getD fi hold0:=⟨_,rfl⟩
       rw[<-hh]at q2 hBi;have HBI2:=LH hBi;have HHF:Hid (QF L h.b):=by show QF L h.b;rw[hh];exact(HFF.out.map fi hfin).b
       have Q0:=LH q0;have Q2:=LH q2;have HFI:=LH hfi;obtain⟨e0,-,-,-,-,-,-,-,-,-,-,-,-,-,-,-,-,-,-,-,-,-,-,-,-,-,-,-,-,-,-,-⟩:=row32 ((hmm.bel.block _ (by omega)).trans HPC.out);have hfn:fi<n:=by have:=HN.out;omega
       have hic:i<=ac:=by omega
       have HCI:Hid (∀(W4:World) (c:Nat) (v:Int),Bel wr.heap.size wr W4->Calls Tryz.prog 188 #[.slice (some ⟨bf,of,none⟩) i c,.int .i64 v] W4 fun e w'=>e=.returned (.bool ((F.take i).any fun x=>v==x))/\W4=w'):=fun W4 c v hb=>by
        have hlen:(F.take i).length=i:=by rw[List.length_take];have:=HNF2.out;omega
        have:=containsInt_c (w:=W4) (ao:=some ⟨bf,of,none⟩) (c:=c) (E:=F.take i) (v:=v) (by
         rw[hlen];refine((HXI.out.bel hb).mono (by have:=HNF2.out;omega)).congr ?_;intro j hj;unfold intCells;rw[List.getD_eq_getElem?_getD,List.getD_eq_getElem?_getD,List.getElem?_take_of_lt hj]) (by rw[hlen];omega)
        rw[hlen]at this;exact this
       have hrl:w.heap.size<wr.heap.size:=by omega
       clear hj hmm q0 q2 hcf hfi hh hXi hBi ef em hfin
       go_upto_region 14 with fail
       obtain⟨W4,hW4⟩:∃W4,W4=wr.alloc (.cells #[.bool y0,.slice b0 l0 l0,.slice d0 j0 j0,.bool y1,.slice b1 l1 l1,.slice d1 j1 j1,.bool y2,.slice b2 l2 l2,.slice d2 j2 j2,.bool y3,.slice b3 l3 l3,.slice d3 j3 j3] 97):=⟨_,rfl⟩
       have HB4:Hid (Bel wr.heap.size wr W4):=by show Bel _ _ _;rw[hW4];exact(Bel.refl _ _).alloc NL _
       have HKB4:=LH (at_world hW4 (heap_new _ _ rfl));rw[<-hW4];clear hW4 m0 m1 m2 m3 m4 m5 m6 m7 m8 m9 m10 m11 e0 g0
       go_cut [95]from 78 to 94 (fun s95 wx=>s95=.bool (!footOk p F i)/\Bel wr.heap.size wr wx/\wx.heap[wr.heap.size]?=some (.cells #[.bool y0,.slice b0 l0 l0,.slice d0 j0 j0,.bool y1,.slice b1 l1 l1,.slice d1 j1 j1,.bool y2,.slice b2 l2 l2,.slice d2 j2 j2,.bool y3,.slice b3 l3 l3,.slice d3 j3 j3] 97))
       case first=>
        obtain⟨q,hq⟩:∃q,q=((F.take i).any fun x=>(fi:Int)==x):=⟨_,rfl⟩
        have HOK:Hid (footOk p F i=(!q && !(decide (0<ratSign h.b) && decide (0<cmpR (loadQF p F) h.b)))):=by show _=_;unfold footOk;rw[HBI2.out,HFI.out,hq]
        go_wp2_with fail
        refine(HCI.out _ ac fi HB4.out).mono ?_;rintro e w9 ⟨rfl,rfl⟩;rw[<-hq];clear hq HCI;have hbz4:=BlkT.lt ⟨_,_,HKB4.out⟩;obtain⟨-,-,-,-,-,-,r6,r7,r8,-,-,-⟩:=row12 HKB4.out
        cases q
        .have HOK2:Hid (footOk p F i=!(decide (0<ratSign h.b) && decide (0<cmpR (loadQF p F) h.b))):=by show _=_;rw[HOK.out];rfl
         go_wp2_with fail
         refine(sign_c (Q2.out.pres HB4.out.pb)).mono ?_;rintro e w5 ⟨rfl,hb5⟩;have HB5:Hid (Bel wr.heap.size wr w5):=HB4.out.trans (hb5.mono HB4.out.size);have HKB5:=LH ((hb5.block _ hbz4).trans HKB4.out);clear hb5 HKB4 r6 r7 r8;obtain⟨sg,hsg⟩:∃sg,sg=ratSign h.b:=⟨_,rfl⟩
         rw[<-hsg]at HOK2|-;clear hsg
         by_cases hsb:0<sg
         .have HOK3:Hid (footOk p F i=!decide (0<cmpR (loadQF p F) h.b)):=by show _=_;rw[HOK2.out,decide_eq_true hsb];rfl
          have ds:decide (0<sg)=true:=decide_eq_true hsb;have hbz5:=BlkT.lt ⟨_,_,HKB5.out⟩;obtain⟨-,-,-,-,-,-,r6,r7,r8,-,-,-⟩:=row12 HKB5.out;have HT5:Hid (Bel W3.heap.size W3 w5):=HMI.out.bel.trans (HB5.out.mono hsw);have hk85:=(HT5.out.block _ hB8l).trans HK8.out;obtain⟨t0,t1,t2,-,-,-⟩:=row3 hk85;have hB85:B8<w5.heap.size:=BlkT.lt ⟨_,_,hk85⟩;have HQ85:=LH (HQ8.out.pres HT5.out.pb)
          have HLF:Hid (QF (L+1) (loadQF p F)):=QF.div HWF.out HNF.out HN0.out;clear hsb hk85
          go_wp2_with fail
          refine(qcmp_c HQ85.out (Q2.out.pres HB5.out.pb) HLF.out HHF.out (by have:=HLS.out;omega)).mono ?_;rintro e w6 ⟨rfl,hb6⟩;have HB6:Hid (Bel wr.heap.size wr w6):=HB5.out.trans (hb6.mono HB5.out.size);have HKB6:=LH ((hb6.block _ hbz5).trans HKB5.out);clear hb6 r6 r7 r8 t0 t1 t2 ds HKB5 HB5 HT5 HQ85 hB85 hbz5;obtain⟨sc2,hsc⟩:∃sg,sg=cmpR (loadQF p F) h.b:=⟨_,rfl⟩
          rw[<-hsc]at HOK3|-;clear hsc
          by_cases hsb:0<sc2
          .have HOK4:Hid (footOk p F i=false):=by show _=_;rw[HOK3.out,decide_eq_true hsb];rfl
           have ds:decide (0<sc2)=true:=decide_eq_true hsb;clear hsb;go_wp2
           go_meet
           case rel=>exact⟨by rw[HOK4.out];rfl,HB6.out,HKB6.out⟩
          .have HOK4:Hid (footOk p F i=true):=by show _=_;rw[HOK3.out,decide_eq_false hsb];rfl
           have ds:decide (0<sc2)=false:=decide_eq_false hsb;clear hsb;go_wp2
           go_meet
           case rel=>exact⟨by rw[HOK4.out];rfl,HB6.out,HKB6.out⟩
         .have HOK4:Hid (footOk p F i=true):=by show _=_;rw[HOK2.out,decide_eq_false hsb];rfl
          have ds:decide (0<sg)=false:=decide_eq_false hsb;clear hsb;go_wp2
          go_meet
          case rel=>exact⟨by rw[HOK4.out];rfl,HB5.out,HKB5.out⟩
        .have HOK2:Hid (footOk p F i=false):=by show _=_;rw[HOK.out];rfl
         go_wp2
         go_meet
         case rel=>exact⟨by rw[HOK2.out];rfl,HB4.out,HKB4.out⟩
       case rest=>
        obtain⟨hok,hb5,hkb5⟩:=hcut;obtain⟨ok,hok'⟩:∃ok,ok=footOk p F i:=⟨_,rfl⟩
        rw[<-hok']at hok;have HOK:=LH hok';clear hok';subst hok;have HB5:=LH hb5;have HKB5:=LH hkb5;clear hb5 hkb5 HCI HB4 HKB4
        cases ok
        .have HOK4:Hid (feetRes p F=false):=feetRes_bad (by rw[<-HNF2.out];exact hlt2) HOK.out.symm;go_wp2;go_ret;exact⟨by rw[HR.out,HOK4.out];rfl,HBI.out.trans (HB5.out.mono HBI.out.size)⟩
        obtain⟨W0,hW0⟩:∃W0,W0=wc:=⟨_,rfl⟩
        rw[<-hW0]at HB5 HKB5|-;clear hW0;have HT0:Hid (Bel W3.heap.size W3 W0):=HMI.out.bel.trans (HB5.out.mono hsw);have hst:SX w W0 W3.heap.size B10 B11 W0:=SX.start (SHs.start HBC.out.size HT0.out.size (HBC.out.trans (HT0.out.mono HBC.out.size))) hB10 hB11;obtain⟨⟨xl,al,nl1,cl,ml,hkl,hql⟩,⟨xh,ah,nh,ch,mh,hkh,hqh⟩,hbm2⟩:=HMI.out;have hkl0:=(HB5.out.block _ (BlkT.lt ⟨_,_,hkl⟩)).trans hkl;have hkh0:=(HB5.out.block _ (BlkT.lt ⟨_,_,hkh⟩)).trans hkh
        have HQL:=LH (hql.pres HB5.out.pb);have HQH:=LH (hqh.pres HB5.out.pb);have HQX:=LH (Q0.out.pres HB5.out.pb);have HFL:Hid (QF L (mmK ltB (footX p F) i)):=QF.mm HFX.out (by have:=HNF2.out;omega) (by have:=HNF2.out;omega);have HFH:Hid (QF L (mmK gtB (footX p F) i)):=QF.mm HFX.out (by have:=HNF2.out;omega) (by have:=HNF2.out;omega)
        have HFXI:Hid (QF L (footX p F i)):=HFX.out i (by rw[<-HNF2.out];exact hlt2);have h1L:1<=L:=HL1.out;have hLs:L+L<=1000000000:=by have:=HLS.out;omega
        have hb10:=BlkT.lt ⟨_,_,hkl0⟩;have hb11:=BlkT.lt ⟨_,_,hkh0⟩;have hbx:=BlkT.lt ⟨_,_,HKB5.out⟩;have hx10:wr.heap.size≠B10:=by have:=BlkT.lt ⟨_,_,hkl⟩;omega
        have hx11:wr.heap.size≠B11:=by have:=BlkT.lt ⟨_,_,hkh⟩;omega
        obtain⟨z0,z1,z2,z3,z4,z5⟩:=row3 hkl0;obtain⟨y0',y1',y2',y3',y4',y5'⟩:=row3 hkh0;obtain⟨r0,r1,r2,-,-,-,-,-,-,-,-,-⟩:=row12 HKB5.out;have HS3:Hid (W3.heap.size<=wr.heap.size):=hsw;have hi5:i<100:=by omega
        clear hkl hkh hql hqh hbm2 HMI hsw HM HK HW HXC HXI HPC HFR HRN HPL HFF HX HNW HNL HFE HK8 HQ8 HWF HNF HN0 HBW HK0 HFB HHF HBI2 Q0 Q2 HFI HN HFX hwc1 hB8g hB8l hzc hbs hz1 hmc hlc hn4 h4 hkk hac hne hbfl hbm hfn hic hrl hlp
        go_wp2_with fail
        have hst2:SHs w W0 W0.heap.size W0:=SHs.start hst.sh.base.size NL hst.sh.base;refine wp_region_noPanic ?_;refine wp_region_K (S:=(fun w'=>(∀(b o:Nat),b<W0.heap.size->w'.cell? ⟨b,o,none⟩=W0.cell? ⟨b,o,none⟩)/\SHs w W0 (W0.heap.size) w')) (k:=12) (by kernel_rfl) ?_ (fun hHeld=>?_)
        . ((try dsimp only);(exact K2s))
        refine TK 0 [5,4] ?_;refine TK 1 [5,4,3,2] ?_;refine TK 2 [5,4,3] ?_;refine TK 3 [5,4] ?_;refine TK 6 [11,10] ?_;refine TK 7 [11,10,9,8] ?_;refine TK 8 [11,10,9] ?_;refine TK 9 [11,10] ?_;refine KRs [4,10] ?_;refine KCs (fun K hK=>?_) ?_
        .go_simp;refine SS hK fun hHeld=>?_;clear hK K
         refine KRs [5,10] ?_;refine KCs (fun K hK=>?_) ?_
         .go_simp
          ((try (rename _/\_=>hh;rcases hh with⟨hSc,hSb⟩));refine(Min_c (QS.two RW2 (HQL.out.pres CH2s) (HQX.out.pres CH2s)) (QF.q2 HFL.out HFXI.out) h1L (by omega) hLs).mono ?_;rintro e w20 ⟨vq1,rfl,hQ1,hb1⟩;obtain⟨xn,an,nn,cn,mn,rfl⟩:=hQ1.cells;have hz1:=hb1.size;(try simp at hz1))
          (try go_wp2_with fail)
          refine SS hK fun hHeld=>?_;clear hK K
          refine KRs [10] ?_;refine KCs (fun K hK=>?_) ?_
          .go_simp;refine SS hK fun hHeld=>?_;clear hK K
           refine KRs [11] ?_;refine KCs (fun K hK=>?_) ?_
           .go_simp
            ((try (rename _/\_=>hh;rcases hh with⟨hSc,hSb⟩));refine(Max_c (QS.two RW2 (HQH.out.pres CH2s) (HQX.out.pres CH2s)) (QF.q2 HFH.out HFXI.out) h1L (by omega) hLs).mono ?_;rintro e w21 ⟨vq2,rfl,hQ2',hb2⟩;obtain⟨xm,am2,nm2,cm2,mm2,rfl⟩:=hQ2'.cells;have hz2:=hb2.size;(try simp at hz2);have hr10':w21.heap[B10]?=some (.cells #[.bool xl,.slice al nl1 nl1,.slice cl ml ml] 39):=RW2;have hr11':w21.heap[B11]?=some (.cells #[.bool xh,.slice ah nh nh,.slice ch mh mh] 39):=RW2;have hQ1':=QV.pres (w':=w21) hQ1 CH2s;obtain⟨hd0,hd1,hd2,hg0,hg1,hg2⟩:=row3 hr10';obtain⟨hd3,hd4,hd5,hg3,hg4,hg5⟩:=row3 hr11')
            (try go_wp2_with fail)
            refine SS hK fun hHeld=>?_;clear hK K
            refine KRs [12] ?_;refine KCs (fun K hK=>?_) ?_
            .go_simp;refine SE hK ?_;clear hK K
             refine KRs [13] ?_;refine KCs (fun K hK=>?_) ?_
             .go_simp;refine SE hK ?_;clear hK K
              refine wpAnyK_done (by kernel_rfl) ?_ _;refine NoPanic.normal ?_;go_wp2
              go_roundg (nf-(i+1))
              case rel=>exact⟨i+1,rfl,by omega,by push_cast;rfl,next_ok HJ.out HOK.out.symm,MmIn.step hB10 hB11 hBne hr10' hr11' hQ1' hQ2' (HT0.out.trans (hHeld.2.near.mono HT0.out.size))⟩
              case measure=>omega
             exact KNs
            exact KNs
           exact KNs
          exact KNs
         refine KCs (fun K hK=>?_) ?_
         .go_simp;refine SS hK fun hHeld=>?_;clear hK K
          refine KRs [5] ?_;refine KCs (fun K hK=>?_) ?_
          .go_simp
           ((try (rename _/\_=>hh;rcases hh with⟨hSc,hSb⟩));refine(Min_c (QS.two RW2 (HQL.out.pres CH2s) (HQX.out.pres CH2s)) (QF.q2 HFL.out HFXI.out) h1L (by omega) hLs).mono ?_;rintro e w20 ⟨vq1,rfl,hQ1,hb1⟩;obtain⟨xn,an,nn,cn,mn,rfl⟩:=hQ1.cells;have hz1:=hb1.size;(try simp at hz1))
           (try go_wp2_with fail)
           refine SS hK fun hHeld=>?_;clear hK K
           refine KRs [11] ?_;refine KCs (fun K hK=>?_) ?_
           .go_simp
            ((try (rename _/\_=>hh;rcases hh with⟨hSc,hSb⟩));refine(Max_c (QS.two RW2 (HQH.out.pres CH2s) (HQX.out.pres CH2s)) (QF.q2 HFH.out HFXI.out) h1L (by omega) hLs).mono ?_;rintro e w21 ⟨vq2,rfl,hQ2',hb2⟩;obtain⟨xm,am2,nm2,cm2,mm2,rfl⟩:=hQ2'.cells;have hz2:=hb2.size;(try simp at hz2);have hr10':w21.heap[B10]?=some (.cells #[.bool xl,.slice al nl1 nl1,.slice cl ml ml] 39):=RW2;have hr11':w21.heap[B11]?=some (.cells #[.bool xh,.slice ah nh nh,.slice ch mh mh] 39):=RW2;have hQ1':=QV.pres (w':=w21) hQ1 CH2s;obtain⟨hd0,hd1,hd2,hg0,hg1,hg2⟩:=row3 hr10';obtain⟨hd3,hd4,hd5,hg3,hg4,hg5⟩:=row3 hr11')
            (try go_wp2_with fail)
            refine SS hK fun hHeld=>?_;clear hK K
            refine KRs [12] ?_;refine KCs (fun K hK=>?_) ?_
            .go_simp;refine SE hK ?_;clear hK K
             refine KRs [13] ?_;refine KCs (fun K hK=>?_) ?_
             .go_simp;refine SE hK ?_;clear hK K
              refine wpAnyK_done (by kernel_rfl) ?_ _;refine NoPanic.normal ?_;go_wp2
              go_roundg (nf-(i+1))
              case rel=>exact⟨i+1,rfl,by omega,by push_cast;rfl,next_ok HJ.out HOK.out.symm,MmIn.step hB10 hB11 hBne hr10' hr11' hQ1' hQ2' (HT0.out.trans (hHeld.2.near.mono HT0.out.size))⟩
              case measure=>omega
             exact KNs
            exact KNs
           exact KNs
          exact KNs
         exact KNs
        refine KCs (fun K hK=>?_) ?_
        .go_simp;refine SS hK fun hHeld=>?_;clear hK K
         refine KRs [4] ?_;refine KCs (fun K hK=>?_) ?_
         .go_simp;refine SS hK fun hHeld=>?_;clear hK K
          refine KRs [5] ?_;refine KCs (fun K hK=>?_) ?_
          .go_simp
           ((try (rename _/\_=>hh;rcases hh with⟨hSc,hSb⟩));refine(Min_c (QS.two RW2 (HQL.out.pres CH2s) (HQX.out.pres CH2s)) (QF.q2 HFL.out HFXI.out) h1L (by omega) hLs).mono ?_;rintro e w20 ⟨vq1,rfl,hQ1,hb1⟩;obtain⟨xn,an,nn,cn,mn,rfl⟩:=hQ1.cells;have hz1:=hb1.size;(try simp at hz1))
           (try go_wp2_with fail)
           refine SS hK fun hHeld=>?_;clear hK K
           refine KRs [11] ?_;refine KCs (fun K hK=>?_) ?_
           .go_simp
            ((try (rename _/\_=>hh;rcases hh with⟨hSc,hSb⟩));refine(Max_c (QS.two RW2 (HQH.out.pres CH2s) (HQX.out.pres CH2s)) (QF.q2 HFH.out HFXI.out) h1L (by omega) hLs).mono ?_;rintro e w21 ⟨vq2,rfl,hQ2',hb2⟩;obtain⟨xm,am2,nm2,cm2,mm2,rfl⟩:=hQ2'.cells;have hz2:=hb2.size;(try simp at hz2);have hr10':w21.heap[B10]?=some (.cells #[.bool xl,.slice al nl1 nl1,.slice cl ml ml] 39):=RW2;have hr11':w21.heap[B11]?=some (.cells #[.bool xh,.slice ah nh nh,.slice ch mh mh] 39):=RW2;have hQ1':=QV.pres (w':=w21) hQ1 CH2s;obtain⟨hd0,hd1,hd2,hg0,hg1,hg2⟩:=row3 hr10';obtain⟨hd3,hd4,hd5,hg3,hg4,hg5⟩:=row3 hr11')
            (try go_wp2_with fail)
            refine SS hK fun hHeld=>?_;clear hK K
            refine KRs [12] ?_;refine KCs (fun K hK=>?_) ?_
            .go_simp;refine SE hK ?_;clear hK K
             refine KRs [13] ?_;refine KCs (fun K hK=>?_) ?_
             .go_simp;refine SE hK ?_;clear hK K
              refine wpAnyK_done (by kernel_rfl) ?_ _;refine NoPanic.normal ?_;go_wp2
              go_roundg (nf-(i+1))
              case rel=>exact⟨i+1,rfl,by omega,by push_cast;rfl,next_ok HJ.out HOK.out.symm,MmIn.step hB10 hB11 hBne hr10' hr11' hQ1' hQ2' (HT0.out.trans (hHeld.2.near.mono HT0.out.size))⟩
              case measure=>omega
             exact KNs
            exact KNs
           exact KNs
          exact KNs
         exact KNs
        exact KNs
      .obtain rfl:i=nf:=by omega
       have HE:Hid (feetRes p F=decide (cmpR (mmK gtB (footX p F) i-mmK ltB (footX p F) i) p.walker.span<=0)):=by
        show _=_
        have h:=feetRes_good (p:=p) (F:=F) (by rw[<-HNF2.out];exact HJ.out);rw[<-HNF2.out]at h;exact h
       obtain⟨W0,hW0⟩:∃W0,W0=wr:=⟨_,rfl⟩
       rw[<-hW0]at HBI hmm HMI hsw|-;obtain⟨⟨xl,al,nl1,cl,ml,hkl,hql⟩,⟨xh,ah,nh,ch,mh,hkh,hqh⟩,hbm2⟩:=hmm;have HQL:=LH hql;have HQH:=LH hqh;have HFL:Hid (QF L (mmK ltB (footX p F) i)):=QF.mm HFX.out (by have:=HNF2.out;omega) (by have:=HNF2.out;omega);have HFH:Hid (QF L (mmK gtB (footX p F) i)):=QF.mm HFX.out (by have:=HNF2.out;omega) (by have:=HNF2.out;omega);have HSQ:Hid (QV W0 (.agg #[g 11,g 12,g 13]) p.walker.span):=HK.out.span.pres HBI.out.pb
       have HSF:Hid (QF L p.walker.span):=HFF.out.walker.span;have hb10:=BlkT.lt ⟨_,_,hkl⟩;have hb11:=BlkT.lt ⟨_,_,hkh⟩;obtain⟨z0,z1,z2,-,-,-⟩:=row3 hkl;obtain⟨y0',y1',y2',-,-,-⟩:=row3 hkh;obtain⟨-,-,-,-,-,-,-,-,-,-,-,e11,e12,e13,-,-,-,-,-,-,-,-,-,-,-,-,-,-,-,-,-,-⟩:=row32 ((hbm2.block _ (by omega)).trans HPC.out);have hbp:w.heap.size<W0.heap.size:=by omega
       have hst:SHs w W0 W0.heap.size W0:=SHs.start HBI.out.size NL HBI.out;obtain⟨dl,hdl⟩:∃dl,dl=mmK gtB (footX p F) i-mmK ltB (footX p F) i:=⟨_,rfl⟩
       have HDL:=LH hdl;have HDF:Hid (QF (L+L+1) dl):=by show QF _ _;rw[hdl];exact HFH.out.sub HFL.out
       rw[<-hdl]at HE;clear hW0 hkl hkh hql hqh hbm2 hsw hj hdl;clear HMI HM HK HW HXC HFR HRN HPL HFF HX HNW HNL HFE HK8 HQ8 HWF HNF HN0 HBW HK0 HFB HFX
       go_wp2_with fail
       go_region_held3 (fun w'=>(∀(b o:Nat),b<W0.heap.size->w'.cell? ⟨b,o,none⟩=W0.cell? ⟨b,o,none⟩)/\SHs w W0 (W0.heap.size) w') (exact K2s)
        (first
         |(go_at_call 190;(try (rename _/\_=>hh;rcases hh with⟨hSc,hSb⟩));refine(qsub_c' (HQH.out.pres CH2s) (HQL.out.pres CH2s) HFH.out HFL.out (by have:=HLS.out;omega)).mono ?_;rintro e w20 ⟨vq1,rfl,hQ1,hb1⟩;rw[<-HDL.out]at hQ1;have hz1:=(hSb.call hb1).near.size)
         |(go_at_call 24;(try (rename _/\_=>hh;rcases hh with⟨hSc,hSb⟩));refine(qcmp_c (hQ1.pres CH2s) (HSQ.out.pres CH2s) HDF.out HSF.out (by have:=HLS.out;omega)).mono ?_;rintro e w21 ⟨rfl,hb2⟩;have hz2:=(hSb.call hb2).near.size))
       all_goals go_wp2
       all_goals((try (rename _/\_=>hh;rcases hh with⟨hSc,hSb⟩));go_ret;exact⟨by rw[HR.out,HE.out];rfl,hSb.base⟩)
def possibleB (p:ProbD)(s:StateD):Bool:=decide (0<=s.phase) && (decide (s.phase<(p.word.length:Int)) && (holdsB p s.holds && standsB p s))
def StandsC:Prop:=∀(w:World) (pv sv:Value) (p:ProbD) (s:StateD) (L:Nat),PVal w pv p->StateV w sv s->ProbF L p->1<=L->worldB p=true->0<=s.phase->s.phase<(p.word.length:Int)->holdsB p s.holds=true->
 Calls Tryz.prog 147 #[pv,sv] w fun e w'=>e=.returned (.bool (standsB p s))/\Bel w.heap.size w w'
theorem loadP_range {w:World}{b:Nat}{v0 v1 v2 v3 v4 v5 v6 v7 v8 v9 v10 v11 v12 v13 v14 v15 v16 v17 v18 v19 v20 v21 v22 v23 v24 v25 v26 v27 v28 v29 v30 v31:Value}{T:TypeId}(h:w.heap[b]?=some (.cells #[v0,v1,v2,v3,v4,v5,v6,v7,v8,v9,v10,v11,v12,v13,v14,v15,v16,v17,v18,v19,v20,v21,v22,v23,v24,v25,v26,v27,v28,v29,v30,v31] T)):w.rangeAt b 0 [v0,v1,v2,v3,v4,v5,v6,v7,v8,v9,v10,v11,v12,v13,v14,v15,v16,v17,v18,v19,v20,v21,v22,v23,v24,v25,v26,v27,v28,v29,v30,v31]:=rangeAt_of_list h 0 32
theorem holdsB_len {p:ProbD}{l:List Int}(h:holdsB p l=true)(hw:worldB p=true):l.length<=4:=by
 unfold holdsB at h;unfold worldB at hw;simp only[Bool.and_eq_true,decide_eq_true_eq]at h hw;have:=ckWord_zero hw.2;omega
theorem possible_c {w:World}{pv sv:Value}{p:ProbD}{s:StateD}{L:Nat}(hSC:StandsC)(hp:PVal w pv p)(hs:StateV w sv s)(hF:ProbF L p)(h1L:1<=L)(hw:worldB p=true)(hlen:s.holds.length<=1000000):
 Calls Tryz.prog 97 #[pv,sv] w fun e w'=>e=.returned (.bool (possibleB p s))/\Bel w.heap.size w w':=by
 have HP:=LH hp;have HS:=LH hs;have HSC:=LH hSC;have HF:=LH hF;have HW:=LH hw;have HR:Hid (possibleB p s=(decide (0<=s.phase) && (decide (s.phase<(p.word.length:Int)) && (holdsB p s.holds && standsB p s)))):=rfl
 have HSB:Hid (∀W0,Bel w.heap.size w W0->0<=s.phase->s.phase<(p.word.length:Int)->holdsB p s.holds=true->Calls Tryz.prog 147 #[pv,sv] W0 fun e w'=>e=.returned (.bool (standsB p s))/\Bel W0.heap.size W0 w'):=
  fun W0 hb h0 h1 h2=>hSC _ _ _ _ _ _ (hp.bel hb) (hs.pres hb.pb) hF h1L hw h0 h1 h2
 have HHB:Hid (∀W0,Bel w.heap.size w W0->∀lv,IntsV w lv s.holds->Calls Tryz.prog 92 #[pv,lv] W0 fun e w'=>e=.returned (.bool (holdsB p s.holds))/\Bel W0.heap.size W0 w'):=
  fun W0 hb lv hl=>holds_c (hp.bel hb) (hl.pres hb.pb) hlen
 obtain⟨g,mo,mc,wo,wc,so,sc,go,gc,rfl,-,-,-,-,-,-⟩:=hp.lit;obtain⟨hv,rfl,hli⟩:=hs;have HLI:=LH hli;obtain⟨lo,lc,rfl,hlc,hlx⟩:=hli;clear hp hF hw hSC hlx hlc;generalize possibleB p s=R at HR|-;generalize standsB p s=SB at HR HSB|-;generalize holdsB p s.holds=HBo at HR HHB HSB|-;generalize s.holds.length=nl at *;generalize s.phase=ph at *;generalize p.map.length=n at *;generalize p.word.length=n2 at *
 generalize p.start.length=n3 at *;generalize p.goal.length=n4 at *;generalize p.walker.legs=legs at *
 by_cases h0:0<=ph
 .have d0:decide (ph>=0)=true:=decide_eq_true h0
  by_cases h1:ph<(n2:Int)
  .have d1:decide (ph<(n2:Int))=true:=decide_eq_true h1;have HE:Hid (R=(HBo && SB)):=by show _=_;rw[HR.out,decide_eq_true h0,decide_eq_true h1];rfl
   have H01:Hid (0<=ph/\ph<(n2:Int)):=⟨h0,h1⟩
   clear HR h1
   go_enter Tryz.func97,Tryz.ntmps97
   go_upto_region 1 with fail
   refine name_world ?_;intro W1 hW1;have hk0:=at_world hW1 (b:=w.heap.size) ((heap_old _ _ (by simp)).trans (heap_new _ _ rfl));have hk1:=at_world hW1 (b:=w.heap.size+1) (heap_new _ _ (by simp));have hBW:Bel w.heap.size w W1:=by rw[hW1];exact Bel.new.alloc (by simp) _
   have hz1:W1.heap.size=w.heap.size+1+1:=by rw[hW1];simp
   have hb0:w.heap.size<W1.heap.size:=by omega
   have hb1:w.heap.size+1<W1.heap.size:=by omega
   have HBW:=LH hBW;have HK0:=LH hk0;have HK1:=LH hk1;clear hW1 hBW hk0 hk1;have HLD:=LH (loadP_range HK0.out);obtain⟨-,-,-,-,-,-,-,-,-,-,-,-,-,-,-,-,-,-,-,-,-,-,-,-,-,-,e26,-,-,-,-,-⟩:=row32 HK0.out;obtain⟨s0,s1,-,-⟩:=row2 HK1.out
   go_wp2_with (refine wpList_load_g 44 (.tmp 2) rfl _ _ rfl _ _ HLD.out Tryz.underlying44 rfl (by kernel_rfl) rfl ?_)
   refine(HHB.out _ HBW.out _ HLI.out).mono ?_;rintro e w2 ⟨rfl,hb2⟩;have HB2:Hid (Bel w.heap.size w w2):=HBW.out.trans (hb2.mono HBW.out.size);have HK02:=LH ((hb2.block _ hb0).trans HK0.out);have HK12:=LH ((hb2.block _ hb1).trans HK1.out);clear hb2 s0 s1 e26 HLD;have HLD:=LH (loadP_range HK02.out);obtain⟨s0,s1,-,-⟩:=row2 HK12.out
   cases HBo
   .have HE2:Hid (R=false):=by show _=_;rw[HE.out];rfl
    go_wp2;go_ret;exact⟨by rw[HE2.out];rfl,HB2.out⟩
   .have HE2:Hid (R=SB):=by show _=_;rw[HE.out];rfl
    go_wp2_with (refine wpList_load_g 44 (.tmp 2) rfl _ _ rfl _ _ HLD.out Tryz.underlying44 rfl (by kernel_rfl) rfl ?_)
    refine(HSB.out _ HB2.out H01.out.1 H01.out.2 trivial).mono ?_;rintro e w3 ⟨rfl,hb3⟩;have HB3:Hid (Bel w.heap.size w w3):=HB2.out.trans (hb3.mono HB2.out.size);clear hb3 s0 s1 HLD;go_wp2;go_ret;exact⟨by rw[HE2.out];rfl,HB3.out⟩
  .have d1:decide (ph<(n2:Int))=false:=decide_eq_false h1;have HE:Hid (R=false):=by show _=_;rw[HR.out,decide_eq_true h0,decide_eq_false h1];rfl
   clear HR h1
   go_enter Tryz.func97,Tryz.ntmps97
   go_wp2;go_ret;exact⟨by rw[HE.out];rfl,Bel.new.alloc (by simp) _⟩
 .have d0:decide (ph>=0)=false:=decide_eq_false h0;have HE:Hid (R=false):=by show _=_;rw[HR.out,decide_eq_false h0];rfl
  clear HR h0
  go_enter Tryz.func97,Tryz.ntmps97
  go_wp2;go_ret;exact⟨by rw[HE.out];rfl,Bel.new.alloc (by simp) _⟩
theorem feetK_pos {x:Nat}{hs:List Int}{j:Nat}(hb:bit x j=true):∀k,j<k->0<(feetK x hs k).length
 |0,h=>by omega
 |k+1,h=>by
  unfold feetK;split
  .simp
  .rename_i hk
   have:j≠k:=fun e=>by rw[e]at hb;exact hk hb
   exact feetK_pos hb k (by omega)
theorem bit_some {x l:Nat}(h0:x≠0)(hx:x<256)(hl:x/2^l=0)(h4:l<=4):∃j,j<l/\bit x j=true:=by
 have:∀x:Fin 256,∀l:Fin 5,x.val≠0->x.val/2^l.val=0->∃j:Fin 4,j.val<l.val/\bit x.val j.val=true:=by decide+kernel
 obtain⟨j,hj,hb⟩:=this ⟨x,hx⟩ ⟨l,by omega⟩ h0 hl;exact⟨j.val,hj,hb⟩
theorem ckWord_ph {legs:Int}{W:List Nat}(h:ckWord legs W=0){i:Nat}(hi:i<W.length):phOk legs.toNat (W.getD i 0) (nxt W i)=true:=by
 have hz:=ckWord_zero h;unfold ckWord at h;rw[if_neg (by omega),if_neg (by omega)]at h;split at h
 .rename_i h1
  exact List.all_eq_true.1 h1 i (by simpa using hi)
 .cases h
theorem standsC_holds:StandsC:=by
 intro w pv sv p s L hp hs hF h1 hw h0 hlt hh;obtain⟨ph,hph⟩:∃ph:Nat,s.phase=ph:=⟨s.phase.toNat,by omega⟩
 have hpl:ph<p.word.length:=by omega
 have hw2:=hw;unfold worldB at hw2;simp only[Bool.and_eq_true,decide_eq_true_eq]at hw2;have hz:=ckWord_zero hw2.2;have hok:=ckWord_ph hw2.2 hpl;have hh2:=hh;unfold holdsB at hh2;simp only[Bool.and_eq_true,decide_eq_true_eq,Bool.not_eq_true',List.any_eq_false]at hh2;have h4:s.holds.length<=4:=by omega
 have hxl:p.word.getD ph 0<256:=by
  obtain⟨g,-,hv⟩:=hp;exact hv.word.1 _
 unfold phOk at hok;simp only[Bool.and_eq_true,Bool.not_eq_true',beq_eq_false_iff_ne,beq_iff_eq]at hok;have hln:p.walker.legs.toNat=s.holds.length:=by omega
 rw[hln]at hok;obtain⟨j,hj,hb⟩:=bit_some hok.1.1 hxl hok.1.2 h4;refine stands_loop hp hs hF h1 hph hpl h4 ?_ (feetK_pos hb _ hj);intro i hi;have:=hh2.2 (s.holds.getD i 0) (by rw[getD_get hi];exact List.getElem_mem hi);unfold outB at this;simp only[Bool.or_eq_true,decide_eq_true_eq,not_or]at this;exact⟨(s.holds.getD i 0).toNat,by omega,by omega⟩
theorem worldPoss_c {w:World}{pv sv:Value}{p:ProbD}{s:StateD}{L:Nat}(hp:PVal w pv p)(hs:StateV w sv s)(hF:ProbF L p)(h1L:1<=L)(hw:worldB p=true)(hlen:s.holds.length<=1000000):
 Calls Tryz.prog 97 #[pv,sv] w fun e w'=>e=.returned (.bool (possibleB p s))/\Bel w.heap.size w w':=possible_c standsC_holds hp hs hF h1L hw hlen
def PossB (p:ProbD)(s:StateD):Bool:=worldB p && possibleB p s
theorem Possible_c {w:World}{pv sv:Value}{p:ProbD}{s:StateD}{L:Nat}(hp:PVal w pv p)(hs:StateV w sv s)(hF:ProbF L p)(h1L:1<=L)(hlen:s.holds.length<=1000000):
 Calls Tryz.prog 31 #[pv,sv] w fun e w'=>e=.returned (.bool (PossB p s))/\Bel w.heap.size w w':=by
 have HWC:Hid (∀W0,Bel w.heap.size w W0->Calls Tryz.prog 100 #[pv] W0 fun e w'=>e=.returned (.bool (worldB p))/\Bel W0.heap.size W0 w'):=fun W0 hb=>world_c (hp.bel hb) hF
 have HPC:Hid (∀W0,Bel w.heap.size w W0->worldB p=true->Calls Tryz.prog 97 #[pv,sv] W0 fun e w'=>e=.returned (.bool (possibleB p s))/\Bel W0.heap.size W0 w'):=
  fun W0 hb hw=>worldPoss_c (hp.bel hb) (hs.pres hb.pb) hF h1L hw hlen
 have HR:Hid (PossB p s=(worldB p && possibleB p s)):=rfl;obtain⟨g,mo,mc,wo,wc,so,sc,go,gc,rfl,-,-,-,-,-,-⟩:=hp.lit;obtain⟨hv,rfl,lo,lc,rfl,hlc,hlx⟩:=hs;clear hp hF hlx hlc;generalize PossB p s=R at HR|-;generalize possibleB p s=PB at HR HPC|-;generalize worldB p=WB at HR HWC HPC|-;generalize s.holds.length=nl at *;generalize s.phase=ph at *;generalize p.map.length=n at *;generalize p.word.length=n2 at *
 generalize p.start.length=n3 at *;generalize p.goal.length=n4 at *;generalize p.walker.legs=legs at *
 go_enter Tryz.func31,Tryz.ntmps31
 go_upto_region 1 with fail
 refine name_world ?_;intro W1 hW1;have hk0:=at_world hW1 (b:=w.heap.size) ((heap_old _ _ (by simp)).trans (heap_new _ _ rfl));have hk1:=at_world hW1 (b:=w.heap.size+1) (heap_new _ _ (by simp));have hBW:Bel w.heap.size w W1:=by rw[hW1];exact Bel.new.alloc (by simp) _
 have hz1:W1.heap.size=w.heap.size+1+1:=by rw[hW1];simp
 have hb0:w.heap.size<W1.heap.size:=by omega
 have hb1:w.heap.size+1<W1.heap.size:=by omega
 have HBW:=LH hBW;have HK0:=LH hk0;have HK1:=LH hk1;clear hW1 hBW hk0 hk1;have HLD:=LH (loadP_range HK0.out)
 go_wp2_with (refine wpList_load_g 44 (.tmp 2) rfl _ _ rfl _ _ HLD.out Tryz.underlying44 rfl (by kernel_rfl) rfl ?_)
 refine(HWC.out _ HBW.out).mono ?_;rintro e w2 ⟨rfl,hb2⟩;have HB2:Hid (Bel w.heap.size w w2):=HBW.out.trans (hb2.mono HBW.out.size);have HK02:=LH ((hb2.block _ hb0).trans HK0.out);have HK12:=LH ((hb2.block _ hb1).trans HK1.out);clear hb2 HLD;have HLD:=LH (loadP_range HK02.out);obtain⟨s0,s1,-,-⟩:=row2 HK12.out
 cases WB
 .have HE2:Hid (R=false):=by show _=_;rw[HR.out];rfl
  go_wp2;go_ret;exact⟨by rw[HE2.out];rfl,HB2.out⟩
 .have HE2:Hid (R=PB):=by show _=_;rw[HR.out];rfl
  go_wp2_with (refine wpList_load_g 44 (.tmp 2) rfl _ _ rfl _ _ HLD.out Tryz.underlying44 rfl (by kernel_rfl) rfl ?_)
  refine(HPC.out _ HB2.out trivial).mono ?_;rintro e w3 ⟨rfl,hb3⟩;have HB3:Hid (Bel w.heap.size w w3):=HB2.out.trans (hb3.mono HB2.out.size);clear hb3 s0 s1 HLD;go_wp2;go_ret;exact⟨by rw[HE2.out];rfl,HB3.out⟩
def probB (p:ProbD):Bool:=worldB p && (possibleB p ⟨0,p.start⟩ && (decide (p.goal.length=0)||holdsB p p.goal))
def ckProb (p:ProbD):Int:=if probB p then 0 else 2
theorem checkProblem_c {w:World}{pv:Value}{p:ProbD}{L:Nat}(hp:PVal w pv p)(hF:ProbF L p)(h1L:1<=L)(hls:p.start.length<=1000000)(hlg:p.goal.length<=1000000):
 Calls Tryz.prog 30 #[pv] w fun e w'=>e=.returned (.int .i64 (ckProb p))/\Bel w.heap.size w w':=by
 have HWC:Hid (∀W0,Bel w.heap.size w W0->Calls Tryz.prog 100 #[pv] W0 fun e w'=>e=.returned (.bool (worldB p))/\Bel W0.heap.size W0 w'):=fun W0 hb=>world_c (hp.bel hb) hF
 have HPC:Hid (∀W0,Bel w.heap.size w W0->worldB p=true->∀lv,IntsV w lv p.start->Calls Tryz.prog 97 #[pv,.agg #[.int .i64 0,lv]] W0 fun e w'=>e=.returned (.bool (possibleB p ⟨0,p.start⟩))/\Bel W0.heap.size W0 w'):=
  fun W0 hb hw lv hl=>worldPoss_c (s:=⟨0,p.start⟩) (hp.bel hb) ⟨lv,rfl,hl.pres hb.pb⟩ hF h1L hw hls
 have HHC:Hid (∀W0,Bel w.heap.size w W0->∀lv,IntsV w lv p.goal->Calls Tryz.prog 92 #[pv,lv] W0 fun e w'=>e=.returned (.bool (holdsB p p.goal))/\Bel W0.heap.size W0 w'):=
  fun W0 hb lv hl=>holds_c (hp.bel hb) (hl.pres hb.pb) hlg
 have HR:Hid (ckProb p=if(worldB p && (possibleB p ⟨0,p.start⟩ && (decide (p.goal.length=0)||holdsB p p.goal))) then 0 else 2):=rfl;obtain⟨g,mo,mc,wo,wc,so,sc,go,gc,rfl,-,-,-,hst,hgo,-⟩:=hp.lit;have HST:=LH hst;have HGO:=LH hgo;clear hp hF hst hgo;generalize ckProb p=R at HR|-;generalize possibleB p ⟨0,p.start⟩=PB at HR HPC|-;generalize worldB p=WB at HR HWC HPC|-;generalize holdsB p p.goal=HB at HR HHC|-
 generalize p.map.length=n at *;generalize p.word.length=n2 at *;generalize p.start.length=n3 at *;generalize p.goal.length=n4 at *;generalize p.walker.legs=legs at *
 go_enter Tryz.func30,Tryz.ntmps30
 go_upto_region 1 with fail
 refine name_world ?_;intro W1 hW1;have hk0:=at_world hW1 (b:=w.heap.size) (heap_new _ _ rfl);have hBW:Bel w.heap.size w W1:=by rw[hW1];exact(Bel.refl _ _).alloc NL _
 have hz1:W1.heap.size=w.heap.size+1:=by rw[hW1];simp
 have hb0:w.heap.size<W1.heap.size:=by omega
 have HBW:=LH hBW;have HK0:=LH hk0;clear hW1 hBW hk0;have HLD:=LH (loadP_range HK0.out)
 go_wp2_with (refine wpList_load_g 44 (.tmp 1) rfl _ _ rfl _ _ HLD.out Tryz.underlying44 rfl (by kernel_rfl) rfl ?_)
 refine(HWC.out _ HBW.out).mono ?_;rintro e w2 ⟨rfl,hb2⟩;have HB2:Hid (Bel w.heap.size w w2):=HBW.out.trans (hb2.mono HBW.out.size);have hk2:=(hb2.block _ hb0).trans HK0.out;have HK2:=LH hk2;have hlt2:=BlkT.lt ⟨_,_,hk2⟩;obtain⟨-,-,-,-,-,-,-,-,-,-,-,-,-,-,-,-,-,-,-,-,-,-,-,-,-,-,-,e27,-,-,-,-⟩:=row32 hk2;clear hb2 HLD hk2;have HLD:=LH (loadP_range HK2.out)
 cases WB
 .have HE2:Hid (R=2):=by show _=_;rw[HR.out];rfl
  go_wp2;go_ret;exact⟨by rw[HE2.out];rfl,HB2.out⟩
 go_wp2_with (refine wpList_load_g 44 (.tmp 1) rfl _ _ rfl _ _ HLD.out Tryz.underlying44 rfl (by kernel_rfl) rfl ?_)
 refine(HPC.out _ HB2.out trivial _ HST.out).mono ?_;rintro e w3 ⟨rfl,hb3⟩;have HB3:Hid (Bel w.heap.size w w3):=HB2.out.trans (hb3.mono HB2.out.size);have hk3:=(hb3.block _ hlt2).trans HK2.out;have HK3:=LH hk3;have hlt3:=BlkT.lt ⟨_,_,hk3⟩;clear e27;obtain⟨-,-,-,-,-,-,-,-,-,-,-,-,-,-,-,-,-,-,-,-,-,-,-,-,-,-,-,-,e28,-,-,-⟩:=row32 hk3;clear hb3 HLD hk3 HK2;have HLD:=LH (loadP_range HK3.out)
 cases PB
 .have HE2:Hid (R=2):=by show _=_;rw[HR.out];rfl
  go_wp2;go_ret;exact⟨by rw[HE2.out];rfl,HB3.out⟩
 by_cases hg0:n4=0
 .have HE2:Hid (R=0):=by show _=_;rw[HR.out,hg0];rfl
  have d0:¬0<n4:=by omega
  have d1:decide (0<n4)=false:=decide_eq_false d0;clear hg0;go_wp2;go_ret;exact⟨by rw[HE2.out];rfl,HB3.out⟩
 have d0:0<n4:=by omega
 have d1:decide (0<n4)=true:=decide_eq_true d0;have HE:Hid (R=if HB then 0 else 2):=by show _=_;rw[HR.out,decide_eq_false hg0];rfl
 clear hg0
 go_wp2_with (refine wpList_load_g 44 (.tmp 1) rfl _ _ rfl _ _ HLD.out Tryz.underlying44 rfl (by kernel_rfl) rfl ?_)
 refine(HHC.out _ HB3.out _ HGO.out).mono ?_;rintro e w4 ⟨rfl,hb4⟩;have HB4:Hid (Bel w.heap.size w w4):=HB3.out.trans (hb4.mono HB3.out.size);clear hb4 e28 HLD
 cases HB
 .have HE2:Hid (R=2):=by show _=_;rw[HE.out];rfl
  go_wp2;go_ret;exact⟨by rw[HE2.out];rfl,HB4.out⟩
 .have HE2:Hid (R=0):=by show _=_;rw[HE.out];rfl
  go_wp2;go_ret;exact⟨by rw[HE2.out];rfl,HB4.out⟩
def shortB (p:ProbD)(h:Int):Bool:=decide (cmpR (holdN p h).x p.target<0)
theorem goal1_c {w:World}{B n mc L m:Nat}{mo:Option Addr}{c1 c2 c3 c4 c5 c6 c7 c8 c9 c10 c11 c12 c13 c14 c15 c16 c17 c18 c19 c20 c21 c22 c23 c24 c25 c26 c27 c28 c29 c30 c31:Value}{p:ProbD}{mg:Nat->Value}(hB:w.heap[B]?=some (.cells #[.slice mo n mc,c1,c2,c3,c4,c5,c6,c7,c8,c9,c10,c11,c12,c13,c14,c15,c16,c17,c18,c19,c20,c21,c22,c23,c24,c25,c26,c27,c28,c29,c30,c31] 44))(hn:n=p.map.length)
 (hm:HoldsV w mo p.map mg) (ht:QV w (.agg #[c29,c30,c31]) p.target) (hF:ProbF L p) (hlt:m<p.map.length) (_hcap:n<=mc):
 Calls Tryz.prog 131 #[.int .i64 (m:Int),.pointer (some ⟨B,0,none⟩)] w fun e w'=>e=.returned (.bool (shortB p m))/\Bel w.heap.size w w':=by
 obtain⟨bm,om,rfl,hbm,x0,a0,n0,c0',k0,x1,a1,n1,c1',k1,x2,a2,n2,c2',k2,x3,a3,n3',c3',k3,m0,m1,m2,-,-,-,-,-,-,-,-,-,q0,-,-,-⟩:=hm.el hlt;have Q0:=LH q0;have HT:=LH ht;have HXF:=LH (hF.map m hlt).x;have HTF:=LH hF.target;have HLS:=LH hF.size;obtain⟨e0,-,-,-,-,-,-,-,-,-,-,-,-,-,-,-,-,-,-,-,-,-,-,-,-,-,-,-,-,e29,e30,e31⟩:=row32 hB;have hbl:=BlkT.lt ⟨_,_,hB⟩;have hmn:m<n:=by omega
 have HR:Hid (shortB p m=decide (cmpR (p.map.getD m hold0).x p.target<0)):=rfl;generalize shortB p m=R at HR|-;clear hm ht hF hlt q0 hB hn
 go_enter Tryz.func131,Tryz.ntmps131
 go_wp2_with fail
 rename World=>W0
 obtain⟨w,hw⟩:∃w:World,w=W0:=⟨_,rfl⟩
 have hst:SHs w W0 W0.heap.size W0:=by rw[hw];exact SHs.start NL NL (Bel.refl _ _)
 clear hw
 go_region_held3 (fun w'=>(∀(b o:Nat),b<W0.heap.size->w'.cell? ⟨b,o,none⟩=W0.cell? ⟨b,o,none⟩)/\SHs w W0 (W0.heap.size) w') (exact K2s)
  ((go_at_call 24;(try (rename _/\_=>hh;rcases hh with⟨hSc,hSb⟩));refine(qcmp_c (Q0.out.pres CH2s) (HT.out.pres CH2s) HXF.out HTF.out (by have:=HLS.out;omega)).mono ?_;rintro e w21 ⟨rfl,hb2⟩;have hz2:=(hSb.call hb2).near.size))
 all_goals go_wp2
 all_goals((try (rename _/\_=>hh;rcases hh with⟨hSc,hSb⟩));go_ret;exact⟨by rw[HR.out];rfl,hSb.near⟩)
def goalB (p:ProbD)(s:StateD):Bool:=decide (s.phase=0) && (if 0<p.goal.length then decide (s.holds=p.goal) else !s.holds.any (shortB p))
theorem goal_c {w:World}{pv sv:Value}{p:ProbD}{s:StateD}{L:Nat}(hp:PVal w pv p)(hs:StateV w sv s)(hF:ProbF L p)(hr:∀i,i<s.holds.length->∃m:Nat,s.holds.getD i 0=m/\m<p.map.length)(hlen:s.holds.length<=1000000):
 Calls Tryz.prog 68 #[pv,sv] w fun e w'=>e=.returned (.bool (goalB p s))/\Bel w.heap.size w w':=by
 obtain⟨g,mo,mc,wo,wc,so,sc,go,gc,rfl,⟨hmc,mg,hm⟩,-,-,-,hgo,htg⟩:=hp.lit;obtain⟨hv,rfl,lo,lc,rfl,hlc,hlx⟩:=hs;obtain⟨go',gc',eg,hgc,hgx⟩:=hgo;obtain⟨rfl,rfl⟩:go=go'/\gc=gc':=by cases eg;exact⟨rfl,rfl⟩
 have HEQ:Hid (∀W0,Bel w.heap.size w W0->Calls Tryz.prog 129 #[.slice lo s.holds.length lc,.slice go p.goal.length gc] W0 fun e w'=>e=.returned (.bool (decide (s.holds=p.goal)))/\∃m,w'=W0.drewN m):=fun W0 hb=>
  equalInts_c (hlx.bel hb) (hgx.bel hb) hlen
 have HCO:Hid (∀W0 B,Bel w.heap.size w W0->W0.heap[B]?=some (.cells #[.slice mo p.map.length mc,.int .i64 p.walker.legs,g 2,g 3,g 4,g 5,g 6,g 7,g 8,g 9,g 10,g 11,g 12,g 13,g 14,g 15,g 16,g 17,g 18,g 19,g 20,g 21,g 22,g 23,g 24,g 25,.slice wo p.word.length wc,.slice so p.start.length sc,.slice go p.goal.length gc,g 29,g 30,g 31] 44)->Calls Tryz.prog 130 #[.slice lo s.holds.length lc,.func (.func 131) #[] #[.pointer (some ⟨B,0,none⟩)]] W0 fun e w'=>e=.returned (.bool (s.holds.any (shortB p)))/\Bel W0.heap.size W0 w'):=fun W0 B hb hB=>
  containsGoal_c (hlx.bel hb) hlen fun i hi w' hb'=>by
   obtain⟨m,e,hmn⟩:=hr i hi;rw[e];exact goal1_c ((hb'.block _ (BlkT.lt ⟨_,_,hB⟩)).trans hB) rfl ((hm.bel hb).bel hb') ((htg.pres hb.pb).pres hb'.pb) hF hmn hmc
 have HR:Hid (goalB p s=(decide (s.phase=0) && (if 0<p.goal.length then decide (s.holds=p.goal) else !s.holds.any (shortB p)))):=rfl;clear hp hF hm hmc hgx hgc htg hlx hlc eg hr hlen;generalize goalB p s=R at HR|-;generalize decide (s.holds=p.goal)=q1 at HR HEQ;generalize s.holds.any (shortB p)=q2 at HR HCO;generalize s.holds.length=nl at *;generalize s.phase=ph at *;generalize p.map.length=n at *
 generalize p.word.length=n2 at *;generalize p.start.length=n3 at *;generalize p.goal.length=n4 at *;generalize p.walker.legs=legs at *
 by_cases h0:ph=0
 .have d0:(ph !=0)=false:=by simpa using h0
  by_cases h4:0<n4
  .have d1:decide (0<n4)=true:=decide_eq_true h4;have HE:Hid (R=q1):=by show _=_;rw[HR.out,decide_eq_true h0,if_pos h4];rfl
   clear h0 HR
   go_enter Tryz.func68,Tryz.ntmps68
   go_wp2_with fail
   refine(HEQ.out _ (Bel.new.alloc (by simp) _)).mono ?_;rintro e w2 ⟨rfl,m,rfl⟩;go_wp2;go_ret;exact⟨by rw[HE.out];rfl,((Bel.new.alloc (by simp) _).drewN m)⟩
  .have d1:decide (0<n4)=false:=decide_eq_false h4;have HE:Hid (R=!q2):=by show _=_;rw[HR.out,decide_eq_true h0,if_neg h4];rfl
   clear h0 HR
   go_enter Tryz.func68,Tryz.ntmps68
   go_wp2_with fail
   refine(HCO.out _ _ (Bel.new.alloc (by simp) _) ((heap_old _ _ (by simp)).trans (heap_new _ _ rfl))).mono ?_;rintro e w2 ⟨rfl,hb2⟩;have HB:Hid (Bel w.heap.size w w2):=((Bel.new.alloc (by simp) _)).trans (hb2.mono (by simp;omega));clear hb2;go_wp2;go_ret;exact⟨by rw[HE.out];rfl,HB.out⟩
 .have d0:(ph !=0)=true:=by simpa using h0
  have HE:Hid (R=false):=by show _=_;rw[HR.out,decide_eq_false h0];rfl
  clear h0 HR HEQ HCO
  go_enter Tryz.func68,Tryz.ntmps68
  go_wp2;go_ret;exact⟨by rw[HE.out];rfl,Bel.new.alloc (by simp) _⟩
end Go.Proofs.YtlgjakpoaelehaaGreat
