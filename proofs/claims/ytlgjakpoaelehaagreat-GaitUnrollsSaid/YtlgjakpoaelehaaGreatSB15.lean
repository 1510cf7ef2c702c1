/- Contracts and plain laws, merged: G5 M5 M6 M7 K1 M8 G6 S1 G7 G8 W0 P7 -/
import Derived.BigQuiet
import Derived.Deep.MidRow
import Derived.Deep.QuietTactic
import Derived.Deep.RegionHeld3
import Derived.StillTailTactics
import Derived.Test.YtlgjakpoaelehaaGreatSB08
import Derived.Test.YtlgjakpoaelehaaGreatSB09
import Derived.Test.YtlgjakpoaelehaaGreatSB13
import Derived.Test.YtlgjakpoaelehaaGreatSB14
namespace Go.Proofs.YtlgjakpoaelehaaGreat
open Go.RowKit
set_option maxRecDepth 100000
set_option maxHeartbeats 4000000
theorem CellsAt.drop {T:TypeId}{w:World}{b o n:Nat}{f:Nat->Value}(h:CellsAt T w (some ⟨b,o,none⟩) n f)(i:Nat):CellsAt T w (some ⟨b,o+i,none⟩) (n-i) (fun k=>f (i+k)):=fun h0=>by
 obtain⟨b',off,cur,fr,e,hb,hc⟩:=h (by omega)
 injection e with e
 injection e with e1 e2 _
 subst e1;subst e2
 exact⟨b,o+i,cur,fr,rfl,hb,fun k hk=>by rw[Nat.add_assoc];exact hc _ (by omega)⟩
def rot (W:List Nat)(i:Nat):List Nat:=W.drop i++W.take i
theorem rot_len {W:List Nat}{i:Nat}(h:i<=W.length):(rot W i).length=W.length:=by simp[rot];omega
theorem rot_get {W:List Nat}{i j:Nat}(hi:i<=W.length):(rot W i).getD j 0=if j<W.length-i then W.getD (i+j) 0 else if j<W.length then W.getD (j-(W.length-i)) 0 else 0:=by
 unfold rot;simp only[List.getD_eq_getElem?_getD,List.getElem?_append,List.length_drop];split
 .rw[List.getElem?_drop]
 .split
  .rw[List.getElem?_take_of_lt (by omega)]
  .rw[List.getElem?_take_eq_none (by omega)];rfl
def normK (W:List Nat):Nat->List Nat
 |0=>W
 |k+1=>if cmpW (fun j=>(rot W k).getD j 0) (fun j=>(normK W k).getD j 0) W.length W.length<0 then rot W k else normK W k
def normal (W:List Nat):List Nat:=normK W W.length
theorem normK_len {W:List Nat}{k:Nat}(h:k<=W.length):(normK W k).length=W.length:=by
 induction k with
 |zero=>rfl
 |succ k ih=>
  unfold normK;split
  .exact rot_len (by omega)
  .exact ih (by omega)
theorem bw_rot {W:List Nat}{i n j:Nat}(hn:W.length=n)(hi:i<=n)(hj:j<n):appF (n-i) (fun k=>bw W (i+k)) (bw W) j=bw (rot W i) j:=by
 subst hn;unfold bw;rw[rot_get hi]
 by_cases h:j<W.length-i
 .rw[appF_lt _ _ h,if_pos h]
 .rw[appF_ge _ _ (by omega),if_neg h,if_pos hj]
theorem OwnS.rebase {T:TypeId}{sz base base':Nat}{w:World}{v:Value}{n:Nat}{f:Nat->Value}(h:OwnS T sz base w v n f)(hb:base'<=base):OwnS T sz base' w v n f:=by
 obtain⟨xs,⟨h1,h2⟩,h3⟩:=h;refine⟨xs,⟨h1,?_⟩,h3⟩;rcases h2 with h2|⟨g,cap,cur,e,hg,r⟩
 .exact .inl h2
 .exact .inr ⟨g,cap,cur,e,Nat.le_trans hb hg,r⟩
theorem normK_lt {W:List Nat}{k:Nat}{c:Int}(hc:c=cmpW (fun j=>(rot W k).getD j 0) (fun j=>(normK W k).getD j 0) W.length W.length)(h:c<0):normK W (k+1)=rot W k:=by
 show(if _ then _ else _)=_
 rw[<-hc,if_pos h]
theorem normK_ge {W:List Nat}{k:Nat}{c:Int}(hc:c=cmpW (fun j=>(rot W k).getD j 0) (fun j=>(normK W k).getD j 0) W.length W.length)(h:¬c<0):normK W (k+1)=normK W k:=by
 show(if _ then _ else _)=_
 rw[<-hc,if_neg h]
structure NrmIn (w wr:World) (ov:Value) (W:List Nat) (k:Nat):Prop where
 own:OwnS 5 1 w.heap.size wr ov W.length (bw (normK W k))
 bel:Bel w.heap.size w wr
theorem normal_bad {w:World}{v:Value}{W:List Nat}{legs:Int}{T8:TypeId}(hv:WordT T8 w v W)(hc:ckWord legs W≠0):
 Calls Tryz.prog 38 #[.int .i64 legs,v] w fun e w'=>e=.returned (.tuple #[.slice none 0 0,.int .i64 (ckWord legs W)])/\w=w':=by
 have HV:=LH hv;obtain⟨c,hcc⟩:∃c,c=ckWord legs W:=⟨_,rfl⟩
 rw[<-hcc]at hc|-;have HC:=LH hcc;have hb:(c !=0)=true:=by simpa using hc
 clear hv hcc hc
 go_enter Tryz.func38,Tryz.ntmps38
 go_wp2_with fail
 refine(checkWord_c HV.out).mono ?_;rintro e w9 ⟨rfl,rfl⟩;rw[<-HC.out];go_wp2
 go_ret2
 exact⟨rfl,rfl⟩
theorem normal_good {w:World}{v:Value}{W:List Nat}{legs:Int}{T8:TypeId}(hv:WordT T8 w v W)(hc:ckWord legs W=0):
 Calls Tryz.prog 38 #[.int .i64 legs,v] w fun e w'=>∃ve,e=.returned (.tuple #[ve,.int .i64 0])/\OwnS 5 1 w.heap.size w' ve W.length (bw (normal W))/\Bel w.heap.size w w':=by
 have HV:=LH hv;obtain⟨-,-,h2,h16⟩:=ckWord_zero hc;obtain⟨hW,ao,cap,rfl,hcap,hcl⟩:=hv;obtain⟨b,o,rfl,hbl,-⟩:=hcl.open (by omega);have HC:=LH hc;have HCL:=LH hcl;obtain⟨n,hn⟩:∃n,n=W.length:=⟨_,rfl⟩
 have HN:=LH hn;rw[<-hn]at h2 h16 HV HCL hcap|-;clear hc hn hW hcl
 go_enter Tryz.func38,Tryz.ntmps38
 go_wp2_with fail
 refine(checkWord_c HV.out).mono ?_;rintro e w9 ⟨rfl,rfl⟩;rw[HC.out]
 go_wp2_with fail
 refine(cloneW_c HCL.out (fun _=>rfl) (by omega)).mono ?_;rintro e w1 ⟨v1,rfl,ho1,hb1⟩;have HS:Hid (NrmIn w w1 v1 W 0):=⟨by rw[<-HN.out];exact ho1,hb1⟩
 clear ho1 hb1;go_wp2
 go_loopg [7,8,9,20] n (fun g o _ _ i wr=>∃k:Nat,g=n-k/\k<=n/\i=.int .i64 k/\NrmIn w wr o W k)
 case atStart=>exact⟨0,rfl,Nat.zero_le _,rfl,HS.out⟩
 case round=>
  clear HS;obtain⟨k,hg,hk,rfl,hp⟩:=hrel;have HP:=LH hp;have hbs:=hp.bel.size;clear hp
  by_cases hlt:k<n
  .have hkc:k<=cap:=by omega
   have hck:¬cap=k:=by omega
   go_wp2_with fail
   go_still_tail 6,(by kernel_rfl)
   change wpList _ _ _ _ _ wr.drew;have HP2:Hid (NrmIn w wr.drew u7 W k):=⟨HP.out.own.drewN 1,HP.out.bel.drew⟩
   have hbs2:w.heap.size<=wr.drew.heap.size:=hbs;clear HP hbs;generalize wr.drew=w2 at HP2 hbs2|-;have HCL2:Hid (CellsAt T8 w2 (some ⟨b,o,none⟩) n (bw W)):=HCL.out.pres HP2.out.bel.pb
   go_wp2_with fail
   refine(concatW_c (f:=fun j=>bw W (k+j)) (g:=bw W) (by simp) (row2 (heap_new _ _ rfl)).1 (row2 (heap_new _ _ rfl)).2.1 ((CellsAt.drop HCL2.out k).pres (Pres.alloc _ _)) ((HCL2.out.mono hk).pres (Pres.alloc _ _)) (fun _=>rfl) (fun _=>rfl) (by omega) (by omega)).mono ?_;rintro e w3 ⟨v3,rfl,ho3,hb3⟩;have hs3:=hb3.size;simp only[World.size_alloc]at ho3 hs3;have HB3:Hid (Bel w2.heap.size w2 w3):=Bel.new.trans (hb3.mono (by simp))
   rw[Nat.sub_add_cancel hk]at ho3;have HO3:Hid (OwnS 5 1 w.heap.size w3 v3 n (bw (rot W k))):=(ho3.rebase (by omega)).congr fun j hj=>bw_rot HN.out.symm hk (by omega);clear ho3 hb3
   have HO7:Hid (OwnS 5 1 w.heap.size w3 u7 n (bw (normK W k))):=by
    have h:=HP2.out.own.bel HB3.out;rw[<-HN.out]at h;exact h
   have HB9:Hid (Bel w.heap.size w w3):=HP2.out.bel.trans (HB3.out.mono hbs2);obtain⟨a3,c3,rfl,hc3,hx3⟩:=HO3.out.cells;obtain⟨a7,c7,rfl,hc7,hx7⟩:=HO7.out.cells;rw[Nat.mul_one]at hx3 hx7;have HX3:=LH hx3;have HX7:=LH hx7;clear hx3 hx7;obtain⟨c,hcc⟩:∃c,c=cmpW (fun j=>(rot W k).getD j 0) (fun j=>(normK W k).getD j 0) n n:=⟨_,rfl⟩
   have HCC:=LH hcc;clear hcc
   go_wp2_with fail
   refine(compareW_c (f:=fun j=>(rot W k).getD j 0) (g:=fun j=>(normK W k).getD j 0) HX3.out HX7.out hc3 hc7 (by omega) (by omega)).mono ?_;rintro e w9 ⟨rfl,rfl⟩;rw[<-HCC.out]
   by_cases hc0:c<0
   .have hb0:decide (c<0)=true:=decide_eq_true hc0;have HR:Hid (NrmIn w w3 (.slice a3 n c3) W (k+1)):=⟨by rw[normK_lt (by rw[<-HN.out];exact HCC.out) hc0,<-HN.out];exact HO3.out,HB9.out⟩
    clear hc0;go_wp2
    go_roundg (n-(k+1))
    case rel=>exact⟨k+1,rfl,by omega,by push_cast;rfl,HR.out⟩
    case measure=>omega
   .have hb0:decide (c<0)=false:=decide_eq_false hc0;have HR:Hid (NrmIn w w3 (.slice a7 n c7) W (k+1)):=⟨by rw[normK_ge (by rw[<-HN.out];exact HCC.out) hc0,<-HN.out];exact HO7.out,HB9.out⟩
    clear hc0;go_wp2
    go_roundg (n-(k+1))
    case rel=>exact⟨k+1,rfl,by omega,by push_cast;rfl,HR.out⟩
    case measure=>omega
  .have HE:Hid (k=W.length):=by show _=_;rw[<-HN.out];omega
   have HO:Hid (OwnS 5 1 w.heap.size wr u7 n (bw (normal W))):=by show OwnS _ _ _ _ _ _ _;unfold normal;rw[<-HE.out,HN.out];exact HP.out.own
   go_wp2
   go_ret2
   exact⟨_,rfl,HO.out,HP.out.bel⟩
theorem getD_get {α:Type}{l:List α}{i:Nat}{d:α}(h:i<l.length):l.getD i d=l[i]:=by
 rw[List.getD_eq_getElem?_getD,List.getElem?_eq_getElem h];rfl
def intCells (E:List Int)(k:Nat):Value:=.int .i64 (E.getD k 0)
def intAt (p:Int->Bool)(E:List Int)(r:Int):Prop:=(r=-1/\∀i,i<E.length->p (E.getD i 0)=false)\/∃i:Nat,i<E.length/\r=i/\p (E.getD i 0)=true
theorem intAt.any {p:Int->Bool}{E:List Int}{r:Int}(h:intAt p E r):decide (0<=r)=E.any p:=by
 rcases h with⟨rfl,h⟩|⟨i,hi,rfl,h⟩
 .have:E.any p=false:=by
   rw[List.any_eq_false];intro x hx;obtain⟨i,hi,rfl⟩:=List.mem_iff_getElem.1 hx;have:=h i hi;rw[getD_get hi]at this;rw[this];decide
  rw[this];rfl
 .rw[getD_get hi]at h;have:E.any p=true:=List.any_eq_true.2 ⟨_,List.getElem_mem hi,h⟩;rw[this];simp
theorem indexHolds_c {w:World}{ao:Option Addr}{c:Nat}{E:List Int}{p:Int->Bool}{cp:Value}(hc:CellsAt 3 w ao E.length (intCells E))(hn:E.length<=1000000)
 (hF:∀i,i<E.length->∀w',Bel w.heap.size w w'->Calls Tryz.prog 144 #[.int .i64 (E.getD i 0),cp] w' fun e w''=>e=.returned (.bool (p (E.getD i 0)))/\Bel w'.heap.size w' w''):
 Calls Tryz.prog 177 #[.slice ao E.length c,.func (.func 144) #[] #[cp]] w fun e w'=>∃r,e=.returned (.int .i64 r)/\intAt p E r/\Bel w.heap.size w w':=by
 have HC:=LH hc;have HF:=LH hF;clear hc hF;obtain⟨n,hnn⟩:∃n,n=E.length:=⟨_,rfl⟩
 have HN:=LH hnn;rw[<-hnn]at HC hn|-;clear hnn
 go_enter Tryz.func177,Tryz.ntmps177
 go_wp2
 go_loopg [8] n (fun g s wr=>∃i:Nat,g=n-i/\i<=n/\s=.int .i64 i/\(∀j,j<i->p (E.getD j 0)=false)/\Bel w.heap.size w wr)
 case atStart=>exact⟨0,rfl,Nat.zero_le _,rfl,fun j hj=>by omega,Bel.refl _ _⟩
 case round=>
  obtain⟨i,hg,hi,rfl,hj,hbr⟩:=hrel;have HJ:=LH hj;have HB:=LH hbr;clear hj
  by_cases hlt:i<n
  .obtain⟨b,o,rfl,hb,hcell⟩:=(HC.out).open (by omega);have g0:=(hbr.cell (p:=⟨b,o+i,none⟩) hb).trans (hcell i hlt);unfold intCells at g0;have HCA:=LH (HF.out i (by rw[<-HN.out];exact hlt) wr hbr);obtain⟨x,hx⟩:∃x,x=E.getD i 0:=⟨_,rfl⟩
   have HX:=LH hx;rw[<-hx]at g0 HCA;clear hbr hx hcell
   go_wp2_with fail
   refine(HCA.out).mono ?_;rintro e w1 ⟨rfl,hb1⟩;have HB1:Hid (Bel w.heap.size w w1):=HB.out.trans (hb1.mono HB.out.size);obtain⟨q,hq⟩:∃q,q=p x:=⟨_,rfl⟩
   have HQ:=LH hq;rw[<-hq];clear hb1 g0 hq
   cases q
   .go_wp2
    go_roundg (n-(i+1))
    case rel=>exact⟨i+1,rfl,by omega,by push_cast;rfl,(fun j hj=>by
     rcases Nat.lt_or_ge j i with h|h
     .exact HJ.out j h
     .obtain rfl:j=i:=by omega
      rw[<-HX.out];exact HQ.out.symm),HB1.out⟩
    case measure=>omega
   .go_wp2;go_ret;exact⟨_,rfl,.inr ⟨i,by rw[<-HN.out];exact hlt,rfl,by rw[<-HX.out];exact HQ.out.symm⟩,HB1.out⟩
  .obtain rfl:i=n:=by omega
   clear hbr;go_wp2;go_ret;exact⟨_,rfl,.inl ⟨rfl,by rw[<-HN.out];exact HJ.out⟩,HB.out⟩
theorem containsHolds_c {w:World}{ao:Option Addr}{c:Nat}{E:List Int}{p:Int->Bool}{cp:Value}(hc:CellsAt 3 w ao E.length (intCells E))(hn:E.length<=1000000)
 (hF:∀i,i<E.length->∀w',Bel w.heap.size w w'->Calls Tryz.prog 144 #[.int .i64 (E.getD i 0),cp] w' fun e w''=>e=.returned (.bool (p (E.getD i 0)))/\Bel w'.heap.size w' w''):
 Calls Tryz.prog 130 #[.slice ao E.length c,.func (.func 144) #[] #[cp]] w fun e w'=>e=.returned (.bool (E.any p))/\Bel w.heap.size w w':=by
 have HCA:=LH (indexHolds_c (c:=c) hc hn hF);have HA:Hid (∀r,intAt p E r->decide (0<=r)=E.any p):=fun r h=>h.any;generalize E.any p=A at HA|-;generalize E.length=n at HCA|-;clear hc hF
 go_enter Tryz.func130,Tryz.ntmps130
 go_wp2_with fail
 refine HCA.out.mono ?_;rintro e w1 ⟨r,rfl,hr,hb1⟩;have HR:=LH (HA.out r hr);clear hr;go_wp2;go_ret;exact⟨by rw[<-HR.out];rfl,hb1⟩
theorem indexGoal_c {w:World}{ao:Option Addr}{c:Nat}{E:List Int}{p:Int->Bool}{cp:Value}(hc:CellsAt 3 w ao E.length (intCells E))(hn:E.length<=1000000)
 (hF:∀i,i<E.length->∀w',Bel w.heap.size w w'->Calls Tryz.prog 131 #[.int .i64 (E.getD i 0),cp] w' fun e w''=>e=.returned (.bool (p (E.getD i 0)))/\Bel w'.heap.size w' w''):
 Calls Tryz.prog 177 #[.slice ao E.length c,.func (.func 131) #[] #[cp]] w fun e w'=>∃r,e=.returned (.int .i64 r)/\intAt p E r/\Bel w.heap.size w w':=by
 have HC:=LH hc;have HF:=LH hF;clear hc hF;obtain⟨n,hnn⟩:∃n,n=E.length:=⟨_,rfl⟩
 have HN:=LH hnn;rw[<-hnn]at HC hn|-;clear hnn
 go_enter Tryz.func177,Tryz.ntmps177
 go_wp2
 go_loopg [8] n (fun g s wr=>∃i:Nat,g=n-i/\i<=n/\s=.int .i64 i/\(∀j,j<i->p (E.getD j 0)=false)/\Bel w.heap.size w wr)
 case atStart=>exact⟨0,rfl,Nat.zero_le _,rfl,fun j hj=>by omega,Bel.refl _ _⟩
 case round=>
  obtain⟨i,hg,hi,rfl,hj,hbr⟩:=hrel;have HJ:=LH hj;have HB:=LH hbr;clear hj
  by_cases hlt:i<n
  .obtain⟨b,o,rfl,hb,hcell⟩:=(HC.out).open (by omega);have g0:=(hbr.cell (p:=⟨b,o+i,none⟩) hb).trans (hcell i hlt);unfold intCells at g0;have HCA:=LH (HF.out i (by rw[<-HN.out];exact hlt) wr hbr);obtain⟨x,hx⟩:∃x,x=E.getD i 0:=⟨_,rfl⟩
   have HX:=LH hx;rw[<-hx]at g0 HCA;clear hbr hx hcell
   go_wp2_with fail
   refine(HCA.out).mono ?_;rintro e w1 ⟨rfl,hb1⟩;have HB1:Hid (Bel w.heap.size w w1):=HB.out.trans (hb1.mono HB.out.size);obtain⟨q,hq⟩:∃q,q=p x:=⟨_,rfl⟩
   have HQ:=LH hq;rw[<-hq];clear hb1 g0 hq
   cases q
   .go_wp2
    go_roundg (n-(i+1))
    case rel=>exact⟨i+1,rfl,by omega,by push_cast;rfl,(fun j hj=>by
     rcases Nat.lt_or_ge j i with h|h
     .exact HJ.out j h
     .obtain rfl:j=i:=by omega
      rw[<-HX.out];exact HQ.out.symm),HB1.out⟩
    case measure=>omega
   .go_wp2;go_ret;exact⟨_,rfl,.inr ⟨i,by rw[<-HN.out];exact hlt,rfl,by rw[<-HX.out];exact HQ.out.symm⟩,HB1.out⟩
  .obtain rfl:i=n:=by omega
   clear hbr;go_wp2;go_ret;exact⟨_,rfl,.inl ⟨rfl,by rw[<-HN.out];exact HJ.out⟩,HB.out⟩
theorem containsGoal_c {w:World}{ao:Option Addr}{c:Nat}{E:List Int}{p:Int->Bool}{cp:Value}(hc:CellsAt 3 w ao E.length (intCells E))(hn:E.length<=1000000)
 (hF:∀i,i<E.length->∀w',Bel w.heap.size w w'->Calls Tryz.prog 131 #[.int .i64 (E.getD i 0),cp] w' fun e w''=>e=.returned (.bool (p (E.getD i 0)))/\Bel w'.heap.size w' w''):
 Calls Tryz.prog 130 #[.slice ao E.length c,.func (.func 131) #[] #[cp]] w fun e w'=>e=.returned (.bool (E.any p))/\Bel w.heap.size w w':=by
 have HCA:=LH (indexGoal_c (c:=c) hc hn hF);have HA:Hid (∀r,intAt p E r->decide (0<=r)=E.any p):=fun r h=>h.any;generalize E.any p=A at HA|-;generalize E.length=n at HCA|-;clear hc hF
 go_enter Tryz.func130,Tryz.ntmps130
 go_wp2_with fail
 refine HCA.out.mono ?_;rintro e w1 ⟨r,rfl,hr,hb1⟩;have HR:=LH (HA.out r hr);clear hr;go_wp2;go_ret;exact⟨by rw[<-HR.out];rfl,hb1⟩
theorem indexInt_c {w:World}{ao:Option Addr}{c:Nat}{E:List Int}{v:Int}(hc:CellsAt 3 w ao E.length (intCells E))(hn:E.length<=1000000):
 Calls Tryz.prog 204 #[.slice ao E.length c,.int .i64 v] w fun e w'=>∃r,e=.returned (.int .i64 r)/\intAt (fun x=>v==x) E r/\w=w':=by
 have HC:=LH hc;clear hc;obtain⟨n,hnn⟩:∃n,n=E.length:=⟨_,rfl⟩
 have HN:=LH hnn;rw[<-hnn]at HC hn|-;clear hnn
 go_enter Tryz.func204,Tryz.ntmps204
 go_wp2
 go_loopg [8] n (fun g s wr=>w=wr/\∃i:Nat,g=n-i/\i<=n/\s=.int .i64 i/\Hid (∀j,j<i->(v==E.getD j 0)=false))
 case atStart=>exact⟨rfl,0,rfl,Nat.zero_le _,rfl,fun j hj=>by omega⟩
 case round=>
  obtain⟨rfl,i,hg,hi,rfl,HJ⟩:=hrel
  by_cases hlt:i<n
  .obtain⟨b,o,rfl,hb,hcell⟩:=(HC.out).open (by omega);have g0:=hcell i hlt;unfold intCells at g0;obtain⟨x,hx⟩:∃x,x=E.getD i 0:=⟨_,rfl⟩
   have HX:=LH hx;rw[<-hx]at g0;clear hx hcell;obtain⟨q,hq⟩:∃q,q=(v==x):=⟨_,rfl⟩
   have HQ:=LH hq
   cases q
   .have hq':=hq.symm;clear hq;go_wp2
    go_roundg (n-(i+1))
    case rel=>exact⟨rfl,i+1,rfl,by omega,by push_cast;rfl,(fun j hj=>by
     rcases Nat.lt_or_ge j i with h|h
     .exact HJ.out j h
     .obtain rfl:j=i:=by omega
      rw[<-HX.out];exact HQ.out.symm)⟩
    case measure=>omega
   .have hq':=hq.symm;clear hq;go_wp2;go_ret;exact⟨_,rfl,.inr ⟨i,by rw[<-HN.out];exact hlt,rfl,by rw[<-HX.out];exact HQ.out.symm⟩,rfl⟩
  .obtain rfl:i=n:=by omega
   go_wp2;go_ret;exact⟨_,rfl,.inl ⟨rfl,by rw[<-HN.out];exact HJ.out⟩,rfl⟩
theorem containsInt_c {w:World}{ao:Option Addr}{c:Nat}{E:List Int}{v:Int}(hc:CellsAt 3 w ao E.length (intCells E))(hn:E.length<=1000000):
 Calls Tryz.prog 188 #[.slice ao E.length c,.int .i64 v] w fun e w'=>e=.returned (.bool (E.any fun x=>v==x))/\w=w':=by
 have HCA:=LH (indexInt_c (c:=c) (v:=v) hc hn);have HA:Hid (∀r,intAt (fun x=>v==x) E r->decide (0<=r)=E.any fun x=>v==x):=fun r h=>h.any;generalize(E.any fun x=>v==x)=A at HA|-;generalize E.length=n at HCA|-;clear hc
 go_enter Tryz.func188,Tryz.ntmps188
 go_wp2_with fail
 refine HCA.out.mono ?_;rintro e w1 ⟨r,rfl,hr,rfl⟩;have HR:=LH (HA.out r hr);clear hr;go_wp2;go_ret;exact⟨by rw[<-HR.out];rfl,rfl⟩
theorem equalInts_c {w:World}{a1 a2:Option Addr}{c1 c2:Nat}{E F:List Int}(h1:CellsAt 3 w a1 E.length (intCells E))(h2:CellsAt 3 w a2 F.length (intCells F))(hn:E.length<=1000000):
 Calls Tryz.prog 129 #[.slice a1 E.length c1,.slice a2 F.length c2] w fun e w'=>e=.returned (.bool (decide (E=F)))/\∃m,w'=w.drewN m:=by
 have HC1:=LH h1;have HC2:=LH h2;clear h1 h2;obtain⟨R,hR⟩:∃R,R=decide (E=F):=⟨_,rfl⟩
 by_cases hne:E.length=F.length
 .have HR:Hid ((∃i,i<E.length/\(E.getD i 0≠F.getD i 0))->R=false):=fun⟨i,hi,hd⟩=>by
   rw[hR,decide_eq_false];intro e;exact hd (by rw[e])
  have HR0:Hid ((∀i,i<E.length->E.getD i 0=F.getD i 0)->R=true):=fun h=>by
   rw[hR,decide_eq_true]
   apply List.ext_getElem hne
   intro i h1 h2;have:=h i h1;rw[getD_get h1,getD_get h2]at this;exact this
  rw[<-hne]at HC2|-;rw[<-hR];clear hne hR;obtain⟨n,hnn⟩:∃n,n=E.length:=⟨_,rfl⟩
  rw[<-hnn]at HC1 HC2 hn HR HR0|-;clear hnn;have d0:((n:Int) !=n)=false:=by simp
  go_enter Tryz.func129,Tryz.ntmps129
  go_wp2
  go_loopg [13] n (fun g s wr=>∃i m:Nat,wr=w.drewN m/\g=n-i/\i<=n/\s=.int .i64 i/\Hid (∀j,j<i->E.getD j 0=F.getD j 0))
  case atStart=>exact⟨0,0,rfl,rfl,Nat.zero_le _,rfl,fun j hj=>by omega⟩
  case round=>
   obtain⟨i,m,hmd,hg,hi,rfl,HJ⟩:=hrel;have HM:=LH hmd
   by_cases hlt:i<n
   .obtain⟨b,o,rfl,hb,hcell⟩:=(HC1.out).open (by omega);obtain⟨b',o',rfl,hb',hcell'⟩:=(HC2.out).open (by omega);have g0:wr.cell? ⟨b,o+i,none⟩=some (intCells E i):=by rw[hmd];exact hcell i hlt
    have g1:wr.cell? ⟨b',o'+i,none⟩=some (intCells F i):=by rw[hmd];exact hcell' i hlt
    unfold intCells at g0 g1;obtain⟨x,hx⟩:∃x,x=E.getD i 0:=⟨_,rfl⟩
    obtain⟨y,hy⟩:∃y,y=F.getD i 0:=⟨_,rfl⟩
    have HX:=LH hx;have HY:=LH hy;rw[<-hx]at g0;rw[<-hy]at g1;clear hx hy hcell hcell' hmd;go_wp2
    go_quiet (fail)
    have HM2:Hid (∃m,wr.drewN nq=w.drewN m):=⟨m+nq,by rw[HM.out];unfold World.drewN;simp[Nat.add_assoc]⟩
    generalize wr.drewN nq=w3 at HM2|-;clear g0 g1 HM
    by_cases hxy:x=y
    .have hb2:(x !=y)=false:=by simpa using hxy
     obtain⟨m2,hm2⟩:=HM2.out;have HM3:=LH hm2;clear hm2;have HXY:=LH hxy;clear hxy;go_wp2
     go_roundg (n-(i+1))
     case rel=>exact⟨i+1,m2,HM3.out,rfl,by omega,by push_cast;rfl,fun j hj=>by
      rcases Nat.lt_or_ge j i with h|h
      .exact HJ.out j h
      .obtain rfl:j=i:=by omega
       rw[<-HX.out,<-HY.out];exact HXY.out⟩
     case measure=>omega
    .have hb2:(x !=y)=true:=by simpa using hxy
     have HE:Hid (R=false):=HR.out ⟨i,hlt,by rw[<-HX.out,<-HY.out];exact hxy⟩;clear hxy;go_wp2;go_ret;exact⟨by rw[HE.out];rfl,HM2.out⟩
   .obtain rfl:i=n:=by omega
    have HE:Hid (R=true):=HR0.out HJ.out;clear hmd;go_wp2;go_ret;exact⟨by rw[HE.out];rfl,m,HM.out⟩
 .have HE:Hid (R=false):=by
   show _=_
   rw[hR,decide_eq_false];intro e;exact hne (by rw[e])
  rw[<-hR];have d0:((E.length:Int) !=F.length)=true:=by simp;omega
  clear hR HC1 HC2;generalize E.length=n1 at d0|-;generalize F.length=n2 at d0|-;clear hne hn
  go_enter Tryz.func129,Tryz.ntmps129
  go_wp2;go_ret;exact⟨by rw[HE.out];rfl,0,rfl⟩
theorem cmpInt_c {w:World}{x y:Int}:
 Calls Tryz.prog 126 #[.int .i64 x,.int .i64 y] w fun e w'=>e=.returned (.int .i64 (cmpZ x y))/\w'=w:=by
 go_enter Tryz.func126,Tryz.ntmps126
 go_wp2
 .rename_i h
  go_ret;exact⟨by unfold cmpZ;rw[if_pos h];rfl,rfl⟩
 .rename_i h1 _ _ h2
  go_ret;exact⟨by unfold cmpZ;rw[if_neg (by omega),if_neg (by omega)];rfl,rfl⟩
 .rename_i h1 h2
  go_ret;exact⟨by unfold cmpZ;rw[if_neg (by omega),if_pos (by omega)];rfl,rfl⟩
def cmpL:List Int->List Int->Int
 |[],[]=>0
 |[],_::_=>-1
 |_::_,[]=>1
 |x::l,y::r=>if cmpZ x y≠0 then cmpZ x y else cmpL l r
theorem compareInts_c {w:World}{a1 a2:Option Addr}{c1 c2:Nat}{E F:List Int}(h1:CellsAt 3 w a1 E.length (intCells E))(h2:CellsAt 3 w a2 F.length (intCells F))(hn:E.length<=1000000):
 Calls Tryz.prog 127 #[.slice a1 E.length c1,.slice a2 F.length c2] w fun e w'=>e=.returned (.int .i64 (cmpL E F))/\w'=w:=by
 have HC1:=LH h1;have HC2:=LH h2;clear h1 h2;have HR:Hid (∀k,E.length<=k->F.length<=k->cmpL (E.drop k) (F.drop k)=0):=fun k h h'=>by rw[List.drop_eq_nil_of_le h,List.drop_eq_nil_of_le h'];rfl
 have HR1:Hid (∀k,E.length<=k->k<F.length->cmpL (E.drop k) (F.drop k)=-1):=fun k h h'=>by rw[List.drop_eq_nil_of_le h,List.drop_eq_getElem_cons h'];rfl
 have HR2:Hid (∀k,k<E.length->F.length<=k->cmpL (E.drop k) (F.drop k)=1):=fun k h h'=>by rw[List.drop_eq_nil_of_le h',List.drop_eq_getElem_cons h];rfl
 have HR3:Hid (∀k,k<E.length->k<F.length->cmpL (E.drop k) (F.drop k)=if cmpZ (E.getD k 0) (F.getD k 0)≠0 then cmpZ (E.getD k 0) (F.getD k 0) else cmpL (E.drop (k+1)) (F.drop (k+1))):=fun k h h'=>by
  rw[getD_get h,getD_get h',List.drop_eq_getElem_cons h,List.drop_eq_getElem_cons h'];rfl
 obtain⟨G,hG⟩:∃G:Nat->Int,G=fun k=>cmpL (E.drop k) (F.drop k):=⟨_,rfl⟩
 have e0:cmpL E F=G 0:=by rw[hG];rfl
 simp only[<-congrFun hG]at HR HR1 HR2 HR3;rw[e0];clear hG e0;obtain⟨n1,hn1⟩:∃n,n=E.length:=⟨_,rfl⟩
 obtain⟨n2,hn2⟩:∃n,n=F.length:=⟨_,rfl⟩
 rw[<-hn1]at HR HR1 HR2 HR3 HC1 hn|-;rw[<-hn2]at HR HR1 HR2 HR3 HC2|-;clear hn1 hn2
 go_enter Tryz.func127,Tryz.ntmps127
 go_wp2
 go_loopg [5,6,7,8,11] n1 (fun g' _ _ _ _ i wr=>w=wr/\∃k:Nat,g'=n1-k/\k<=n1/\k<=n2/\i=.int .i64 k/\Hid (G 0=G k))
 case atStart=>exact⟨rfl,0,rfl,Nat.zero_le _,Nat.zero_le _,rfl,rfl⟩
 case round=>
  obtain⟨rfl,k,hg,hk,hk2,rfl,HC⟩:=hrel
  by_cases hlt:k<n1
  .obtain⟨b1,o1,rfl,hl1,hx1⟩:=HC1.out.open (by omega);have g1:=hx1 k hlt;unfold intCells at g1;clear hx1;obtain⟨x,hx⟩:∃x,x=E.getD k 0:=⟨_,rfl⟩
   rw[<-hx]at g1;have HX:=LH hx;clear hx
   by_cases hlt2:k<n2
   .obtain⟨b2,o2,rfl,hl2,hx2⟩:=HC2.out.open (by omega);have g2:=hx2 k hlt2;unfold intCells at g2;clear hx2;obtain⟨y,hy⟩:∃y,y=F.getD k 0:=⟨_,rfl⟩
    rw[<-hy]at g2;have HS:=LH (HR3.out k hlt hlt2);rw[<-HX.out,<-hy]at HS;clear hy;obtain⟨c,hcc⟩:∃c,c=cmpZ x y:=⟨_,rfl⟩
    rw[<-hcc]at HS;have HCC:=LH hcc;clear hcc;have hnk:¬n2<=k:=by omega
    by_cases hz:c=0
    .have hb:(c !=0)=false:=by simpa using hz
     have HR:Hid (G 0=G (k+1)):=by show _=_;rw[HC.out,HS.out,if_neg (by simpa using hz)]
     clear hz
     go_wp2_with fail
     refine cmpInt_c.mono ?_;rintro e w9 ⟨rfl,rfl⟩;rw[<-HCC.out];go_wp2
     go_roundg (n1-(k+1))
     case rel=>exact⟨rfl,k+1,rfl,by omega,by omega,by push_cast;rfl,HR⟩
     case measure=>omega
    .have hb:(c !=0)=true:=by simpa using hz
     have HR:Hid (G 0=c):=by show _=_;rw[HC.out,HS.out,if_pos hz]
     clear hz
     go_wp2_with fail
     refine cmpInt_c.mono ?_;rintro e w9 ⟨rfl,rfl⟩;rw[<-HCC.out];go_wp2;go_ret;exact⟨by rw[HR.out];rfl,rfl⟩
   .obtain rfl:k=n2:=by omega
    have HE:Hid (G 0=1):=by show _=_;rw[HC.out];exact HR2.out k hlt NL
    go_wp2;go_ret;exact⟨by rw[HE.out];rfl,rfl⟩
  .obtain rfl:k=n1:=by omega
   by_cases hlt2:k<n2
   .have hb:decide ((k:Int)<n2)=true:=by simp;omega
    have HE:Hid (G 0=-1):=by show _=_;rw[HC.out];exact HR1.out k NL hlt2
    go_wp2;go_ret;exact⟨by rw[HE.out];rfl,rfl⟩
   .obtain rfl:k=n2:=by omega
    have HE:Hid (G 0=0):=by show _=_;rw[HC.out];exact HR.out k NL NL
    go_wp2;go_ret;exact⟨by rw[HE.out];rfl,rfl⟩
def or2 (x y:Int):Int:=if x≠0 then x else y
theorem orInt_c {w:World}{b:Nat}{x y:Int}(hb:b<w.heap.size)(h0:w.cell? ⟨b,0,none⟩=some (.int .i64 x))(h1:w.cell? ⟨b,1,none⟩=some (.int .i64 y)):
 Calls Tryz.prog 125 #[.slice (some ⟨b,0,none⟩) 2 2] w fun e w'=>e=.returned (.int .i64 (or2 x y))/\w'=w:=by
 have HE:Hid (x≠0->or2 x y=x):=fun h=>if_pos h;have HE1:Hid (x=0->or2 x y=y):=fun h=>if_neg (by simpa using h);generalize or2 x y=R at HE HE1|-
 go_enter Tryz.func125,Tryz.ntmps125
 go_wp2
 go_loopg [5,8] 2 (fun g' _ i wr=>wr=w/\∃k:Nat,g'=2-k/\k<=2/\i=.int .i64 k/\Hid ((0<k->x=0)/\(1<k->y=0)))
 case atStart=>exact⟨rfl,0,rfl,Nat.zero_le _,rfl,⟨fun h=>by omega,fun h=>by omega⟩⟩
 case round=>
  obtain⟨rfl,k,hg,hk,rfl,HC⟩:=hrel
  by_cases k0:k=0
  .subst k0
   by_cases hx:x=0
   .have d0:(x !=0)=false:=by simpa using hx
    have HX:=LH hx;clear hx;go_wp2
    go_roundg (2-(0+1))
    case rel=>exact⟨rfl,1,rfl,by omega,rfl,⟨fun _=>HX.out,fun h=>by omega⟩⟩
    case measure=>omega
   .have d0:(x !=0)=true:=by simpa using hx
    have HX:=LH (HE.out hx);clear hx;go_wp2;go_ret;exact⟨by rw[HX.out];rfl,rfl⟩
  by_cases k1:k=1
  .subst k1;have HX:=LH (HE1.out (HC.out.1 (by omega)))
   by_cases hx:y=0
   .have d0:(y !=0)=false:=by simpa using hx
    have HY:=LH hx;clear hx k0;go_wp2
    go_roundg (2-(1+1))
    case rel=>exact⟨rfl,2,rfl,by omega,rfl,⟨fun _=>HC.out.1 (by omega),fun h=>HY.out⟩⟩
    case measure=>omega
   .have d0:(y !=0)=true:=by simpa using hx
    clear hx k0;go_wp2;go_ret;exact⟨by rw[HX.out];rfl,rfl⟩
  obtain rfl:k=2:=by omega
  have HX:=LH (HE1.out (HC.out.1 (by omega)));have HY:=LH (HC.out.2 (by omega));clear k0 k1;go_wp2;go_ret;exact⟨by rw[HX.out,HY.out];rfl,rfl⟩
structure StateD where
 phase:Int
 holds:List Int
def StateV (w:World)(v:Value)(s:StateD):Prop:=∃hv,v=.agg #[.int .i64 s.phase,hv]/\IntsV w hv s.holds
theorem StateV.pres {w w':World}{v:Value}{s:StateD}(h:StateV w v s)(hp:Pres 3 w w'):StateV w' v s:=by
 obtain⟨hv,e,hx⟩:=h;exact⟨hv,e,hx.pres hp⟩
structure ProbD where
 map:List HoldD
 walker:WalkerD
 word:List Nat
 start:List Int
 goal:List Int
 target:Rat
structure ProbV (w:World) (g:Nat->Value) (p:ProbD):Prop where
 map:∃ao cap mg,g 0=.slice ao p.map.length cap/\p.map.length<=cap/\HoldsV w ao p.map mg
 walker:WalkAt w g 1 p.walker
 word:WordV w (g 26) p.word
 start:IntsV w (g 27) p.start
 goal:IntsV w (g 28) p.goal
 target:QV w (.agg #[g 29,g 30,g 31]) p.target
theorem ProbV.bel {w w':World}{g:Nat->Value}{p:ProbD}(h:ProbV w g p)(hb:Bel w.heap.size w w'):ProbV w' g p:=by
 have hp (T:TypeId):Pres T w w':=Pres.below hb.toBelow;obtain⟨⟨ao,cap,mg,e,hc,hm⟩,h2,h3,h4,h5,h6⟩:=h;exact⟨⟨ao,cap,mg,e,hc,hm.bel hb⟩,h2.pres (hp _),h3.pres (hp _),h4.pres (hp _),h5.pres (hp _),h6.pres (hp _)⟩
structure ProbF (L:Nat) (p:ProbD):Prop where
 map:∀i,i<p.map.length->HoldF L (p.map.getD i hold0)
 walker:WalkF L p.walker
 target:QF L p.target
 size:L<=100000
abbrev pbox (g:Nat->Value):Array Value:=#[g 0,g 1,g 2,g 3,g 4,g 5,g 6,g 7,g 8,g 9,g 10,g 11,g 12,g 13,g 14,g 15,g 16,g 17,g 18,g 19,g 20,g 21,g 22,g 23,g 24,g 25,g 26,g 27,g 28,g 29,g 30,g 31]
theorem row32 {w:World}{b:Nat}{v0 v1 v2 v3 v4 v5 v6 v7 v8 v9 v10 v11 v12 v13 v14 v15 v16 v17 v18 v19 v20 v21 v22 v23 v24 v25 v26 v27 v28 v29 v30 v31:Value}{T:TypeId}(h:w.heap[b]?=some (.cells #[v0,v1,v2,v3,v4,v5,v6,v7,v8,v9,v10,v11,v12,v13,v14,v15,v16,v17,v18,v19,v20,v21,v22,v23,v24,v25,v26,v27,v28,v29,v30,v31] T)):
 w.cell? ⟨b,0,none⟩=some v0/\w.cell? ⟨b,1,none⟩=some v1/\w.cell? ⟨b,2,none⟩=some v2/\w.cell? ⟨b,3,none⟩=some v3/\w.cell? ⟨b,4,none⟩=some v4/\w.cell? ⟨b,5,none⟩=some v5/\w.cell? ⟨b,6,none⟩=some v6/\w.cell? ⟨b,7,none⟩=some v7/\w.cell? ⟨b,8,none⟩=some v8/\w.cell? ⟨b,9,none⟩=some v9/\w.cell? ⟨b,10,none⟩=some v10/\w.cell? ⟨b,11,none⟩=some v11/\w.cell? ⟨b,12,none⟩=some v12/\w.cell? ⟨b,13,none⟩=some v13/\w.cell? ⟨b,14,none⟩=some v14/\w.cell? ⟨b,15,none⟩=some v15/\w.cell? ⟨b,16,none⟩=some v16/\w.cell? ⟨b,17,none⟩=some v17/\w.cell? ⟨b,18,none⟩=some v18/\w.cell? ⟨b,19,none⟩=some v19/\w.cell? ⟨b,20,none⟩=some v20/\w.cell? ⟨b,21,none⟩=some v21/\w.cell? ⟨b,22,none⟩=some v22/\w.cell? ⟨b,23,none⟩=some v23/\w.cell? ⟨b,24,none⟩=some v24/\w.cell? ⟨b,25,none⟩=some v25/\w.cell? ⟨b,26,none⟩=some v26/\w.cell? ⟨b,27,none⟩=some v27/\w.cell? ⟨b,28,none⟩=some v28/\w.cell? ⟨b,29,none⟩=some v29/\w.cell? ⟨b,30,none⟩=some v30/\w.cell? ⟨b,31,none⟩=some v31:=by
 refine⟨?_,?_,?_,?_,?_,?_,?_,?_,?_,?_,?_,?_,?_,?_,?_,?_,?_,?_,?_,?_,?_,?_,?_,?_,?_,?_,?_,?_,?_,?_,?_,?_⟩<;>simp[World.cell?,h]
def PVal (w:World)(pv:Value)(p:ProbD):Prop:=∃g,pv=.agg (pbox g)/\ProbV w g p
theorem PVal.bel {w w':World}{pv:Value}{p:ProbD}(h:PVal w pv p)(hb:Bel w.heap.size w w'):PVal w' pv p:=by
 obtain⟨g,e,hp⟩:=h;exact⟨g,e,hp.bel hb⟩
theorem PVal.lit {w:World}{pv:Value}{p:ProbD}(h:PVal w pv p):∃(g:Nat->Value) (mo:Option Addr) (mc:Nat) (wo:Option Addr) (wc:Nat) (so:Option Addr) (sc:Nat) (go:Option Addr) (gc:Nat),
 pv=.agg #[.slice mo p.map.length mc,.int .i64 p.walker.legs,g 2,g 3,g 4,g 5,g 6,g 7,g 8,g 9,g 10,g 11,g 12,g 13,g 14,g 15,g 16,g 17,g 18,g 19,g 20,g 21,g 22,g 23,g 24,g 25,.slice wo p.word.length wc,.slice so p.start.length sc,.slice go p.goal.length gc,g 29,g 30,g 31]/\
 (p.map.length<=mc/\∃mg,HoldsV w mo p.map mg)/\WalkAt w g 1 p.walker/\WordV w (.slice wo p.word.length wc) p.word/\IntsV w (.slice so p.start.length sc) p.start/\IntsV w (.slice go p.goal.length gc) p.goal/\QV w (.agg #[g 29,g 30,g 31]) p.target:=by
 obtain⟨g,rfl,⟨mo,mc,mg,e0,hc,hm⟩,h2,h3,h4,h5,h6⟩:=h;have e1:=h2.legs;obtain⟨wo,wc,e26⟩:=h3.len;obtain⟨so,sc,e27,_⟩:=id h4;obtain⟨go,gc,e28,_⟩:=id h5;rw[e26]at h3;rw[e27]at h4;rw[e28]at h5;refine⟨g,mo,mc,wo,wc,so,sc,go,gc,?_,⟨hc,mg,hm⟩,h2,h3,h4,h5,h6⟩;unfold pbox;rw[e0,e1,e26,e27,e28]
def befS (a b:StateD):Int:=or2 (cmpZ a.phase b.phase) (cmpL a.holds b.holds)
theorem before_c {w:World}{va vb:Value}{a b:StateD}(ha:StateV w va a)(hb:StateV w vb b)(hn:a.holds.length<=1000000):
 Calls Tryz.prog 64 #[va,vb] w fun e w'=>e=.returned (.int .i64 (befS a b))/\Bel w.heap.size w w':=by
 obtain⟨ha',rfl,ao,ca,rfl,hca,hxa⟩:=ha;obtain⟨hb',rfl,bo,cb,rfl,hcb,hxb⟩:=hb;have HE:Hid (befS a b=or2 (cmpZ a.phase b.phase) (cmpL a.holds b.holds)):=rfl;generalize befS a b=R at HE|-
 have hxa2:∀W0,Bel w.heap.size w W0->∀w',Bel W0.heap.size W0 w'->Calls Tryz.prog 127 #[.slice ao a.holds.length ca,.slice bo b.holds.length cb] w' fun e w''=>e=.returned (.int .i64 (cmpL a.holds b.holds))/\w''=w':=
  fun W0 h w' h'=>compareInts_c ((hxa.bel h).bel h') ((hxb.bel h).bel h') hn
 clear hxa hxb
 go_enter Tryz.func64,Tryz.ntmps64
 go_wp2_with fail
 refine name_world ?_;intro W0 hW0;obtain⟨a0,a1,-,-⟩:=row2 (at_world hW0 (b:=w.heap.size) ((heap_old _ _ (by simp)).trans (heap_new _ _ rfl)));obtain⟨b0,b1,-,-⟩:=row2 (at_world hW0 (b:=w.heap.size+1) (heap_new _ _ (by simp)));have hl0:w.heap.size<W0.heap.size:=by rw[hW0];simp;omega
 have hl1:w.heap.size+1<W0.heap.size:=by rw[hW0];simp
 have hBW:Bel w.heap.size w W0:=by rw[hW0];exact Bel.new.alloc (by simp) _
 have HX:=LH (hxa2 W0 hBW);have hst:SHs w W0 W0.heap.size W0:=SHs.start hBW.size NL hBW;clear hW0
 go_region_held3 (fun w'=>(∀(b o:Nat),b<W0.heap.size->w'.cell? ⟨b,o,none⟩=W0.cell? ⟨b,o,none⟩)/\SHs w W0 (W0.heap.size) w') (exact K2s)
  (first
   |(go_at_call_of 126 Value.int;(try (rename _/\_=>hh;rcases hh with⟨hSc,hSb⟩));refine(cmpInt_c).mono ?_;rintro e w20 ⟨rfl,rfl⟩)
   |(go_at_call 127;(try (rename _/\_=>hh;rcases hh with⟨hSc,hSb⟩));refine(HX.out _ hSb.near).mono ?_;rintro e w21 ⟨rfl,rfl⟩)
   |(go_at_call 125;(try (rename _/\_=>hh;rcases hh with⟨hSc,hSb⟩));refine(orInt_c (by simp) (row2 RW2).1 (row2 RW2).2.1).mono ?_;rintro e w22 ⟨rfl,rfl⟩))
 all_goals go_wp2
 all_goals((try (rename _/\_=>hh;rcases hh with⟨hSc,hSb⟩));go_ret;exact⟨by rw[HE.out];rfl,hSb.base⟩)
theorem cloneI_c {w:World}{ao:Option Addr}{len cap:Nat}{f:Nat->Value}(hc:CellsAt 3 w ao len f)(h1:∀j,(f j).oneCell'=true)(hlen:len<=1000000000000):
 Calls Tryz.prog 120 #[.slice ao len cap] w (Gives w fun v w'=>OwnS 3 1 w.heap.size w' v len f):=by
 have q (W:World) (a:Option Addr) (n c n' c':Nat):(binOp .eql 28 (.slice a n c) (.slice none n' c')).run Tryz.prog W=.ok (.bool a.isNone) W:=Lib.run_eql_slice_nil W _ _ a n c n' c' Tryz.underlying28;have HC:=LH hc;clear hc
 cases ao with
 |none=>
  have h0:len=0:=by
   by_cases h:len=0
   .exact h
   .obtain⟨_,_,e,_⟩:=HC.out.open (by omega);cases e
  subst h0
  go_enter Tryz.func120,Tryz.ntmps120
  go_wp2;go_ret;exact⟨_,rfl,OwnS.nil _ _ _ _ _,Bel.refl _ _⟩
 |some a=>
  have HO:=LH (own_made0 3 1 w f)
  go_enter Tryz.func120,Tryz.ntmps120
  go_wp2_with (at_builtin;refine wpList_append_fn rfl (.tmp 5) (.tmp 6) 28 rfl w.heap.size Tryz.underlying28 D4.infoInt rfl (by decide) rfl HO.out rfl ((HC.out.pres (Pres.alloc _ _)).mono (by omega)) h1 (by unfold maxLen;omega) (by omega) (by simp) ?_;intro v' w' hown hgrow hdr)
  go_ret;rw[Nat.zero_add]at hown;exact⟨_,rfl,hown.congr fun j hj=>by rw[appF_ge _ _ (by omega)];simp,Bel.new.grownS HO.out hgrow hdr (by simp) NL⟩
def kc (s:StateD)(i:Nat):Value:=.int .i64 (s.holds.getD i 0)
def keyV (s:StateD):Value:=.agg #[.int .i64 s.phase,kc s 0,kc s 1,kc s 2,kc s 3]
theorem key_list (E:List Int)(h4:E.length<=4)(p:Value):(([p,.int .i64 0,.int .i64 0,.int .i64 0,.int .i64 0]:List Value).take 1++(E.map fun x=>Value.int .i64 x)++([p,.int .i64 0,.int .i64 0,.int .i64 0,.int .i64 0]:List Value).drop (1+(E.map fun x=>Value.int .i64 x).length)).toArray=
 #[p,.int .i64 (E.getD 0 0),.int .i64 (E.getD 1 0),.int .i64 (E.getD 2 0),.int .i64 (E.getD 3 0)]:=by
 rcases E with _|⟨a,_|⟨b,_|⟨c,_|⟨d,_|⟨e,l⟩⟩⟩⟩⟩
 .rfl
 .rfl
 .rfl
 .rfl
 .rfl
 .simp at h4
theorem run_copy_key {w:World}{B len cap:Nat}{ao:Option Addr}{E:List Int}{p:Value}{ty:TypeId}(hB:w.heap[B]?=some (.cells #[p,.int .i64 0,.int .i64 0,.int .i64 0,.int .i64 0] 156))
 (hs:CellsAt 3 w ao E.length (intCells E)) (hl:len=E.length) (h4:E.length<=4):
 ∃w',(Builtin.copy_ #[28,28] ty #[.slice (some ⟨B,1,none⟩) 4 4,.slice ao len cap]).run Tryz.prog w=.ok (goInt len) w'/\
  w'.heap[B]?=some (.cells #[p,.int .i64 (E.getD 0 0),.int .i64 (E.getD 1 0),.int .i64 (E.getD 2 0),.int .i64 (E.getD 3 0)] 156)/\Onl B w w':=by
 have hsz:(Tryz.prog.info? 3).map (·.size)=some 1:=by kernel_rfl
 subst hl
 by_cases h0:E.length=0
 .obtain rfl:E=[]:=List.length_eq_zero_iff.1 h0;exact⟨w,run_copy_none w _ _ ty _ _ _ _ _ _ _ Tryz.underlying28 hsz (by simp),hB,Onl.refl _ _⟩
 .obtain⟨b,o,rfl,hb,hc⟩:=hs.open (by omega)
  have hget:∀j v,(E.map fun x=>Value.int .i64 x)[j]?=some v->w.cell? ((⟨b,o,none⟩:Addr).add j)=some v:=by
   intro j v hv;rw[List.getElem?_map]at hv
   have hj:j<E.length:=by
    by_cases h:j<E.length
    .exact h
    .rw[List.getElem?_eq_none (by omega)]at hv;cases hv
   rw[List.getElem?_eq_getElem hj]at hv;have e:(⟨b,o,none⟩:Addr).add j=⟨b,o+j,none⟩:=by unfold Addr.add;split<;>simp_all
   rw[e,hc j hj];unfold intCells;rw[getD_get hj];exact hv
  have hrun:=run_copy_row Tryz.prog w 28 28 ty 3 B 1 4 4 ⟨b,o,none⟩ E.length cap _ 156 (E.map fun x=>Value.int .i64 x) Tryz.underlying28 hsz hB
   (by rw[List.length_map];exact(Nat.min_eq_left h4).symm) hget (by simp;omega) (by intro v hv;simp at hv;obtain⟨a,_,rfl⟩:=hv;rfl)
  rw[List.length_map]at hrun;refine⟨_,hrun,?_,⟨rfl,rfl,rfl,by simp,Nat.le_refl _,fun k hk=>setRow_other w B k _ hk⟩⟩;rw[setRow_heap w B _ _ _ _ hB];rw[<-key_list E h4 p,List.length_map]
theorem step_copy_key {w:World}{ops:Array Oper}{o:Oper}{a:Act}{K:Act->World->Prop}{Q:Exit->Act->World->Prop}{G:Prop}(hgd:o.guard=none)(d s:Operand)
 (ho:o.op=.call {callee:=.builtin .copy,args:=#[d,s],argTypes:=#[28,28]})
 {B len cap:Nat} {ao:Option Addr} {E:List Int} {p:Value} (hd:a.eval d=.slice (some ⟨B,1,none⟩) 4 4) (hs:a.eval s=.slice ao len cap) (hB:w.heap[B]?=some (.cells #[p,.int .i64 0,.int .i64 0,.int .i64 0,.int .i64 0] 156))
 (hx:CellsAt 3 w ao E.length (intCells E)) (hl:len=E.length) (h4:E.length<=4)
 (h:∀w',w'.heap[B]?=some (.cells #[p,.int .i64 (E.getD 0 0),.int .i64 (E.getD 1 0),.int .i64 (E.getD 2 0),.int .i64 (E.getD 3 0)] 156)->Onl B w w'->K (a.put o.dst (goInt len)) w'):
 if Region.wanted o (yielded ops a.tmps)=true then Oper.wp Tryz.prog o a w K Q else G:=by
 have hw:Region.wanted o (yielded ops a.tmps)=true:=by simp[Region.wanted,hgd]
 rw[if_pos hw];obtain⟨w',hrun,h2,h3⟩:=run_copy_key (ty:=o.type) (cap:=cap) hB hx hl h4;unfold Oper.wp;simp[execOp,ho,resolve,invoke,builtin,hd,hs,hrun,Result.andThen];exact h w' h2 h3
theorem set5_heap {w:World}{b:Nat}{x0 x1 x2 x3 x4 a0 a1 a2 a3 a4:Value}{T:TypeId}(h:w.heap[b]?=some (.cells #[x0,x1,x2,x3,x4] T)):
 (((((w.setCell ⟨b,0,none⟩ a0).setCell ⟨b,1,none⟩ a1).setCell ⟨b,2,none⟩ a2).setCell ⟨b,3,none⟩ a3).setCell ⟨b,4,none⟩ a4).heap[b]?=some (.cells #[a0,a1,a2,a3,a4] T):=by
 simp[World.setCell,Array.getElem?_modify,h]
theorem loadKey {w:World}{b:Nat}{v0 v1 v2 v3 v4:Value}(h:w.heap[b]?=some (.cells #[v0,v1,v2,v3,v4] 156)):(loadVar 156 ⟨b,0,none⟩).run Tryz.prog w=.ok (.agg #[v0,v1,v2,v3,v4]) w:=
 run_loadVar_row w b _ _ _ _ _ h Tryz.underlying156 rfl (by kernel_rfl)
theorem load5 {w:World}{b:Nat}{v0 v1 v2 v3 v4:Value}(h:w.heap[b]?=some (.cells #[v0,v1,v2,v3,v4] 156)):
 w.cell? ⟨b,0,none⟩=some v0/\w.cell? ⟨b,1,none⟩=some v1/\w.cell? ⟨b,2,none⟩=some v2/\w.cell? ⟨b,3,none⟩=some v3/\w.cell? ⟨b,4,none⟩=some v4/\
  w.frozen? ⟨b,0,none⟩=false/\w.frozen? ⟨b,1,none⟩=false/\w.frozen? ⟨b,2,none⟩=false/\w.frozen? ⟨b,3,none⟩=false/\w.frozen? ⟨b,4,none⟩=false:=by
 refine⟨?_,?_,?_,?_,?_,?_,?_,?_,?_,?_⟩<;>simp[World.cell?,World.frozen?,h]
theorem key_c {w:World}{v:Value}{s:StateD}(hv:StateV w v s)(h4:s.holds.length<=4):
 Calls Tryz.prog 121 #[v] w fun e w'=>e=.returned (keyV s)/\Bel w.heap.size w w':=by
 obtain⟨hv',rfl,ao,cap,rfl,hcap,hx⟩:=hv;have HX:=LH hx;have HV:Hid (keyV s=.agg #[.int .i64 s.phase,.int .i64 (s.holds.getD 0 0),.int .i64 (s.holds.getD 1 0),.int .i64 (s.holds.getD 2 0),.int .i64 (s.holds.getD 3 0)]):=rfl;generalize keyV s=KV at HV|-;clear hx;obtain⟨n,hn⟩:∃n,n=s.holds.length:=⟨_,rfl⟩
 have HN:=LH hn;rw[<-hn]at hcap h4|-;clear hn;generalize s.phase=ph at *
 go_enter Tryz.func121,Tryz.ntmps121
 go_wp2_with fail
 refine name_world ?_;intro W0 hW0;have hk0:=at_world hW0 (b:=w.heap.size) ((heap_old _ _ (by simp;omega)).trans ((heap_old _ _ (by simp)).trans (heap_new _ _ rfl)));have hk1:=at_world hW0 (b:=w.heap.size+1) ((heap_old _ _ (by simp)).trans (heap_new _ _ (by simp)));have hk2:=at_world hW0 (b:=w.heap.size+1+1) (heap_new _ _ (by simp));have hBW:Bel w.heap.size w W0:=by rw[hW0];exact(Bel.new.alloc (by simp) _).alloc (by simp;omega) _
 have hsz:W0.heap.size=w.heap.size+1+1+1:=by rw[hW0];simp
 clear hW0;obtain⟨a0,a1,-,-⟩:=row2 hk0;have hlt:w.heap.size<W0.heap.size:=by omega
 have hst:SHs w W0 (w.heap.size+1+1) W0:=SHs.start (by omega) (by omega) hBW;have HX2:=LH (HX.out.bel hBW)
 go_region_held3 (fun w'=>(∀(b o:Nat),b<w.heap.size+1+1->w'.cell? ⟨b,o,none⟩=W0.cell? ⟨b,o,none⟩)/\SHs w W0 (w.heap.size+1+1) w') (first|((((try dsimp only);(try (rename _/\_=>hh;rcases hh with⟨hSc,hSb⟩));refine SHs.hold ?_;(repeat first|with_reducible assumption|refine SHs.call ?_ (by with_reducible assumption)|with_reducible refine SHs.alloc ?_ _|refine SHs.setCell ?_ (by(try dsimp only);first|omega|(simp;done)|(simp;omega)) _|with_reducible refine SHs.drew ?_|with_reducible refine SHs.drewN ?_ _);done)))|((try (rename _/\_=>hh;rcases hh with⟨hSc,hSb⟩));exact SHs.hold ⟨hSb.low,hSb.high,hSb.base.trans (hon.bel (by omega)),hSb.near.trans (hon.bel (by omega))⟩))
  (first|((try (rename _/\_=>hh;rcases hh with⟨hSc,hSb⟩));refine step_copy_key rfl (.tmp 8) (.tmp 10) rfl (E:=s.holds) (B:=w.heap.size+1+1) rfl rfl RW2 (HX2.out.pres (Pres.drew _)) HN.out (by rw[<-HN.out];exact h4) ?_;intro w9 hrow hon)|fail)
 have hr3:w9.heap[w.heap.size+1]?=some (.cells #[.int .i64 0,.int .i64 0,.int .i64 0,.int .i64 0,.int .i64 0] 156):=(hon.block _ (by omega)).trans hk1;obtain⟨c0,c1,c2,c3,c4,-,-,-,-,-⟩:=load5 hrow;obtain⟨d0,d1,d2,d3,d4,i0,i1,i2,i3,i4⟩:=load5 hr3;have hB9:Bel w.heap.size w w9:=hBW.drew.trans (hon.bel (by omega));generalize s.holds.getD 0 0=e0 at *;generalize s.holds.getD 1 0=e1 at *;generalize s.holds.getD 2 0=e2 at *
 generalize s.holds.getD 3 0=e3 at *;clear hrow a0 a1 hst hk0 hk1 hk2 hSc hSb
 (try (rename _/\_=>hh;clear hh))
 go_wp2;exact post_box rfl rfl rfl (loadKey (set5_heap hr3)) ⟨by rw[HV.out],((((hB9.setCell (by simp) _).setCell (by simp) _).setCell (by simp) _).setCell (by simp) _).setCell (by simp) _⟩
def outB (n:Nat)(h:Int):Bool:=decide (h<0)||decide ((n:Int)<=h)
theorem holds1_c {w:World}{B n:Nat}{ao:Option Addr}{c:Nat}{h:Int}(hB:w.cell? ⟨B,0,none⟩=some (.slice ao n c)):
 Calls Tryz.prog 144 #[.int .i64 h,.pointer (some ⟨B,0,none⟩)] w fun e w'=>e=.returned (.bool (outB n h))/\Bel w.heap.size w w':=by
 have HR:Hid (outB n h=(decide (h<0)||decide ((n:Int)<=h))):=rfl;generalize outB n h=R at HR|-
 by_cases h0:h<0
 .have d:decide (h<0)=true:=decide_eq_true h0;have HE:Hid (R=true):=by show _=_;rw[HR.out,d];rfl
  clear h0 HR
  go_enter Tryz.func144,Tryz.ntmps144
  go_wp2;go_ret;exact⟨by rw[HE.out];rfl,Bel.refl _ _⟩
 .have d:decide (h<0)=false:=decide_eq_false h0;have HE:Hid (R=decide ((n:Int)<=h)):=by show _=_;rw[HR.out,d];rfl
  clear h0 HR
  go_enter Tryz.func144,Tryz.ntmps144
  go_wp2;go_ret;exact⟨by rw[HE.out];rfl,Bel.refl _ _⟩
def holdsB (p:ProbD)(l:List Int):Bool:=decide ((l.length:Int)=p.walker.legs) && !l.any (outB p.map.length)
theorem holds_c {w:World}{pv lv:Value}{p:ProbD}{l:List Int}(hp:PVal w pv p)(hl:IntsV w lv l)(hn:l.length<=1000000):
 Calls Tryz.prog 92 #[pv,lv] w fun e w'=>e=.returned (.bool (holdsB p l))/\Bel w.heap.size w w':=by
 obtain⟨g,mo,mc,wo,wc,so,sc,go,gc,rfl,-⟩:=hp.lit;obtain⟨lo,lc,rfl,hlc,hlx⟩:=hl;have HL:=LH hlx;have HR:Hid (holdsB p l=(decide ((l.length:Int)=p.walker.legs) && !l.any (outB p.map.length))):=rfl;generalize holdsB p l=R at HR|-;generalize p.map.length=n at *;generalize p.walker.legs=legs at *;clear hp hlx hlc;obtain⟨q,hq⟩:∃q,q=l.any (outB n):=⟨_,rfl⟩
 rw[<-hq]at HR;have HQ:=LH hq;clear hq
 by_cases hleg:(l.length:Int)=legs
 .have d:((l.length:Int)==legs)=true:=by simpa using hleg
  have HE:Hid (R=!q):=by show _=_;rw[HR.out,decide_eq_true hleg];rfl
  have HCX:Hid (∀W0,Bel w.heap.size w W0->W0.cell? ⟨w.heap.size,0,none⟩=some (.slice mo n mc)->w.heap.size<W0.heap.size->Calls Tryz.prog 130 #[.slice lo l.length lc,.func (.func 144) #[] #[.pointer (some ⟨w.heap.size,0,none⟩)]] W0 fun e w'=>e=.returned (.bool q)/\Bel W0.heap.size W0 w'):=fun W0 hb h0 hlt=>by
   rw[HQ.out];exact containsHolds_c (HL.out.bel hb) hn (fun i hi w' hb'=>holds1_c ((hb'.cell (p:=⟨w.heap.size,0,none⟩) hlt).trans h0))
  clear hleg HR HL HQ hn;generalize l.length=k at *
  go_enter Tryz.func92,Tryz.ntmps92
  go_wp2_with fail
  refine(HCX.out _ Bel.new (by simp) (by simp)).mono ?_;rintro e w1 ⟨rfl,hb1⟩;have HB:Hid (Bel w.heap.size w w1):=Bel.new.trans (hb1.mono (by simp));clear hb1;go_wp2;go_ret;exact⟨by rw[HE.out];rfl,HB.out⟩
 .have d:((l.length:Int)==legs)=false:=by simpa using hleg
  have HE:Hid (R=false):=by show _=_;rw[HR.out,decide_eq_false hleg];rfl
  clear hleg HR HL HQ hn;generalize l.length=k at *
  go_enter Tryz.func92,Tryz.ntmps92
  go_wp2;go_ret;exact⟨by rw[HE.out];rfl,(Bel.refl _ _).alloc NL _⟩
theorem rangeAt_of_list {w:World}{b:Nat}{l:List Value}{T:TypeId}{fr:Nat×Nat}(h:w.heap[b]?=some (.cells l.toArray T fr))(o n:Nat):w.rangeAt b o ((l.drop o).take n):=fun j v hv=>by
 rw[cell_of_row w b (o+j) _ T fr h,List.getElem?_toArray]
 have hj:j<n:=by
  have:=(List.getElem?_eq_some_iff.1 hv).1;rw[List.length_take]at this;omega
 rw[List.getElem?_take_of_lt hj,List.getElem?_drop]at hv;exact hv
theorem wpList_load_g {ops:Array Oper}{rest:List Oper}{op:Oper}{a:Act}{w:World}{Q:Exit->Act->World->Prop}(ty:TypeId)(x:Operand)(ho:op.op=.load ty x)
 (b o:Nat) (hx:a.eval x=.pointer (some ⟨b,o,none⟩)) (cs:List Value) (d:TypeDesc) (hc:w.rangeAt b o cs)
 (hu:Tryz.prog.underlying ty=some d) (hd:d.isRow=true) (hi:(Tryz.prog.info? ty).map (·.size)=some cs.length) (hw:Region.wanted op (yielded ops a.tmps)=true)
 (h:wpList Tryz.prog ops Q rest (a.put op.dst (.agg cs.toArray)) w):wpList Tryz.prog ops Q (op::rest) a w:=
 wpList_step fun _ hK=>by simp only[hw,if_true];exact wp_load_mid ty x ho b o hx cs d hc hu hd hi (hK _ _ h)
def worldB (p:ProbD):Bool:=decide (ckMap p.map=0) && decide (ckWalker p.walker=0) && decide (ckWord p.walker.legs p.word=0)
theorem world_c {w:World}{pv:Value}{p:ProbD}{L:Nat}(hp:PVal w pv p)(hF:ProbF L p):
 Calls Tryz.prog 100 #[pv] w fun e w'=>e=.returned (.bool (worldB p))/\Bel w.heap.size w w':=by
 obtain⟨g,mo,mc,wo,wc,so,sc,go,gc,rfl,⟨hmc,mg,hm⟩,hk,hw,-⟩:=hp.lit
 have HM:Hid (∀W0,Bel w.heap.size w W0->Calls Tryz.prog 23 #[.slice mo p.map.length mc] W0 fun e w'=>e=.returned (.int .i64 (ckMap p.map))/\Bel W0.heap.size W0 w'):=fun W0 hb=>
  checkMap_c (hm.bel hb) hF.map hmc (Nat.le_trans hF.size (by decide))
 have HK:Hid (∀W0,Bel w.heap.size w W0->Calls Tryz.prog 28 #[.agg #[.int .i64 p.walker.legs,g 2,g 3,g 4,g 5,g 6,g 7,g 8,g 9,g 10,g 11,g 12,g 13,g 14,g 15,g 16,g 17,g 18,g 19,g 20,g 21,g 22,g 23,g 24,g 25]] W0
  fun e w'=>e=.returned (.int .i64 (ckWalker p.walker))/\Bel W0.heap.size W0 w'):=fun W0 hb=>checkWalker_c (hk.pres hb.pb)
 have HW:Hid (∀W0,Bel w.heap.size w W0->Calls Tryz.prog 40 #[.int .i64 p.walker.legs,.slice wo p.word.length wc] W0 fun e w'=>e=.returned (.int .i64 (ckWord p.walker.legs p.word))/\W0=w'):=fun W0 hb=>
  checkWord_c (hw.pres hb.pb)
 have HR:Hid (worldB p=(decide (ckMap p.map=0) && decide (ckWalker p.walker=0) && decide (ckWord p.walker.legs p.word=0))):=rfl;generalize worldB p=R at HR|-;clear hp hF hm hk hw hmc;generalize ckMap p.map=cm at *;generalize ckWalker p.walker=ck at *;generalize ckWord p.walker.legs p.word=cw at *;generalize p.map.length=n at *;generalize p.word.length=n2 at *;generalize p.start.length=n3 at *;generalize p.goal.length=n4 at *
 generalize p.walker.legs=legs at *
 go_enter Tryz.func100,Tryz.ntmps100
 go_wp2_with fail
 refine(HM.out _ Bel.new).mono ?_;rintro e w1 ⟨rfl,hb1⟩;have hblk1:=(hb1.block w.heap.size (by simp)).trans (heap_new _ _ rfl);have HB1:Hid (Bel w.heap.size w w1):=Bel.new.trans (hb1.mono (by simp));have hlt1:=BlkT.lt ⟨_,_,hblk1⟩;have HK1:=LH hblk1;clear hb1 HM
 by_cases h0:cm=0
 .have d0:(cm==0)=true:=by simpa using h0
  have HE:Hid (R=(decide (ck=0) && decide (cw=0))):=by show _=_;rw[HR.out,decide_eq_true h0];rfl
  clear HR h0;have HLD:=LH (rangeAt_of_list hblk1 1 25);clear hblk1
  go_wp2_with (refine wpList_load_g 41 (.tmp 8) rfl _ _ rfl _ _ HLD.out Tryz.underlying41 rfl (by kernel_rfl) rfl ?_;simp only[List.take_succ_cons,List.take_zero,List.drop_succ_cons,List.drop_zero])
  refine(HK.out _ HB1.out).mono ?_;rintro e w2 ⟨rfl,hb2⟩;have hblk2:=(hb2.block w.heap.size hlt1).trans HK1.out;have HB2:Hid (Bel w.heap.size w w2):=HB1.out.trans (hb2.mono HB1.out.size);have hlt2:=BlkT.lt ⟨_,_,hblk2⟩;clear hb2 HLD HK HK1
  by_cases h1:ck=0
  .have d1:(ck==0)=true:=by simpa using h1
   have HE1:Hid (R=decide (cw=0)):=by show _=_;rw[HE.out,decide_eq_true h1];rfl
   clear HE h1;obtain⟨-,c1,-,-,-,-,-,-,-,-,-,-,-,-,-,-,-,-,-,-,-,-,-,-,-,-,c26,-,-,-,-,-⟩:=row32 hblk2;clear hblk2
   go_wp2_with fail
   refine(HW.out _ HB2.out).mono ?_;rintro e w3 ⟨rfl,rfl⟩
   by_cases h2:cw=0
   .have d2:(cw==0)=true:=by simpa using h2
    have HE2:Hid (R=true):=by show _=_;rw[HE1.out,decide_eq_true h2]
    clear h2;go_wp2;go_ret;exact⟨by rw[HE2.out];rfl,HB2.out⟩
   .have d2:(cw==0)=false:=by simpa using h2
    have HE2:Hid (R=false):=by show _=_;rw[HE1.out,decide_eq_false h2]
    clear h2;go_wp2;go_ret;exact⟨by rw[HE2.out];rfl,HB2.out⟩
  .have d1:(ck==0)=false:=by simpa using h1
   have HE2:Hid (R=false):=by show _=_;rw[HE.out,decide_eq_false h1];rfl
   clear h1;go_wp2;go_ret;exact⟨by rw[HE2.out];rfl,HB2.out⟩
 .have d0:(cm==0)=false:=by simpa using h0
  have HE2:Hid (R=false):=by show _=_;rw[HR.out,decide_eq_false h0];rfl
  clear h0;go_wp2;go_ret;exact⟨by rw[HE2.out];rfl,HB1.out⟩
def bit (x k:Nat):Bool:=x/2^k%2==1
theorem stands_val {x k:Nat}(hx:x<256):(((x:Int)/2^min k 8).tmod 2==1)=bit x k:=by
 have e:((x:Int)/2^min k 8)=((x/2^min k 8:Nat):Int):=by push_cast;rfl
 have e2:x/2^min k 8=x/2^k:=by
  rcases Nat.le_total k 8 with h|h
  .rw[Nat.min_eq_left h]
  .have h3:(2:Nat)^8<=2^k:=Nat.pow_le_pow_right (by decide) h;rw[Nat.min_eq_right h,Nat.div_eq_of_lt (show x<2^8 from hx),Nat.div_eq_of_lt (Nat.lt_of_lt_of_le (show x<2^8 from hx) h3)]
 rw[e,e2];unfold bit;generalize x/2^k=z
 have e3:((z:Int)).tmod 2=((z%2:Nat):Int):=by
  rw[Int.tmod_eq_emod_of_nonneg (by omega)];push_cast;rfl
 rw[e3];rcases Nat.mod_two_eq_zero_or_one z with h|h<;>rw[h]<;>rfl
theorem stands_c {w:World}{x k:Nat}{p:Bool}(hx:x<256)(hk:k<64)(hp:p=bit x k):
 Calls Tryz.prog 44 #[.int .u8 (x:Int),.int .i64 (k:Int)] w fun e w'=>e=.returned (.bool p)/\w'=w:=by
 have e1:Hid ((((x:Int)/2^min k 8).tmod 2==1)=p):=by rw[hp];exact stands_val hx
 clear hp
 go_enter Tryz.func44,Tryz.ntmps44
 go_wp2;go_ret;exact⟨by rw[<-e1.out];rfl,rfl⟩
theorem bit_xor (x y k:Nat):bit (x ^^^ y) k=(bit x k !=bit y k):=by
 have h (a:Nat):bit a k=a.testBit k:=by
  unfold bit;rw[Nat.testBit_eq_decide_div_mod_eq]
  cases h:(a/2^k%2==1)<;>simp at h|-<;>omega
 rw[h,h,h,Nat.testBit_xor]
def cntB (t:Nat):Nat->Nat
 |0=>0
 |k+1=>cntB t k+if bit t k then 1 else 0
theorem cntB_le (t k:Nat):cntB t k<=k:=by
 induction k with
 |zero=>exact Nat.le_refl _
 |succ k ih=>unfold cntB;split<;>omega
theorem cntB_eight {t:Nat}(h:t<256):cntB t 8=Lib.onesCount t:=by
 have:∀t:Fin 256,cntB t.val 8=Lib.onesCount t.val:=by decide+kernel
 exact this ⟨t,h⟩
theorem cntB_zero {t:Nat}(h:t<256):cntB t 8=0 ↔ t=0:=by
 have:∀t:Fin 256,(cntB t.val 8=0 ↔ t.val=0):=by decide+kernel
 exact this ⟨t,h⟩
theorem bit_high {x k l:Nat}(hb:bit x k=true)(hk:l<=k):x/2^l≠0:=by
 unfold bit at hb
 have h1:x/2^k≠0:=by
  intro e;rw[e]at hb
  cases hb
 intro e;have h2:0<2^l:=Nat.two_pow_pos l;have h3:2^l<=2^k:=Nat.pow_le_pow_right (by decide) hk;rw[Nat.div_eq_zero_iff]at e;exact h1 (Nat.div_eq_of_lt (by omega))
theorem bit_none {x l:Nat}(hx:x<256)(hl:l<=4)(h:∀k,k<8->l<=k->bit x k=false):x/2^l=0:=by
 have:∀x:Fin 256,∀l:Fin 5,(∀k:Fin 8,l.val<=k.val->bit x.val k.val=false)->x.val/2^l.val=0:=by decide+kernel
 exact this ⟨x,hx⟩ ⟨l,by omega⟩ fun k hk=>h k.val k.isLt hk
theorem phOk_bit {l x y k:Nat}(hb:bit x k=true)(hk:l<=k):phOk l x y=false:=by
 have h:=bit_high hb hk;unfold phOk;have e:(x/2^l==0)=false:=by simpa using h
 rw[e];simp
theorem phOk_cnt {l x y:Nat}(hx:x<256)(hy:y<256)(hl:l<=4)(h:∀k,k<8->l<=k->bit x k=false):phOk l x y=(!(cntB x 8==0) && (cntB (x ^^^ y) 8==1)):=by
 have ht:x ^^^ y<256:=Nat.xor_lt_two_pow (n:=8) hx hy;unfold phOk;rw[bit_none hx hl h,cntB_eight ht]
 have e:(cntB x 8==0)=(x==0):=by
  rw[Bool.eq_iff_iff];simp[cntB_zero hx]
 rw[e];simp
theorem refCheck_loop {w:World}{v:Value}{W:List Nat}{l:Nat}{T8:TypeId}(hv:WordT T8 w v W)(h1:1<=l)(h4:l<=4)(h2:2<=W.length)(h16:W.length<=16):
 Calls Tryz.prog 39 #[.int .i64 l,v] w fun e w'=>e=.returned (.int .i64 (wordRes l W))/\Bel w.heap.size w w':=by
 obtain⟨hW,ao,cap,rfl,hcap,hc⟩:=hv;obtain⟨b,o,rfl,hbl,hcell⟩:=hc.open (by omega);have HC:=LH hcell;have HW:=LH hW;clear hc hcell hW;obtain⟨n,hn⟩:∃n,n=W.length:=⟨_,rfl⟩
 have HN:=LH hn;rw[<-hn]at HC h2 h16 hcap|-;clear hn;have d1:decide ((l:Int)<1)=false:=by simp;omega
 have d2:decide ((4:Int)<l)=false:=by simp;omega
 have d3:decide ((n:Int)<2)=false:=by simp;omega
 have d4:decide ((16:Int)<n)=false:=by simp;omega
 go_enter Tryz.func39,Tryz.ntmps39
 go_wp2
 go_loopg [5] n (fun g s wr=>∃i:Nat,g=n-i/\i<=n/\s=.int .i64 i/\(∀j,j<i->phOk l (W.getD j 0) (nxt W j)=true)/\Bel w.heap.size w wr)
 case atStart=>exact⟨0,rfl,Nat.zero_le _,rfl,fun j hj=>by omega,Bel.refl _ _⟩
 case round=>
  obtain⟨i,hg,hi,rfl,hj,hbr⟩:=hrel;have HJ:=LH hj;have HB:=LH hbr;clear hj hbr
  by_cases hlt:i<n
  .have g0:=HC.out i hlt;obtain⟨m,hmm⟩:∃m,m=(i+1)%n:=⟨_,rfl⟩
   have hmi:((i:Int)+1).tmod (n:Int)=(m:Nat):=by rw[Int.tmod_eq_emod_of_nonneg (by omega),hmm];push_cast;rfl
   have hm:m<n:=by rw[hmm];exact Nat.mod_lt _ (by omega)
   have g1:=HC.out m hm;unfold bw at g0 g1;obtain⟨x,hx⟩:∃x,x=W.getD i 0:=⟨_,rfl⟩
   obtain⟨y,hy⟩:∃y,y=W.getD m 0:=⟨_,rfl⟩
   have hxl:x<256:=by rw[hx];exact HW.out _
   have hyl:y<256:=by rw[hy];exact HW.out _
   have HPH:Hid (phOk l (W.getD i 0) (nxt W i)=phOk l x y):=by show _=_;unfold nxt;rw[<-HN.out,<-hmm,<-hx,<-hy]
   have HBAD:Hid (phOk l x y=false->wordRes l W=2):=fun h=>wordRes_bad (by rw[<-HN.out];exact hlt) (by rw[HPH.out];exact h);rw[<-hx]at g0;rw[<-hy]at g1;have G0:=LH g0;have G1:=LH g1;clear hx hy hmm g0 g1;obtain⟨wo,rfl⟩:∃wo:World,wo=wr:=⟨_,rfl⟩
   go_wp2
   go_loopg [6,7,8] 8 (fun g s6 s7 s8 wr=>∃k:Nat,g=8-k/\k<=8/\s6=.int .i64 (cntB x k:Nat)/\s7=.int .i64 (cntB (x ^^^ y) k:Nat)/\s8=.int .i64 k/\(∀j,j<k->l<=j->bit x j=false)/\Bel w.heap.size w wr)
   case atStart=>exact⟨0,rfl,Nat.zero_le _,rfl,rfl,rfl,fun j hj=>by omega,HB.out⟩
   case round=>
    obtain⟨k,hgk,hk,rfl,rfl,rfl,hj2,hbr⟩:=hrel;have HJ2:=LH hj2;have HB2:=LH hbr;have g0:=(hbr.cell (p:=⟨b,o+i,none⟩) hbl).trans G0.out;have g1:=(hbr.cell (p:=⟨b,o+m,none⟩) hbl).trans G1.out;have hsl:=cntB_le x k;have hel:=cntB_le (x ^^^ y) k;clear hj2 hbr
    by_cases hk8:k<8
    .obtain⟨p,hp⟩:∃p,p=bit x k:=⟨_,rfl⟩
     obtain⟨q,hq⟩:∃q,q=bit y k:=⟨_,rfl⟩
     have HPX:=LH hp;have HPY:=LH hq;have HS6:Hid (cntB x (k+1)=cntB x k+if p then 1 else 0):=by show _=_;rw[hp];rfl
     have HS7:Hid (cntB (x ^^^ y) (k+1)=cntB (x ^^^ y) k+if(p !=q) then 1 else 0):=by show _=_;rw[hp,hq,<-bit_xor];rfl
     obtain⟨s6,hs6⟩:∃s,s=cntB x k:=⟨_,rfl⟩
     obtain⟨s7,hs7⟩:∃s,s=cntB (x ^^^ y) k:=⟨_,rfl⟩
     rw[<-hs6]at hsl HS6|-;rw[<-hs7]at hel HS7|-;clear hp hq hs6 hs7;have dk:decide ((k:Int)<8)=true:=by simp;omega
     go_wp2
     go_quiet (first|(go_at_call_of 44 x;exact Calls.quiet_of_same (stands_c (k:=k) hxl (by omega) HPX.out))|(go_at_call_of 44 y;exact Calls.quiet_of_same (stands_c (k:=k) hyl (by omega) HPY.out)))
     have HB3:Hid (Bel w.heap.size w (wr.drewN nq)):=HB2.out.drewN nq;generalize wr.drewN nq=w3 at HB3|-;clear g0 g1 HB2 dk
     cases p
     .have HJ3:Hid (∀j,j<k+1->l<=j->bit x j=false):=fun j hj hl=>by
       rcases Nat.lt_or_ge j k with h|h
       .exact HJ2.out j h hl
       .obtain rfl:j=k:=by omega
        exact HPX.out.symm
      cases q
      .go_wp2
       go_roundg (8-(k+1))
       case rel=>exact⟨k+1,rfl,by omega,by rw[HS6.out];rfl,by rw[HS7.out];rfl,by push_cast;rfl,HJ3.out,HB3.out⟩
       case measure=>omega
      .go_wp2
       go_roundg (8-(k+1))
       case rel=>exact⟨k+1,rfl,by omega,by rw[HS6.out];rfl,by rw[HS7.out];push_cast;rfl,by push_cast;rfl,HJ3.out,HB3.out⟩
       case measure=>omega
     .by_cases hkl:l<=k
      .have dl:decide ((k:Int)>=(l:Int))=true:=by simp;omega
       have HR:Hid (wordRes l W=2):=HBAD.out (phOk_bit HPX.out.symm hkl);go_wp2;go_ret;exact⟨by rw[HR.out];rfl,HB3.out⟩
      .have dl:decide ((k:Int)>=(l:Int))=false:=by simp;omega
       have HJ3:Hid (∀j,j<k+1->l<=j->bit x j=false):=fun j hj hl=>HJ2.out j (by omega) hl
       cases q
       .go_wp2
        go_roundg (8-(k+1))
        case rel=>exact⟨k+1,rfl,by omega,by rw[HS6.out];push_cast;rfl,by rw[HS7.out];push_cast;rfl,by push_cast;rfl,HJ3.out,HB3.out⟩
        case measure=>omega
       .go_wp2
        go_roundg (8-(k+1))
        case rel=>exact⟨k+1,rfl,by omega,by rw[HS6.out];push_cast;rfl,by rw[HS7.out];rfl,by push_cast;rfl,HJ3.out,HB3.out⟩
        case measure=>omega
    .obtain rfl:k=8:=by omega
     have HX:Hid (phOk l x y=(!(cntB x 8==0) && (cntB (x ^^^ y) 8==1))):=phOk_cnt hxl hyl h4 HJ2.out;obtain⟨s6,hs6⟩:∃s,s=cntB x 8:=⟨_,rfl⟩
     obtain⟨s7,hs7⟩:∃s,s=cntB (x ^^^ y) 8:=⟨_,rfl⟩
     rw[<-hs6,<-hs7]at HX;rw[<-hs6]at hsl|-;rw[<-hs7]at hel|-;clear hs6 hs7 g0 g1
     by_cases h6:s6=0
     .have d6:((s6:Int)==0)=true:=by simp;omega
      have HR:Hid (wordRes l W=2):=HBAD.out (by rw[HX.out,h6];rfl);clear h6;go_wp2;go_ret;exact⟨by rw[HR.out];rfl,HB2.out⟩
     .have d6:((s6:Int)==0)=false:=by simp;omega
      by_cases h7:s7=1
      .have d7:((s7:Int) !=1)=false:=by simp;omega
       have HQ:Hid (∀j,j<i+1->phOk l (W.getD j 0) (nxt W j)=true):=fun j hj=>by
        rcases Nat.lt_or_ge j i with h|h
        .exact HJ.out j h
        .obtain rfl:j=i:=by omega
         rw[HPH.out,HX.out,h7];simp[h6]
       clear h6 h7;go_wp2
       go_roundg (n-(i+1))
       case rel=>exact⟨i+1,rfl,by omega,by push_cast;rfl,HQ.out,HB2.out⟩
       case measure=>omega
      .have d7:((s7:Int) !=1)=true:=by simp;omega
       have HR:Hid (wordRes l W=2):=HBAD.out (by rw[HX.out];simp[h7]);clear h6 h7;go_wp2;go_ret;exact⟨by rw[HR.out];rfl,HB2.out⟩
  .have HR:Hid (wordRes l W=0):=wordRes_good (by rw[<-HN.out];intro j hj;exact HJ.out j (by omega));go_wp2;go_ret;exact⟨by rw[HR.out];rfl,HB.out⟩
theorem refCheck_c {w:World}{v:Value}{W:List Nat}{legs:Int}{T8:TypeId}(hv:WordT T8 w v W):
 Calls Tryz.prog 39 #[.int .i64 legs,v] w fun e w'=>e=.returned (.int .i64 (ckWord legs W))/\Bel w.heap.size w w':=by
 by_cases c1:legs<1
 .obtain⟨a,cap,rfl⟩:=hv.len;have HR:Hid (ckWord legs W=3):=by show _=_;unfold ckWord;rw[if_pos (by omega)]
  have d1:decide (legs<1)=true:=by simpa using c1
  generalize W.length=n;clear hv c1
  go_enter Tryz.func39,Tryz.ntmps39
  go_wp2;go_ret;exact⟨by rw[HR.out];rfl,Bel.refl _ _⟩
 .by_cases c4:4<legs
  .obtain⟨a,cap,rfl⟩:=hv.len;have HR:Hid (ckWord legs W=3):=by show _=_;unfold ckWord;rw[if_pos (by omega)]
   have d1:decide (legs<1)=false:=by simpa using c1
   have d2:decide (4<legs)=true:=by simpa using c4
   generalize W.length=n;clear hv c1 c4
   go_enter Tryz.func39,Tryz.ntmps39
   go_wp2;go_ret;exact⟨by rw[HR.out];rfl,Bel.refl _ _⟩
  .obtain⟨l,rfl⟩:∃l:Nat,legs=l:=⟨legs.toNat,by omega⟩
   by_cases c2:W.length<2
   .obtain⟨a,cap,rfl⟩:=hv.len;have HR:Hid (ckWord l W=2):=by show _=_;unfold ckWord;rw[if_neg (by omega),if_pos (by omega)]
    have d1:decide ((l:Int)<1)=false:=by simpa using c1
    have d2:decide ((4:Int)<l)=false:=by simpa using c4
    obtain⟨n,hn⟩:∃n,n=W.length:=⟨_,rfl⟩
    rw[<-hn]at c2|-;have d3:decide ((n:Int)<2)=true:=by simp;omega
    clear hv c1 c4 hn c2
    go_enter Tryz.func39,Tryz.ntmps39
    go_wp2;go_ret;exact⟨by rw[HR.out];rfl,Bel.refl _ _⟩
   .by_cases c16:16<W.length
    .obtain⟨a,cap,rfl⟩:=hv.len;have HR:Hid (ckWord l W=2):=by show _=_;unfold ckWord;rw[if_neg (by omega),if_pos (by omega)]
     have d1:decide ((l:Int)<1)=false:=by simpa using c1
     have d2:decide ((4:Int)<l)=false:=by simpa using c4
     obtain⟨n,hn⟩:∃n,n=W.length:=⟨_,rfl⟩
     rw[<-hn]at c2 c16|-;have d3:decide ((n:Int)<2)=false:=by simp;omega
     have d4:decide ((16:Int)<n)=true:=by simp;omega
     clear hv c1 c4 hn c2 c16
     go_enter Tryz.func39,Tryz.ntmps39
     go_wp2;go_ret;exact⟨by rw[HR.out];rfl,Bel.refl _ _⟩
    .rw[ckWord_wordRes (by omega) (by omega) (by omega) (by omega)];exact refCheck_loop hv (by omega) (by omega) (by omega) (by omega)
def feetK (x:Nat)(hs:List Int):Nat->List Int
 |0=>[]
 |k+1=>if bit x k then feetK x hs k++[hs.getD k 0] else feetK x hs k
theorem feetK_len (x:Nat)(hs:List Int)(k:Nat):(feetK x hs k).length<=k:=by
 induction k with
 |zero=>exact Nat.le_refl _
 |succ k ih=>
  unfold feetK;split
  .simp;omega
  .omega
theorem feetK_mem {x:Nat}{hs:List Int}{k:Nat}(hk:k<=hs.length){h:Int}(hm:h∈feetK x hs k):h∈hs:=by
 induction k with
 |zero=>cases hm
 |succ k ih=>
  unfold feetK at hm;split at hm
  .rcases List.mem_append.1 hm with h1|h1
   .exact ih (by omega) h1
   .rw[List.mem_singleton]at h1;rw[h1,getD_get (by omega)];exact List.getElem_mem _
  .exact ih (by omega) hm
def holdN (p:ProbD)(h:Int):HoldD:=p.map.getD h.toNat hold0
def mmK (f:Rat->Rat->Bool)(X:Nat->Rat):Nat->Rat
 |0=>X 0
 |k+1=>if f (X k) (mmK f X k) then X k else mmK f X k
theorem mmK_is (f:Rat->Rat->Bool)(X:Nat->Rat)(k:Nat):∃i,(i<k\/i=0)/\mmK f X k=X i:=by
 induction k with
 |zero=>exact⟨0,.inr rfl,rfl⟩
 |succ k ih=>
  unfold mmK;split
  .exact⟨k,by omega,rfl⟩
  .obtain⟨i,hi,e⟩:=ih;exact⟨i,by omega,e⟩
def ltB (a b:Rat):Bool:=decide (cmpR a b<0)
def gtB (a b:Rat):Bool:=decide (0<cmpR a b)
def footX (p:ProbD)(F:List Int)(i:Nat):Rat:=(holdN p (F.getD i 0)).x
def loadQF (p:ProbD)(F:List Int):Rat:=p.walker.weight/((F.length:Int):Rat)
def footOk (p:ProbD)(F:List Int)(i:Nat):Bool:=
 !((F.take i).any fun x=>F.getD i 0==x) && !(decide (0<ratSign (holdN p (F.getD i 0)).b) && decide (0<cmpR (loadQF p F) (holdN p (F.getD i 0)).b))
def feetRes (p:ProbD)(F:List Int):Bool:=
 (List.range F.length).all (footOk p F) && decide (cmpR (mmK gtB (footX p F) F.length-mmK ltB (footX p F) F.length) p.walker.span<=0)
theorem feetRes_bad {p:ProbD}{F:List Int}{i:Nat}(hi:i<F.length)(h:footOk p F i=false):feetRes p F=false:=by
 have:((List.range F.length).all (footOk p F))=false:=by
  rw[List.all_eq_false];exact⟨i,by simpa using hi,by rw[h];simp⟩
 unfold feetRes;rw[this];rfl
theorem feetRes_good {p:ProbD}{F:List Int}(h:∀i,i<F.length->footOk p F i=true):feetRes p F=decide (cmpR (mmK gtB (footX p F) F.length-mmK ltB (footX p F) F.length) p.walker.span<=0):=by
 have:((List.range F.length).all (footOk p F))=true:=List.all_eq_true.2 fun i hi=>h i (by simpa using hi);unfold feetRes;rw[this];rfl
def standsB (p:ProbD)(s:StateD):Bool:=feetRes p (feetK (p.word.getD s.phase.toNat 0) s.holds s.holds.length)
theorem own_snocI {base:Nat}{w':World}{v':Value}{l:List Int}{x:Int}(h:OwnS 3 1 base w' v' (l.length+1) (appF (l.length*1) (intCells l) fun _=>.int .i64 x)):OwnS 3 1 base w' v' (l++[x]).length (intCells (l++[x])):=by
 rw[List.length_append];refine h.congr fun j hj=>?_
 by_cases e:j<l.length
 .rw[appF_lt _ _ (by omega)];unfold intCells;rw[List.getD_eq_getElem?_getD,List.getD_eq_getElem?_getD,List.getElem?_append_left e]
 .have:j=l.length:=by omega
  subst this;rw[appF_ge _ _ (by omega)];unfold intCells;rw[List.getD_eq_getElem?_getD,List.getElem?_append_right NL];simp
structure FeetIn (W1 wr:World) (ov:Value) (x:Nat) (hs:List Int) (k:Nat):Prop where
 own:OwnS 3 1 W1.heap.size wr ov (feetK x hs k).length (intCells (feetK x hs k))
 bel:Bel W1.heap.size W1 wr
theorem FeetIn.skip {W1 wr:World}{ov:Value}{x:Nat}{hs:List Int}{k:Nat}(h:FeetIn W1 wr ov x hs k)(hb:bit x k=false):FeetIn W1 wr ov x hs (k+1):=by
 have e:feetK x hs (k+1)=feetK x hs k:=by rw[feetK,if_neg (by rw[hb];decide)]
 exact⟨by rw[e];exact h.own,h.bel⟩
theorem FeetIn.step {W1 wr w':World}{ov ov2:Value}{x:Nat}{hs:List Int}{k:Nat}{o:Obj}{y:Int}(h:FeetIn W1 wr ov x hs k)(hb:bit x k=true)(hy:y=hs.getD k 0)
 (hown:OwnS 3 1 W1.heap.size w' ov2 ((feetK x hs k).length+1) (appF ((feetK x hs k).length*1) (intCells (feetK x hs k)) fun _=>.int .i64 y)) (hgrow:(wr.alloc o).grownBy w' ov.ownBlock) (hdr:(wr.alloc o).drawn<=w'.drawn):
 FeetIn W1 w' ov2 x hs (k+1):=by
 have e:feetK x hs (k+1)=feetK x hs k++[y]:=by rw[feetK,if_pos hb,hy]
 exact⟨by rw[e];exact own_snocI hown,(h.bel.alloc h.bel.size _).grownS (h.own.alloc _) hgrow hdr (by have:=h.bel.size;simp;omega) NL⟩
theorem shr_bit {x k:Nat}(hx:x<256):bits .and .u8 ((x/2^k:Nat):Int) 1=((if bit x k then 1 else 0:Nat):Int):=by
 rw[bits_and1 _ (Nat.lt_of_le_of_lt (Nat.div_le_self _ _) hx)];unfold bit;rcases Nat.mod_two_eq_zero_or_one (x/2^k)with h|h<;>rw[h]<;>rfl
def refEvF (x y:Nat):Nat->Nat->Int
 |0,_=>0
 |f+1,k=>if bit y k && !bit x k then(k:Int)+1 else if bit x k && !bit y k then -(k:Int)-1 else refEvF x y f (k+1)
theorem drewN2 (w:World)(m n:Nat):(w.drewN m).drewN n=w.drewN (m+n):=by simp[World.drewN,Nat.add_assoc]
def evOf (x y:Nat):Int:=let t:Int:=(Lib.trailingZeros8 (x ^^^ y):Nat)+1;if x<y then t else -t
theorem refEv_eq {x y:Nat}(hx:x<16)(hy:y<16)(h:Lib.onesCount (x ^^^ y)=1):refEvF x y 4 0=evOf x y:=by
 have:∀x:Fin 16,∀y:Fin 16,Lib.onesCount (x.val ^^^ y.val)=1->refEvF x.val y.val 4 0=evOf x.val y.val:=by decide+kernel
 exact this ⟨x,hx⟩ ⟨y,hy⟩ h
theorem refEvent_c0 {w:World}{v:Value}{W:List Nat}{i:Nat}{T8:TypeId}(hv:WordT T8 w v W)(hi:i<W.length)(h16:W.length<=16):
 Calls Tryz.prog 43 #[v,.int .i64 i] w fun e w'=>e=.returned (.int .i64 (refEvF (W.getD i 0) (nxt W i) 4 0))/\∃m,w'=w.drewN m:=by
 obtain⟨hW,ao,cap,rfl,hcap,hc⟩:=hv;obtain⟨b,o,rfl,hbl,hcell⟩:=hc.open (by omega);have HC:=LH hcell;have HW:=LH hW;clear hc hcell hW;obtain⟨n,hn⟩:∃n,n=W.length:=⟨_,rfl⟩
 have HN:=LH hn;rw[<-hn]at HC hi h16 hcap|-;clear hn;have g0:=HC.out i hi;obtain⟨m,hmm⟩:∃m,m=(i+1)%n:=⟨_,rfl⟩
 have hmi:((i:Int)+1).tmod (n:Int)=(m:Nat):=by rw[Int.tmod_eq_emod_of_nonneg (by omega),hmm];push_cast;rfl
 have hm:m<n:=by rw[hmm];exact Nat.mod_lt _ (by omega)
 have g1:=HC.out m hm;unfold bw at g0 g1;obtain⟨x,hx⟩:∃x,x=W.getD i 0:=⟨_,rfl⟩
 obtain⟨y,hy⟩:∃y,y=W.getD m 0:=⟨_,rfl⟩
 have hxl:x<256:=by rw[hx];exact HW.out _
 have hyl:y<256:=by rw[hy];exact HW.out _
 have hn2:nxt W i=y:=by unfold nxt;rw[<-HN.out,<-hmm,<-hy]
 rw[hn2,<-hx];rw[<-hx]at g0;rw[<-hy]at g1;have G0:=LH g0;have G1:=LH g1;clear hx hy hmm g0 g1 hn2
 go_enter Tryz.func43,Tryz.ntmps43
 go_wp2
 go_loopg [5] 4 (fun g s wr=>∃k:Nat,g=4-k/\k<=4/\s=.int .i64 k/\refEvF x y 4 0=refEvF x y (4-k) k/\∃m,wr=w.drewN m)
 case atStart=>exact⟨0,rfl,Nat.zero_le _,rfl,rfl,0,rfl⟩
 case round=>
  obtain⟨k,hg,hk,rfl,hev,md,hmd⟩:=hrel;have HE:=LH hev;have HB:=LH hmd;have g0:wr.cell? ⟨b,o+i,none⟩=some (.int .u8 (x:Int)):=by rw[hmd];exact G0.out
  have g1:wr.cell? ⟨b,o+m,none⟩=some (.int .u8 (y:Int)):=by rw[hmd];exact G1.out
  clear hev hmd
  by_cases hlt:k<4
  .obtain⟨p,hp⟩:∃p,p=bit x k:=⟨_,rfl⟩
   obtain⟨q,hq⟩:∃q,q=bit y k:=⟨_,rfl⟩
   have HPX:=LH hp;have HPY:=LH hq
   have HF:Hid (refEvF x y 4 0=if q && !p then(k:Int)+1 else if p && !q then -(k:Int)-1 else refEvF x y (4-(k+1)) (k+1)):=by
    show _=_
    obtain⟨f,hf⟩:∃f,4-k=f+1:=⟨3-k,by omega⟩
    rw[HE.out,hf,hp,hq,show 4-(k+1)=f by omega];rfl
   have dk:decide ((k:Int)<4)=true:=by simp;omega
   clear hp hq HE;go_wp2
   go_quiet (first|(go_at_call_of 44 x;exact Calls.quiet_of_same (stands_c (k:=k) hxl (by omega) HPX.out))|(go_at_call_of 44 y;exact Calls.quiet_of_same (stands_c (k:=k) hyl (by omega) HPY.out)))
   have HB3:Hid (∃m,wr.drewN nq=w.drewN m):=⟨md+nq,by rw[HB.out];exact drewN2 _ _ _⟩
   generalize wr.drewN nq=w3 at HB3|-;clear g0 g1 HB dk
   cases p<;>cases q
   .go_wp2
    go_roundg (4-(k+1))
    case rel=>exact⟨k+1,rfl,by omega,by push_cast;rfl,by rw[HF.out];rfl,HB3.out⟩
    case measure=>omega
   .go_wp2;go_ret;exact⟨by rw[HF.out];rfl,HB3.out⟩
   .go_wp2;go_ret;exact⟨by rw[HF.out];rfl,HB3.out⟩
   .go_wp2
    go_roundg (4-(k+1))
    case rel=>exact⟨k+1,rfl,by omega,by push_cast;rfl,by rw[HF.out];rfl,HB3.out⟩
    case measure=>omega
  .have HR:Hid (refEvF x y 4 0=0):=by show _=_;rw[HE.out,show 4-k=0 by omega];rfl
   go_wp2;go_ret;exact⟨by rw[HR.out];rfl,md,HB.out⟩
theorem ckWord_ok {legs:Int}{W:List Nat}(h:ckWord legs W=0){i:Nat}(hi:i<W.length):phOk legs.toNat (W.getD i 0) (nxt W i)=true:=by
 have hz:=ckWord_zero h;unfold ckWord at h;rw[if_neg (by omega),if_neg (by omega)]at h;split at h
 .rename_i h2
  exact List.all_eq_true.1 h2 i (List.mem_range.2 hi)
 .cases h
theorem phOk_lt {l x y:Nat}(hl:l<=4)(h:phOk l x y=true):x<16:=by
 unfold phOk at h;simp at h;exact Nat.lt_of_lt_of_le h.1.2 (Nat.pow_le_pow_right (n:=2) (by decide) hl)
theorem phOk_one {l x y:Nat}(h:phOk l x y=true):Lib.onesCount (x ^^^ y)=1:=by
 unfold phOk at h;simp at h;exact h.2
theorem nxt_lt {legs:Int}{W:List Nat}(h:ckWord legs W=0){i:Nat}(_hi:i<W.length):nxt W i<16:=by
 have hz:=ckWord_zero h;exact phOk_lt (by omega) (ckWord_ok h (i:=(i+1)%W.length) (Nat.mod_lt _ (by omega)))
theorem refEvent_c {w:World}{v:Value}{W:List Nat}{legs:Int}{i:Nat}{T8:TypeId}(hv:WordT T8 w v W)(hc:ckWord legs W=0)(hi:i<W.length):
 Calls Tryz.prog 43 #[v,.int .i64 i] w fun e w'=>e=.returned (.int .i64 (evt W i))/\∃m,w'=w.drewN m:=by
 have hz:=ckWord_zero hc;have ho:=ckWord_ok hc hi;have e:refEvF (W.getD i 0) (nxt W i) 4 0=evt W i:=refEv_eq (phOk_lt (by omega) ho) (nxt_lt hc hi) (phOk_one ho);rw[<-e];exact refEvent_c0 hv hi hz.2.2.2
theorem rot_mod {W:List Nat}{n k i:Nat}(hn:W.length=n)(hk:k<=n)(hi:i<n):(rot W k).getD i 0=W.getD ((i+k)%n) 0:=by
 subst hn;rw[rot_get hk]
 by_cases h:i<W.length-k
 .rw[if_pos h,Nat.mod_eq_of_lt (by omega),Nat.add_comm]
 .rw[if_neg h,if_pos hi,Nat.mod_eq_sub_mod (by omega),Nat.mod_eq_of_lt (by omega),show i+k-W.length=i-(W.length-k)by omega]
structure RotIn (w wr:World) (ov:Value) (W:List Nat) (k i:Nat):Prop where
 own:OwnS 5 1 w.heap.size wr ov i (bw (rot W k))
 bel:Bel w.heap.size w wr
theorem RotIn.step {w wr w':World}{ov ov2:Value}{W:List Nat}{k i:Nat}{u:Value}{o:Obj}(h:RotIn w wr ov W k i)
 (hown:OwnS 5 1 w.heap.size w' ov2 (i+1) (appF (i*1) (bw (rot W k)) fun _=>u)) (hgrow:(wr.alloc o).grownBy w' ov.ownBlock) (hdr:(wr.alloc o).drawn<=w'.drawn)
 (hu:u=bw (rot W k) i):RotIn w w' ov2 W k (i+1):=
 ⟨D4.own_snoc hown hu,(h.bel.alloc h.bel.size _).grownS (h.own.alloc _) hgrow hdr (by have:=h.bel.size;simp;omega) NL⟩
theorem rotation_c {w:World}{v:Value}{W:List Nat}{k:Nat}{T8:TypeId}(hv:WordT T8 w v W)(hk:k<W.length)(h16:W.length<=16):
 Calls Tryz.prog 46 #[v,.int .i64 k] w (Gives w fun v w'=>OwnS 5 1 w.heap.size w' v W.length (bw (rot W k))):=by
 obtain⟨hW,ao,cap,rfl,hcap,hc⟩:=hv;obtain⟨b,o,rfl,hbl,hcell⟩:=hc.open (by omega);have HC:=LH hcell;clear hc hcell hW;obtain⟨n,hn⟩:∃n,n=W.length:=⟨_,rfl⟩
 have HN:=LH hn;have HS:Hid (RotIn w w (.slice none 0 0) W k 0):=⟨OwnS.nil _ _ _ _ _,Bel.refl _ _⟩
 rw[<-hn]at HC hk h16 hcap|-;clear hn
 go_enter Tryz.func46,Tryz.ntmps46
 go_wp2
 go_loopg [5,6] n (fun g o s wr=>∃i:Nat,g=n-i/\i<=n/\s=.int .i64 i/\RotIn w wr o W k i)
 case atStart=>exact⟨0,rfl,Nat.zero_le _,rfl,HS.out⟩
 case round=>
  clear HS;obtain⟨i,hg,hi,rfl,hp⟩:=hrel;have HP:=LH hp;have HO:=LH hp.own;have hbs:=hp.bel.size;have hlm1:i+1<=maxLen:=by unfold maxLen;omega
  have hlb1:(i+1)*1<=140737488355328:=by omega
  have HBS:Hid (∀o:Obj,w.heap.size<=(wr.alloc o).heap.size):=fun o=>by simp;omega
  clear hp
  by_cases hlt:i<n
  .obtain⟨m,hmm⟩:∃m,m=(i+k)%n:=⟨_,rfl⟩
   have hmi:((i:Int)+(k:Int))%(n:Int)=(m:Nat):=by rw[hmm];push_cast;rfl
   have hm:m<n:=by rw[hmm];exact Nat.mod_lt _ (by omega)
   have g1:=(HP.out.bel.cell (p:=⟨b,o+m,none⟩) hbl).trans (HC.out m hm);unfold bw at g1;have HV:Hid (Value.int .u8 (W.getD m 0:Nat)=bw (rot W k) i):=by show _=Value.int .u8 _;rw[rot_mod HN.out.symm (by omega) hlt,<-hmm]
   generalize W.getD m 0=y at g1 HV;clear hmm
   go_wp2_with (at_builtin;go_must (refine wpList_append_fn rfl (.tmp 13) (.tmp 23) 27 rfl w.heap.size Tryz.underlying27 infoU8 rfl (by decide) rfl (HO.out.alloc _) rfl (cells1 _ _ _) (fun _=>rfl) hlm1 hlb1 (HBS.out _) ?_;intro v' w' hown hgrow hdr))
   have HX:=LH (HP.out.step hown hgrow hdr HV.out)
   go_roundg (n-(i+1))
   case rel=>exact⟨i+1,rfl,by omega,by push_cast;rfl,HX.out⟩
   case measure=>omega
  .have HR:Hid (OwnS 5 1 w.heap.size wr u5 n (bw (rot W k))):=by have h:=HO.out;rw[show i=n by omega]at h;exact h
   go_wp2;go_ret;exact⟨_,rfl,HR.out,HP.out.bel⟩
theorem cmpW_split (f g:Nat->Nat){n k:Nat}(hk:k<n):cmpW f g n (n-k)=if f k≠g k then(if f k<g k then -1 else 1) else cmpW f g n (n-(k+1)):=by
 obtain⟨j,hj⟩:∃j,n-k=j+1:=⟨n-k-1,by omega⟩
 rw[hj]
 show(if cmpB (f (n-(j+1))) (g (n-(j+1)))≠0 then cmpB (f (n-(j+1))) (g (n-(j+1))) else cmpW f g n j)=_
 rw[show n-(j+1)=k by omega,show n-(k+1)=j by omega];unfold cmpB
 by_cases h1:f k<g k
 .rw[if_pos h1,if_pos (by decide),if_pos (by omega),if_pos h1]
 .rw[if_neg h1]
  by_cases h2:g k<f k
  .rw[if_pos h2,if_pos (by decide),if_pos (by omega),if_neg h1]
  .rw[if_neg h2,if_neg (by simp),if_neg (by omega)]
theorem less_c {w:World}{a1 a2:Option Addr}{n c1 c2:Nat}{f g:Nat->Nat}{T8 T9:TypeId}(h1:CellsAt T8 w a1 n (byteV f))(h2:CellsAt T9 w a2 n (byteV g))(hn:n<=1000000)(h0:0<n):
 Calls Tryz.prog 47 #[.slice a1 n c1,.slice a2 n c2] w fun e w'=>e=.returned (.bool (decide (cmpW f g n n<0)))/\Bel w.heap.size w w':=by
 obtain⟨b1,o1,rfl,hl1,hx1⟩:=h1.open h0;obtain⟨b2,o2,rfl,hl2,hx2⟩:=h2.open h0;have H1:=LH hx1;have H2:=LH hx2;clear h1 h2 hx1 hx2
 go_enter Tryz.func47,Tryz.ntmps47
 go_wp2
 go_loopg [5] n (fun g' i wr=>∃k:Nat,g'=n-k/\k<=n/\i=.int .i64 k/\cmpW f g n n=cmpW f g n (n-k)/\Bel w.heap.size w wr)
 case atStart=>exact⟨0,rfl,Nat.zero_le _,rfl,rfl,Bel.refl _ _⟩
 case round=>
  obtain⟨k,hg,hk,rfl,hcm,hbr⟩:=hrel;have HC:=LH hcm;have HB:=LH hbr
  by_cases hlt:k<n
  .have g1:=(hbr.cell (p:=⟨b1,o1+k,none⟩) hl1).trans (H1.out k hlt);have g2:=(hbr.cell (p:=⟨b2,o2+k,none⟩) hl2).trans (H2.out k hlt);unfold byteV at g1 g2;have HS:=LH (cmpW_split f g hlt);obtain⟨x,hx⟩:∃x,x=f k:=⟨_,rfl⟩
   obtain⟨y,hy⟩:∃y,y=g k:=⟨_,rfl⟩
   rw[<-hx]at g1 HS;rw[<-hy]at g2 HS;clear hx hy hcm hbr
   by_cases hz:x=y
   .have hb:((x:Int) !=(y:Int))=false:=by simp;omega
    have HR:Hid (cmpW f g n n=cmpW f g n (n-(k+1))):=by show _=_;rw[HC.out,HS.out,if_neg (by simpa using hz)]
    clear hz;go_wp2
    go_quiet (fail)
    have HB3:Hid (Bel w.heap.size w (wr.drewN nq)):=HB.out.drewN nq;generalize wr.drewN nq=w3 at HB3|-;clear g1 g2 HB;go_wp2
    go_roundg (n-(k+1))
    case rel=>exact⟨k+1,rfl,by omega,by push_cast;rfl,HR.out,HB3.out⟩
    case measure=>omega
   .have hb:((x:Int) !=(y:Int))=true:=by simp;omega
    have HR:Hid (decide (cmpW f g n n<0)=decide ((x:Int)<(y:Int))):=by
     show _=_;rw[HC.out,HS.out,if_pos hz]
     by_cases hl:x<y
     .rw[if_pos hl];simp[hl]
     .rw[if_neg hl];simp[hl]
    clear hz;go_wp2
    go_quiet (fail)
    have HB3:Hid (Bel w.heap.size w (wr.drewN nq)):=HB.out.drewN nq;have g1':(wr.drewN nq).cell? ⟨b1,o1+k,none⟩=some (.int .u8 (x:Int)):=g1;have g2':(wr.drewN nq).cell? ⟨b2,o2+k,none⟩=some (.int .u8 (y:Int)):=g2;generalize wr.drewN nq=w3 at HB3 g1' g2'|-;clear g1 g2 HB;go_wp2
    go_quiet (fail)
    have HB4:=LH (HB3.out.drewN nq);generalize w3.drewN nq=w4 at HB4|-;clear g1' g2' HB3;go_wp2;go_ret;exact⟨by rw[HR.out];simp,HB4.out⟩
  .have HR:Hid (decide (cmpW f g n n<0)=false):=by show _=_;rw[HC.out,show n-k=0 by omega];rfl
   clear hcm hbr;go_wp2;go_ret;exact⟨by rw[HR.out];rfl,HB.out⟩
theorem normK_one (W:List Nat):normK W 1=W:=by
 show(if _ then rot W 0 else W)=W
 have:rot W 0=W:=by simp[rot]
 rw[this,ite_self]
theorem refNormal_c {w:World}{v:Value}{W:List Nat}{T8:TypeId}(hv:WordT T8 w v W)(h2:2<=W.length)(h16:W.length<=16):
 Calls Tryz.prog 42 #[v] w fun e w'=>∃a c T,e=.returned (.slice a W.length c)/\W.length<=c/\CellsAt T w' a W.length (bw (normal W))/\Bel w.heap.size w w':=by
 have HV:=LH hv;obtain⟨hW,ao,cap,rfl,hcap,hcl⟩:=hv;have HCL:=LH hcl;obtain⟨n,hn⟩:∃n,n=W.length:=⟨_,rfl⟩
 have HN:=LH hn;rw[<-hn]at h2 h16 HV HCL hcap|-;clear hn hW hcl
 go_enter Tryz.func42,Tryz.ntmps42
 go_wp2
 go_loopg [3,4,5] (n-1) (fun g s3 s4 _ wr=>∃k:Nat,g=n-k/\1<=k/\k<=n/\s4=.int .i64 k/\(∃a c T,s3=.slice a n c/\n<=c/\CellsAt T wr a n (bw (normK W k)))/\Bel w.heap.size w wr)
 case atStart=>exact⟨1,rfl,Nat.le_refl _,by omega,rfl,⟨ao,cap,_,rfl,hcap,by rw[normK_one];exact HCL.out⟩,Bel.refl _ _⟩
 case round=>
  obtain⟨k,hg,hk1,hk,rfl,⟨a,c,T9,rfl,hcc,hx⟩,hbr⟩:=hrel;have HX:=LH hx;have HB:=LH hbr;have hs:=hbr.size;clear hx hbr
  by_cases hlt:k<n
  .go_wp2_with fail
   refine(rotation_c (k:=k) (HV.out.pres HB.out.pb) (by rw[<-HN.out];exact hlt) (by rw[<-HN.out];exact h16)).mono ?_;rintro e w3 ⟨v3,rfl,ho3,hb3⟩;have hs3:=hb3.size;have HB3:=LH (HB.out.trans (hb3.mono hs));have HX7:=LH (HX.out.pres hb3.pb);rw[<-HN.out]at ho3;obtain⟨a3,c3,rfl,hc3,hx3⟩:=ho3.cells;rw[Nat.mul_one]at hx3;have HX3:=LH hx3;clear hx3 ho3 hb3
   obtain⟨d,hd⟩:∃d,d=cmpW (fun j=>(rot W k).getD j 0) (fun j=>(normK W k).getD j 0) n n:=⟨_,rfl⟩
   have HD:=LH hd;clear hd
   go_wp2_with fail
   refine(less_c (f:=fun j=>(rot W k).getD j 0) (g:=fun j=>(normK W k).getD j 0) HX3.out HX7.out (by omega) (by omega)).mono ?_;rintro e w4 ⟨rfl,hb4⟩;have HB4:=LH (HB3.out.trans (hb4.mono (by omega)));have HX37:=LH (HX3.out.pres hb4.pb);have HX77:=LH (HX7.out.pres hb4.pb);rw[<-HD.out];clear hb4
   by_cases hc0:d<0
   .have hb0:decide (d<0)=true:=decide_eq_true hc0;have HR:Hid (CellsAt 5 w4 a3 n (bw (normK W (k+1)))):=by show CellsAt _ _ _ _ _;rw[normK_lt (by rw[<-HN.out];exact HD.out) hc0];exact HX37.out
    rw[hb0];clear hc0 hb0;go_wp2
    go_roundg (n-(k+1))
    case rel=>exact⟨k+1,rfl,by omega,by omega,by push_cast;rfl,⟨a3,c3,_,rfl,hc3,HR.out⟩,HB4.out⟩
    case measure=>omega
   .have hb0:decide (d<0)=false:=decide_eq_false hc0;have HR:Hid (CellsAt T9 w4 a n (bw (normK W (k+1)))):=by show CellsAt _ _ _ _ _;rw[normK_ge (by rw[<-HN.out];exact HD.out) hc0];exact HX77.out
    rw[hb0];clear hc0 hb0;go_wp2
    go_roundg (n-(k+1))
    case rel=>exact⟨k+1,rfl,by omega,by omega,by push_cast;rfl,⟨a,c,_,rfl,hcc,HR.out⟩,HB4.out⟩
    case measure=>omega
  .have HE:Hid (k=W.length):=by show _=_;rw[<-HN.out];omega
   have HO:Hid (CellsAt T9 wr a n (bw (normal W))):=by show CellsAt _ _ _ _ _;unfold normal;rw[<-HE.out];exact HX.out
   go_wp2;go_ret;exact⟨_,_,_,rfl,hcc,HO.out,HB.out⟩
theorem words_c {w:World}{a1 a2:Option Addr}{n c1 c2:Nat}{f:Nat->Nat}{T8 T9:TypeId}(h1:CellsAt T8 w a1 n (byteV f))(h2:CellsAt T9 w a2 n (byteV f))(hn:n<=1000000)(h0:0<n):
 Calls Tryz.prog 41 #[.slice a1 n c1,.slice a2 n c2] w fun e w'=>e=.returned (.bool true)/\Bel w.heap.size w w':=by
 obtain⟨b1,o1,rfl,hl1,hx1⟩:=h1.open h0;obtain⟨b2,o2,rfl,hl2,hx2⟩:=h2.open h0;have H1:=LH hx1;have H2:=LH hx2;clear h1 h2 hx1 hx2
 go_enter Tryz.func41,Tryz.ntmps41
 go_wp2
 go_loopg [5] n (fun g' i wr=>∃k:Nat,g'=n-k/\k<=n/\i=.int .i64 k/\Bel w.heap.size w wr)
 case atStart=>exact⟨0,rfl,Nat.zero_le _,rfl,Bel.refl _ _⟩
 case round=>
  obtain⟨k,hg,hk,rfl,hbr⟩:=hrel;have HB:=LH hbr
  by_cases hlt:k<n
  .have g1:=(hbr.cell (p:=⟨b1,o1+k,none⟩) hl1).trans (H1.out k hlt);have g2:=(hbr.cell (p:=⟨b2,o2+k,none⟩) hl2).trans (H2.out k hlt);unfold byteV at g1 g2;generalize f k=x at g1 g2;have hb:((x:Int) !=(x:Int))=false:=by simp
   clear hbr;go_wp2
   go_quiet (fail)
   have HB3:Hid (Bel w.heap.size w (wr.drewN nq)):=HB.out.drewN nq;generalize wr.drewN nq=w3 at HB3|-;clear g1 g2 HB;go_wp2
   go_roundg (n-(k+1))
   case rel=>exact⟨k+1,rfl,by omega,by push_cast;rfl,HB3.out⟩
   case measure=>omega
  .clear hbr;go_wp2;go_ret;exact⟨rfl,HB.out⟩
def WakesOk:Prop:=∀w:World,Calls Tryz.prog 11 #[] w fun e w'=>e=.returned (.bool true)/\Bel w.heap.size w w'
theorem WordV.ofOwn {w:World}{base n:Nat}{v:Value}{W:List Nat}(h:OwnS 5 1 base w v n (bw W))(hn:n=W.length)(hW:∀k,W.getD k 0<256):WordV w v W:=by
 subst hn;obtain⟨ao,cap,rfl,h1,h2⟩:=h.cells;exact⟨hW,ao,cap,rfl,h1,h2.mono (by omega)⟩
theorem dutyN_step {l:Nat}{W:List Nat}{i x:Nat}{p:Bool}(hx:x=W.getD i 0)(hp:p=bit x l):dutyN l W (i+1)=dutyN l W i+if p then 1 else 0:=by
 show dutyN l W i+W.getD i 0/2^l%2=_
 rw[<-hx,hp];unfold bit;rcases Nat.mod_two_eq_zero_or_one (x/2^l)with h|h<;>rw[h]<;>rfl
theorem cmpB_anti (x y:Nat):cmpB y x=-cmpB x y:=by unfold cmpB;split<;>split<;>(try split)<;>omega
theorem cmpB_eq {x y:Nat}:cmpB x y=0 ↔ x=y:=by unfold cmpB;split<;>(try split)<;>omega
theorem cmpB_lt {x y:Nat}:cmpB x y<0 ↔ x<y:=by unfold cmpB;split<;>(try split)<;>omega
theorem cmpW_anti (f g:Nat->Nat)(n:Nat):∀k,cmpW g f n k=-cmpW f g n k
 |0=>rfl
 |k+1=>by
  unfold cmpW;have h1:=cmpB_anti (f (n-(k+1))) (g (n-(k+1)));have h2:=cmpW_anti f g n k
  by_cases h:cmpB (f (n-(k+1))) (g (n-(k+1)))=0
  .rw[if_neg (by omega),if_neg (by omega)];exact h2
  .rw[if_pos (by omega),if_pos (by omega)];exact h1
theorem cmpW_eq {f g:Nat->Nat}{n:Nat}:∀{k},k<=n->cmpW f g n k=0->∀j,n-k<=j->j<n->f j=g j
 |0,_,_,j,h1,h2=>by omega
 |k+1,hk,h,j,h1,h2=>by
  unfold cmpW at h;split at h
  .omega
  .rename_i h0
   simp only[ne_eq,Decidable.not_not]at h0
   by_cases e:j=n-(k+1)
   .subst e;exact cmpB_eq.1 h0
   .exact cmpW_eq (by omega) h j (by omega) h2
theorem cmpW_trans {f g h:Nat->Nat}{n:Nat}:∀{k},cmpW f g n k<=0->cmpW g h n k<=0->cmpW f h n k<=0
 |0,_,_=>by unfold cmpW;omega
 |k+1,h1,h2=>by
  unfold cmpW at h1 h2|-;have a1:=@cmpB_lt (f (n-(k+1))) (g (n-(k+1)));have a2:=@cmpB_lt (g (n-(k+1))) (h (n-(k+1)));have a3:=@cmpB_lt (f (n-(k+1))) (h (n-(k+1)));have b1:=@cmpB_eq (f (n-(k+1))) (g (n-(k+1)));have b2:=@cmpB_eq (g (n-(k+1))) (h (n-(k+1)));have b3:=@cmpB_eq (f (n-(k+1))) (h (n-(k+1)));split at h1
  .split at h2
   .rw[if_pos (by omega)];omega
   .rw[if_pos (by omega)];omega
  .split at h2
   .rw[if_pos (by omega)];omega
   .rw[if_neg (by omega)];exact cmpW_trans h1 h2
theorem cmpW_refl (f:Nat->Nat)(n k:Nat):cmpW f f n k=0:=by have:=cmpW_anti f f n k;omega
def leW (U V:List Nat)(n:Nat):Prop:=cmpW (fun j=>U.getD j 0) (fun j=>V.getD j 0) n n<=0
theorem leW.antisymm {U V:List Nat}{n:Nat}(h:leW U V n)(k:leW V U n)(hU:U.length=n)(hV:V.length=n):U=V:=by
 have h1:=cmpW_anti (fun j=>U.getD j 0) (fun j=>V.getD j 0) n n;unfold leW at h k;have h2:=cmpW_eq (Nat.le_refl n) (show cmpW (fun j=>U.getD j 0) (fun j=>V.getD j 0) n n=0 by omega);refine List.ext_getElem (by omega) fun i hi hj=>?_;have:=h2 i (by omega) (by omega);simp only[List.getD_eq_getElem?_getD,List.getElem?_eq_getElem hi,List.getElem?_eq_getElem hj,Option.getD_some]at this;exact this
theorem rot_zero (W:List Nat):rot W 0=W:=by simp[rot]
theorem normK_le (W:List Nat):∀k,leW (normK W k) W W.length/\∀j,j<k->leW (normK W k) (rot W j) W.length
 |0=>⟨by unfold leW normK;rw[cmpW_refl];omega,fun j hj=>by omega⟩
 |k+1=>by
  have ih:=normK_le W k;have ha:=cmpW_anti (fun j=>(rot W k).getD j 0) (fun j=>(normK W k).getD j 0) W.length W.length
  by_cases h:cmpW (fun j=>(rot W k).getD j 0) (fun j=>(normK W k).getD j 0) W.length W.length<0
  .have hn:normK W (k+1)=rot W k:=normK_lt rfl h;rw[hn];have h0:leW (rot W k) (normK W k) W.length:=by unfold leW;omega
   refine⟨cmpW_trans h0 ih.1,fun j hj=>?_⟩
   by_cases e:j=k
   .subst e;unfold leW;rw[cmpW_refl];omega
   .exact cmpW_trans h0 (ih.2 j (by omega))
  .have hn:normK W (k+1)=normK W k:=normK_ge rfl h;rw[hn];refine⟨ih.1,fun j hj=>?_⟩
   by_cases e:j=k
   .subst e;unfold leW;omega
   .exact ih.2 j (by omega)
theorem normK_rot (W:List Nat):∀k,k<=W.length->∃j,j<max W.length 1/\normK W k=rot W j
 |0,_=>⟨0,by omega,(rot_zero W).symm⟩
 |k+1,hk=>by
  by_cases h:cmpW (fun j=>(rot W k).getD j 0) (fun j=>(normK W k).getD j 0) W.length W.length<0
  .exact⟨k,by omega,normK_lt rfl h⟩
  .obtain⟨j,h1,h2⟩:=normK_rot W k (by omega);exact⟨j,h1,by rw[normK_ge rfl h,h2]⟩
theorem rot_rot {W:List Nat}{k j:Nat}(hk:k<W.length)(hj:j<W.length):rot (rot W k) j=rot W ((j+k)%W.length):=by
 have hl:=rot_len (W:=W) (i:=k) (by omega);have hm:=Nat.mod_lt (j+k) (show 0<W.length by omega);refine List.ext_getElem (by rw[rot_len (by omega),rot_len (by omega),rot_len (by omega)]) fun i hi hi2=>?_;have hi3:i<W.length:=by rw[rot_len (by omega),hl]at hi;exact hi
 have e1:=rot_mod (W:=rot W k) (n:=W.length) (k:=j) (i:=i) hl (by omega) hi3;have e2:=rot_mod (W:=W) (n:=W.length) (k:=k) (i:=(i+j)%W.length) rfl (by omega) (Nat.mod_lt _ (by omega));have e3:=rot_mod (W:=W) (n:=W.length) (k:=(j+k)%W.length) (i:=i) rfl (by omega) hi3;rw[e2]at e1
 have e4:((i+j)%W.length+k)%W.length=(i+(j+k)%W.length)%W.length:=by
  rw[Nat.mod_add_mod,Nat.add_mod_mod,Nat.add_assoc]
 rw[e4,<-e3]at e1;simp only[List.getD_eq_getElem?_getD,List.getElem?_eq_getElem hi,List.getElem?_eq_getElem hi2,Option.getD_some]at e1;exact e1
theorem normal_len (W:List Nat):(normal W).length=W.length:=normK_len NL
theorem normal_le {W:List Nat}{j:Nat}(hj:j<W.length):leW (normal W) (rot W j) W.length:=(normK_le W W.length).2 j hj
theorem normal_le_self (W:List Nat):leW (normal W) W W.length:=(normK_le W W.length).1
theorem normal_rot {W:List Nat}{k:Nat}(hk:k<W.length):normal (rot W k)=normal W:=by
 have hl:=rot_len (W:=W) (i:=k) (by omega);have hln:=normal_len (rot W k);refine leW.antisymm (n:=W.length) ?_ ?_ (by omega) (normal_len W)
 .obtain⟨i,hi,e⟩:=normK_rot W W.length NL;have hi':i<W.length:=by omega
  have e':normal W=rot W i:=e;rw[e'];have h1:=normal_le (W:=rot W k) (j:=(i+(W.length-k))%W.length) (by rw[hl];exact Nat.mod_lt _ (by omega));rw[rot_rot hk (Nat.mod_lt _ (by omega)),hl]at h1
  have e2:((i+(W.length-k))%W.length+k)%W.length=i:=by
   rw[Nat.mod_add_mod,Nat.add_assoc,Nat.sub_add_cancel (by omega),Nat.add_mod_right,Nat.mod_eq_of_lt hi']
  rw[e2]at h1;exact h1
 .obtain⟨i,hi,e⟩:=normK_rot (rot W k) (rot W k).length NL;have hi':i<W.length:=by omega
  have e':normal (rot W k)=rot (rot W k) i:=e;rw[e',rot_rot hk hi'];exact normal_le (Nat.mod_lt _ (by omega))
theorem dutyN_sum (l:Nat)(W:List Nat):∀k,k<=W.length->dutyN l W k=((W.take k).map fun x=>x/2^l%2).sum
 |0,_=>rfl
 |k+1,h=>by
  unfold dutyN;rw[dutyN_sum l W k (by omega),List.take_succ_eq_append_getElem (by omega),List.map_append,List.sum_append];simp[List.getD_eq_getElem?_getD,List.getElem?_eq_getElem (show k<W.length by omega)]
theorem dutyN_rot (l:Nat)(W:List Nat)(k:Nat):dutyN l (rot W k) (rot W k).length=dutyN l W W.length:=by
 rw[dutyN_sum l _ _ NL,dutyN_sum l _ _ NL,List.take_length,List.take_length];unfold rot;rw[List.map_append,List.sum_append,Nat.add_comm,<-List.sum_append,<-List.map_append,List.take_append_drop]
theorem ckWord_rot {legs:Int}{W:List Nat}{k:Nat}(h:ckWord legs W=0)(hk:k<W.length):ckWord legs (rot W k)=0:=by
 have hl:=rot_len (W:=W) (i:=k) (by omega);have hz:=ckWord_zero h;unfold ckWord;rw[if_neg (by omega),if_neg (by omega),if_pos];rw[List.all_eq_true];intro i hi;rw[List.mem_range,hl]at hi;unfold nxt;rw[hl,rot_mod rfl (by omega) hi,rot_mod rfl (by omega) (Nat.mod_lt _ (by omega))];have h1:=ckWord_ok h (Nat.mod_lt (i+k) (show 0<W.length by omega));unfold nxt at h1
 have e:((i+k)%W.length+1)%W.length=((i+1)%W.length+k)%W.length:=by
  rw[Nat.mod_add_mod,Nat.mod_add_mod]
  congr 1
  omega
 rw[e]at h1;exact h1
def meanN (W:List Nat)(k:Nat):Nat->Nat
 |0=>0
 |i+1=>meanN W k i+legsN W k i
where legsN (W:List Nat):Nat->Nat->Nat
 |0,_=>0
 |l+1,i=>legsN W l i+W.getD i 0/2^l%2
def dutiesN (W:List Nat)(n:Nat):Nat->Nat
 |0=>0
 |k+1=>dutiesN W n k+dutyN k W n
theorem duties_mean (W:List Nat)(k:Nat):∀n,dutiesN W n k=meanN W k n
 |0=>by
  unfold meanN
  induction k with
  |zero=>rfl
  |succ k ih=>unfold dutiesN;rw[ih];rfl
 |n+1=>by
  unfold meanN;rw[<-duties_mean W k n]
  induction k with
  |zero=>rfl
  |succ k ih=>
   have h1:dutyN k W (n+1)=dutyN k W n+W.getD n 0/2^k%2:=rfl;unfold dutiesN meanN.legsN;rw[ih,h1];omega
end Go.Proofs.YtlgjakpoaelehaaGreat
