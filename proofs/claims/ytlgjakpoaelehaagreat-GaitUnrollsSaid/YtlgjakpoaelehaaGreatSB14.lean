/- Contracts and plain laws, merged: G4 -/
import Derived.Shelf.Lays8
import Derived.Shelf.Spec.SlicesGrow
import Derived.Test.YtlgjakpoaelehaaGreatSB09
namespace Go.Proofs.YtlgjakpoaelehaaGreat
open Go.RowKit
set_option maxRecDepth 100000
set_option maxHeartbeats 4000000
section
open Go.RowKit Go.Shelf
def growW_ren:Go.Shelf.Ren:=⟨fun|4=>159|n=>n,fun|0=>0|3=>3|4=>4|9=>9|20=>20|22=>42|25=>5|n=>n,fun|n=>n⟩
theorem growW_lays:Go.Proofs.Lays8.n4 Tryz.prog growW_ren:={
 mixed:=by kernel_rfl
 f4:=⟨ "slices.Grow[amble/gait.Word,uint8]",by decide,Tryz.func159.trans (congrArg some (by kernel_rfl))⟩
 t0:=Tryz.underlying0
 a0:=Tryz.isAgg0
 z0:=Tryz.sizeOf0
 v0:=Tryz.zeroValue0
 t3:=Tryz.underlying3
 a3:=Tryz.isAgg3
 z3:=Tryz.sizeOf3
 v3:=Tryz.zeroValue3
 t4:=Tryz.underlying4
 a4:=Tryz.isAgg4
 z4:=Tryz.sizeOf4
 v4:=Tryz.zeroValue4
 t9:=Tryz.underlying9
 a9:=Tryz.isAgg9
 z9:=Tryz.sizeOf9
 v9:=Tryz.zeroValue9
 t20:=Tryz.underlying20
 a20:=Tryz.isAgg20
 z20:=Tryz.sizeOf20
 v20:=Tryz.zeroValue20
 t22:=Tryz.underlying42
 a22:=Tryz.isAgg42
 z22:=Tryz.sizeOf42
 v22:=Tryz.zeroValue42}
theorem infoU8:(Tryz.prog.info? 5).map (fun i=>(i.zero,i.size,i.bytes))=some (some (.int .u8 0),1,1):=by kernel_rfl
theorem growW_c {w:World}{n:Nat}(h0:0<n)(hn:n<=1000000)(f:Nat->Value):
 Calls Tryz.prog 159 #[.slice none 0 0,.int .i64 n] w (Gives w fun v w'=>OwnS 5 1 w.heap.size w' v 0 f):=by
 obtain⟨i0,hi,hz,hs,hb⟩:∃i0,Tryz.prog.info? 5=some i0/\i0.zero=some (.int .u8 0)/\i0.size=1/\i0.bytes=1:=by
  have h:=infoU8
  cases e:Tryz.prog.info? 5 with
  |none=>rw[e]at h;cases h
  |some i=>rw[e]at h;simp at h;exact⟨i,rfl,h.1,h.2.1,h.2.2⟩
 refine(Any8.slices_Grow_grow growW_lays i0 (.int .u8 0) hi hz (by omega) none 0 0 n [] w NL (by omega) (by rw[hb];omega) (by omega) (by simp) (fun _=>rfl) (fun a h=>by cases h)).mono ?_;rintro e w' ⟨rfl,rfl⟩;have hg:n<=grownCap w n 0 5:=grownCap_ge _ _ _ _;have hm:grownCap w n 0 5<=maxLen:=grownCap_le_maxLen _ _ _ _ (by unfold maxLen;omega);rw[Nat.zero_add,Nat.sub_zero];refine⟨_,rfl,⟨[],⟨rfl,.inr ⟨w.heap.size,_,_,rfl,Nat.le_refl _,heap_new _ _ rfl,Nat.zero_le _,hm,?_,by simp⟩⟩,fun j hj=>by omega⟩,(Bel.refl _ _).drew.alloc NL _⟩
 simp only[Array.size_append,size_zeroCells,Value.cells]
 show 0+n*1+(grownCap w n 0 5-n)*1=_*1
 simp only[Nat.zero_add,Nat.mul_one]
 show n+(grownCap w n 0 5-n)=grownCap w n 0 5
 omega
def cmpB (x y:Nat):Int:=if x<y then -1 else if y<x then 1 else 0
theorem cmpU8_c {w:World}{x y:Nat}:
 Calls Tryz.prog 160 #[.int .u8 (x:Int),.int .u8 (y:Int)] w fun e w'=>e=.returned (.int .i64 (cmpB x y))/\w=w':=by
 go_enter Tryz.func160,Tryz.ntmps160
 go_wp2
 .rename_i h
  go_ret;exact⟨by unfold cmpB;rw[if_pos h];rfl,rfl⟩
 .rename_i h1 _ _ h2
  go_ret;exact⟨by unfold cmpB;rw[if_neg h1,if_pos h2];rfl,rfl⟩
 .rename_i h1 h2
  go_ret;exact⟨by unfold cmpB;rw[if_neg h1,if_neg h2];rfl,rfl⟩
theorem cloneW_c {w:World}{ao:Option Addr}{len cap:Nat}{f:Nat->Value}{T8:TypeId}(hc:CellsAt T8 w ao len f)(h1:∀j,(f j).oneCell'=true)(hlen:len<=1000000000000):
 Calls Tryz.prog 107 #[.slice ao len cap] w (Gives w fun v w'=>OwnS 5 1 w.heap.size w' v len f):=by
 have q (W:World) (a:Option Addr) (n c n' c':Nat):(binOp .eql 42 (.slice a n c) (.slice none n' c')).run Tryz.prog W=.ok (.bool a.isNone) W:=Lib.run_eql_slice_nil W _ _ a n c n' c' Tryz.underlying42;have HC:=LH hc;clear hc
 cases ao with
 |none=>
  have h0:len=0:=by
   by_cases h:len=0
   .exact h
   .obtain⟨_,_,e,_⟩:=HC.out.open (by omega);cases e
  subst h0
  go_enter Tryz.func107,Tryz.ntmps107
  go_wp2;go_ret;exact⟨_,rfl,OwnS.nil _ _ _ _ _,Bel.refl _ _⟩
 |some a=>
  have HO:=LH (own_made0 5 1 w f)
  go_enter Tryz.func107,Tryz.ntmps107
  go_wp2_with (at_builtin;refine wpList_append_fn rfl (.tmp 5) (.tmp 6) 42 rfl w.heap.size Tryz.underlying42 infoU8 rfl (by decide) rfl HO.out rfl ((HC.out.pres (Pres.alloc _ _)).mono (by omega)) h1 (by unfold maxLen;omega) (by omega) (by simp) ?_;intro v' w' hown hgrow hdr)
  go_ret;rw[Nat.zero_add]at hown;exact⟨_,rfl,hown.congr fun j hj=>by rw[appF_ge _ _ (by omega)];simp,Bel.new.grownS HO.out hgrow hdr (by simp) NL⟩
def cmpW (f g:Nat->Nat)(n:Nat):Nat->Int
 |0=>0
 |k+1=>if cmpB (f (n-(k+1))) (g (n-(k+1)))≠0 then cmpB (f (n-(k+1))) (g (n-(k+1))) else cmpW f g n k
def byteV (f:Nat->Nat)(k:Nat):Value:=.int .u8 (f k:Nat)
theorem compareW_c {w:World}{a1 a2:Option Addr}{n c1 c2:Nat}{f g:Nat->Nat}{T8 T9:TypeId}(h1:CellsAt T8 w a1 n (byteV f))(h2:CellsAt T9 w a2 n (byteV g))(_hc1:n<=c1)(_hc2:n<=c2)(hn:n<=1000000)(h0:0<n):
 Calls Tryz.prog 109 #[.slice a1 n c1,.slice a2 n c2] w fun e w'=>e=.returned (.int .i64 (cmpW f g n n))/\w=w':=by
 obtain⟨b1,o1,rfl,hl1,hx1⟩:=h1.open h0;obtain⟨b2,o2,rfl,hl2,hx2⟩:=h2.open h0;have H1:=LH hx1;have H2:=LH hx2;clear h1 h2 hx1 hx2
 go_enter Tryz.func109,Tryz.ntmps109
 go_wp2
 go_loopg [5,6,7,8,11] n (fun g' _ _ _ _ i wr=>w=wr/\∃k:Nat,g'=n-k/\k<=n/\i=.int .i64 k/\cmpW f g n n=cmpW f g n (n-k))
 case atStart=>exact⟨rfl,0,rfl,Nat.zero_le _,rfl,rfl⟩
 case round=>
  obtain⟨rfl,k,hg,hk,rfl,hcm⟩:=hrel;have HC:=LH hcm;clear hcm
  by_cases hlt:k<n
  .have g1:=H1.out k hlt;have g2:=H2.out k hlt;unfold byteV at g1 g2;obtain⟨c,hcc⟩:∃c,c=cmpB (f k) (g k):=⟨_,rfl⟩
   have HS:Hid (cmpW f g n (n-k)=if c≠0 then c else cmpW f g n (n-(k+1))):=by
    show _=_
    obtain⟨j,hj⟩:∃j,n-k=j+1:=⟨n-k-1,by omega⟩
    rw[hj]
    show(if cmpB (f (n-(j+1))) (g (n-(j+1)))≠0 then cmpB (f (n-(j+1))) (g (n-(j+1))) else cmpW f g n j)=_
    rw[show n-(j+1)=k by omega,<-hcc,show n-(k+1)=j by omega]
   have HCC:=LH hcc;clear hcc
   by_cases hz:c=0
   .have hb:(c !=0)=false:=by simpa using hz
    have HR:Hid (cmpW f g n n=cmpW f g n (n-(k+1))):=by show _=_;rw[HC.out,HS.out,if_neg (by simpa using hz)]
    clear hz
    go_wp2_with fail
    refine cmpU8_c.mono ?_;rintro e w9 ⟨rfl,rfl⟩;rw[<-HCC.out];go_wp2
    go_roundg (n-(k+1))
    case rel=>exact⟨rfl,k+1,rfl,by omega,by push_cast;rfl,HR.out⟩
    case measure=>omega
   .have hb:(c !=0)=true:=by simpa using hz
    have HR:Hid (cmpW f g n n=c):=by show _=_;rw[HC.out,HS.out,if_pos hz]
    clear hz
    go_wp2_with fail
    refine cmpU8_c.mono ?_;rintro e w9 ⟨rfl,rfl⟩;rw[<-HCC.out];go_wp2;go_ret;exact⟨by rw[HR.out];rfl,rfl⟩
  .have HR:Hid (cmpW f g n n=0):=by show _=_;rw[HC.out,show n-k=0 by omega];rfl
   go_wp2;go_ret;exact⟨by rw[HR.out];rfl,rfl⟩
theorem concatW_c {w:World}{b c n1 n2 c1 c2:Nat}{a1 a2:Option Addr}{f g:Nat->Value}(hb:b<w.heap.size)(x0:w.cell? ⟨b,0,none⟩=some (.slice a1 n1 c1))(x1:w.cell? ⟨b,1,none⟩=some (.slice a2 n2 c2))
 {T8 T9:TypeId} (h1:CellsAt T8 w a1 n1 f) (h2:CellsAt T9 w a2 n2 g) (hf:∀j,(f j).oneCell'=true) (hg:∀j,(g j).oneCell'=true) (h0:0<n1+n2) (hn:n1+n2<=1000000):
 Calls Tryz.prog 108 #[.slice (some ⟨b,0,none⟩) 2 c] w (Gives w fun v w'=>OwnS 5 1 w.heap.size w' v (n1+n2) (appF n1 f g)):=by
 have H1:=LH h1;have H2:=LH h2;have HF1:=LH hf;have HG1:=LH hg;have X0:=LH x0;have X1:=LH x1;clear h1 h2 hf hg
 go_enter Tryz.func108,Tryz.ntmps108
 go_wp2
 go_loopg [3,5,11] 2 (fun g s _ i wr=>w=wr/\((g=2/\s=.int .i64 0/\i=.int .i64 0)\/(g=1/\s=.int .i64 (n1:Nat)/\i=.int .i64 1)\/(g=0/\s=.int .i64 (n1+n2:Nat)/\i=.int .i64 2)))
 case atStart=>exact⟨rfl,.inl ⟨rfl,rfl,rfl⟩⟩
 case round=>
  obtain⟨rfl,⟨hg,rfl,rfl⟩|⟨hg,rfl,rfl⟩|⟨hg,rfl,rfl⟩⟩:=hrel
  .go_wp2
   go_roundg 1
   case rel=>exact⟨rfl,.inr (.inl ⟨rfl,rfl,rfl⟩)⟩
   case measure=>omega
  .go_wp2
   go_roundg 0
   case rel=>exact⟨rfl,.inr (.inr ⟨rfl,by push_cast;rfl,rfl⟩)⟩
   case measure=>omega
  .clear x0 x1
   go_wp2_with fail
   refine(growW_c h0 hn f).mono ?_;rintro e w1 ⟨v1,rfl,ho1,hb1⟩;have HO1:=LH ho1;have HB1:=LH hb1;clear ho1 hb1;go_wp2
   go_loopg [6,8,27] 2 (fun g' o _ i wr=>Bel w.heap.size w wr/\((g'=2/\OwnS 5 1 w.heap.size wr o 0 f/\i=.int .i64 0)\/(g'=1/\OwnS 5 1 w.heap.size wr o n1 f/\i=.int .i64 1)\/(g'=0/\OwnS 5 1 w.heap.size wr o (n1+n2) (appF n1 f g)/\i=.int .i64 2)))
   case atStart=>exact⟨HB1.out,.inl ⟨rfl,HO1.out,rfl⟩⟩
   case round=>
    obtain⟨hbl,⟨hg,ho,rfl⟩|⟨hg,ho,rfl⟩|⟨hg,ho,rfl⟩⟩:=hrel
    .have HO:=LH ho;have HB:=LH hbl;have hs:=hbl.size;have g0:=(hbl.cell (p:=⟨b,0,none⟩) hb).trans X0.out;clear ho hbl
     go_wp2_with (at_builtin;go_must (refine wpList_append_fn rfl (.tmp 31) (.tmp 32) 42 rfl w.heap.size Tryz.underlying42 infoU8 rfl (by decide) rfl HO.out rfl (CellsAt.mono (H1.out.pres HB.out.pb) (by omega)) HF1.out (by unfold maxLen;omega) (by omega) hs ?_;intro v' w' hown hgrow hdr))
     have HO9:Hid (OwnS 5 1 w.heap.size w' v' n1 f):=by
      have h:=hown;simp only[Nat.zero_add,Nat.zero_mul]at h;exact h.congr fun j hj=>by rw[appF_ge _ _ (by omega)];rfl
     have HB9:Hid (Bel w.heap.size w w'):=HB.out.grownS HO.out hgrow hdr hs NL
     go_roundg 1
     case rel=>exact⟨HB9.out,.inr (.inl ⟨rfl,HO9.out,rfl⟩)⟩
     case measure=>omega
    .have HO:=LH ho;have HB:=LH hbl;have hs:=hbl.size;have g0:=(hbl.cell (p:=⟨b,1,none⟩) hb).trans X1.out;clear ho hbl
     go_wp2_with (at_builtin;go_must (refine wpList_append_fn rfl (.tmp 31) (.tmp 32) 42 rfl w.heap.size Tryz.underlying42 infoU8 rfl (by decide) rfl HO.out rfl (CellsAt.mono (H2.out.pres HB.out.pb) (by omega)) HG1.out (by unfold maxLen;omega) (by omega) hs ?_;intro v' w' hown hgrow hdr))
     have HO9:Hid (OwnS 5 1 w.heap.size w' v' (n1+n2) (appF n1 f g)):=by
      have h:=hown;simp only[Nat.mul_one]at h;exact h
     have HB9:Hid (Bel w.heap.size w w'):=HB.out.grownS HO.out hgrow hdr hs NL
     go_roundg 0
     case rel=>exact⟨HB9.out,.inr (.inr ⟨rfl,HO9.out,rfl⟩)⟩
     case measure=>omega
    .have HO:=LH ho;have HB:=LH hbl;clear ho hbl;go_wp2;go_ret;exact⟨_,rfl,HO.out,HB.out⟩
end
end Go.Proofs.YtlgjakpoaelehaaGreat
