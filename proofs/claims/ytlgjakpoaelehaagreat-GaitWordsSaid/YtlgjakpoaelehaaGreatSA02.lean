/- Contracts and plain laws, merged: W1 W2 W3 -/
import Derived.Test.YtlgjakpoaelehaaGreatSB08
import Derived.Test.YtlgjakpoaelehaaGreatSB15
import Derived.Test.YtlgjakpoaelehaaGreatSD03
import Derived.Test.YtlgjakpoaelehaaGreatSA01
namespace Go.Proofs.YtlgjakpoaelehaaGreat
open Go.RowKit
set_option maxRecDepth 100000
set_option maxHeartbeats 4000000
theorem words_long (HK:WakesOk){w:World}{ao:Option Addr}{n cap:Nat}{legs leg:Int}(h:30<n):
 Calls Tryz.prog 7 #[.int .i64 legs,.slice ao n cap,.int .i64 leg] w fun e w'=>e=.returned (.bool true)/\Bel w.heap.size w w':=by
 have d1:decide ((n:Int)>30)=true:=by simp;omega
 clear h;have HK:=LH HK
 go_enter Tryz.func7,Tryz.ntmps7
 go_wp2_with fail
 refine(HK.out _).mono ?_;rintro e w9 ⟨rfl,hb⟩;go_wp2;go_ret;exact⟨rfl,hb⟩
theorem words_bad (HK:WakesOk){w:World}{v:Value}{W:List Nat}{legs leg:Int}{T8:TypeId}(hv:WordT T8 w v W)(h:W.length<=30)(hc:ckWord legs W≠0):
 Calls Tryz.prog 7 #[.int .i64 legs,v,.int .i64 leg] w fun e w'=>e=.returned (.bool true)/\Bel w.heap.size w w':=by
 have HV:=LH hv;obtain⟨hW,ao,cap,rfl,hcap,hcl⟩:=hv;have HW:=LH hW;have HCL:=LH hcl;have HK:=LH HK;obtain⟨c,hcc⟩:∃c,c=ckWord legs W:=⟨_,rfl⟩
 rw[<-hcc]at hc;have HC:=LH hcc;have HC0:Hid (ckWord legs W≠0):=by show _≠_;rw[<-hcc];exact hc
 have hb:(c !=0)=true:=by simpa using hc
 have hbb:(c !=c)=false:=by simp
 obtain⟨n,hn⟩:∃n,n=W.length:=⟨_,rfl⟩
 have HN:=LH hn;rw[<-hn]at h hcap HV HCL|-;have d1:decide ((n:Int)>30)=false:=by simp;omega
 have HO:=LH (OwnS.nil 5 1 w.heap.size w (bw W));clear hcc hn hW hcl hc
 go_enter Tryz.func7,Tryz.ntmps7
 go_wp2_with (at_builtin;go_must (refine wpList_append_tx rfl (.const (.slice none 0 0)) (.tmp 21) 42 27 rfl w.heap.size Tryz.underlying42 Tryz.underlying27 infoU8 rfl (by decide) rfl HO.out rfl (HCL.out.mono (by omega)) (fun _=>rfl) (by unfold maxLen;omega) (by omega) NL ?_;intro v' w' hown hgrow hdr))
 have HV7:Hid (WordV w' v' W):=by
  refine WordV.ofOwn (hown.congr (g:=bw W) fun j hj=>?_) (by rw[<-HN.out];omega) HW.out;rw[appF_ge _ _ (by omega)];rfl
 have HB:Hid (Bel w.heap.size w w'):=(Bel.refl _ _).grownS HO.out hgrow hdr NL NL;have HV1:Hid (WordT T8 w' (.slice ao n cap) W):=HV.out.pres HB.out.pb;clear hown hgrow hdr HO HCL HV;refine(events_bad HV7.out HC0.out).mono ?_;rintro e w9 ⟨rfl,rfl⟩;rw[<-HC.out]
 go_wp2_with fail
 refine(duty_bad leg HV7.out HC0.out).mono ?_;rintro e w2 ⟨vd,rfl,hd,hb2⟩;rw[<-HC.out];have HV72:Hid (WordV w2 v' W):=HV7.out.pres hb2.pb;have HV12:Hid (WordT T8 w2 (.slice ao n cap) W):=HV1.out.pres hb2.pb;have hs2:=hb2.size;have HB2:Hid (Bel w.heap.size w w2):=HB.out.trans (hb2.mono HB.out.size);obtain⟨x,am,m,al,l,rfl⟩:=QV.cells hd;have HD:=LH hd;clear hd hb2 HV7 HV1
 go_wp2_with fail
 refine(normal_bad (HV72.out.pres (Pres.alloc _ _)) HC0.out).mono ?_;rintro e w9 ⟨rfl,rfl⟩;rw[<-HC.out]
 go_wp2_with fail
 refine(refCheck_c (HV12.out.pres (Pres.alloc _ _))).mono ?_;rintro e w3 ⟨rfl,hb3⟩;rw[<-HC.out];have hs3:=hb3.size;simp only[World.size_alloc]at hs3;have hrow:w3.heap[w2.heap.size]?=some (.cells #[.bool x,.slice am m m,.slice al l l] 39):=(hb3.block w2.heap.size (by simp)).trans (heap_new _ _ rfl);obtain⟨q0,q1,q2,-,-,-⟩:=row3 hrow;have HP3:Hid (∀T,Pres T w2 w3):=fun T=>(Pres.alloc _ _).trans hb3.pb
 have HD3:Hid (QV w3 (.agg #[.bool x,.slice am m m,.slice al l l]) 0):=HD.out.pres ((Pres.alloc _ _).trans hb3.pb);have HB3:Hid (Bel w.heap.size w w3):=(HB2.out.alloc HB2.out.size _).trans (hb3.mono (by have:=HB2.out.size;simp;omega));clear hb3 hrow
 go_wp2_with fail
 refine(checkWord_c (HV72.out.pres (HP3.out _))).mono ?_;rintro e w9 ⟨rfl,rfl⟩;rw[<-HC.out];have hcc2:((c:Int)==c)=true:=by simp
 go_wp2_with fail
 refine(sign_c HD3.out).mono ?_;rintro e w4 ⟨rfl,hb4⟩;have hz:ratSign 0=0:=rfl;rw[hz];have HB4:Hid (Bel w.heap.size w w4):=HB3.out.trans (hb4.mono HB3.out.size);clear hb4
 go_wp2_with fail
 refine(HK.out _).mono ?_;rintro e w5 ⟨rfl,hb5⟩;have HB5:Hid (Bel w.heap.size w w5):=HB4.out.trans (hb5.mono HB4.out.size);clear hb5;go_wp2;go_ret;exact⟨rfl,HB5.out⟩
theorem IntsV.len {w:World}{v:Value}{E:List Int}(h:IntsV w v E):∃a c,v=.slice a E.length c:=by
 obtain⟨a,c,e,-,-⟩:=h;exact⟨a,c,e⟩
theorem refEvent_e {w:World}{v:Value}{W:List Nat}{legs ev:Int}{i:Nat}{T8:TypeId}(hv:WordT T8 w v W)(hc:ckWord legs W=0)(hi:i<W.length)(he:ev=evt W i):
 Calls Tryz.prog 43 #[v,.int .i64 i] w fun e w'=>e=.returned (.int .i64 ev)/\∃m,w'=w.drewN m:=by
 rw[he];exact refEvent_c hv hc hi
theorem words_good (HK:WakesOk){w:World}{v:Value}{W:List Nat}{legs:Int}{l:Nat}{T8:TypeId}(hv:WordT T8 w v W)(hc:ckWord legs W=0)(hl:(l:Int)<legs):
 Calls Tryz.prog 7 #[.int .i64 legs,v,.int .i64 l] w fun e w'=>e=.returned (.bool true)/\Bel w.heap.size w w':=by
 have HV:=LH hv;have HL:=LH hl;obtain⟨-,h4,h2,h16⟩:=ckWord_zero hc;obtain⟨hW,ao,cap,rfl,hcap,hcl⟩:=hv;have HW:=LH hW;have HCL:=LH hcl;have HK:=LH HK;have HC0:=LH hc;obtain⟨n,hn⟩:∃n,n=W.length:=⟨_,rfl⟩
 have HN:=LH hn;rw[<-hn]at h2 h16 hcap HV HCL|-;have d1:decide ((n:Int)>30)=false:=by simp;omega
 have HO:=LH (OwnS.nil 5 1 w.heap.size w (bw W));clear hn hW hcl hc
 go_enter Tryz.func7,Tryz.ntmps7
 go_wp2_with (at_builtin;go_must (refine wpList_append_tx rfl (.const (.slice none 0 0)) (.tmp 21) 42 27 rfl w.heap.size Tryz.underlying42 Tryz.underlying27 infoU8 rfl (by decide) rfl HO.out rfl (HCL.out.mono (by omega)) (fun _=>rfl) (by unfold maxLen;omega) (by omega) NL ?_;intro v' w' hown hgrow hdr))
 have HV7:Hid (WordV w' v' W):=by
  refine WordV.ofOwn (hown.congr (g:=bw W) fun j hj=>?_) (by rw[<-HN.out];omega) HW.out;rw[appF_ge _ _ (by omega)];rfl
 have HB:Hid (Bel w.heap.size w w'):=(Bel.refl _ _).grownS HO.out hgrow hdr NL NL;have HV1:Hid (WordT T8 w' (.slice ao n cap) W):=HV.out.pres HB.out.pb;clear hown hgrow hdr HO HCL HV;refine(events_good HV7.out HC0.out).mono ?_;rintro e w1 ⟨ve,rfl,hve,hb1⟩;have HV71:Hid (WordV w1 v' W):=HV7.out.pres hb1.pb;have HV11:Hid (WordT T8 w1 (.slice ao n cap) W):=HV1.out.pres hb1.pb
 have HB1:Hid (Bel w.heap.size w w1):=HB.out.trans (hb1.mono HB.out.size);have HVE:=LH hve;clear hb1 HV7 HV1 hve
 go_wp2_with fail
 refine(duty_good HV71.out HC0.out HL.out).mono ?_;rintro e w2 ⟨vd,rfl,hd,hb2⟩;have HV72:Hid (WordV w2 v' W):=HV71.out.pres hb2.pb;have HV12:Hid (WordT T8 w2 (.slice ao n cap) W):=HV11.out.pres hb2.pb;have HVE2:Hid (IntsV w2 ve (evts W)):=HVE.out.pres hb2.pb;have hs2:=hb2.size;have HB2:Hid (Bel w.heap.size w w2):=HB1.out.trans (hb2.mono HB1.out.size)
 obtain⟨x,am,m,al,q,rfl⟩:=QV.cells hd;have HD:=LH hd;clear hd hb2 HV71 HV11
 go_wp2_with fail
 refine(normal_good (HV72.out.pres (Pres.alloc _ _)) HC0.out).mono ?_;rintro e w3 ⟨vn,rfl,hon,hb3⟩;have hs3:=hb3.size;simp only[World.size_alloc]at hs3;have hrow:w3.heap[w2.heap.size]?=some (.cells #[.bool x,.slice am m m,.slice al q q] 39):=(hb3.block w2.heap.size (by simp)).trans (heap_new _ _ rfl);have HR:=LH hrow;have HP3:Hid (∀T,Pres T w2 w3):=fun T=>(Pres.alloc _ _).trans hb3.pb
 have HB3:Hid (Bel w.heap.size w w3):=(HB2.out.alloc HB2.out.size _).trans (hb3.mono (by have:=HB2.out.size;simp;omega));rw[<-HN.out]at hon;obtain⟨an,cn,rfl,hcn,hxn⟩:=hon.cells;rw[Nat.mul_one]at hxn;have HXN:=LH hxn;clear hb3 hrow hon hxn
 go_wp2_with fail
 refine(refCheck_c (HV12.out.pres (HP3.out _))).mono ?_;rintro e w4 ⟨rfl,hb4⟩;rw[HC0.out];have hs4:=hb4.size;have HR4:Hid (w4.heap[w2.heap.size]?=_):=(hb4.block w2.heap.size (by omega)).trans HR.out;have HP4:Hid (∀T,Pres T w3 w4):=fun T=>Pres.below hb4.toBelow;have HB4:Hid (Bel w.heap.size w w4):=HB3.out.trans (hb4.mono HB3.out.size);clear hb4
 go_wp2_with fail
 refine(checkWord_c ((HV72.out.pres (HP3.out _)).pres (HP4.out _))).mono ?_;rintro e w9 ⟨rfl,rfl⟩;rw[HC0.out];obtain⟨ae,ce,rfl⟩:=HVE.out.len;have hel:(evts W).length=n:=by rw[evts_len];exact HN.out.symm
 rw[hel]at HVE HVE2|-;have hnn:((n:Int) !=n)=false:=by simp
 have HV74:Hid (WordV w4 v' W):=(HV72.out.pres (HP3.out _)).pres (HP4.out _);have HV14:Hid (WordT T8 w4 (.slice ao n cap) W):=(HV12.out.pres (HP3.out _)).pres (HP4.out _);have HVE4:Hid (IntsV w4 (.slice ae n ce) (evts W)):=(HVE2.out.pres (HP3.out _)).pres (HP4.out _);have HXN4:Hid (CellsAt 5 w4 an n (bw (normal W))):=HXN.out.pres (HP4.out _);have HD4:Hid (QV w4 (.agg #[.bool x,.slice am m m,.slice al q q]) ((dutyN l W W.length:Nat)/(W.length:Nat):Rat)):=(HD.out.pres (HP3.out _)).pres (HP4.out _)
 clear HV72 HV12 HVE HVE2 HXN HD HP3 HP4 HR HB3 HB1 HB
 go_wp2_with fail
 refine(refNormal_c HV14.out (by rw[<-HN.out];omega) (by rw[<-HN.out];omega)).mono ?_;rintro e w5 ⟨a5,c5,T5,rfl,hc5,hx5,hb5⟩;rw[<-HN.out]at hx5 hc5|-;have hs5:=hb5.size;have HX5:=LH hx5;have HP5:Hid (∀T,Pres T w4 w5):=fun T=>Pres.below hb5.toBelow;have HR5:Hid (w5.heap[w2.heap.size]?=some (.cells #[.bool x,.slice am m m,.slice al q q] 39)):=(hb5.block w2.heap.size (by omega)).trans HR4.out;have HB5:Hid (Bel w.heap.size w w5):=HB4.out.trans (hb5.mono HB4.out.size)
 clear hb5 hx5
 go_wp2_with fail
 refine(words_c (f:=fun k=>(normal W).getD k 0) (HXN4.out.pres (HP5.out _)) HX5.out (by omega) (by omega)).mono ?_;rintro e w6 ⟨rfl,hb6⟩;have hs6:=hb6.size;have HP6:Hid (∀T,Pres T w4 w6):=fun T=>(HP5.out T).trans hb6.pb;have HR6:Hid (w6.heap[w2.heap.size]?=some (.cells #[.bool x,.slice am m m,.slice al q q] 39)):=(hb6.block w2.heap.size (by omega)).trans HR5.out;have HB6:Hid (Bel w.heap.size w w6):=HB5.out.trans (hb6.mono HB5.out.size)
 clear hb6;obtain⟨-,a7,c7,rfl,hc7,hx7⟩:=HV74.out;obtain⟨-,a1,c1,e1,-,hx1⟩:=HV14.out;have e2:ao=a1:=by injection e1
 subst e2;clear e1;rw[<-HN.out]at hx7 hx1 HV74|-;have HX7:=LH hx7;have HX1:=LH hx1;clear hx7 hx1
 go_wp2_with fail
 refine(words_c (f:=fun k=>W.getD k 0) (HX7.out.pres (HP6.out _)) (HX1.out.pres (HP6.out _)) (by omega) (by omega)).mono ?_;rintro e w8 ⟨rfl,hb8⟩;have hs8:=hb8.size;have HP8:Hid (∀T,Pres T w4 w8):=fun T=>(HP6.out T).trans hb8.pb;have HR8:Hid (w8.heap[w2.heap.size]?=some (.cells #[.bool x,.slice am m m,.slice al q q] 39)):=(hb8.block w2.heap.size (by omega)).trans HR6.out;have HB8:Hid (Bel w.heap.size w w8):=HB6.out.trans (hb8.mono HB6.out.size)
 clear hb8;have HD8:Hid (QV w8 (.agg #[.bool x,.slice am m m,.slice al q q]) ((dutyN l W W.length:Nat)/(W.length:Nat):Rat)):=HD4.out.pres (HP8.out _);have HV18:Hid (WordT T8 w8 (.slice ao n cap) W):=HV14.out.pres (HP8.out _);have HVE8:Hid (IntsV w8 (.slice ae n ce) (evts W)):=HVE4.out.pres (HP8.out _);have hbz:w2.heap.size<w8.heap.size:=by omega
 clear HD4 HV74 HV14 HVE4 HX5 HX7 HX1 HXN4 HP8 HP6 HP5 HR4 HR5 HR6 HB4 HB5 HB6;go_wp2;obtain⟨oae,oce,e2,-,hce⟩:=HVE8.out;have e3:ae=oae:=by injection e2
 subst e3;clear e2;rw[hel]at hce;obtain⟨be,oe,rfl,hle,hcel⟩:=hce.open (by omega);obtain⟨-,oa1,oc1,e2,-,hcw⟩:=HV18.out;have e3:ao=oa1:=by injection e2
 subst e3;clear e2;rw[<-HN.out]at hcw;obtain⟨b1,o1,rfl,hl1,hcwl⟩:=hcw.open (by omega);have HCE:=LH hcel;have HCW:=LH hcwl;clear hce hcel hcw hcwl HVE8 hel;have d2:decide ((l:Int)<0)=false:=by simp
 go_loopg [15,16] n (fun g s15 s16 wr=>∃i:Nat,g=n-i/\i<=n/\s15=.int .i64 (dutyN l W i:Nat)/\s16=.int .i64 i/\∃m,wr=w8.drewN m)
 case atStart=>exact⟨0,rfl,Nat.zero_le _,rfl,rfl,0,rfl⟩
 case round=>
  obtain⟨i,hg,hi,rfl,rfl,md,hmd⟩:=hrel;have HM:=LH hmd;have HV8:Hid (WordT T8 wr (.slice (some ⟨b1,o1,none⟩) n cap) W):=by rw[hmd];exact HV18.out.pres (Pres.below ((Bel.refl _ _).drewN _).toBelow)
  have hsl:=dutyN_le l W i
  by_cases hlt:i<n
  .obtain⟨ev,hev⟩:∃ev,ev=evt W i:=⟨_,rfl⟩
   have HEV:=LH hev;have g0:wr.cell? ⟨be,oe+i,none⟩=some (.int .i64 ev):=by rw[hev,hmd];exact(HCE.out i hlt).trans (by rw[evts_get (by rw[<-HN.out];exact hlt)])
   obtain⟨x,hx⟩:∃x,x=W.getD i 0:=⟨_,rfl⟩
   have hxl:x<256:=by rw[hx];exact HW.out _
   have g1:wr.cell? ⟨b1,o1+i,none⟩=some (.int .u8 (x:Int)):=by rw[hx,hmd];exact HCW.out i hlt
   obtain⟨p,hp⟩:∃p,p=bit x l:=⟨_,rfl⟩
   have HPX:=LH hp;have HDS:=LH (dutyN_step (W:=W) (i:=i) hx hp);have hne:(ev !=ev)=false:=by simp
   obtain⟨s,hs⟩:∃s,s=dutyN l W i:=⟨_,rfl⟩
   rw[<-hs]at hsl HDS|-;have HIW:Hid (i<W.length):=by show _<_;rw[<-HN.out];exact hlt
   clear hev hx hp hs hmd;go_wp2
   go_quiet ((go_at_call 43;exact Calls.quiet_of (refEvent_e (HV8.out.pres (Pres.below ((Bel.refl _ _).drewN _).toBelow)) HC0.out HIW.out HEV.out)))
   have HM3:Hid (∃m,wr.drewN nq=w8.drewN m):=⟨md+nq,by rw[HM.out];exact drewN2 _ _ _⟩
   have g1':(wr.drewN nq).cell? ⟨b1,o1+i,none⟩=some (.int .u8 (x:Int)):=g1;generalize wr.drewN nq=wz at HM3 g1'|-;clear g0 g1 HV8 HM
   go_wp2_with fail
   refine(stands_c (k:=l) hxl (by omega) HPX.out).mono ?_;rintro e w10 ⟨rfl,rfl⟩
   cases p
   .go_wp2
    go_roundg (n-(i+1))
    case rel=>exact⟨i+1,rfl,by omega,by rw[HDS.out];rfl,by push_cast;rfl,HM3.out⟩
    case measure=>omega
   .go_wp2
    go_roundg (n-(i+1))
    case rel=>exact⟨i+1,rfl,by omega,by rw[HDS.out];push_cast;rfl,by push_cast;rfl,HM3.out⟩
    case measure=>omega
  .have HSV:Hid (dutyN l W i=dutyN l W n):=by show _=_;rw[show i=n by omega]
   obtain⟨s,hs⟩:∃s,s=dutyN l W i:=⟨_,rfl⟩
   rw[<-hs]at hsl HSV|-;have HRW:Hid (((dutyN l W W.length:Nat):Rat)/(W.length:Nat)=((s:Int):Rat)/((n:Int):Rat)):=by show _=_;rw[<-HN.out,<-HSV.out];rfl
   have HQF:Hid (QF 2 (((s:Int):Rat)/((n:Int):Rat))):=D4.QF.of (by omega) (by omega) (by omega) (by omega) (by omega);have HDR:Hid (QV wr (.agg #[.bool x,.slice am m m,.slice al q q]) (((s:Int):Rat)/((n:Int):Rat))):=by rw[<-HRW.out,hmd];exact HD8.out.pres (Pres.below ((Bel.refl _ _).drewN _).toBelow)
   have hrz:wr.heap[w2.heap.size]?=some (.cells #[.bool x,.slice am m m,.slice al q q] 39):=by rw[hmd];exact HR8.out
   have hwz:w2.heap.size+1<=wr.heap.size:=by rw[hmd];show _<=w8.heap.size;omega
   have hbw:Bel w.heap.size w wr:=by rw[hmd];exact HB8.out.drewN _
   have hlow:w.heap.size<=w2.heap.size+1:=by have:=HB2.out.size;omega
   clear hs hmd HCE HCW HV18 HD8 HR8 HB8;go_wp2;obtain⟨W0,hW0⟩:∃W0,W0=wr:=⟨_,rfl⟩
   rw[<-hW0]at hrz hwz hbw HDR|-;obtain⟨a_0,a_1,a_2,-,-,-⟩:=row3 hrz;have hbz2:w2.heap.size<W0.heap.size:=by omega
   have hst:SHs w W0 W0.heap.size W0:=SHs.start hbw.size NL hbw;clear hW0
   go_region_held3 (fun w'=>(∀(b o:Nat),b<W0.heap.size->w'.cell? ⟨b,o,none⟩=W0.cell? ⟨b,o,none⟩)/\SHs w W0 (W0.heap.size) w') (exact K2s)
    (first
     |(go_at_call 45;(try (rename _/\_=>hh;rcases hh with⟨hSc,hSb⟩));refine(D4.rof_c (n:=s) (d:=n) (by omega) (by omega) (by omega) (by omega) (by omega)).mono ?_;rintro e w20 ⟨vq,rfl,hQ1,hb1⟩;have hz1:=(hSb.call hb1).near.size)
     |(go_at_call 35;(try (rename _/\_=>hh;rcases hh with⟨hSc,hSb⟩));refine(D4.same_c (HDR.out.pres hSb.near.pb) hQ1 HQF.out (by omega)).mono ?_;rintro e w21 ⟨rfl,hb2⟩;have hz2:=(hSb.call hb2).near.size)
     |(go_at_call 11;(try (rename _/\_=>hh;rcases hh with⟨hSc,hSb⟩));refine(HK.out _).mono ?_;rintro e w22 ⟨rfl,hb3⟩;have hz3:=(hSb.call hb3).near.size))
   all_goals go_wp2
   all_goals((try (rename _/\_=>hh;rcases hh with⟨hSc,hSb⟩));go_ret;exact⟨rfl,hSb.base⟩)
theorem words_range (HK:WakesOk){w:World}{v:Value}{W:List Nat}{legs leg:Int}{T8:TypeId}(hv:WordT T8 w v W)(hc:ckWord legs W=0)(hl:leg<0\/legs<=leg):
 Calls Tryz.prog 7 #[.int .i64 legs,v,.int .i64 leg] w fun e w'=>e=.returned (.bool true)/\Bel w.heap.size w w':=by
 have HV:=LH hv;have HL:=LH hl;obtain⟨-,h4,h2,h16⟩:=ckWord_zero hc;obtain⟨hW,ao,cap,rfl,hcap,hcl⟩:=hv;have HW:=LH hW;have HCL:=LH hcl;have HK:=LH HK;have HC0:=LH hc;obtain⟨n,hn⟩:∃n,n=W.length:=⟨_,rfl⟩
 have HN:=LH hn;rw[<-hn]at h2 h16 hcap HV HCL|-;have d1:decide ((n:Int)>30)=false:=by simp;omega
 have HO:=LH (OwnS.nil 5 1 w.heap.size w (bw W));clear hn hW hcl hc
 go_enter Tryz.func7,Tryz.ntmps7
 go_wp2_with (at_builtin;go_must (refine wpList_append_tx rfl (.const (.slice none 0 0)) (.tmp 21) 42 27 rfl w.heap.size Tryz.underlying42 Tryz.underlying27 infoU8 rfl (by decide) rfl HO.out rfl (HCL.out.mono (by omega)) (fun _=>rfl) (by unfold maxLen;omega) (by omega) NL ?_;intro v' w' hown hgrow hdr))
 have HV7:Hid (WordV w' v' W):=by
  refine WordV.ofOwn (hown.congr (g:=bw W) fun j hj=>?_) (by rw[<-HN.out];omega) HW.out;rw[appF_ge _ _ (by omega)];rfl
 have HB:Hid (Bel w.heap.size w w'):=(Bel.refl _ _).grownS HO.out hgrow hdr NL NL;have HV1:Hid (WordT T8 w' (.slice ao n cap) W):=HV.out.pres HB.out.pb;clear hown hgrow hdr HO HCL HV;refine(events_good HV7.out HC0.out).mono ?_;rintro e w1 ⟨ve,rfl,hve,hb1⟩;have HV71:Hid (WordV w1 v' W):=HV7.out.pres hb1.pb;have HV11:Hid (WordT T8 w1 (.slice ao n cap) W):=HV1.out.pres hb1.pb
 have HB1:Hid (Bel w.heap.size w w1):=HB.out.trans (hb1.mono HB.out.size);have HVE:=LH hve;clear hb1 HV7 HV1 hve
 go_wp2_with fail
 refine(duty_range leg HV71.out HC0.out HL.out).mono ?_;rintro e w2 ⟨vd,rfl,hd,hb2⟩;have HV72:Hid (WordV w2 v' W):=HV71.out.pres hb2.pb;have HV12:Hid (WordT T8 w2 (.slice ao n cap) W):=HV11.out.pres hb2.pb;have HVE2:Hid (IntsV w2 ve (evts W)):=HVE.out.pres hb2.pb;have hs2:=hb2.size;have HB2:Hid (Bel w.heap.size w w2):=HB1.out.trans (hb2.mono HB1.out.size)
 obtain⟨x,am,m,al,q,rfl⟩:=QV.cells hd;have HD:=LH hd;clear hd hb2 HV71 HV11
 go_wp2_with fail
 refine(normal_good (HV72.out.pres (Pres.alloc _ _)) HC0.out).mono ?_;rintro e w3 ⟨vn,rfl,hon,hb3⟩;have hs3:=hb3.size;simp only[World.size_alloc]at hs3;have hrow:w3.heap[w2.heap.size]?=some (.cells #[.bool x,.slice am m m,.slice al q q] 39):=(hb3.block w2.heap.size (by simp)).trans (heap_new _ _ rfl);have HR:=LH hrow;have HP3:Hid (∀T,Pres T w2 w3):=fun T=>(Pres.alloc _ _).trans hb3.pb
 have HB3:Hid (Bel w.heap.size w w3):=(HB2.out.alloc HB2.out.size _).trans (hb3.mono (by have:=HB2.out.size;simp;omega));rw[<-HN.out]at hon;obtain⟨an,cn,rfl,hcn,hxn⟩:=hon.cells;rw[Nat.mul_one]at hxn;have HXN:=LH hxn;clear hb3 hrow hon hxn
 go_wp2_with fail
 refine(refCheck_c (HV12.out.pres (HP3.out _))).mono ?_;rintro e w4 ⟨rfl,hb4⟩;rw[HC0.out];have hs4:=hb4.size;have HR4:Hid (w4.heap[w2.heap.size]?=_):=(hb4.block w2.heap.size (by omega)).trans HR.out;have HP4:Hid (∀T,Pres T w3 w4):=fun T=>Pres.below hb4.toBelow;have HB4:Hid (Bel w.heap.size w w4):=HB3.out.trans (hb4.mono HB3.out.size);clear hb4
 go_wp2_with fail
 refine(checkWord_c ((HV72.out.pres (HP3.out _)).pres (HP4.out _))).mono ?_;rintro e w9 ⟨rfl,rfl⟩;rw[HC0.out];obtain⟨ae,ce,rfl⟩:=HVE.out.len;have hel:(evts W).length=n:=by rw[evts_len];exact HN.out.symm
 rw[hel]at HVE HVE2|-;have hnn:((n:Int) !=n)=false:=by simp
 have HV74:Hid (WordV w4 v' W):=(HV72.out.pres (HP3.out _)).pres (HP4.out _);have HV14:Hid (WordT T8 w4 (.slice ao n cap) W):=(HV12.out.pres (HP3.out _)).pres (HP4.out _);have HVE4:Hid (IntsV w4 (.slice ae n ce) (evts W)):=(HVE2.out.pres (HP3.out _)).pres (HP4.out _);have HXN4:Hid (CellsAt 5 w4 an n (bw (normal W))):=HXN.out.pres (HP4.out _);have HD4:Hid (QV w4 (.agg #[.bool x,.slice am m m,.slice al q q]) 0):=(HD.out.pres (HP3.out _)).pres (HP4.out _)
 clear HV72 HV12 HVE HVE2 HXN HD HP3 HP4 HR HB3 HB1 HB
 go_wp2_with fail
 refine(refNormal_c HV14.out (by rw[<-HN.out];omega) (by rw[<-HN.out];omega)).mono ?_;rintro e w5 ⟨a5,c5,T5,rfl,hc5,hx5,hb5⟩;rw[<-HN.out]at hx5 hc5|-;have hs5:=hb5.size;have HX5:=LH hx5;have HP5:Hid (∀T,Pres T w4 w5):=fun T=>Pres.below hb5.toBelow;have HR5:Hid (w5.heap[w2.heap.size]?=some (.cells #[.bool x,.slice am m m,.slice al q q] 39)):=(hb5.block w2.heap.size (by omega)).trans HR4.out;have HB5:Hid (Bel w.heap.size w w5):=HB4.out.trans (hb5.mono HB4.out.size)
 clear hb5 hx5
 go_wp2_with fail
 refine(words_c (f:=fun k=>(normal W).getD k 0) (HXN4.out.pres (HP5.out _)) HX5.out (by omega) (by omega)).mono ?_;rintro e w6 ⟨rfl,hb6⟩;have hs6:=hb6.size;have HP6:Hid (∀T,Pres T w4 w6):=fun T=>(HP5.out T).trans hb6.pb;have HR6:Hid (w6.heap[w2.heap.size]?=some (.cells #[.bool x,.slice am m m,.slice al q q] 39)):=(hb6.block w2.heap.size (by omega)).trans HR5.out;have HB6:Hid (Bel w.heap.size w w6):=HB5.out.trans (hb6.mono HB5.out.size)
 clear hb6;obtain⟨-,a7,c7,rfl,hc7,hx7⟩:=HV74.out;obtain⟨-,a1,c1,e1,-,hx1⟩:=HV14.out;have e2:ao=a1:=by injection e1
 subst e2;clear e1;rw[<-HN.out]at hx7 hx1 HV74|-;have HX7:=LH hx7;have HX1:=LH hx1;clear hx7 hx1
 go_wp2_with fail
 refine(words_c (f:=fun k=>W.getD k 0) (HX7.out.pres (HP6.out _)) (HX1.out.pres (HP6.out _)) (by omega) (by omega)).mono ?_;rintro e w8 ⟨rfl,hb8⟩;have hs8:=hb8.size;have HP8:Hid (∀T,Pres T w4 w8):=fun T=>(HP6.out T).trans hb8.pb;have HR8:Hid (w8.heap[w2.heap.size]?=some (.cells #[.bool x,.slice am m m,.slice al q q] 39)):=(hb8.block w2.heap.size (by omega)).trans HR6.out;have HB8:Hid (Bel w.heap.size w w8):=HB6.out.trans (hb8.mono HB6.out.size)
 clear hb8;have HD8:Hid (QV w8 (.agg #[.bool x,.slice am m m,.slice al q q]) 0):=HD4.out.pres (HP8.out _);have HV18:Hid (WordT T8 w8 (.slice ao n cap) W):=HV14.out.pres (HP8.out _);have HVE8:Hid (IntsV w8 (.slice ae n ce) (evts W)):=HVE4.out.pres (HP8.out _);have hbz:w2.heap.size<w8.heap.size:=by omega
 clear HD4 HV74 HV14 HVE4 HX5 HX7 HX1 HXN4 HP8 HP6 HP5 HR4 HR5 HR6 HB4 HB5 HB6;go_wp2;obtain⟨oae,oce,e2,-,hce⟩:=HVE8.out;have e3:ae=oae:=by injection e2
 subst e3;clear e2;rw[hel]at hce;obtain⟨be,oe,rfl,hle,hcel⟩:=hce.open (by omega);obtain⟨-,oa1,oc1,e2,-,hcw⟩:=HV18.out;have e3:ao=oa1:=by injection e2
 subst e3;clear e2;rw[<-HN.out]at hcw;obtain⟨b1,o1,rfl,hl1,hcwl⟩:=hcw.open (by omega);have HCE:=LH hcel;have HCW:=LH hcwl;clear hce hcel hcw hcwl HVE8 hel
 go_loopg [15,16] n (fun g s15 s16 wr=>∃i:Nat,g=n-i/\i<=n/\s15=.int .i64 0/\s16=.int .i64 i/\∃m,wr=w8.drewN m)
 case atStart=>exact⟨0,rfl,Nat.zero_le _,rfl,rfl,0,rfl⟩
 case round=>
  obtain⟨i,hg,hi,rfl,rfl,md,hmd⟩:=hrel;have HM:=LH hmd;have HV8:Hid (WordT T8 wr (.slice (some ⟨b1,o1,none⟩) n cap) W):=by rw[hmd];exact HV18.out.pres (Pres.below ((Bel.refl _ _).drewN _).toBelow)
  by_cases hlt:i<n
  .obtain⟨ev,hev⟩:∃ev,ev=evt W i:=⟨_,rfl⟩
   have HEV:=LH hev;have g0:wr.cell? ⟨be,oe+i,none⟩=some (.int .i64 ev):=by rw[hev,hmd];exact(HCE.out i hlt).trans (by rw[evts_get (by rw[<-HN.out];exact hlt)])
   obtain⟨x,hx⟩:∃x,x=W.getD i 0:=⟨_,rfl⟩
   have hxl:x<256:=by rw[hx];exact HW.out _
   have g1:wr.cell? ⟨b1,o1+i,none⟩=some (.int .u8 (x:Int)):=by rw[hx,hmd];exact HCW.out i hlt
   have hne:(ev !=ev)=false:=by simp
   have HIW:Hid (i<W.length):=by show _<_;rw[<-HN.out];exact hlt
   clear hev hx hmd;go_wp2
   go_quiet ((go_at_call 43;exact Calls.quiet_of (refEvent_e (HV8.out.pres (Pres.below ((Bel.refl _ _).drewN _).toBelow)) HC0.out HIW.out HEV.out)))
   have HM3:Hid (∃m,wr.drewN nq=w8.drewN m):=⟨md+nq,by rw[HM.out];exact drewN2 _ _ _⟩
   have g1':(wr.drewN nq).cell? ⟨b1,o1+i,none⟩=some (.int .u8 (x:Int)):=g1;generalize wr.drewN nq=wz at HM3 g1'|-;clear g0 g1 HV8 HM;rcases HL.out with h|h
   .have dl:decide (leg>=0)=false:=by simp;omega
    go_wp2
    go_roundg (n-(i+1))
    case rel=>exact⟨i+1,rfl,by omega,rfl,by push_cast;rfl,HM3.out⟩
    case measure=>omega
   .by_cases h0:0<=leg
    .go_wp2
     go_roundg (n-(i+1))
     case rel=>exact⟨i+1,rfl,by omega,rfl,by push_cast;rfl,HM3.out⟩
     case measure=>omega
    .go_wp2
     go_roundg (n-(i+1))
     case rel=>exact⟨i+1,rfl,by omega,rfl,by push_cast;rfl,HM3.out⟩
     case measure=>omega
  .have HDR:Hid (QV wr (.agg #[.bool x,.slice am m m,.slice al q q]) 0):=by rw[hmd];exact HD8.out.pres (Pres.below ((Bel.refl _ _).drewN _).toBelow)
   have hrz:wr.heap[w2.heap.size]?=some (.cells #[.bool x,.slice am m m,.slice al q q] 39):=by rw[hmd];exact HR8.out
   have HBW:Hid (Bel w.heap.size w wr):=by rw[hmd];exact HB8.out.drewN _
   obtain⟨a_0,a_1,a_2,-,-,-⟩:=row3 hrz;have hz:ratSign 0=0:=rfl;clear hmd HCE HCW HV18 HD8 HR8 HB8 hl hrz
   by_cases h0:leg<0
   .go_wp2_with fail
    refine(sign_c HDR.out).mono ?_;rintro e w20 ⟨rfl,hb1⟩;rw[hz];have HB20:Hid (Bel w.heap.size w w20):=HBW.out.trans (hb1.mono HBW.out.size);clear hb1
    go_wp2_with fail
    refine(HK.out _).mono ?_;rintro e w21 ⟨rfl,hb2⟩;have HB21:Hid (Bel w.heap.size w w21):=HB20.out.trans (hb2.mono HB20.out.size);clear hb2;go_wp2;go_ret;exact⟨rfl,HB21.out⟩
   .have h1:legs<=leg:=by rcases HL.out with h|h<;>omega
    go_wp2_with fail
    refine(sign_c HDR.out).mono ?_;rintro e w20 ⟨rfl,hb1⟩;rw[hz];have HB20:Hid (Bel w.heap.size w w20):=HBW.out.trans (hb1.mono HBW.out.size);clear hb1
    go_wp2_with fail
    refine(HK.out _).mono ?_;rintro e w21 ⟨rfl,hb2⟩;have HB21:Hid (Bel w.heap.size w w21):=HB20.out.trans (hb2.mono HB20.out.size);clear hb2;go_wp2;go_ret;exact⟨rfl,HB21.out⟩
theorem gaitWords_c (HK:WakesOk){w:World}{v:Value}{W:List Nat}{legs leg:Int}{T8:TypeId}(hv:WordT T8 w v W):
 Calls Tryz.prog 7 #[.int .i64 legs,v,.int .i64 leg] w fun e w'=>e=.returned (.bool true)/\Bel w.heap.size w w':=by
 by_cases h:30<W.length
 .obtain⟨a,c,rfl⟩:=hv.len;exact words_long HK h
 .by_cases hc:ckWord legs W=0
  .by_cases hl:leg<0\/legs<=leg
   .exact words_range HK hv hc hl
   .obtain⟨l,rfl⟩:∃l:Nat,leg=l:=⟨leg.toNat,by omega⟩
    exact words_good HK hv hc (by omega)
  .exact words_bad HK hv (by omega) hc
end Go.Proofs.YtlgjakpoaelehaaGreat
