/- Contracts and plain laws, merged: O9 OA OB OC OD P6 OE OI OJ OF OG OH OK P8 -/
import Derived.KernelRfl
import Derived.Sort.CutIn
import Derived.Test.YtlgjakpoaelehaaGreatSB17
import Derived.Test.YtlgjakpoaelehaaGreatSB19
import Derived.Test.YtlgjakpoaelehaaGreatSB21
import Derived.Test.YtlgjakpoaelehaaGreatSB22
import Derived.Test.YtlgjakpoaelehaaGreatSB23
namespace Go.Proofs.YtlgjakpoaelehaaGreat
open Go.RowKit
set_option maxRecDepth 100000
set_option maxHeartbeats 16000000
section
open Go.Maps (Keyed)
attribute [local go_sem] Oper.semAt_some
def FromV (w:World)(v:Value)(e:StateD×StateD):Prop:=StateV w v e.2
abbrev MapF (n:Nat) (w:World) (b:Nat) (l:List (StateD×StateD)):Prop:=MapG FromV Prod.fst n w b l
theorem FromV.pres {w w':World}{v:Value}{e:StateD×StateD}(h:FromV w v e)(k:Pres 3 w w'):FromV w' v e:=StateV.pres h k
theorem fromTrn {b:Nat}{w w':World}{v:Value}{e:StateD×StateD}(h:Trn b w w')(ho:FromV w v e):FromV w' v e:=ho.pres (h.pres _)
theorem MapF.kp {T:TypeId}{n:Nat}{w w':World}{b:Nat}{l:List (StateD×StateD)}(h:MapF n w b l)(k:KpT T w w')(hT:T≠3):MapF n w' b l:=by
 obtain⟨es,c,hb⟩:=h.obj;exact h.heap ((k.2 _ _ hb (fun _ _ e=>by cases e)).trans hb.symm) fun v e he=>he.pres (k.pres hT.symm)
theorem PVal.keepS {w w':World}{pv:Value}{p:ProbD}(h:PVal w pv p)(k:KpT 88 w w'):PVal w' pv p:=by
 obtain⟨g,e,⟨mo,mc,mg,e0,hc,hm⟩,h2,h3,h4,h5,h6⟩:=h;have p1:=k.pres (T':=3) (by decide);have p2:=k.pres (T':=232) (by decide);have p3:=k.pres (T':=5) (by decide);have p4:=k.pres (T':=97) (by decide);exact⟨g,e,⟨mo,mc,mg,e0,hc,hm.keep p4 p2⟩,h2.pres p2,h3.pres p3,h4.pres p1,h5.pres p1,h6.pres p2⟩
structure WY (w wr:World) (p:ProbD) (pv:Value) (nl B4 B6 B7 B9 bD bF:Nat) (ds:List Deferred) (tp:Nat) (D:List MoveD) (F:List (StateD×StateD)) (ao:Option Addr) (f:Nat->Value) (ms:List MoveD) (m:MoveD) (c7:Array Value):Prop where
 bel:Bel w.heap.size w wr
 low:bD<w.heap.size/\w.heap.size<=bF
 b4:∃cs,pv=.agg cs/\wr.heap[B4]?=some (.cells cs 44)
 prob:PVal wr pv p
 b6:wr.heap[B6]?=some (.cells #[.map (some bD)] 151)
 b7:wr.heap[B7]?=some (.cells c7 158)/\MoveV wr (.agg c7) m
 b9:wr.heap[B9]?=some (.cells #[.map (some bF)] 224)
 done:MapM nl wr bD D
 frm:MapF nl wr bF F
 row:MarksAt wr ao ms f
 mkd:MarksD w.heap.size tp ds wr/\tp<=wr.heap.size
section
variable {w wr wr' : World} {p : ProbD} {pv : Value} {nl B4 B6 B7 B9 bD bF tp : Nat} {ds : List Deferred} {D : List MoveD} {F : List (StateD × StateD)} {ao : Option Addr} {f : Nat → Value} {ms : List MoveD} {m : MoveD} {c7 : Array Value}
theorem WY.kp (h:WY w wr p pv nl B4 B6 B7 B9 bD bF ds tp D F ao f ms m c7)(k:KpT 88 wr wr')(hb:Bel w.heap.size wr wr'):WY w wr' p pv nl B4 B6 B7 B9 bD bF ds tp D F ao f ms m c7:=by
 obtain⟨cs,e,h1⟩:=h.b4
 exact⟨h.bel.trans hb,h.low,⟨cs,e,k.pres (by decide) _ _ _ h1⟩,h.prob.keepS k,k.pres (by decide) _ _ _ h.b6,⟨k.pres (by decide) _ _ _ h.b7.1,h.b7.2.pres (k.pres (by decide)) (k.pres (by decide))⟩,k.pres (by decide) _ _ _ h.b9,h.done.kp k (by decide),h.frm.kp k (by decide),
  h.row.pres (k.pres (by decide)) (k.pres (by decide)) (k.pres (by decide)),h.mkd.1.kp k,Nat.le_trans h.mkd.2 k.1⟩
theorem WY.call (h:WY w wr p pv nl B4 B6 B7 B9 bD bF ds tp D F ao f ms m c7)(hb:Bel wr.heap.size wr wr'):WY w wr' p pv nl B4 B6 B7 B9 bD bF ds tp D F ao f ms m c7:=h.kp (KpT.of_bel hb) (hb.mono h.bel.size)
theorem WY.lt (h:WY w wr p pv nl B4 B6 B7 B9 bD bF ds tp D F ao f ms m c7):bD<wr.heap.size/\bF<wr.heap.size/\B4<wr.heap.size/\B6<wr.heap.size/\B9<wr.heap.size:=by
 obtain⟨cs,-,h1⟩:=h.b4;exact⟨h.done.lt,h.frm.lt,(Array.getElem?_eq_some_iff.1 h1).1,(Array.getElem?_eq_some_iff.1 h.b6).1,(Array.getElem?_eq_some_iff.1 h.b9).1⟩
theorem WY.st {B:Nat}(h:WY w wr p pv nl B4 B6 B7 B9 bD bF ds tp D F ao f ms m c7)(hs:St B wr wr')(hB:bD<B/\bF<B/\tp<=B)(hw:w.heap.size<=B):WY w wr' p pv nl B4 B6 B7 B9 bD bF ds tp D F ao f ms m c7:=by
 obtain⟨cs,e,h1⟩:=h.b4
 exact⟨h.bel.trans (hs.bel.mono hw),h.low,⟨cs,e,hs.cells _ _ _ _ h1⟩,h.prob.keep (KpI.of_st hs),hs.cells _ _ _ _ h.b6,⟨hs.cells _ _ _ _ h.b7.1,h.b7.2.pres (hs.pres _) (hs.pres _)⟩,hs.cells _ _ _ _ h.b9,
  h.done.heap (hs.bel.block _ hB.1) fun v e he=>he.pres (hs.pres _) (hs.pres _),h.frm.heap (hs.bel.block _ hB.2.1) fun v e he=>he.pres (hs.pres _),h.row.pres (hs.pres _) (hs.pres _) (hs.pres _),h.mkd.1.st hs hB.2.2,Nat.le_trans h.mkd.2 hs.bel.size⟩
theorem WY.turn {F':List (StateD×StateD)}(h:WY w wr p pv nl B4 B6 B7 B9 bD bF ds tp D F ao f ms m c7)(ht:Trn bF wr wr')(hF:MapF nl wr' bF F'):WY w wr' p pv nl B4 B6 B7 B9 bD bF ds tp D F' ao f ms m c7:=by
 obtain⟨cs,e,h1⟩:=h.b4
 exact⟨h.bel.trans (ht.bel h.low.2),h.low,⟨cs,e,ht.pres _ _ _ _ h1⟩,h.prob.keep ht.kpi,ht.pres _ _ _ _ h.b6,⟨ht.pres _ _ _ _ h.b7.1,h.b7.2.pres (ht.pres _) (ht.pres _)⟩,ht.pres _ _ _ _ h.b9,
  MapM.trn h.done ht (by have:=h.low;omega),hF,h.row.pres (ht.pres _) (ht.pres _) (ht.pres _),h.mkd.1.trn ht h.frm.obj,by rw[ht.size];exact h.mkd.2⟩
theorem WY.mark {d:Nat}(h:WY w wr p pv nl B4 B6 B7 B9 bD bF ds tp D F ao f ms m c7)(h1:tp<=d)(h2:w.heap.size<=d)(h3:wr.heap[d]?=some (.deferred (some []))):WY w wr p pv nl B4 B6 B7 B9 bD bF ({target:=.collected d,args:=#[]}::ds) wr.heap.size D F ao f ms m c7:=
 ⟨h.bel,h.low,h.b4,h.prob,h.b6,h.b7,h.b9,h.done,h.frm,h.row,⟨⟨d,rfl,h2,(Array.getElem?_eq_some_iff.1 h3).1,h3,h.mkd.1.mono h1⟩,Nat.le_refl _⟩⟩
end
theorem wpListIn_look_f {F:Fence}{nF n b:Nat}{l:List (StateD×StateD)}{s:StateD}{w:World}{ops:Array Oper}{rest:List Oper}{o:Oper}{a:Act}{Q:Exit->Act->World->Prop}(hg:o.guard=none)(m x:Operand)(hop:o.op=Op.lookup 224 m x true)(hm:a.eval m=.map (some b))(h:MapF n w b l)(hs:SOk n s)(hx:a.eval x=keyV s)
 (hY:∀(e:StateD×StateD) (ph:Int) (ho:Option Addr) (hl hc:Nat),e∈l->e.1=s->StateV w (.agg #[.int .i64 ph,.slice ho hl hc]) e.2->wpListIn F nF Tryz.prog ops Q rest (a.put o.dst (.tuple #[.agg #[.int .i64 ph,.slice ho hl hc],.bool true])) w)
 (hN:(∀e∈l,e.1≠s)->wpListIn F nF Tryz.prog ops Q rest (a.put o.dst (.tuple #[.agg #[.int .i64 0,.slice none 0 0],.bool false])) w):wpListIn F nF Tryz.prog ops Q (o::rest) a w:=by
 refine wpListIn_look_ok w hg m x _ 88 hop Tryz.underlying224 (Tryz.zeroValue88 _) hm h hs hx (fun v ⟨e,he,hes,ho⟩=>?_) hN;obtain⟨ph,hoo,hl,hc,rfl⟩:=StateV.two ho;exact hY e ph hoo hl hc he hes ho
noncomputable def wyBody:Code:=((Tryz.f71.body.bind firstRange).getD .skip)
def WayI (w:World)(p:ProbD)(pv:Value)(B4 B6 B7 B9 bD bF:Nat)(ds:List Deferred)(tp:Nat)(D:List MoveD)(ao:Option Addr)(f:Nat->Value)(ms:List MoveD)(m:MoveD)(c7:Array Value)(B11:Nat)(a:MoveD)(evs:List (MoveD×MoveD))(c0:Nat)(cs:Array Value)(pre:List MoveD)(W:World):Prop:=
 ∃F,WY w W p pv p.walker.legs.toNat B4 B6 B7 B9 bD bF ds tp D F ao f ms m c7/\FromI D (evs++pre.map fun x=>(a,x)) F/\F.length<=c0+pre.length/\W.heap[B11]?=some (.cells cs 158)/\MoveV W (.agg cs) a
theorem wayBody_c {w W:World}{p:ProbD}{pv:Value}{L B4 B6 B7 B9 bD bF tp B11 B12 c0 N l:Nat}{ds:List Deferred}{D:List MoveD}{ao:Option Addr}{f:Nat->Value}{ms:List MoveD}{m0:MoveD}{c7:Array Value}{a y:MoveD}{evs:List (MoveD×MoveD)}{pre:List MoveD}{csx:Array Value}{ph:Int}{ho:Option Addr}{hl hc:Nat}{x:Bool}{a1:Option Addr}{q1:Nat}{c1:Option Addr}{k1:Nat}
 (u0 u1 u2 u3 u5 u7 u8 u10 u13 u14 u15 u16 u17 u18 u19 u20 u21 u22 u23 u24 u25 u26 u27 u28 u29 u30 u31 u32 u33 u34 u35 u36 u37 u38 u39 u40 u41 u42 u43 u44 u45 u46 u47 u48 u49 u50 u51 u52 u53 u54 u55 u56 u57 u58 u59 u60 u61 u62 u63 u64 u65 u66 u67 u68 u69 u70 u71 u72 u73 u74 u75 u76 u77 u78 u79 u80 u81 u82:Value) (hfi:Fine p a.dst) (hF:ProbF L p) (h1L:1<=L) (hL:L<=1000) (hD:IsMarks p D) (haD:a∈D) (hQD:∀e∈D,QF ((20*L+21)*5001) e.cost) (hbF:bF<N) (hc0:c0<=1000000)
 (hI:WayI w p pv B4 B6 B7 B9 bD bF ds tp D ao f ms m0 c7 B11 a evs c0 #[.int .i64 ph,.slice ho hl hc,.bool x,.slice a1 q1 q1,.slice c1 k1 k1] pre W) (hok:MoveV W (.agg csx) y) (hk12:W.heap[B12]?=some (.cells csx 93)) (hpx:pre++[y]<+:movesL p a.dst):
 wyBody.wpIn (Fence.wide.inRound l) (9-1-1) Tryz.prog (roundQ N KpI (WayI w p pv B4 B6 B7 B9 bD bF ds tp D ao f ms m0 c7 B11 a evs c0 #[.int .i64 ph,.slice ho hl hc,.bool x,.slice a1 q1 q1,.slice c1 k1 k1]) (fun _ _ _=>False) (pre++[y]) W)
  {tmps:=#[u0,u1,u2,u3,.pointer (some ⟨B4,0,none⟩),u5,.pointer (some ⟨B6,0,none⟩),u7,u8,.pointer (some ⟨B9,0,none⟩),u10,.pointer (some ⟨B11,0,none⟩),.pointer (some ⟨B12,0,none⟩),u13,u14,u15,u16,u17,u18,u19,u20,u21,u22,u23,u24,u25,u26,u27,u28,u29,u30,u31,u32,u33,u34,u35,u36,u37,u38,u39,u40,u41,u42,u43,u44,u45,u46,u47,u48,u49,u50,u51,u52,u53,u54,u55,u56,u57,u58,u59,u60,u61,u62,u63,u64,u65,u66,u67,u68,u69,u70,u71,u72,u73,u74,u75,u76,u77,u78,u79,u80,u81,u82],defers:=[]} W:=by
 have hpb:pre.length+1<=64:=by
  have h1:=hpx.length_le;have h2:=movesL_len (s:=a.dst) hfi.world;simp at h1;omega
 obtain⟨F,h1,h2,h3,h4,h5⟩:=hI;obtain⟨-,hyM⟩:=drop_pre hpx;obtain⟨hyF,-,hyc⟩:=movesL_ok hfi hyM;have hyQ:=QF.cost hfi hF h1L hyM;obtain⟨ph2,ho2,hl2,hc2,x2,a2,q2,c2,k2,e⟩:=hok.cells
 injection e with e
 subst e;obtain⟨z0,z1,z2,z3,z4,hkv⟩:=keyV_cells y.dst;have HKV:=LH hkv;have HSO:Hid (SOk p.walker.legs.toNat y.dst):=SOk.of_fine hyF;have hy4:y.dst.holds.length<=4:=hyF.len.1
 have HEX:Hid (∃e∈D,e.dst=y.dst):=by
  obtain⟨e,he,h1,-⟩:=hD.closed a haD y hyM;exact⟨e,he,h1⟩
 have HFA:=LH (hQD a haD);have HFY:=LH hyQ;have HFD:=LH hQD;have hK1:(20*L+21)*5001<=100125021:=by omega
 have HFI:=LH h2;have HS:=LH h1;have HMM:=LH h5;have HY:=LH hok;have HYV:=LH hok.stateV;have hz11:=BlkT.lt ⟨_,_,h4⟩;have hz12:=BlkT.lt ⟨_,_,hk12⟩;have HK11:=LH h4;have HK12:=LH hk12;obtain⟨lD,lF,l4,l6,l9⟩:=h1.lt;obtain⟨t0,t1,t2,t3,t4⟩:=row5 hk12;clear h1 h2 h4 h5 hok hk12 hpx hyM hyF hyc hyQ hkv hQD
 conv=>arg 4;whnf
 gi_wp2_with fail
 refine⟨trivial,(CallsIn.inRound l (callsIn_wide.2 (key_c HYV.out hy4))).mono ?_⟩;rintro e w2 ⟨rfl,hb2⟩;rw[HKV.out];have HS2:=LH (HS.out.call hb2);have hz2:=hb2.size;have hk11:=(hb2.block _ hz11).trans HK11.out;have hk12:=(hb2.block _ hz12).trans HK12.out;have HMM2:=LH (HMM.out.bel hb2);have HY2:=LH (HY.out.bel hb2);have HW2:Hid (Bel W.heap.size W w2):=hb2;clear t0 t1 t2 t3 t4 hb2 HS HMM HY HYV HK11 HK12
 obtain⟨r90,r91⟩:=row1 HS2.out.b9;obtain⟨lD,lF,l4,l6,l9⟩:=HS2.out.lt;have hz11:=BlkT.lt ⟨_,_,hk11⟩;have hz12:=BlkT.lt ⟨_,_,hk12⟩;have HK11:=LH hk11;have HK12:=LH hk12;clear hk11 hk12
 gi_upto_region 9 with(gi_at_lookup;refine wpListIn_look_f rfl (.tmp 34) (.tmp 35) rfl rfl (HS2.out.call Bel.new).frm HSO.out HKV.out.symm (fun e9 ph9 ho9 hl9 hc9 he9 hes9 hv9=>?_) (fun hno=>?_))
 .obtain⟨wb,hwb⟩:∃wb,wb=(w2.alloc (.cells #[.int .i64 z0,.int .i64 z1,.int .i64 z2,.int .i64 z3,.int .i64 z4] 156)).alloc (.cells #[.int .i64 ph9,.slice ho9 hl9 hc9] 88):=⟨_,rfl⟩
  have hbE:Bel w2.heap.size w2 wb:=by rw[hwb];exact Bel.new.alloc (by simp) _
  rw[<-hwb];clear hwb;refine wayReg9_yes _ _ _ _ _ _ _ _ _ _ _ _ _ _ _ _ _ _ _ _ _ _ _ _ _ _ _ _ _ _ _ _ _ _ _ _ _ _ _ _ _ _ _ _ _ _ _ _ _ _ _ _ _ _ _ _ _ _ _ _ _ _ _ _ _ _ _ _ _ _ _ _ _ _ _ _ _ _ (fun v39 v40 v41 v42 v43 v44 v45 v46 v47 v48 v49 v50 v51 v52 wx hbx=>?_);have hbF':Bel w2.heap.size w2 wx:=hbE.trans (hbx.mono hbE.size);have HBF:=LH hbF';clear r90 r91
  gi_wp2
  refine⟨Others.of_bel (HW2.out.trans (HBF.out.mono hz2)),KpI.of_bel (HW2.out.trans (HBF.out.mono hz2)),F,HS2.out.call HBF.out,?_,by simp;omega,(HBF.out.block _ hz11).trans HK11.out,HMM2.out.bel HBF.out⟩;rw[List.map_append,<-List.append_assoc];exact HFI.out.skip (.inl ⟨e9.2,by show(y.dst,e9.2)∈F;rw[<-hes9];exact he9⟩)
 .obtain⟨wb,hwb⟩:∃wb,wb=(w2.alloc (.cells #[.int .i64 z0,.int .i64 z1,.int .i64 z2,.int .i64 z3,.int .i64 z4] 156)).alloc (.cells #[.int .i64 0,.slice none 0 0] 88):=⟨_,rfl⟩
  have hbE:Bel w2.heap.size w2 wb:=by rw[hwb];exact Bel.new.alloc (by simp) _
  have hk13:wb.heap[w2.heap.size]?=some (.cells #[.int .i64 z0,.int .i64 z1,.int .i64 z2,.int .i64 z3,.int .i64 z4] 156):=by rw[hwb];exact(heap_old _ _ (by simp)).trans (heap_new _ _ rfl)
  have hzb:w2.heap.size<wb.heap.size:=by rw[hwb];simp;omega
  rw[<-hwb];have HS3:=LH (HS2.out.call hbE);have HK11':=LH ((hbE.block _ hz11).trans HK11.out);have HK12':=LH ((hbE.block _ hz12).trans HK12.out);have HK13:=LH hk13;have HMM3:=LH (HMM2.out.bel hbE);have HY3:=LH (HY2.out.bel hbE);have HNO:=LH hno;clear hwb r90 r91 hno;refine wayReg9_no _ _ _ _ _ _ _ _ _ _ _ _ _ _ _ _ _ _ _ _ _ _ _ _ _ _ _ _ _ _ _ _ _ _ _ _ _ _ _ _ _ _ _ _ _ _ _ _ _ _ _ _ _ _ _ _ _ _ _ _ _ _ _ _ _ _ _ _ _ _ _ _ _ _ _ _ _ _ (LH HS3.out.b6) HK11' HK12' HK13 HKV (LH HS3.out.done) HSO (LH HMM3.out.qv.2.2) (LH HY3.out.qv.2.2) HFA HFY (LH (HFA.out.add HFY.out)) HFD (LH (by omega)) (LH (by omega)) HEX (fun v39 v40 v41 v42 v43 v44 v45 v46 v47 v48 v49 v50 v51 v52 wx b hb hbx=>?_)
  have HB:=LH hb;have hzx:w2.heap.size<wx.heap.size:=Nat.lt_of_lt_of_le hzb hbx.size;have HS4:=LH (HS3.out.call hbx);have hk11:=(hbx.block _ (BlkT.lt ⟨_,_,HK11'.out⟩)).trans HK11'.out;have HMM4:=LH (HMM3.out.bel hbx);have hk13:=(hbx.block _ (BlkT.lt ⟨_,_,HK13.out⟩)).trans HK13.out;have hbT:Bel w2.heap.size w2 wx:=hbE.trans (hbx.mono hbE.size);have HW4:Hid (Bel W.heap.size W wx):=HW2.out.trans (hbT.mono hz2)
  have HK11b:=LH hk11;clear hb hbx hbE HS2 HS3 HK11 HK12 HK11' HK12' HK13 HMM2 HMM3 HY2 HY3 hbT HW2
  cases b with
  |false=>
   clear hk11 hk13
   gi_wp2
   refine⟨Others.of_bel HW4.out,KpI.of_bel HW4.out,F,HS4.out,?_,by simp;omega,HK11b.out,HMM4.out⟩;rw[List.map_append,<-List.append_assoc];exact HFI.out.skip (.inr (fun e=>absurd (HB.out.2 e) (by simp)))
  |true=>
   obtain⟨r0,r1,r2,r3,r4⟩:=row5 hk11;obtain⟨k0,k1',k2',k3,k4⟩:=row5 hk13;obtain⟨r90,r91⟩:=row1 HS4.out.b9;obtain⟨lD,lF,l4,l6,l9⟩:=HS4.out.lt;have hz11:=BlkT.lt ⟨_,_,hk11⟩;have HSV:Hid (FromV wx (.agg #[.int .i64 ph,.slice ho hl hc]) (y.dst,a.dst)):=HMM4.out.stateV;clear hk11 hk13
   gi_wp2_with (gi_at_mapUpdate;refine wpListIn_upd (e:=(y.dst,a.dst)) (l:=F) (Ok:=FromV) (ky:=Prod.fst) _ rfl (.tmp 54) (.tmp 55) (.tmp 57) 224 88 rfl Tryz.underlying224 rfl HS4.out.frm (by unfold maxLen;omega) HSO.out HKV.out.symm HSV.out (fun _ _ _=>fromTrn) ?_;intro w5 hm5 ht5)
   refine⟨(Others.of_bel HW4.out).trans (ht5.others hbF),(KpI.of_bel HW4.out).trans ht5.kpi,(y.dst,a.dst)::F.filter fun x=>decide (x.1≠y.dst),HS4.out.turn ht5 hm5,?_,?_,ht5.pres _ _ _ _ HK11b.out,HMM4.out.pres (ht5.pres _) (ht5.pres _)⟩
   .rw[List.map_append,<-List.append_assoc];exact HFI.out.put (e:=(a,y)) (fun s hs=>HNO.out _ hs rfl) (HB.out.1 (by simp))
   .have:=List.length_filter_le (fun x:StateD×StateD=>decide (x.1≠y.dst)) F;simp only[List.length_cons,List.length_append,List.length_nil];omega
end
section
open Go.Maps (Keyed)
theorem grown_set2 {w w1:World}{B:Nat}{a b:Value}(h:Bel w.heap.size w w1):w.grownBy ((w1.setCell ⟨B,0,none⟩ a).setCell ⟨B,1,none⟩ b) (some B):=
 ⟨h.os,h.tape,h.output,by simp[World.setCell];exact h.size,fun k hk hB=>by
  have hne:k≠B:=fun e=>hB (by rw[e]);rw[heap_setCell_other _ _ _ _ hne,heap_setCell_other _ _ _ _ hne];exact h.block k hk⟩
theorem wset2 {w:World}{b:Nat}{x y x' y':Value}{T:TypeId}(h:w.heap[b]?=some (.cells #[x,y] T)):
 ((w.setCell ⟨b,0,none⟩ x').setCell ⟨b,1,none⟩ y').heap[b]?=some (.cells #[x',y'] T):=by
 simp[World.setCell,Array.getElem?_modify,h]
noncomputable def wyReg14:Code:=((Tryz.f71.body.bind (regionOf 14)).getD .skip)
noncomputable def wyReg15:Code:=((Tryz.f71.body.bind (regionOf 15)).getD .skip)
theorem wayReg14 {W8:World}{B6 bD B17 nl:Nat}{D:List MoveD}{c:MoveD}{K:Act->World->Prop}{Q0:Exit->Act->World->Prop}{ds:List Deferred}{ph:Int}{ho:Option Addr}{hl hc:Nat}
 (u0 u1 u2 u3 u4 u5 u7 u8 u9 u10 u11 u12 u13 u14 u15 u16 u18 u19 u20 u21 u22 u23 u24 u25 u26 u27 u28 u29 u30 u31 u32 u33 u34 u35 u36 u37 u38 u39 u40 u41 u42 u43 u44 u45 u46 u47 u48 u49 u50 u51 u52 u53 u54 u55 u56 u57 u58 u59 u60 u61 u62 u63 u64 u65 u66 u67 u68 u69 u70 u71 u72 u73 u74 u75 u76 u77 u78 u79 u80 u81 u82:Value)
 (HK6:Hid (W8.heap[B6]?=some (.cells #[.map (some bD)] 151))) (HK17:Hid (W8.heap[B17]?=some (.cells #[.int .i64 ph,.slice ho hl hc] 88))) (HC:Hid (StateV W8 (.agg #[.int .i64 ph,.slice ho hl hc]) c.dst))
 (HD:Hid (MapM nl W8 bD D)) (HSO:Hid (SOk nl c.dst)) (hc4:c.dst.holds.length<=4) (HEX:Hid (c∈D))
 (hK:∀(v64 v65 v66 v67 v68 v69:Value) (wx:World) (b:Bool),(b=true ↔ 0<c.cost)->Bel W8.heap.size W8 wx->K {tmps:=#[u0,u1,u2,u3,u4,u5,.pointer (some ⟨B6,0,none⟩),u7,u8,u9,u10,u11,u12,u13,u14,u15,u16,.pointer (some ⟨B17,0,none⟩),u18,u19,u20,u21,u22,u23,u24,u25,u26,u27,u28,u29,u30,u31,u32,u33,u34,u35,u36,u37,u38,u39,u40,u41,u42,u43,u44,u45,u46,u47,u48,u49,u50,u51,u52,u53,u54,u55,u56,u57,u58,u59,u60,u61,u62,u63,v64,v65,v66,v67,v68,v69,.bool b,u71,u72,u73,u74,u75,u76,u77,u78,u79,u80,u81,u82],defers:=ds} wx):
 Code.wp Tryz.prog wyReg14 (Exit.then K Q0) {tmps:=#[u0,u1,u2,u3,u4,u5,.pointer (some ⟨B6,0,none⟩),u7,u8,u9,u10,u11,u12,u13,u14,u15,u16,.pointer (some ⟨B17,0,none⟩),u18,u19,u20,u21,u22,u23,u24,u25,u26,u27,u28,u29,u30,u31,u32,u33,u34,u35,u36,u37,u38,u39,u40,u41,u42,u43,u44,u45,u46,u47,u48,u49,u50,u51,u52,u53,u54,u55,u56,u57,u58,u59,u60,u61,u62,u63,u64,u65,u66,u67,u68,u69,u70,u71,u72,u73,u74,u75,u76,u77,u78,u79,u80,u81,u82],defers:=ds} W8:=by
 have hfld:=run_field_m;obtain⟨r60,r61⟩:=row1 HK6.out;obtain⟨r0,r1,-,-⟩:=row2 HK17.out;have l6:=BlkT.lt ⟨_,_,HK6.out⟩;have l17:=BlkT.lt ⟨_,_,HK17.out⟩;obtain⟨w,hw⟩:∃w:World,w=W8:=⟨_,rfl⟩
 have hst:SHs w W8 W8.heap.size W8:=by rw[hw];exact SHs.start NL NL (Bel.refl _ _)
 clear hw
 conv=>arg 2;whnf
 refine wp_region_noPanic ?_;refine wp_region_K (S:=(fun w'=>(∀(b o:Nat),b<W8.heap.size->w'.cell? ⟨b,o,none⟩=W8.cell? ⟨b,o,none⟩)/\SHs w W8 (W8.heap.size) w')) (k:=6) (by kernel_rfl) ?_ (fun hHeld=>?_)
 . ((try dsimp only);(exact K2s))
 refine TK 0 [5,4,3] ?_;refine TK 1 [5,2] ?_;refine KRs [2] ?_;refine KCs (fun K hK=>?_) ?_
 .go_simp;refine(key_c (HC.out.pres hHeld.2.near.pb) hc4).mono ?_;rintro e w20 ⟨rfl,hb1⟩;have hy1:=hb1.size
  (try simp at hy1)
  obtain⟨z0,z1,z2,z3,z4,hkv⟩:=keyV_cells c.dst;rw[hkv];have HKV:=LH hkv;clear hkv
  (try go_wp2_with fail)
  refine SA hK (hHeld.2.call hb1).hold fun hHeld=>?_;clear hK K
  refine KRs [3] ?_;refine KCs (fun K hK=>?_) ?_
  .go_simp;refine upon_look (Ok:=MoveV) (ky:=MoveD.dst) (fun _ _=>rfl) (MapM.kp HD.out (T:=158) (KpT.of_bel hHeld.2.near) (by decide)) Tryz.underlying151 (Tryz.zeroValue158 _) HSO.out HKV.out.symm (fun v9 e9 he9 hes9 hm9=>?_) (fun hno=>absurd rfl (hno c HEX.out));obtain⟨ph9,ho9,hl9,hc9,x9,a9,q9,c9,k9,rfl⟩:=MoveV.cells hm9;have hec:e9=c:=dst_inj (MapM.ndl HD.out) he9 HEX.out hes9;rw[hec]at hm9
   (try go_wp2_with fail)
   refine SA hK hHeld fun hHeld=>?_;clear hK K
   refine TK 4 [5] ?_;refine KRs [5] ?_;refine KCs (fun K hK=>?_) ?_
   .go_simp;refine(sign_c hm9.qv.2.2).mono ?_;rintro e w21 ⟨rfl,hb2⟩;have hy2:=hb2.size
    (try simp at hy2)
    (try go_wp2_with fail)
    refine SA hK (hHeld.2.call hb2).hold fun hHeld=>?_;clear hK K
    refine KRs [6] ?_;refine KCs (fun K hK=>?_) ?_
    .go_simp;refine SE hK ?_;clear hK K
     refine wpAnyK_done (by kernel_rfl) ?_ _;refine NoPanic.normal ?_;exact hK _ _ _ _ _ _ _ _ (by simp[ratSign_pos]) hHeld.2.near
    exact KNs
   exact KNs
  exact KNs
 exact KNs
theorem wayReg15 {W8:World}{B9 bF B17 nl:Nat}{F:List (StateD×StateD)}{c:MoveD}{s:StateD}{K:Act->World->Prop}{Q0:Exit->Act->World->Prop}{ds:List Deferred}{ph:Int}{ho:Option Addr}{hl hc:Nat}
 (u0 u1 u2 u3 u4 u5 u6 u7 u8 u10 u11 u12 u13 u14 u15 u16 u18 u19 u20 u21 u22 u23 u24 u25 u26 u27 u28 u29 u30 u31 u32 u33 u34 u35 u36 u37 u38 u39 u40 u41 u42 u43 u44 u45 u46 u47 u48 u49 u50 u51 u52 u53 u54 u55 u56 u57 u58 u59 u60 u61 u62 u63 u64 u65 u66 u67 u68 u69 u70 u71 u72 u73 u74 u75 u76 u77 u78 u79 u80 u81 u82:Value)
 (HK9:Hid (W8.heap[B9]?=some (.cells #[.map (some bF)] 224))) (HK17:Hid (W8.heap[B17]?=some (.cells #[.int .i64 ph,.slice ho hl hc] 88))) (HC:Hid (StateV W8 (.agg #[.int .i64 ph,.slice ho hl hc]) c.dst))
 (HF:Hid (MapF nl W8 bF F)) (HSO:Hid (SOk nl c.dst)) (hc4:c.dst.holds.length<=4) (HEX:Hid ((c.dst,s)∈F))
 (hK:∀(v71 v72 v73 v74:Value) (ph':Int) (ho':Option Addr) (hl' hc':Nat) (wx:World),wx.heap[B17]?=some (.cells #[.int .i64 ph',.slice ho' hl' hc'] 88)->StateV wx (.agg #[.int .i64 ph',.slice ho' hl' hc']) s->W8.grownBy wx (some B17)->K {tmps:=#[u0,u1,u2,u3,u4,u5,u6,u7,u8,.pointer (some ⟨B9,0,none⟩),u10,u11,u12,u13,u14,u15,u16,.pointer (some ⟨B17,0,none⟩),u18,u19,u20,u21,u22,u23,u24,u25,u26,u27,u28,u29,u30,u31,u32,u33,u34,u35,u36,u37,u38,u39,u40,u41,u42,u43,u44,u45,u46,u47,u48,u49,u50,u51,u52,u53,u54,u55,u56,u57,u58,u59,u60,u61,u62,u63,u64,u65,u66,u67,u68,u69,u70,v71,v72,v73,v74,u75,u76,u77,u78,u79,u80,u81,u82],defers:=ds} wx):
 Code.wp Tryz.prog wyReg15 (Exit.then K Q0) {tmps:=#[u0,u1,u2,u3,u4,u5,u6,u7,u8,.pointer (some ⟨B9,0,none⟩),u10,u11,u12,u13,u14,u15,u16,.pointer (some ⟨B17,0,none⟩),u18,u19,u20,u21,u22,u23,u24,u25,u26,u27,u28,u29,u30,u31,u32,u33,u34,u35,u36,u37,u38,u39,u40,u41,u42,u43,u44,u45,u46,u47,u48,u49,u50,u51,u52,u53,u54,u55,u56,u57,u58,u59,u60,u61,u62,u63,u64,u65,u66,u67,u68,u69,u70,u71,u72,u73,u74,u75,u76,u77,u78,u79,u80,u81,u82],defers:=ds} W8:=by
 obtain⟨r90,r91⟩:=row1 HK9.out;obtain⟨r0,r1,-,-⟩:=row2 HK17.out;have l9:=BlkT.lt ⟨_,_,HK9.out⟩;have l17:=BlkT.lt ⟨_,_,HK17.out⟩;obtain⟨w,hw⟩:∃w:World,w=W8:=⟨_,rfl⟩
 have hst:SHs w W8 W8.heap.size W8:=by rw[hw];exact SHs.start NL NL (Bel.refl _ _)
 clear hw
 conv=>arg 2;whnf
 refine wp_region_noPanic ?_;refine wp_region_K (S:=(fun w'=>(∀(b o:Nat),b<W8.heap.size->w'.cell? ⟨b,o,none⟩=W8.cell? ⟨b,o,none⟩)/\SHs w W8 (W8.heap.size) w')) (k:=4) (by kernel_rfl) ?_ (fun hHeld=>?_)
 . ((try dsimp only);(exact K2s))
 refine TK 0 [] ?_;refine TK 1 [] ?_;refine KRs [2] ?_;refine KCs (fun K hK=>?_) ?_
 .go_simp;refine(key_c (HC.out.pres hHeld.2.near.pb) hc4).mono ?_;rintro e w20 ⟨rfl,hb1⟩;have hy1:=hb1.size
  (try simp at hy1)
  obtain⟨z0,z1,z2,z3,z4,hkv⟩:=keyV_cells c.dst;rw[hkv];have HKV:=LH hkv;clear hkv
  (try go_wp2_with fail)
  refine SA hK (hHeld.2.call hb1).hold fun hHeld=>?_;clear hK K
  refine KRs [3] ?_;refine KCs (fun K hK=>?_) ?_
  .go_simp;refine upon_look (Ok:=FromV) (ky:=Prod.fst) (fun _ _=>rfl) (MapF.kp HF.out (T:=88) (KpT.of_bel hHeld.2.near) (by decide)) Tryz.underlying224 (Tryz.zeroValue88 _) HSO.out HKV.out.symm (fun v9 e9 he9 hes9 hm9=>?_) (fun hno=>absurd rfl (hno _ HEX.out));obtain⟨ph9,ho9,hl9,hc9,rfl⟩:=StateV.two hm9;have hec:e9=(c.dst,s):=ky_inj (MapG.nodup HF.out) he9 HEX.out hes9;rw[hec]at hm9;have hk17:w20.heap[B17]?=some (.cells #[.int .i64 ph,.slice ho hl hc] 88):=(hHeld.2.near.block _ l17).trans HK17.out
   obtain⟨j0,j1,j2,j3⟩:=row2 hk17;have hnear:=hHeld.2.near
   (try go_wp2_with fail)
   refine SA hK hHeld fun hHeld=>?_;clear hK K
   refine KRs [4] ?_;refine KCs (fun K hK=>?_) ?_
   .go_simp;refine SE hK ?_;clear hK K
    refine wpAnyK_done (by kernel_rfl) ?_ _;refine NoPanic.normal ?_;exact hK _ _ _ _ _ _ _ _ _ (wset2 hk17) (StateV.pres hm9 ((Pres.setT ⟨_,_,hk17⟩ (by decide) 0 _).trans (Pres.setT (BlkT.setCell ⟨_,_,hk17⟩ _ _) (by decide) 1 _))) (grown_set2 hnear)
   exact KNs
  exact KNs
 exact KNs
end
section
open Go.Maps (Keyed)
attribute [local go_sem] Oper.semAt_some
theorem RowS.block {w w':World}{base g n cap:Nat}{ss:List StateD}(h:RowS w base (.slice (some ⟨g,0,none⟩) n cap) ss)(hb:w'.heap[g]?=w.heap[g]?)(h1:Pres 3 w w'):RowS w' base (.slice (some ⟨g,0,none⟩) n cap) ss:=by
 obtain⟨xs,hr,hm⟩:=h;refine⟨xs,⟨hr.1,?_⟩,fun i hi=>?_⟩
 .rcases hr.2 with h|⟨g',cap',cur,e,hg,hh,r⟩
  .exact .inl h
  .cases e
   exact .inr ⟨_,_,cur,rfl,hg,hb.trans hh,r⟩
 .obtain⟨v0,v1,a0,a1,hv⟩:=hm i hi;exact⟨v0,v1,a0,a1,hv.pres h1⟩
theorem RowS.lt {w:World}{base g n cap:Nat}{ss:List StateD}(h:RowS w base (.slice (some ⟨g,0,none⟩) n cap) ss):g<w.heap.size:=by
 obtain⟨xs,hr,hm⟩:=h;rcases hr.2 with⟨h,-⟩|⟨g',cap',cur,e,hg,hh,r⟩
 .cases h
 .cases e
  exact(Array.getElem?_eq_some_iff.1 hh).1
theorem RowS.one {w:World}{base g:Nat}{v0 v1:Value}{s:StateD}(h:w.heap[g]?=some (.cells #[v0,v1] 88))(hg:base<=g)(hs:StateV w (.agg #[v0,v1]) s):RowS w base (.slice (some ⟨g,0,none⟩) 1 1) [s]:=
 ⟨[v0,v1],⟨rfl,.inr ⟨g,1,_,rfl,hg,h,Nat.le_refl _,by decide,rfl,rfl⟩⟩,fun i hi=>by
   obtain rfl:i=0:=by simp at hi;omega
   exact⟨v0,v1,rfl,rfl,hs⟩⟩
theorem KpT.of_grown {T:TypeId}{w w':World}{B:Nat}{cs:Array Value}(h:w.grownBy w' (some B))(hB:w.heap[B]?=some (.cells cs T)):KpT T w w':=⟨h.size,fun k o hk ho=>(h.block k (Array.getElem?_eq_some_iff.1 hk).1 (fun e=>by
 cases e
 rw[hB]at hk
 cases hk
 exact ho _ _ rfl)).trans hk⟩
theorem Bel.of_grown {N:Nat}{w w':World}{B:Nat}(h:w.grownBy w' (some B))(hN:N<=B)(hB:B<w.heap.size):Bel N w w':=
 ⟨⟨h.os,h.tape,h.output,h.size,fun k hk=>h.block k (by omega) (fun e=>by cases e;omega)⟩⟩
def WayJ (w:World)(p:ProbD)(pv:Value)(B4 B6 B7 B9 bD bF:Nat)(ds:List Deferred)(tp:Nat)(D:List MoveD)(F:List (StateD×StateD))(ao:Option Addr)(f:Nat->Value)(ms:List MoveD)(m:MoveD)(c7:Array Value)(s16 s17:Value)(c:MoveD)(out:List StateD)(wr:World):Prop:=
 ∃(g cap2 B17:Nat) (ph:Int) (ho:Option Addr) (hl hc:Nat),s16=.slice (some ⟨g,0,none⟩) out.length cap2/\s17=.pointer (some ⟨B17,0,none⟩)/\wr.heap[B17]?=some (.cells #[.int .i64 ph,.slice ho hl hc] 88)/\StateV wr (.agg #[.int .i64 ph,.slice ho hl hc]) c.dst/\
  RowS wr w.heap.size (.slice (some ⟨g,0,none⟩) out.length cap2) out/\g≠B17/\w.heap.size<=B17/\WY w wr p pv p.walker.legs.toNat B4 B6 B7 B9 bD bF ds tp D F ao f ms m c7
theorem evsOf_take {p:ProbD}{ms:List MoveD}{i:Nat}(h:i<ms.length):evsOf p (ms.take (i+1))=evsOf p (ms.take i)++(movesL p (ms.getD i move0).dst).map fun x=>(ms.getD i move0,x):=by
 rw[List.take_succ_eq_append_getElem h,getD_get h];unfold evsOf;simp only[List.flatMap_append,List.flatMap_cons,List.flatMap_nil,List.append_nil]
theorem wpList_load_P {ops:Array Oper}{rest:List Oper}{op:Oper}{a:Act}{w w0:World}{Q:Exit->Act->World->Prop}(x:Operand)(ho:op.op=.load 44 x)(b:Nat)(hx:a.eval x=.pointer (some ⟨b,0,none⟩)){cs:Array Value}{p:ProbD}{T:TypeId}
 (hp:PVal w0 (.agg cs) p) (hc:w.heap[b]?=some (.cells cs T)) (hw:Region.wanted op (yielded ops a.tmps)=true) (h:wpList Tryz.prog ops Q rest (a.put op.dst (.agg cs)) w):wpList Tryz.prog ops Q (op::rest) a w:=by
 obtain⟨g,mo,mc,wo,wc,so,sc,go,gc,epv,-⟩:=hp.lit
 injection epv with epv
 subst epv;exact wpList_load_g 44 x ho b 0 hx _ _ (loadP_range hc) Tryz.underlying44 rfl (by kernel_rfl) hw h
theorem IsMarks.of_perm' {p:ProbD}{l r:List MoveD}(h:IsMarks p l)(hp:r.Perm l):IsMarks p r:=IsMarks.of_perm h hp.symm
theorem way_c (hms:MovesSeqC){w:World}{pv mv:Value}{p:ProbD}{L bD cap:Nat}{ao:Option Addr}{f:Nat->Value}{ms D:List MoveD}{m:MoveD}(hp:PVal w pv p)(hF:ProbF L p)(h1L:1<=L)(hL:L<=1000)(hpr:probB p=true)
 (hD:MapM p.walker.legs.toNat w bD D) (hI:IsMarks p D) (hlen:D.length<=5000) (hQ:∀e∈D,QF ((20*L+21)*5001) e.cost) (hpos:∀m∈D,∀x∈movesL p m.dst,0<x.cost)
 (hrow:MarksAt w ao ms f) (_hcap:ms.length<=cap) (hperm:ms.Perm D) (hm:m∈ms) (hmv:MoveV w mv m):
 Calls Tryz.prog 71 #[pv,.slice ao ms.length cap,.map (some bD),mv] w fun e w'=>∃v l,e=.returned v/\RowS w' w.heap.size v l.reverse/\WayB p ms m.dst m.cost l/\l.length<=ms.length+1/\Bel w.heap.size w w':=by
 have hml:ms.length<=5000:=by rw[hperm.length_eq];exact hlen
 have HP:=LH hp;have HD:=LH hD;have HI:=LH hI;have HQD:=LH hQ;have HROW:=LH hrow;have HPM:=LH hperm;have HMV:=LH hmv;have HPOS:=LH hpos;obtain⟨g,mo,mc,wo,wc,so,sc,go,gc,epv,-,-,-,-,-,-⟩:=hp.lit;obtain⟨cs,hcs⟩:∃cs,pv=.agg cs:=⟨_,epv⟩
 obtain⟨bl,o,rfl,-,-⟩:=hrow.el (i:=0) (List.length_pos_of_mem hm);obtain⟨ph,ho,hl,hc,x,a1,q1,c1,k1,rfl⟩:=hmv.cells;have hDl:=hD.lt;have hst0:∀a∈ms,Fine p a.dst:=fun a ha=>((hI.reach a (hperm.mem_iff.1 ha)).fine hpr).1;have HFI:=LH hst0;clear hp epv hD hI hQ hrow hperm hmv hpos hst0;subst hcs;refine(callsIn_wide (n:=9)).1 ?_;refine callsIn_of_wp_marks Tryz.func71 rfl trivial ?_ rfl;simp only[Tryz.ntmps71,List.size_toArray,List.length_cons,List.length_nil,Nat.reduceAdd,Nat.reduceSub,Array.replicate_succ,Array.replicate_zero,List.push_toArray,List.append_toArray,List.nil_append,List.cons_append]
 refine wpIn_wide.2 ?_;generalize hQ:bodyPostM Fence.wide 9 Tryz.prog Tryz.f71 (fun e w'=>∃v l,e=.returned v/\RowS w' w.heap.size v l.reverse/\WayB p ms m.dst m.cost l/\l.length<=ms.length+1/\Bel w.heap.size w w')=QQ;have HQQ:=LH hQ;clear hQ
 go_wp2_with (refine wpList_mk_g rfl 224 rfl ?_)
 refine name_world ?_;intro W0 hW0;have hbW:Bel w.heap.size w W0:=by rw[hW0];exact(((Bel.new.alloc (by simp) _).alloc Sd _).alloc Sd _).alloc Sd _
 have hk4:W0.heap[w.heap.size]?=some (.cells cs 44):=at_world hW0 ((heap_old _ _ Sd).trans ((heap_old _ _ Sd).trans ((heap_old _ _ Sd).trans ((heap_old _ _ Sd).trans (heap_new _ _ rfl)))));have hk6:W0.heap[w.heap.size+1]?=some (.cells #[.map (some bD)] 151):=at_world hW0 ((heap_old _ _ Sd).trans ((heap_old _ _ Sd).trans ((heap_old _ _ Sd).trans (heap_new _ _ (by simp)))))
 have hk7:W0.heap[w.heap.size+1+1]?=some (.cells #[.int .i64 ph,.slice ho hl hc,.bool x,.slice a1 q1 q1,.slice c1 k1 k1] 158):=at_world hW0 ((heap_old _ _ Sd).trans ((heap_old _ _ Sd).trans (heap_new _ _ (by simp))));have hk9:W0.heap[w.heap.size+1+1+1+1]?=some (.cells #[.map (some (w.heap.size+1+1+1))] 224):=at_world hW0 (heap_new _ _ (by simp))
 have hmF:MapF p.walker.legs.toNat W0 (w.heap.size+1+1+1) []:=by
  rw[hW0];have:=MapF.kp (T:=88) (MapG.made (ky:=Prod.fst) (Ok:=FromV) (n:=p.walker.legs.toNat) (((w.alloc (.cells cs 44)).alloc (.cells #[.map (some bD)] 151)).alloc (.cells #[.int .i64 ph,.slice ho hl hc,.bool x,.slice a1 q1 q1,.slice c1 k1 k1] 158))) (KpT.of_bel ((Bel.refl _ _).alloc NL (.cells #[.map (some (w.heap.size+1+1+1))] 224))) (by decide)
  simpa using this
 have HWY:Hid (WY w W0 p (.agg cs) p.walker.legs.toNat w.heap.size (w.heap.size+1) (w.heap.size+1+1) (w.heap.size+1+1+1+1) bD (w.heap.size+1+1+1) [] 0 D [] (some ⟨bl,o,none⟩) f ms m #[.int .i64 ph,.slice ho hl hc,.bool x,.slice a1 q1 q1,.slice c1 k1 k1]):=
  ⟨hbW,⟨hDl,by omega⟩,⟨_,rfl,hk4⟩,HP.out.bel hbW,hk6,⟨hk7,HMV.out.bel hbW⟩,hk9,HD.out.kp (T:=158) (KpT.of_bel hbW) (by decide),hmF,HROW.out.bel hbW,trivial,Nat.zero_le _⟩
 clear hW0 hbW hk4 hk6 hk7 hk9 hmF HP HD HMV HROW;generalize w.heap.size+1+1+1+1=B9 at *;generalize w.heap.size+1+1+1=bF at *;generalize w.heap.size+1+1=B7 at *;generalize w.heap.size+1=B6 at *;generalize hB4:w.heap.size=B4 at *;refine wp_loop_ghost_k (fun k' a' w'=>∃(u0 u1 u2 u3 u5 u8 u10 u11 u12 u13 u14 u15 u16 u17 u18 u21 u22 u23 u24 u25 u26 u27 u28 u29 u30 u31 u32 u33 u34 u35 u36 u37 u38 u39 u40 u41 u42 u43 u44 u45 u46 u47 u48 u49 u50 u51 u52 u53 u54 u55 u56 u57 u58 u59 u60 u61 u62 u63 u64 u65 u66 u67 u68 u69 u70 u71 u72 u73 u74 u75 u76 u77 u78 u79 u80 u81 u82:Value) (ds:List Deferred),((∃(i:Nat) (F:List (StateD×StateD)) (tp:Nat),u21=.int .i64 (i:Nat)/\i<=ms.length/\k'=ms.length-i/\WY w w' p (.agg cs) p.walker.legs.toNat B4 B6 B7 B9 bD bF ds tp D F (some ⟨bl,o,none⟩) f ms m #[.int .i64 ph,.slice ho hl hc,.bool x,.slice a1 q1 q1,.slice c1 k1 k1]/\FromI D (evsOf p (ms.take i)) F/\F.length<=64*i))/\a'=({tmps:=#[u0,u1,u2,u3,.pointer (some ⟨B4,0,none⟩),u5,.pointer (some ⟨B6,0,none⟩),.pointer (some ⟨B7,0,none⟩),u8,.pointer (some ⟨B9,0,none⟩),u10,u11,u12,u13,u14,u15,u16,u17,u18,.slice (some ⟨bl,o,none⟩) ms.length cap,.int .i64 (ms.length:Nat),u21,u22,u23,u24,u25,u26,u27,u28,u29,u30,u31,u32,u33,u34,u35,u36,u37,u38,u39,u40,u41,u42,u43,u44,u45,u46,u47,u48,u49,u50,u51,u52,u53,u54,u55,u56,u57,u58,u59,u60,u61,u62,u63,u64,u65,u66,u67,u68,u69,u70,u71,u72,u73,u74,u75,u76,u77,u78,u79,u80,u81,u82],defers:=ds}:Act)) ms.length ?aStart ?aRound
 case aStart=>
  (repeat apply Exists.intro)
  refine⟨?aS,rfl⟩;exact⟨0,[],_,rfl,Nat.zero_le _,rfl,HWY.out,FromI.nil D,Nat.le_refl _⟩
 case aRound=>
  intro gk _ wr hinv
  iterate 77 (obtain⟨_,hinv⟩:=hinv)
  obtain⟨ds,hrel,ha⟩:=hinv;subst ha
  try dsimp only
  intro _ _ _ _;obtain⟨i,F,tp,rfl,hi,hg,hwy,hfr,hfl⟩:=hrel;have HS:=LH hwy;have HFR:=LH hfr;clear HWY hwy hfr
  by_cases hlt:i<ms.length
  .obtain⟨bl',o',e',-,ph2,ho2,hl2,hc2,x2,a2,q2,c2,k2,f0,f1,f2,f3,f4,hmv⟩:=HS.out.row.el hlt;obtain⟨rfl,rfl⟩:bl=bl'/\o=o':=by cases e';exact⟨rfl,rfl⟩
   have HMV:=LH hmv;clear hmv e'
   go_upto_region 5 with fail
   refine name_world ?_;intro W1 hW1;have hB1:Bel wr.heap.size wr W1:=by rw[hW1];exact(Bel.refl _ _).alloc NL _
   have hk11:=at_world hW1 (b:=wr.heap.size) (heap_new _ _ rfl);have HS1:=LH (HS.out.call hB1);have HMV1:=LH (HMV.out.bel hB1);obtain⟨r0,r1,r2,r3,r4⟩:=row5 hk11;have HK11:=LH hk11;have hz11:wr.heap.size<W1.heap.size:=by rw[hW1];simp
   have hma:ms.getD i move0∈ms:=by rw[getD_get hlt];exact List.getElem_mem hlt
   have HFA:=LH (HFI.out _ hma);have hmaD:=HPM.out.mem_iff.1 hma;have hev:=evsOf_take (p:=p) hlt;obtain⟨a,haa⟩:∃a,a=ms.getD i move0:=⟨_,rfl⟩
   rw[<-haa]at HMV1 HFA hmaD hev;have HEV:=LH hev;have HSV:=LH HMV1.out.stateV;clear hW1 hk11 f0 f1 f2 f3 f4 HS HMV hB1 hma haa hev;generalize hB11:wr.heap.size=B11 at *;obtain⟨cs4,e4,hcs4⟩:=HS1.out.b4;obtain rfl:cs=cs4:=by cases e4;rfl
   clear e4
   go_wp2_with (first|(refine wpList_load_P (.tmp 4) rfl _ rfl HS1.out.prob hcs4 rfl ?_)|(go_at_call 94;refine(movesF_c HS1.out.prob HSV.out).mono ?_;rintro e w11 ⟨rfl,hwk,hb11⟩))
   have HS2:=LH (HS1.out.call hb11);have HK11b:=LH ((hb11.block _ hz11).trans HK11.out);have HMV2:=LH (HMV1.out.bel hb11);have HWK:=LH hwk;have HL2:=LH HS2.out.lt;have HMK:=LH HS2.out.mkd.2;have HBL:=LH HS2.out.bel.size;clear HS1 HK11 HMV1 hwk hb11 HSV r0 r1 r2 r3 r4 hcs4;refine(wpIn_wide (n:=9)).1 ?_
   refine rangeM_box (gf:=146) (lb:=#[.pointer (some ⟨W1.heap.size+1,0,none⟩),.pointer (some ⟨W1.heap.size,0,none⟩)]) (q:=12) 93 rfl (enters_of Tryz.func146 (by kernel_rfl) rfl) (hms _ _ _ L _ _ _ HFA.out hF h1L HWK.out) (fun A C v x h k=>h.pres (k.pres _) (k.pres _)) (fun h k=>h.trans k) (fun h=>KpI.of_st h)
    (WayI w p (.agg cs) B4 B6 B7 B9 bD bF ds tp D (some ⟨bl,o,none⟩) f ms m #[.int .i64 ph,.slice ho hl hc,.bool x,.slice a1 q1 q1,.slice c1 k1 k1] B11 a (evsOf p (ms.take i)) (64*i) #[.int .i64 ph2,.slice ho2 hl2 hc2,.bool x2,.slice a2 q2 q2,.slice c2 k2 k2])
    (fun _ _ _=>False) (fun s A C ⟨F',h1,h2,h3,h4,h5⟩ hs=>⟨F',h1.st hs ⟨HL2.out.1,HL2.out.2.1,HMK.out⟩ HBL.out,h2,h3,hs.cells _ _ _ _ h4,h5.pres (hs.pres _) (hs.pres _)⟩) (fun _ _ _ _ h _=>h)
    ⟨F,HS2.out,by simpa using HFR.out,by simpa using hfl,HK11b.out,HMV2.out⟩ ?assign ?body ?done ?stop
   case stop=>
    rintro Dd cd pre W _ _ h _;exact h.elim
   case assign=>
    intro l v x W K hok hK;obtain⟨ph3,ho3,hl3,hc3,x3,a3,q3,c3,k3,rfl⟩:=hok.cells;have hK2:=hK _ rfl;simp only[List.setIfInBounds_toArray,List.set_cons_succ,List.set_cons_zero]at hK2;have HK:=LH hK2;clear hok hK hK2
    gi_wp2
    exact HK.out
   case done=>
    rintro Dd xs W hD rfl ⟨F',h1,h2,h3,h4,h5⟩ hKd;have HSM:=LH (h1.mark (Nat.le_trans HMK.out hD) (Nat.le_trans HBL.out (by omega)) hKd);rw[<-HEV.out]at h2;have HFM:=LH h2;have hml2:=movesL_len (s:=a.dst) HFA.out.world;clear h1 h2 h4 h5 hKd;go_wp2
    go_roundg (ms.length-(i+1))
    case rel=>exact⟨i+1,F',_,by push_cast;rfl,by omega,rfl,HSM.out,HFM.out,by omega⟩
    case measure=>omega
   case body=>
    rintro l pre csx y B12 W hI hok hk12 hpx;simp only[List.setIfInBounds_toArray,List.set_cons_zero,List.set_cons_succ];exact wayBody_c _ _ _ _ _ _ _ _ _ _ _ _ _ _ _ _ _ _ _ _ _ _ _ _ _ _ _ _ _ _ _ _ _ _ _ _ _ _ _ _ _ _ _ _ _ _ _ _ _ _ _ _ _ _ _ _ _ _ _ _ _ _ _ _ _ _ _ _ _ _ _ _ _ _ _ _ _ _ HFA.out hF h1L hL HI.out hmaD HQD.out HL2.out.2.1 (by omega) hI hok hk12 hpx
  .have hdn:decide ((i:Int)<ms.length)=false:=decide_eq_false (by omega);obtain rfl:i=ms.length:=by omega
   have hFr:=HFR.out;rw[List.take_length]at hFr;have HFR2:=LH hFr;obtain⟨s0,s1,s2,s3,s4⟩:=row5 HS.out.b7.1;have hlb:=HS.out.lt;have hb7:=BlkT.lt ⟨_,_,HS.out.b7.1⟩;have hlB:=HS.out.bel.size;clear hFr HFR hi hfl hg
   go_wp2_with fail
   have hB2:Bel wr.heap.size wr ((wr.alloc (.cells #[.int .i64 ph,.slice ho hl hc] 88)).alloc (.cells #[.int .i64 ph,.slice ho hl hc] 88)):=Bel.new.alloc (by simp) _
   go_loopg [16,17] (ms.length+1) (fun kk s16 s17 wr=>∃c out,WayJ w p (.agg cs) B4 B6 B7 B9 bD bF ds tp D F (some ⟨bl,o,none⟩) f ms m #[.int .i64 ph,.slice ho hl hc,.bool x,.slice a1 q1 q1,.slice c1 k1 k1] s16 s17 c out wr/\c∈ms/\WayIn p ms m c out/\out.length+lessN ms c.cost<=ms.length+1/\lessN ms c.cost<kk)
   case atStart=>exact⟨m,[m.dst],⟨wr.heap.size,1,wr.heap.size+1,ph,ho,hl,hc,rfl,rfl,heap_new _ _ (by simp),(HS.out.b7.2.bel hB2).stateV,RowS.one ((heap_old _ _ (by simp)).trans (heap_new _ _ rfl)) (by omega) (HS.out.b7.2.bel hB2).stateV,by omega,by omega,HS.out.call hB2⟩,hm,WayIn.start p ms m,by have:=lessN_le ms m.cost;simp;omega,by have:=lessN_le ms m.cost;omega⟩
   case round=>
    obtain⟨c,out,⟨g2,cap2,B17,ph2,ho2,hl2,hc2,rfl,rfl,hk17,hcv,hrs,hne,hlo,hwy⟩,hcm,hwi,hol,hkk⟩:=hrel;have HS2:=LH hwy;have HK17:=LH hk17;have HCV:=LH hcv;have HRS:=LH hrs;have HWI:=LH hwi;have hz17:=BlkT.lt ⟨_,_,hk17⟩;have hg2:=hrs.lt;clear hk17 hcv hrs hwi hwy HS s0 s1 s2 s3 s4 hB2
    go_upto_region 14 with fail
    refine wayReg14 _ _ _ _ _ _ _ _ _ _ _ _ _ _ _ _ _ _ _ _ _ _ _ _ _ _ _ _ _ _ _ _ _ _ _ _ _ _ _ _ _ _ _ _ _ _ _ _ _ _ _ _ _ _ _ _ _ _ _ _ _ _ _ _ _ _ _ _ _ _ _ _ _ _ _ _ _ _ _ _ _ (LH HS2.out.b6) HK17 HCV (LH HS2.out.done) (LH (SOk.of_fine (HFI.out _ hcm))) ((HFI.out _ hcm).len.1) (LH (HPM.out.mem_iff.1 hcm)) (fun v64 v65 v66 v67 v68 v69 wx b hb hbx=>?_);have HB:=LH hb;have HS3:=LH (HS2.out.call hbx)
    have HK17b:=LH ((hbx.block _ hz17).trans HK17.out);have HCV3:=LH (HCV.out.pres hbx.pb);have HRS3:=LH (HRS.out.bel hbx);have hzx:=hbx.size;clear hb hbx HS2 HK17 HCV HRS
    cases b with
    |false=>
     have hc0:¬0<c.cost:=fun h=>absurd (HB.out.2 h) (by simp)
     have hne0:out≠[]:=by
      obtain⟨pre,e,-⟩:=HWI.out;rw[e];simp
     go_wp2_with (go_at_call 132;refine(reverseS_c HRS3.out hne0 (by omega)).mono ?_;rintro e w5 ⟨rfl,hrs5,hkp5,hb5⟩)
     rw[<-HQQ.out];subst hB4;have HS5:=LH (HS3.out.kp hkp5 hb5);refine leaves_all HS5.out.mkd.1 fun W' hst hkp=>?_;exact⟨_,results_tmp (t:=8) rfl _ _ _,_,out,rfl,hrs5.keep (hst.pres _) (hst.pres _),HWI.out.done hc0,by omega,HS5.out.bel.trans hst.bel⟩
    |true=>
     have hc0:0<c.cost:=HB.out.1 (by simp);obtain⟨a,hpa,ham,y,hy,hyd,hyc,hlt2⟩:=IsMarks.prev (HI.out.of_perm' HPM.out) (fun m hm x hx=>HPOS.out m (HPM.out.mem_iff.1 hm) x hx) hcm hc0;have hEX:=HFR2.out.prev (atL_of (MapM.ndl HS3.out.done) (HPM.out.mem_iff.1 hcm)) hpa;have HWI2:=LH (HWI.out.step hc0 hpa);have hll:=lessN_lt ham hlt2
     go_upto_region 15 with fail
     refine wayReg15 _ _ _ _ _ _ _ _ _ _ _ _ _ _ _ _ _ _ _ _ _ _ _ _ _ _ _ _ _ _ _ _ _ _ _ _ _ _ _ _ _ _ _ _ _ _ _ _ _ _ _ _ _ _ _ _ _ _ _ _ _ _ _ _ _ _ _ _ _ _ _ _ _ _ _ _ _ _ _ _ _ (LH HS3.out.b9) HK17b HCV3 (LH HS3.out.frm) (LH (SOk.of_fine (HFI.out _ hcm))) ((HFI.out _ hcm).len.1) (LH hEX) (fun v71 v72 v73 v74 ph3 ho3 hl3 hc3 wy hk17 hsv hgr=>?_);have hz17':B17<wx.heap.size:=by omega
     have HK17c:=LH hk17;have HSV:=LH hsv;have HS4:=LH (HS3.out.kp (KpT.of_grown hgr HK17b.out) (Bel.of_grown hgr hlo hz17'));have HRS4:=LH (HRS3.out.block (hgr.block _ (by omega) (fun e=>hne (by cases e;rfl))) ((KpT.of_grown hgr HK17b.out).pres (by decide)));have hzy:=hgr.size;have hbel4:=HS4.out.bel.size;obtain⟨t0,t1,-,-⟩:=row2 hk17;clear hk17 hsv hgr HS3 HK17b HCV3 HRS3 hpa hEX hy hyd hyc
     go_wp2_with (at_builtin;refine wpList_app2 rfl (.tmp 75) (.tmp 77) rfl rfl (HRS4.out.bel Bel.new) rfl ⟨_,heap_new _ _ (by simp)⟩ (HSV.out.pres (Pres.alloc _ _)) (by omega) (by simp;omega) (fun g5 c5 w5 hrow5 hkp5 hb5 hgr5=>?_);have hz5:=hgr5.size;have hk17:w5.heap[B17]?=some (.cells #[.int .i64 ph3,.slice ho3 hl3 hc3] 88):=(hgr5.block B17 (by simp;omega) (fun e=>hne (by cases e;rfl))).trans ((heap_old _ _ (by omega)).trans HK17c.out);obtain⟨t0,t1,-,-⟩:=row2 hk17;(try simp at hz5);have hz17'':B17<w5.heap.size:=by omega)
     go_roundg (lessN ms c.cost)
     case rel=>exact⟨a,out++[a.dst],⟨g5,c5,w5.heap.size,ph3,ho3,hl3,hc3,by simp,rfl,heap_new _ _ rfl,HSV.out.pres (((Pres.alloc _ _).trans (hkp5.pres (by decide))).trans (Pres.alloc _ _)),by simpa using hrow5.bel Bel.new,by have:=hrow5.lt;omega,by omega,((HS4.out.call Bel.new).kp hkp5 hb5).call Bel.new⟩,ham,HWI2.out,by simp;omega,hll⟩
     case measure=>omega
end
section
open Go.Maps (Keyed)
structure StatesAt (w:World) (ao:Option Addr) (ss:List StateD) (f:Nat->Value):Prop where
 cells:CellsAt 88 w ao (ss.length*2) f
 at':∀i,i<ss.length->StateV w (.agg #[f (i*2),f (i*2+1)]) (ss.getD i state0)
def StatesV (w:World)(v:Value)(ss:List StateD):Prop:=∃(ao:Option Addr) (cap:Nat) (f:Nat->Value),v=.slice ao ss.length cap/\ss.length<=cap/\StatesAt w ao ss f
theorem StatesAt.pres {w w':World}{ao:Option Addr}{ss:List StateD}{f:Nat->Value}(h:StatesAt w ao ss f)(h1:Pres 88 w w')(h2:Pres 3 w w'):StatesAt w' ao ss f:=
 ⟨h.cells.pres h1,fun i hi=>(h.at' i hi).pres h2⟩
theorem StatesV.pres {w w':World}{v:Value}{ss:List StateD}(h:StatesV w v ss)(h1:Pres 88 w w')(h2:Pres 3 w w'):StatesV w' v ss:=by
 obtain⟨ao,cap,f,e,hc,h⟩:=h;exact⟨ao,cap,f,e,hc,h.pres h1 h2⟩
theorem StatesV.nil (w:World):StatesV w (.slice none 0 0) []:=⟨none,0,fun _=>undef,rfl,Nat.le_refl _,⟨CellsAt.zero _ _ _ _,fun i hi=>by simp at hi⟩⟩
theorem RowS.shape {w:World}{base:Nat}{v:Value}{ss:List StateD}(h:RowS w base v ss):∃ao cap,v=.slice ao ss.length cap:=by
 obtain⟨xs,hr,-⟩:=h;rcases hr.2 with⟨h,h0⟩|⟨g,cap,cur,e,-⟩
 .exact⟨none,0,by rw[h,h0]⟩
 .exact⟨_,cap,e⟩
theorem RowS.states {w:World}{base:Nat}{v:Value}{ss:List StateD}(h:RowS w base v ss):StatesV w v ss:=by
 obtain⟨xs,hr,hm⟩:=h
 have ho:OwnS 88 2 base w v ss.length (fun j=>xs.getD j undef):=⟨xs,hr,fun j hj=>by
  show xs[j]?=some (xs.getD j undef)
  rw[List.getD_eq_getElem?_getD,List.getElem?_eq_getElem (by rw[hr.1];exact hj)];rfl⟩
 obtain⟨ao,cap,rfl,hc,hcells⟩:=ho.cells;refine⟨ao,cap,_,rfl,hc,hcells,fun i hi=>?_⟩;obtain⟨v0,v1,a0,a1,hmv⟩:=hm i hi;simp only[List.getD_eq_getElem?_getD,a0,a1,Option.getD_some]at hmv|-;exact hmv
theorem MarksV.pres {w w':World}{v:Value}{ms:List MoveD}(h:MarksV w v ms)(h1:Pres 158 w w')(h2:Pres 3 w w')(h3:Pres 232 w w'):MarksV w' v ms:=by
 obtain⟨ao,cap,f,e,hc,h⟩:=h;exact⟨ao,cap,f,e,hc,h.pres h1 h2 h3⟩
theorem yields_load_P {o:Oper}{a:Act}{w w0:World}{x:Operand}{b:Nat}{cs:Array Value}{p:ProbD}{T:TypeId}(ho:o.op=.load 44 x)(hx:a.eval x=.pointer (some ⟨b,0,none⟩))(hp:PVal w0 (.agg cs) p)(hc:w.heap[b]?=some (.cells cs T)):
 (execOp a.eval o).run Tryz.prog w=.ok (.value (.agg cs)) w:=by
 obtain⟨g,mo,mc,wo,wc,so,sc,go,gc,epv,-⟩:=hp.lit
 injection epv with epv
 subst epv;unfold execOp;simp only[ho,hx,Instr.loadAt,Instr.sureAddr,Sem.run_bind,Sem.run_pure,Result.andThen_ok,run_loadVar_mid w b 0 44 _ _ (loadP_range hc) Tryz.underlying44 rfl (by kernel_rfl)]
theorem grown_set1 {w w1:World}{B o:Nat}{a:Value}(h:Bel w.heap.size w w1):w.grownBy (w1.setCell ⟨B,o,none⟩ a) (some B):=
 ⟨h.os,h.tape,h.output,by simp[World.setCell];exact h.size,fun k hk hB=>by
  have hne:k≠B:=fun e=>hB (by rw[e]);rw[heap_setCell_other _ _ _ _ hne];exact h.block k hk⟩
noncomputable def fdReg18:Code:=((Tryz.f14.body.bind (regionOf 18)).getD .skip)
theorem findReg18 (hms:MovesSeqC){W8:World}{p:ProbD}{L B1 B7 bD cap gb go gc k:Nat}{ao:Option Addr}{f:Nat->Value}{ms D gs:List MoveD}{m:MoveD}{cs:Array Value}{K:Act->World->Prop}{Q0:Exit->Act->World->Prop}{ds:List Deferred}{c0 c1' c2 c3 c4:Value}{ph:Int}{ho:Option Addr}{hl hc:Nat}{x:Bool}{a1:Option Addr}{q1:Nat}{c1:Option Addr}{k1:Nat}
 (u0 u2 u3 u4 u6 u8 u9 u12 u13 u14 u15 u16 u17 u18 u19 u20 u21 u22 u23 u24 u25 u26 u27 u28 u29 u30 u31 u32 u33 u34 u35 u36 u37 u38 u39 u40 u41 u42 u43 u44 u45 u46 u47 u48 u49 u50 u51 u52 u53 u54 u55 u56 u57 u58 u59 u60 u61 u62 u63 u64 u65 u66 u67 u68 u69:Value)
 (HP:Hid (PVal W8 (.agg cs) p)) (hF:ProbF L p) (h1L:1<=L) (hL:L<=1000) (hpr:probB p=true) (HD:Hid (MapM p.walker.legs.toNat W8 bD D)) (HI:Hid (IsMarks p D)) (hlen:D.length<=5000) (HQD:Hid (∀e∈D,QF ((20*L+21)*5001) e.cost)) (HPOS:Hid (∀m∈D,∀x∈movesL p m.dst,0<x.cost))
 (HROW:Hid (MarksAt W8 ao ms f)) (hcap:ms.length<=cap) (HPM:Hid (ms.Perm D)) (hmm:m∈ms) (HGV:Hid (MoveV W8 (.agg #[.int .i64 ph,.slice ho hl hc,.bool x,.slice a1 q1 q1,.slice c1 k1 k1]) m)) (hkg:k<gs.length)
 (HK1:Hid (W8.heap[B1]?=some (.cells cs 44))) (HK7:Hid (W8.heap[B7]?=some (.cells #[c0,c1',c2,c3,c4,.slice ao ms.length cap] 61))) (hgb:gb<W8.heap.size)
 (f0:W8.cell? ⟨gb,go+k*5,none⟩=some (.int .i64 ph)) (f1:W8.cell? ⟨gb,go+k*5+1,none⟩=some (.slice ho hl hc)) (f2:W8.cell? ⟨gb,go+k*5+2,none⟩=some (.bool x)) (f3:W8.cell? ⟨gb,go+k*5+3,none⟩=some (.slice a1 q1 q1)) (f4:W8.cell? ⟨gb,go+k*5+4,none⟩=some (.slice c1 k1 k1))
 (hK:∀(v59 v60 v61 v62 v63 v64 v65 v66 vw:Value) (lw:List StateD) (w1:World),StatesV w1 vw lw.reverse->WayB p ms m.dst m.cost lw->lw.length<=ms.length+1->Bel W8.heap.size W8 w1->K {tmps:=#[u0,.pointer (some ⟨B1,0,none⟩),u2,u3,u4,.map (some bD),u6,.pointer (some ⟨B7,0,none⟩),u8,u9,.slice (some ⟨gb,go,none⟩) gs.length gc,.int .i64 (k:Nat),u12,u13,u14,u15,u16,u17,u18,u19,u20,u21,u22,u23,u24,u25,u26,u27,u28,u29,u30,u31,u32,u33,u34,u35,u36,u37,u38,u39,u40,u41,u42,u43,u44,u45,u46,u47,u48,u49,u50,u51,u52,u53,u54,u55,u56,u57,u58,v59,v60,v61,v62,v63,v64,v65,v66,vw,.pointer (some ⟨B7,4,none⟩),u69],defers:=ds} (w1.setCell ⟨B7,4,none⟩ vw)):
 Code.wp Tryz.prog fdReg18 (Exit.then K Q0) {tmps:=#[u0,.pointer (some ⟨B1,0,none⟩),u2,u3,u4,.map (some bD),u6,.pointer (some ⟨B7,0,none⟩),u8,u9,.slice (some ⟨gb,go,none⟩) gs.length gc,.int .i64 (k:Nat),u12,u13,u14,u15,u16,u17,u18,u19,u20,u21,u22,u23,u24,u25,u26,u27,u28,u29,u30,u31,u32,u33,u34,u35,u36,u37,u38,u39,u40,u41,u42,u43,u44,u45,u46,u47,u48,u49,u50,u51,u52,u53,u54,u55,u56,u57,u58,u59,u60,u61,u62,u63,u64,u65,u66,u67,u68,u69],defers:=ds} W8:=by
 obtain⟨t0,t1,t2,t3,t4,t5,-,-,-,-,-,-⟩:=row6 HK7.out;have l1:=BlkT.lt ⟨_,_,HK1.out⟩;have l7:=BlkT.lt ⟨_,_,HK7.out⟩;obtain⟨w,hw⟩:∃w:World,w=W8:=⟨_,rfl⟩
 have hst:SHs w W8 W8.heap.size W8:=by rw[hw];exact SHs.start NL NL (Bel.refl _ _)
 clear hw
 conv=>arg 2;whnf
 refine wp_region_noPanic ?_;refine wp_region_K (S:=(fun w'=>(∀(b o:Nat),b<W8.heap.size->w'.cell? ⟨b,o,none⟩=W8.cell? ⟨b,o,none⟩)/\SHs w W8 (W8.heap.size) w')) (k:=10) (by kernel_rfl) ?_ (fun hHeld=>?_)
 . ((try dsimp only);(exact K2s))
 refine TK 0 [] (v:=.agg cs) ?_ (hy:=fun w hSw=>yields_load_P rfl rfl HP.out ((hSw.2.near.block _ l1).trans HK1.out));refine TK 1 [] ?_;refine TK 2 [] ?_;refine TK 3 [] ?_;refine TK 4 [] ?_;refine TK 5 [] ?_;refine TK 6 [] ?_;refine TK 7 [] ?_;refine KRs [8] ?_;refine KCs (fun K hK=>?_) ?_
 .go_simp;have hnr:=hHeld.2.near;refine(way_c hms (HP.out.bel hnr) hF h1L hL hpr (MapM.kp HD.out (T:=158) (KpT.of_bel hnr) (by decide)) HI.out hlen HQD.out HPOS.out (HROW.out.bel hnr) hcap HPM.out hmm (HGV.out.bel hnr)).mono ?_;rintro e w20 ⟨vw,lw,rfl,hrw,hwb,hll,hb1⟩;obtain⟨wo,wcap,ev⟩:=hrw.shape;rw[List.length_reverse]at ev;subst ev;have hy1:=hb1.size
  (try simp at hy1)
  (try go_wp2_with fail)
  refine SA hK (hHeld.2.call hb1).hold fun hHeld=>?_;clear hK K
  have hk7:=(hHeld.2.near.block _ l7).trans HK7.out;obtain⟨j0,j1,j2,j3,j4,j5,j6,j7,j8,j9,j10,j11⟩:=row6 hk7;have hnear:=hHeld.2.near;refine TK 9 [] ?_;refine KRs [10] ?_;refine KCs (fun K hK=>?_) ?_
  .go_simp;refine SE hK ?_;clear hK K
   refine wpAnyK_done (by kernel_rfl) ?_ _;refine NoPanic.normal ?_;exact hK _ _ _ _ _ _ _ _ _ lw _ hrw.states hwb hll hnear
  exact KNs
 exact KNs
end
section
open Go.Maps (Keyed)
structure PlanD where
 found:Bool
 cost:Rat
 way:List StateD
 marks:List MoveD
def plan0:PlanD:=⟨false,0,[],[]⟩
def PlanV (w:World)(v:Value)(pl:PlanD):Prop:=∃(x:Bool) (a:Option Addr) (n:Nat) (c:Option Addr) (k:Nat) (wv mv:Value),v=.agg #[.bool pl.found,.bool x,.slice a n n,.slice c k k,wv,mv]/\QV w (.agg #[.bool x,.slice a n n,.slice c k k]) pl.cost/\StatesV w wv pl.way/\MarksV w mv pl.marks
theorem MarksV.nil (w:World):MarksV w (.slice none 0 0) []:=⟨none,0,fun _=>undef,rfl,Nat.le_refl _,⟨CellsAt.zero _ _ _ _,fun i hi=>by simp at hi⟩⟩
theorem PlanV.zero (w:World):PlanV w (.agg #[.bool false,.bool false,.slice none 0 0,.slice none 0 0,.slice none 0 0,.slice none 0 0]) plan0:=⟨_,_,_,_,_,_,_,rfl,QV.zero w,StatesV.nil w,MarksV.nil w⟩
theorem PlanV.pres {w w':World}{v:Value}{pl:PlanD}(h:PlanV w v pl)(h0:Pres 88 w w')(h1:Pres 158 w w')(h2:Pres 3 w w')(h3:Pres 232 w w'):PlanV w' v pl:=by
 obtain⟨x,a,n,c,k,wv,mv,e,hq,hs,hm⟩:=h;exact⟨x,a,n,c,k,wv,mv,e,hq.pres h3,hs.pres h0 h2,hm.pres h1 h2 h3⟩
def goalsL (p:ProbD)(ms:List MoveD):List MoveD:=ms.filter fun m=>goalB p m.dst
structure PlanIs (L:Nat) (p:ProbD) (pl:PlanD):Prop where
 marks:IsMarks p pl.marks
 sorted:SortedM pl.marks
 few:pl.marks.length<=5000
 size:∀m∈pl.marks,QF ((20*L+21)*5001) m.cost
 short:pl.way.length<=5001
 way:(goalsL p pl.marks=[]/\pl.found=false/\pl.cost=0/\pl.way=[])\/
  (∃g∈goalsL p pl.marks,g=(goalsL p pl.marks).getD (firstI (goalsL p pl.marks)).toNat move0/\pl.found=true/\pl.cost=g.cost/\WayB p pl.marks g.dst g.cost pl.way.reverse)
def FindE (L:Nat)(p:ProbD)(er:Int)(pl:PlanD):Prop:=(probB p=false/\er=2/\pl=plan0)\/(probB p=true/\Many p/\er=5/\pl=plan0)\/(probB p=true/\er=0/\PlanIs L p pl)
theorem loadPl {w:World}{b:Nat}{T:TypeId}{a0 a1 a2 a3 a4 a5:Value}(h:w.heap[b]?=some (.cells #[a0,a1,a2,a3,a4,a5] T)):(loadVar 61 ⟨b,0,none⟩).run Tryz.prog w=.ok (.agg #[a0,a1,a2,a3,a4,a5]) w:=by
 obtain⟨c0,c1,c2,c3,c4,c5,-,-,-,-,-,-⟩:=row6 h;clear h;go_simp
theorem post_ct {P:Program}{fn:Func}{Qp:Ending->World->Prop}{a:Act}{w:World}{p u:Tmp}{ty:TypeId}{b:Nat}{v:Value}(hr:fn.results=#[.cell p ty,.tmp u])(hp:a.tmps.getD p undef=.pointer (some ⟨b,0,none⟩))(hd:a.defers=[])
 (hl:(loadVar ty ⟨b,0,none⟩).run P w=.ok v w) (h:Qp (.returned (.tuple #[v,a.tmps.getD u undef])) w):bodyPost P fn Qp Exit.ret a w:=
 bodyPost_ret (results_ct hr _ hp hl) hd h
theorem wset6 {w:World}{b:Nat}{x0 x1 x2 x3 x4 x5 a0 a1 a2 a3 a4 a5:Value}{T:TypeId}(h:w.heap[b]?=some (.cells #[x0,x1,x2,x3,x4,x5] T)):
 ((((((w.setCell ⟨b,0,none⟩ a0).setCell ⟨b,1,none⟩ a1).setCell ⟨b,2,none⟩ a2).setCell ⟨b,3,none⟩ a3).setCell ⟨b,4,none⟩ a4).setCell ⟨b,5,none⟩ a5).heap[b]?=some (.cells #[a0,a1,a2,a3,a4,a5] T):=by
 simp[World.setCell,Array.getElem?_modify,h]
theorem Bel.set6 {N:Nat}{w w':World}{B:Nat}{a0 a1 a2 a3 a4 a5:Value}(h:Bel N w w')(hB:N<=B):Bel N w ((((((w'.setCell ⟨B,0,none⟩ a0).setCell ⟨B,1,none⟩ a1).setCell ⟨B,2,none⟩ a2).setCell ⟨B,3,none⟩ a3).setCell ⟨B,4,none⟩ a4).setCell ⟨B,5,none⟩ a5):=
 (((((h.setCell hB _).setCell hB _).setCell hB _).setCell hB _).setCell hB _).setCell hB _
theorem row6_then {w:World}{b:Nat}{v0 v1 v2 v3 v4 v5:Value}{T:TypeId}{G:Prop}(h:w.heap[b]?=some (.cells #[v0,v1,v2,v3,v4,v5] T))
 (k:w.cell? ⟨b,5,none⟩=some v5->w.frozen? ⟨b,5,none⟩=false->b<w.heap.size->w.heap[b]?=some (.cells #[v0,v1,v2,v3,v4,v5] T)->G):G:=by
 obtain⟨-,-,-,-,-,h5,-,-,-,-,-,f5⟩:=row6 h;exact k h5 f5 (Array.getElem?_eq_some_iff.1 h).1 h
theorem Pres.trans' {T:TypeId}{A B C:World}(h:Pres T B C)(k:Pres T A B):Pres T A C:=k.trans h
theorem grown_set4 {w w1:World}{B:Nat}{a b c d:Value}(h:Bel w.heap.size w w1):w.grownBy ((((w1.setCell ⟨B,0,none⟩ a).setCell ⟨B,1,none⟩ b).setCell ⟨B,2,none⟩ c).setCell ⟨B,3,none⟩ d) (some B):=
 ⟨h.os,h.tape,h.output,by simp[World.setCell];exact h.size,fun k hk hB=>by
  have hne:k≠B:=fun e=>hB (by rw[e]);rw[heap_setCell_other _ _ _ _ hne,heap_setCell_other _ _ _ _ hne,heap_setCell_other _ _ _ _ hne,heap_setCell_other _ _ _ _ hne];exact h.block k hk⟩
structure FD (w wr:World) (p:ProbD) (cs:Array Value) (B1 B2 bD:Nat) (D:List MoveD):Prop where
 bel:Bel w.heap.size w wr
 b1:wr.heap[B1]?=some (.cells cs 44)
 prob:PVal wr (.agg cs) p
 b2:wr.heap[B2]?=some (.cells #[.bool false,.bool false,.slice none 0 0,.slice none 0 0,.slice none 0 0,.slice none 0 0] 61)
 done:MapM p.walker.legs.toNat wr bD D
section
variable {w wr wr' : World} {p : ProbD} {cs : Array Value} {B1 B2 B7 bD : Nat} {D : List MoveD}
theorem FD.kp (h:FD w wr p cs B1 B2 bD D)(k:KpT 158 wr wr')(hb:Bel w.heap.size wr wr'):FD w wr' p cs B1 B2 bD D:=
 ⟨h.bel.trans hb,k.pres (by decide) _ _ _ h.b1,h.prob.keep k.kpi,k.pres (by decide) _ _ _ h.b2,h.done.kp k (by decide)⟩
theorem FD.call (h:FD w wr p cs B1 B2 bD D)(hb:Bel wr.heap.size wr wr'):FD w wr' p cs B1 B2 bD D:=h.kp (KpT.of_bel hb) (hb.mono h.bel.size)
theorem FD.st {B:Nat}(h:FD w wr p cs B1 B2 bD D)(hs:St B wr wr')(hB:bD<B)(hw:w.heap.size<=B):FD w wr' p cs B1 B2 bD D:=
 ⟨h.bel.trans (hs.bel.mono hw),hs.cells _ _ _ _ h.b1,h.prob.keep (KpI.of_st hs),hs.cells _ _ _ _ h.b2,h.done.heap (hs.bel.block _ hB) fun _v _e he=>he.pres (hs.pres _) (hs.pres _)⟩
theorem FD.grown {cs7:Array Value}(h:FD w wr p cs B1 B2 bD D)(hg:wr.grownBy wr' (some B7))(hk:wr.heap[B7]?=some (.cells cs7 61))(h7:w.heap.size<=B7)(h2:B2≠B7):FD w wr' p cs B1 B2 bD D:=by
 have k:=KpT.of_grown hg hk;refine⟨h.bel.trans (Bel.of_grown hg h7 (Array.getElem?_eq_some_iff.1 hk).1),k.pres (by decide) _ _ _ h.b1,?_,(hg.block _ (Array.getElem?_eq_some_iff.1 h.b2).1 (fun e=>h2 (by cases e;rfl))).trans h.b2,h.done.kp k (by decide)⟩;obtain⟨g,e,⟨mo,mc,mg,e0,hc,hm⟩,h2,h3,h4,h5,h6⟩:=h.prob;have p1:=k.pres (T':=3) (by decide);have p2:=k.pres (T':=232) (by decide);have p3:=k.pres (T':=5) (by decide)
 have p4:=k.pres (T':=97) (by decide);exact⟨g,e,⟨mo,mc,mg,e0,hc,hm.keep p4 p2⟩,h2.pres p2,h3.pres p3,h4.pres p1,h5.pres p1,h6.pres p2⟩
end
theorem SortedM.of {ms:List MoveD}(hn:NdL ms)(h:∀i j,i<j->j<ms.length->¬befS (ms.getD j move0).dst (ms.getD i move0).dst<0):SortedM ms:=by
 unfold SortedM;rw[List.pairwise_iff_getElem];intro i j hi hj hij;have h1:=h i j hij hj;rw[getD_get hi,getD_get hj]at h1;have h2:=befS_anti ms[i].dst ms[j].dst
 have h3:befS ms[i].dst ms[j].dst≠0:=fun e=>by
  have h4:=befS_eq.1 e;have h5:=dst_inj hn (List.getElem_mem hi) (List.getElem_mem hj) h4
  have hnd:ms.Nodup:=by
   unfold NdL at hn;unfold List.Nodup at hn|-;rw[List.pairwise_map]at hn;exact hn.imp fun h e=>h (by rw[e])
  exact List.pairwise_iff_getElem.1 hnd i j hi hj hij h5
 omega
theorem find_c (hms:MovesSeqC){w:World}{pv:Value}{p:ProbD}{L:Nat}(hp:PVal w pv p)(hF:ProbF L p)(h1L:1<=L)(hL:L<=1000)(hls:p.start.length<=1000000)(hlg:p.goal.length<=1000000):
 Calls Tryz.prog 14 #[pv] w fun e w'=>∃v er pl,e=.returned (.tuple #[v,.int .i64 er])/\PlanV w' v pl/\FindE L p er pl/\Bel w.heap.size w w':=by
 have HP:=LH hp;obtain⟨g,mo,mc,wo,wc,so,sc,go,gc,epv,-,-,-,-,-,-⟩:=hp.lit;obtain⟨cs,hcs⟩:∃cs,pv=.agg cs:=⟨_,epv⟩
 clear hp epv;subst hcs
 go_enter Tryz.func14,Tryz.ntmps14
 go_upto_region 1 with fail
 refine name_world ?_;intro W1 hW1;have hk1:W1.heap[w.heap.size]?=some (.cells cs 44):=at_world hW1 ((heap_old _ _ (by simp)).trans (heap_new _ _ rfl));have hk2:=at_world hW1 (b:=w.heap.size+1) (heap_new _ _ (by simp));have hBW:Bel w.heap.size w W1:=by rw[hW1];exact Bel.new.alloc (by simp) _
 have HBW:=LH hBW;have HK1:=LH hk1;have HK2:=LH hk2;have hl1:=BlkT.lt ⟨_,_,hk1⟩;have hl2:=BlkT.lt ⟨_,_,hk2⟩;clear hW1 hBW hk1 hk2
 go_wp2_with (refine wpList_load_P (.tmp 1) rfl _ rfl HP.out HK1.out rfl ?_)
 refine(checkProblem_c (HP.out.bel HBW.out) hF h1L hls hlg).mono ?_;rintro e w2 ⟨rfl,hb2⟩;have HB2:Hid (Bel w.heap.size w w2):=HBW.out.trans (hb2.mono HBW.out.size);have HK12:=LH ((hb2.block _ hl1).trans HK1.out);have HK22:=LH ((hb2.block _ hl2).trans HK2.out);have hz2:=hb2.size;clear hb2 HK1 HK2;obtain⟨s0,s1,s2,s3,s4,s5,e0,e1,e2,e3,e4,e5⟩:=row6 HK22.out
 cases hpr:probB p
 .rw[show ckProb p=2 by unfold ckProb;rw[hpr];rfl];have HPR:=LH hpr;clear hpr;go_wp2;exact post_ct rfl rfl rfl (loadPl (wset6 HK22.out)) ⟨_,2,plan0,rfl,PlanV.zero _,.inl ⟨HPR.out,rfl,rfl⟩,HB2.out.set6 (by omega)⟩
 rw[show ckProb p=0 by unfold ckProb;rw[hpr];rfl]
 go_wp2_with (refine wpList_load_P (.tmp 1) rfl _ rfl HP.out HK12.out rfl ?_)
 refine(search_c hms (HP.out.bel HB2.out) hF h1L hL hpr).mono ?_;rintro e w3 ⟨hse,hb3⟩;have HB3:Hid (Bel w.heap.size w w3):=HB2.out.trans (hb3.mono HB2.out.size);have hl1':=BlkT.lt ⟨_,_,HK12.out⟩;have hl2':=BlkT.lt ⟨_,_,HK22.out⟩;have HK13:=LH ((hb3.block _ hl1').trans HK12.out);have HK23:=LH ((hb3.block _ hl2').trans HK22.out);have hz3:=hb3.size;clear hb3 HK12 HK22 s0 s1 s2 s3 s4 s5 e0 e1 e2 e3 e4 e5
 obtain⟨s0,s1,s2,s3,s4,s5,e0,e1,e2,e3,e4,e5⟩:=row6 HK23.out;have HPR:=LH hpr;rcases hse with⟨bD,D,rfl,hmD,hIM,hlen,hQ⟩|⟨rfl,hmany⟩;rotate_left
 .have HM:=LH hmany;clear hmany hpr;go_wp2;exact post_ct rfl rfl rfl (loadPl (wset6 HK23.out)) ⟨_,5,plan0,rfl,PlanV.zero _,.inr (.inl ⟨HPR.out,HM.out,rfl,rfl⟩),HB3.out.set6 (by omega)⟩
 have HS3:Hid (FD w w3 p cs w.heap.size (w.heap.size+1) bD D):=⟨HB3.out,HK13.out,HP.out.bel HB3.out,HK23.out,hmD⟩
 have HI:=LH hIM;have HQD:=LH hQ;have hbD:=hmD.lt;clear hmD hIM hQ hpr s0 s1 s2 s3 s4 s5 e0 e1 e2 e3 e4 e5 HP HBW
 go_upto_region 8 with fail
 refine name_world ?_;intro W4 hW4;have hb4:Bel w3.heap.size w3 W4:=by rw[hW4];exact(Bel.refl _ _).alloc NL _
 have HS4:=LH (HS3.out.call hb4);have HK7:=LH (at_world hW4 (b:=w3.heap.size) (heap_new _ _ rfl));have hz4:w3.heap.size<W4.heap.size:=by rw[hW4];simp
 clear hW4 hb4 HS3 HK13 HK23 HB3 HB2;have h72:w.heap.size+1≠w3.heap.size:=by omega
 have h70:w.heap.size<=w3.heap.size:=by omega
 generalize hB7:w3.heap.size=B7 at *
 go_wp2_with (at_range;refine wpList_range_g _ rfl _ 151 158 rfl Tryz.underlying151 rfl HS4.out.done (fun w' v e hb he=>he.bel hb) ?_;intro w5 hrg hb5 hz5)
 go_frame
 have HS5:=LH (HS4.out.call hb5);have HK75:=LH ((hb5.block _ hz4).trans HK7.out);have HRG:=LH hrg;have hD4:=HS4.out.done.lt;have hsz:=hb5.size;clear hrg hb5 hz5 HS4 HK7;obtain⟨r,hr⟩:∃r,r=W4.heap.size:=⟨_,rfl⟩
 rw[<-hr]at HRG hz4 hD4 hsz|-;clear hr
 go_loopg [] D.length (fun gg wr=>∃acc v5,FD w wr p cs w.heap.size (w.heap.size+1) bD D/\wr.heap[B7]?=some (.cells #[.bool false,.bool false,.slice none 0 0,.slice none 0 0,.slice none 0 0,v5] 61)/\RangeG MoveV MoveD.dst p.walker.legs.toNat wr bD r D acc/\RowM 158 wr r v5 acc/\gg=D.length-acc.length)
 case atStart=>exact⟨[],_,HS5.out,HK75.out,HRG.out,RowM.nil _ _ _,rfl⟩
 case round=>
  obtain⟨acc,v5,hfd,hk7,hrg,hrow,hgg⟩:=hrel;have HS:=LH hfd;have HK:=LH hk7;have HROW:=LH hrow;have hfew:=hrg.few;have hrl:=hrg.lt.1;have hl7:=BlkT.lt ⟨_,_,hk7⟩;have hbl:=hfd.bel.size;obtain⟨t0,t1,t2,t3,t4,t5,-,-,-,-,-,-⟩:=row6 hk7;clear hfd hk7 hrow HS5 HK75 HRG
  go_wp2_with (first
   |(at_next;refine wpList_next_m rfl _ rfl rfl hrg (fun hperm=>?_) (fun kv e ph ho hl hc x a1 q c k w6 he hmv hrg6 hst6 hsz6 hen=>row6_then (hst6.cells _ _ _ _ HK.out) (fun y5 z5 l5 hk76=>?_)))
   |(at_builtin;refine wpList_app5 rfl (.tmp 34) (.tmp 36) rfl Tryz.underlying59 infoMark (by decide) rfl (HROW.out.keep ((hst6.pres _).trans ((Pres.alloc _ _).trans (Pres.alloc _ _))) ((hst6.pres _).trans ((Pres.alloc _ _).trans (Pres.alloc _ _))) ((hst6.pres _).trans ((Pres.alloc _ _).trans (Pres.alloc _ _)))) rfl ⟨_,heap_new _ _ (by simp)⟩ (hmv.pres ((Pres.alloc _ _).trans (Pres.alloc _ _)) ((Pres.alloc _ _).trans (Pres.alloc _ _))) (by omega) (by simp;omega) (fun g5 c5' w7 hrow7 hkp7 hb7=>row6_then (((hkp7.pres (by decide)).trans' ((Pres.alloc _ _).trans (Pres.alloc _ _))) _ _ _ hk76) (fun y7 z7 l7 hk77=>?_))))
  .clear hrg;have hpl:=hperm.length_eq;have hlen':acc.length<=5000:=by omega
   have hna:acc≠[]:=by
    obtain⟨m,hm,-⟩:=HI.out.start;exact List.ne_nil_of_mem (hperm.mem_iff.2 hm)
   have hfa:∀m∈acc,Fine p m.dst:=fun m hm=>((HI.out.reach m (hperm.mem_iff.1 hm)).fine HPR.out).1;have HFA:=LH hfa;have HPM:=LH hperm;clear hpl hgg hfa hperm hfew t0 t1 t2 t3 t4 t5;refine(sortM_c HROW.out hna (by omega) (fun m hm=>Nat.le_trans (HFA.out m hm).len.1 (by omega))).mono ?_;rintro e w6 ⟨rfl,ms,hpm,hso,hrow6,hkp6,hb6⟩;obtain⟨ao,cap,f,rfl,hcap,hma⟩:=hrow6.marks;have HS6:=LH (HS.out.kp hkp6 (hb6.mono (by omega)))
   have HK6:=LH (hkp6.pres (by decide) _ _ _ HK.out);have HMA:=LH hma;have HPD:Hid (ms.Perm D):=hpm.symm.trans HPM.out;have HSO:Hid (SortedM ms):=SortedM.of (HI.out.of_perm' HPD.out).nodup hso;have HFM:Hid (∀m∈ms,Fine p m.dst):=fun m hm=>HFA.out m (hpm.symm.mem_iff.1 hm);have hml:ms.length<=5000:=by rw[<-hpm.length_eq];exact hlen'
   have hmn:ms≠[]:=fun e=>hna (by rw[e]at hpm;exact List.perm_nil.1 hpm);have hz6:=hkp6.1;have hl76:=BlkT.lt ⟨_,_,HK6.out⟩;clear hpm hso hrow6 hkp6 hb6 hma HROW HS HK HFA HPM hna hlen';obtain⟨t0,t1,t2,t3,t4,t5,-,-,-,-,-,-⟩:=row6 HK6.out
   go_wp2_with (go_at_call 66;refine(cloneM_c HMA.out (by omega)).mono ?_;rintro e w7 ⟨v7,rfl,hrow7,hb7⟩)
   have HS7:=LH (HS6.out.call hb7);have HPRED:=LH (find2_c (ms:=ms) HS7.out.prob HS7.out.b1 hF HFM.out);refine(deleteM_c hrow7 hmn HPRED.out (by omega)).mono ?_;rintro e w8 ⟨⟨v8,rfl,hmv8⟩,hkp8,hb8⟩;have hb68:Bel w6.heap.size w6 w8:=hb7.trans hb8;have HS8:=LH (HS7.out.kp hkp8 (hb8.mono HS6.out.bel.size));have HK8:=LH ((hb68.block _ hl76).trans HK6.out);have HMA8:=LH (HMA.out.bel hb68)
   obtain⟨gs,hgs⟩:∃gs,gs=goalsL p ms:=⟨_,rfl⟩
   have e9:(ms.filter fun m=>!!goalB p m.dst)=gs:=by rw[hgs];unfold goalsL;simp only[Bool.not_not]
   rw[e9]at hmv8;have HGS:=LH hgs;have HMV8:=LH hmv8;have hgm:∀m∈gs,m∈ms:=fun m hm=>by rw[hgs]at hm;exact(List.mem_filter.1 hm).1
   have HGM:=LH hgm;have hgl:gs.length<=5000:=by rw[hgs];exact Nat.le_trans (List.length_filter_le _ _) hml
   have HQG:Hid (∀i,i<gs.length->QF ((20*L+21)*5001) (gs.getD i move0).cost):=fun i hi=>HQD.out _ (HPD.out.mem_iff.1 (hgm _ (by rw[getD_get hi];exact List.getElem_mem hi)));have hz8:=hb68.size;clear hb7 hb8 hkp8 hrow7 HS6 HK6 HMA HS7 HPRED hb68 hmv8 e9 hgs hgm t0 t1 t2 t3 t4 t5
   go_wp2_with fail
   refine(findFirst_c HMV8.out HQG.out (by omega) (by omega)).mono ?_;rintro e w9 ⟨rfl,hb9⟩;have HS9:=LH (HS8.out.call hb9);have hl78:=BlkT.lt ⟨_,_,HK8.out⟩;have HK9:=LH ((hb9.block _ hl78).trans HK8.out);have HMA9:=LH (HMA8.out.bel hb9);have hmv9:=MarksV.pres HMV8.out hb9.pb hb9.pb hb9.pb;have HIM:Hid (IsMarks p ms):=HI.out.of_perm' HPD.out
   have HQM:Hid (∀m∈ms,QF ((20*L+21)*5001) m.cost):=fun m hm=>HQD.out m (HPD.out.mem_iff.1 hm);clear HS8 HK8 HMA8 HMV8 hb9;obtain⟨t0,t1,t2,t3,t4,t5,y0,y1,y2,y3,y4,y5⟩:=row6 HK9.out
   by_cases hg0:gs=[]
   .rw[show firstI gs=-1 by rw[hg0];rfl];obtain⟨s0,s1,s2,s3,s4,s5,e0,e1,e2,e3,e4,e5⟩:=row6 HS9.out.b2;go_wp2;have hps:∀T,T≠61->Pres T w9 ((((((w9.setCell ⟨w.heap.size+1,0,none⟩ (.bool false)).setCell ⟨w.heap.size+1,1,none⟩ (.bool false)).setCell ⟨w.heap.size+1,2,none⟩ (.slice none 0 0)).setCell ⟨w.heap.size+1,3,none⟩ (.slice none 0 0)).setCell ⟨w.heap.size+1,4,none⟩ (.slice none 0 0)).setCell ⟨w.heap.size+1,5,none⟩ (.slice ao ms.length cap)):=fun T hT=>Pres.set6 ⟨_,_,HS9.out.b2⟩ hT _ _ _ _ _ _
    exact post_ct rfl rfl rfl (loadPl (wset6 HS9.out.b2)) ⟨_,0,⟨false,0,[],ms⟩,rfl,⟨_,_,_,_,_,_,_,rfl,QV.zero _,StatesV.nil _,ao,cap,f,rfl,hcap,HMA9.out.pres (hps _ (by decide)) (hps _ (by decide)) (hps _ (by decide))⟩,.inr (.inr ⟨HPR.out,rfl,⟨HIM.out,HSO.out,hml,HQM.out,Nat.zero_le _,.inl ⟨by rw[<-HGS.out];exact hg0,rfl,rfl,rfl⟩⟩⟩),HS9.out.bel.set6 (by omega)⟩
   .obtain⟨k,hk,hfk,-⟩:=firstI_in hg0;rw[hfk];have HFK:=LH hfk;obtain⟨gao,gcap,gf,rfl,hgc,hgma⟩:=hmv9;obtain⟨gb,go',rfl,hgb,ph,ho,hl,hc,x,a1,q1,c1,k1,f0,f1,f2,f3,f4,hgmv⟩:=hgma.el hk;have HGV:=LH hgmv;have hgin:gs.getD k move0∈gs:=by rw[getD_get hk];exact List.getElem_mem hk
    have hgB:gb≠B7:=fun e=>by
     obtain⟨b,off,cur,fr,e1,hb,-⟩:=hgma.cells (by omega)
     cases e1
     rw[e,HK9.out]at hb
     cases hb
    clear hgma hgmv hfk hgc
    go_upto_region 17 with fail
    go_cut []from 52 (fun wx=>wx.heap[B7]?=some (.cells #[.bool true,.bool x,.slice a1 q1 q1,.slice c1 k1 k1,.slice none 0 0,.slice ao ms.length cap] 61)/\w9.grownBy wx (some B7))
    case first=>
     have hl79:=BlkT.lt ⟨_,_,HK9.out⟩;have HG9:Hid (Bel w9.heap.size w9 w9):=Bel.refl _ _;clear f0 f1
     go_region
     go_wp2_with fail
     go_meet
     case rel=>exact⟨(heap_drew _ _).trans (by simp[World.setCell,Array.getElem?_modify,HK9.out]),(fun h=>⟨h.os,h.tape,h.output,h.size,h.block⟩:∀{A:World},w9.grownBy A (some B7)->w9.grownBy A.drew (some B7)) (grown_set4 (Bel.refl _ _))⟩
    case rest=>
     obtain⟨hkc,hgc⟩:=hcut;have hl79:=BlkT.lt ⟨_,_,HK9.out⟩;have hkk:=KpT.of_grown hgc HK9.out;have HSC:=LH (HS9.out.grown hgc HK9.out (by omega) (by omega));have HKC:=LH hkc;have HMC:Hid (MarksAt wc ao ms f):=HMA9.out.pres (hkk.pres (by decide)) (hkk.pres (by decide)) (hkk.pres (by decide));have hbc:=hgc.size;have HGC:=LH (HGV.out.pres (hkk.pres (by decide)) (hkk.pres (by decide)))
     have hg':∀o v,w9.cell? ⟨gb,o,none⟩=some v->wc.cell? ⟨gb,o,none⟩=some v:=fun o v h=>(World.cell?_of_block (hgc.block gb hgb (fun e=>hgB (by cases e;rfl)))).trans h;have g0:=hg' _ _ f0;have g1:=hg' _ _ f1;have g2:=hg' _ _ f2;have g3:=hg' _ _ f3;have g4:=hg' _ _ f4;clear f0 f1 f2 f3 f4 t0 t1 t2 t3 t4 t5 y0 y1 y2 y3 y4 y5 hg' hkk hkc hgc HS9 HK9 HMA9 HGV;have HPOS:Hid (∀m∈D,∀x∈movesL p m.dst,0<x.cost):=fun m hm x hx=>(movesL_ok ((HI.out.reach m hm).fine HPR.out).1 hx).2.2
     go_upto_region 18 with fail
     refine findReg18 hms (m:=gs.getD k move0) _ _ _ _ _ _ _ _ _ _ _ _ _ _ _ _ _ _ _ _ _ _ _ _ _ _ _ _ _ _ _ _ _ _ _ _ _ _ _ _ _ _ _ _ _ _ _ _ _ _ _ _ _ _ _ _ _ _ _ _ _ _ _ _ _ (LH HSC.out.prob) hF h1L hL HPR.out (LH HSC.out.done) HI hlen HQD HPOS HMC hcap HPD (HGM.out _ hgin) HGC hk (LH HSC.out.b1) HKC (by omega) g0 g1 g2 g3 g4 (fun v59 v60 v61 v62 v63 v64 v65 v66 vw lw w1 hst hwb hll hb1=>?_)
     have hl7c:=BlkT.lt ⟨_,_,HKC.out⟩
     obtain⟨wao,wcap,ev⟩:∃a c,vw=.slice a lw.length c:=by
      obtain⟨a,c,wf,e,-⟩:=hst;exact⟨a,c,by rw[e,List.length_reverse]⟩
     subst ev;have hk71:=(hb1.block _ hl7c).trans HKC.out;have hgr:=grown_set1 (w:=w1) (w1:=w1) (B:=B7) (o:=4) (a:=.slice wao lw.length wcap) (Bel.refl _ _);have hkk:=KpT.of_grown hgr hk71;have HSW:=LH ((HSC.out.call hb1).grown hgr hk71 (by omega) (by omega));have HK7w:Hid ((w1.setCell ⟨B7,4,none⟩ (.slice wao lw.length wcap)).heap[B7]?=some (.cells #[.bool true,.bool x,.slice a1 q1 q1,.slice c1 k1 k1,.slice wao lw.length wcap,.slice ao ms.length cap] 61)):=by show _=_;simp[World.setCell,Array.getElem?_modify,hk71]
     have HWS:Hid (StatesV (w1.setCell ⟨B7,4,none⟩ (.slice wao lw.length wcap)) (.slice wao lw.length wcap) lw.reverse):=hst.pres (hkk.pres (by decide)) (hkk.pres (by decide));have HMW:Hid (MarksAt (w1.setCell ⟨B7,4,none⟩ (.slice wao lw.length wcap)) ao ms f):=(HMC.out.bel hb1).pres (hkk.pres (by decide)) (hkk.pres (by decide)) (hkk.pres (by decide));have HQW:Hid (QV (w1.setCell ⟨B7,4,none⟩ (.slice wao lw.length wcap)) (.agg #[.bool x,.slice a1 q1 q1,.slice c1 k1 k1]) (gs.getD k move0).cost):=(HGC.out.qv.2.2.pres hb1.pb).pres (hkk.pres (by decide))
     have HWB:=LH hwb;generalize w1.setCell ⟨B7,4,none⟩ (.slice wao lw.length wcap)=wz at *;clear hk71 hgr hkk hb1 hst hwb g0 g1 g2 g3 g4 HSC HKC HMC HGC;obtain⟨t0,t1,t2,t3,t4,t5,-,-,-,-,-,-⟩:=row6 HK7w.out;obtain⟨s0,s1,s2,s3,s4,s5,e0,e1,e2,e3,e4,e5⟩:=row6 HSW.out.b2;go_wp2;have hps:∀T,T≠61->Pres T wz ((((((wz.setCell ⟨w.heap.size+1,0,none⟩ (.bool true)).setCell ⟨w.heap.size+1,1,none⟩ (.bool x)).setCell ⟨w.heap.size+1,2,none⟩ (.slice a1 q1 q1)).setCell ⟨w.heap.size+1,3,none⟩ (.slice c1 k1 k1)).setCell ⟨w.heap.size+1,4,none⟩ (.slice wao lw.length wcap)).setCell ⟨w.heap.size+1,5,none⟩ (.slice ao ms.length cap)):=fun T hT=>Pres.set6 ⟨_,_,HSW.out.b2⟩ hT _ _ _ _ _ _
     exact post_ct rfl rfl rfl (loadPl (wset6 HSW.out.b2)) ⟨_,0,⟨true,(gs.getD k move0).cost,lw.reverse,ms⟩,rfl,⟨_,_,_,_,_,_,_,rfl,HQW.out.pres (hps _ (by decide)),HWS.out.pres (hps _ (by decide)) (hps _ (by decide)),ao,cap,f,rfl,hcap,HMW.out.pres (hps _ (by decide)) (hps _ (by decide)) (hps _ (by decide))⟩,
      .inr (.inr ⟨HPR.out,rfl,⟨HIM.out,HSO.out,hml,HQM.out,by simp;omega,.inr ⟨gs.getD k move0,by rw[<-HGS.out];exact hgin,by show _=(goalsL p ms).getD (firstI (goalsL p ms)).toNat move0;rw[<-HGS.out,HFK.out];rfl,rfl,rfl,by rw[List.reverse_reverse];exact HWB.out⟩⟩⟩),HSW.out.bel.set6 (by omega)⟩
  .go_roundg (D.length-(acc.length+1))
   case rel=>
    have hbA:Bel w6.heap.size w6 ((w6.alloc (.cells #[.int .i64 ph,.slice ho hl hc,.bool x,.slice a1 q q,.slice c k k] 158)).alloc (.cells #[.int .i64 ph,.slice ho hl hc,.bool x,.slice a1 q q,.slice c k k] 158)):=Bel.new.alloc (by simp) _;have hgr:=grown_set1 (w:=w7) (w1:=w7) (B:=B7) (o:=5) (a:=.slice (some ⟨g5,0,none⟩) (acc.length+1) c5') (Bel.refl _ _);have hkk:=KpT.of_grown hgr hk77
    exact⟨acc++[e],.slice (some ⟨g5,0,none⟩) (acc.length+1) c5',(((HS.out.st hst6 (by omega) (by omega)).call hbA).kp hkp7 (hb7.mono (by omega))).grown hgr hk77 (by omega) (by omega),by simp[World.setCell,Array.getElem?_modify,hk77],((hrg6.kp (T:=158) (KpT.of_bel hbA) (by decide)).kp hkp7 (by decide)).kp hkk (by decide),by simpa using hrow7.keep (hkk.pres (by decide)) (hkk.pres (by decide)) (hkk.pres (by decide)),by simp⟩
   case measure=>(have:=hrg6.few;simp at this;omega)
end
def okOrd (p:ProbD):List MoveD->List MoveD->Bool
 |_,[]=>true
 |acc,m::r=>((decide (m.dst=⟨0,p.start⟩) && decide (m.cost=0))||acc.any (fromB p m.dst m.cost)) && okOrd p (m::acc) r
theorem okOrd_reach {p:ProbD}:∀{r acc:List MoveD},okOrd p acc r=true->(∀a∈acc,Reach p a.dst a.cost)->∀m∈r,Reach p m.dst m.cost
 |[],_,_,_,m,hm=>by cases hm
 |x::r,acc,h,ha,m,hm=>by
  unfold okOrd at h;simp only[Bool.and_eq_true,Bool.or_eq_true,decide_eq_true_eq,List.any_eq_true]at h
  have hx:Reach p x.dst x.cost:=by
   rcases h.1 with⟨h1,h2⟩|⟨a,h1,h2⟩
   .rw[h1,h2];exact .start
   .unfold fromB at h2;rw[List.any_eq_true]at h2;obtain⟨y,hy,h3⟩:=h2;simp only[Bool.and_eq_true,decide_eq_true_eq]at h3;have:=Reach.step (ha a h1) hy;rw[h3.1,h3.2]at this;exact this
  rcases List.mem_cons.1 hm with rfl|hm
  .exact hx
  .exact okOrd_reach h.2 (fun a ha'=>by
    rcases List.mem_cons.1 ha' with rfl|h'
    .exact hx
    .exact ha a h') m hm
def sortedB:List MoveD->Bool
 |[]=>true
 |[_]=>true
 |a::b::r=>decide (befS a.dst b.dst<0) && sortedB (b::r)
theorem sortedB_head:∀{l:List MoveD} {a:MoveD},sortedB (a::l)=true->∀b∈l,befS a.dst b.dst<0
 |[],_,_,b,hb=>by cases hb
 |x::l,a,h,b,hb=>by
  unfold sortedB at h;simp only[Bool.and_eq_true,decide_eq_true_eq]at h;rcases List.mem_cons.1 hb with rfl|hb
  .exact h.1
  .exact befS_trans h.1 (sortedB_head h.2 b hb)
theorem sortedB_tail:∀{l:List MoveD} {a:MoveD},sortedB (a::l)=true->sortedB l=true
 |[],_,_=>rfl
 |_::_,_,h=>by
  unfold sortedB at h;simp only[Bool.and_eq_true,decide_eq_true_eq]at h;exact h.2
theorem sortedB_is:∀{l:List MoveD},sortedB l=true->SortedM l
 |[],_=>List.Pairwise.nil
 |_::_,h=>List.Pairwise.cons (sortedB_head h) (sortedB_is (sortedB_tail h))
theorem SortedM.nodup {l:List MoveD}(h:SortedM l):(l.map (·.dst)).Nodup:=by
 unfold List.Nodup;rw[List.pairwise_map];exact h.imp fun h e=>by rw[befS_eq.2 e]at h;omega
def okMarks (p:ProbD)(ms ord:List MoveD):Bool:=
 okOrd p [] ord && (ms.all (fun m=>ord.any fun a=>decide (a.dst=m.dst) && decide (a.cost=m.cost)) && ((ms.any fun m=>decide (m.dst=⟨0,p.start⟩) && decide (m.cost=0)) &&
  (ms.all (fun m=>(movesL p m.dst).all fun x=>ms.any fun m'=>decide (m'.dst=x.dst) && decide (m'.cost<=m.cost+x.cost)) && sortedB ms)))
theorem okMarks_is {p:ProbD}{ms ord:List MoveD}(h:okMarks p ms ord=true):IsMarks p ms/\SortedM ms:=by
 unfold okMarks at h;simp only[Bool.and_eq_true]at h;obtain⟨h1,h2,h3,h4,h5⟩:=h;have hs:=sortedB_is h5;have hr:=okOrd_reach h1 (fun a ha=>by cases ha);refine⟨⟨hs.nodup,fun m hm=>?_,?_,fun m hm x hx=>?_⟩,hs⟩
 .have:=List.all_eq_true.1 h2 m hm;simp only[List.any_eq_true,Bool.and_eq_true,decide_eq_true_eq]at this;obtain⟨a,ha,e1,e2⟩:=this;rw[<-e1,<-e2];exact hr a ha
 .simp only[List.any_eq_true,Bool.and_eq_true,decide_eq_true_eq]at h3;obtain⟨m,hm,e1,e2⟩:=h3;exact⟨m,hm,e1,by rw[e2];exact Rat.le_refl⟩
 .have:=List.all_eq_true.1 (List.all_eq_true.1 h4 m hm) x hx;simp only[List.any_eq_true,Bool.and_eq_true,decide_eq_true_eq]at this;exact this
def wayN (p:ProbD)(ms:List MoveD):Nat->StateD->Rat->Option (List StateD)
 |0,_,_=>none
 |n+1,s,c=>if 0<c then(match prevL p ms s c with|some a=>(wayN p ms n a.dst a.cost).map (s:: ·)|none=>none) else some [s]
theorem wayN_B {p:ProbD}{ms:List MoveD}:∀{n:Nat} {s:StateD} {c:Rat} {l:List StateD},wayN p ms n s c=some l->WayB p ms s c l
 |0,_,_,_,h=>by cases h
 |n+1,s,c,l,h=>by
  unfold wayN at h;split at h
  .rename_i hc
   split at h
   .rename_i a ha
    cases hw:wayN p ms n a.dst a.cost with
    |none=>rw[hw]at h;cases h
    |some l'=>
     rw[hw]at h
     cases h
     exact .step hc ha (wayN_B hw)
   .cases h
  .rename_i hc
   cases h
   exact .base hc
def exH (x:Rat):HoldD:=⟨x,0,0,0⟩
def exP:ProbD:=⟨[exH 0,exH 1,exH 2,exH 3],⟨2,2,0,0,1,0,1,0,1⟩,[3,1,3,2],[0,1],[],2⟩
section
open Go.Maps (Keyed)
theorem upon_look_ok {ε:Type}{Ok:World->Value->ε->Prop}{ky:ε->StateD}{n b:Nat}{l:List ε}{s:StateD}{w:World}{o:Oper}{a:Act}{Q:Exit->Act->World->Prop}{E t:TypeId}{z key:Value}{next:Act->World->Prop}{f:Value->World->Result Next}
 (hf:∀v w',f v w'=.ok (.value v) w') (h:MapG Ok ky n w b l) (ht:Tryz.prog.underlying t=some (.map 156 E)) (hz:(zeroValue E).run Tryz.prog w=.ok z w) (hs:SOk n s) (hx:key=keyV s)
 (hY:∀v e,e∈l->ky e=s->Ok w v e->next (a.put o.dst (.tuple #[v,.bool true])) w) (hN:(∀e∈l,ky e≠s)->next (a.put o.dst (.tuple #[z,.bool false])) w):Oper.upon Tryz.prog o a next Q (((Instr.lookup t (.map (some b)) key true).run Tryz.prog w).andThen f):=by
 have hlook:=h.look ht hz hs hx;clear ht hz;rcases hlook with⟨v,he,hr,-⟩|⟨he,hr,-⟩
 .obtain⟨e,he,hes,ho⟩:=he;rw[hr,Result.andThen_ok,hf _ w];exact hY v e he hes ho
 .rw[hr,Result.andThen_ok,hf _ w];exact hN he
theorem i64_wrap_nat (n:Nat)(h:n<9223372036854775808):IntKind.i64.wrap (n:Int)=(n:Int):=by
 have e:(n:Int)%2^64=n:=Int.emod_eq_of_lt (by omega) (by omega);simp only[IntKind.wrap,IntKind.bits,IntKind.signed,e];rw[if_neg];simp;omega
def CostV (w:World)(v:Value)(e:MoveD):Prop:=QV w v e.cost
abbrev MapQ (n:Nat) (w:World) (b:Nat) (l:List MoveD):Prop:=MapG CostV MoveD.dst n w b l
theorem CostV.pres {w w':World}{v:Value}{e:MoveD}(h:CostV w v e)(k:Pres 232 w w'):CostV w' v e:=QV.pres h k
theorem costTrn {b:Nat}{w w':World}{v:Value}{e:MoveD}(h:Trn b w w')(ho:CostV w v e):CostV w' v e:=ho.pres (h.pres _)
theorem MapQ.bel {n:Nat}{w w':World}{b:Nat}{l:List MoveD}(h:MapQ n w b l)(hb:Bel w.heap.size w w'):MapQ n w' b l:=
 h.heap (hb.block _ h.lt) fun _v _e he=>he.pres hb.pb
theorem Reach.poss {p:ProbD}(h:probB p=true){s:StateD}{c:Rat}(hr:Reach p s c):possibleB p s=true:=by
 obtain⟨h1,h2,-⟩:=hr.fine h;unfold possibleB;simp[h1.lo,h1.hi,h1.holds,h2]
noncomputable def clReg5:Code:=((Tryz.f91.body.bind (regionOf 5)).getD .skip)
noncomputable def clReg7:Code:=((Tryz.f91.body.bind (regionOf 7)).getD .skip)
noncomputable def clReg9:Code:=((Tryz.f91.body.bind (regionOf 9)).getD .skip)
noncomputable def clReg17:Code:=((Tryz.f91.body.bind (regionOf 17)).getD .skip)
noncomputable def clReg18:Code:=((Tryz.f91.body.bind (regionOf 18)).getD .skip)
theorem clReg5_0 {W8:World}{p:ProbD}{L B2 B7:Nat}{m:MoveD}{cs:Array Value}{K:Act->World->Prop}{Q0:Exit->Act->World->Prop}{ds:List Deferred}{ph:Int}{ho:Option Addr}{hl hc:Nat}{x:Bool}{a1:Option Addr}{q1:Nat}{c1:Option Addr}{k1:Nat}
 (u0 u1 u3 u4 u5 u8 u9 u10 u11 u12 u13 u14 u15 u16 u17 u18 u19 u20 u21 u22 u23 u24 u25 u26 u27 u28 u29 u30 u31 u32 u33 u34 u35 u36 u37 u38 u39 u40 u41 u42 u43 u44 u45 u46 u47 u48 u49 u50 u51 u52 u53 u54 u55 u56 u57 u58 u59 u60 u61 u62 u63 u64 u65 u66 u67 u68 u69 u70 u71 u72 u73 u74 u75 u76 u77 u78 u79 u80 u81 u82 u83 u84 u85 u86 u87 u88 u89 u90 u91 u92 u93 u94 u95 u96 u97 u98 u99 u100 u101 u102 u103 u104:Value)
 (HP:Hid (PVal W8 (.agg cs) p)) (HK2:Hid (W8.heap[B2]?=some (.cells cs 44))) (HK7:Hid (W8.heap[B7]?=some (.cells #[.int .i64 ph,.slice ho hl hc,.bool x,.slice a1 q1 q1,.slice c1 k1 k1] 158))) (HM:Hid (MoveV W8 (.agg #[.int .i64 ph,.slice ho hl hc,.bool x,.slice a1 q1 q1,.slice c1 k1 k1]) m))
 (hF:ProbF L p) (h1L:1<=L) (hw:worldB p=true) (hps:possibleB p m.dst=true) (hh:m.dst.holds.length<=1000000) (hc0:¬m.cost<0)
 (hK:∀(v23 v24 v25 v26 v27 v28 v29 v30 v31 v32 v33 v34 v35 v36 v37 v38 v39 v40 v41 v42 v43 v44 v45 v46 v47 v48:Value) (wx:World),Bel W8.heap.size W8 wx->K {tmps:=#[u0,u1,.pointer (some ⟨B2,0,none⟩),u3,u4,u5,.int .i64 0,.pointer (some ⟨B7,0,none⟩),u8,u9,u10,u11,u12,u13,u14,u15,u16,u17,u18,u19,u20,u21,u22,v23,v24,v25,v26,v27,v28,v29,v30,v31,v32,v33,v34,v35,v36,v37,v38,v39,v40,v41,v42,v43,v44,v45,v46,v47,v48,.bool false,u50,u51,u52,u53,u54,u55,u56,u57,u58,u59,u60,u61,u62,u63,u64,u65,u66,u67,u68,u69,u70,u71,u72,u73,u74,u75,u76,u77,u78,u79,u80,u81,u82,u83,u84,u85,u86,u87,u88,u89,u90,u91,u92,u93,u94,u95,u96,u97,u98,u99,u100,u101,u102,u103,u104],defers:=ds} wx):
 Code.wp Tryz.prog clReg5 (Exit.then K Q0) {tmps:=#[u0,u1,.pointer (some ⟨B2,0,none⟩),u3,u4,u5,.int .i64 0,.pointer (some ⟨B7,0,none⟩),u8,u9,u10,u11,u12,u13,u14,u15,u16,u17,u18,u19,u20,u21,u22,u23,u24,u25,u26,u27,u28,u29,u30,u31,u32,u33,u34,u35,u36,u37,u38,u39,u40,u41,u42,u43,u44,u45,u46,u47,u48,u49,u50,u51,u52,u53,u54,u55,u56,u57,u58,u59,u60,u61,u62,u63,u64,u65,u66,u67,u68,u69,u70,u71,u72,u73,u74,u75,u76,u77,u78,u79,u80,u81,u82,u83,u84,u85,u86,u87,u88,u89,u90,u91,u92,u93,u94,u95,u96,u97,u98,u99,u100,u101,u102,u103,u104],defers:=ds} W8:=by
 obtain⟨r0,r1,r2,r3,r4⟩:=row5 HK7.out;have l2:=BlkT.lt ⟨_,_,HK2.out⟩;have l7:=BlkT.lt ⟨_,_,HK7.out⟩;obtain⟨w,hw⟩:∃w:World,w=W8:=⟨_,rfl⟩
 have hst:SHs w W8 W8.heap.size W8:=by rw[hw];exact SHs.start NL NL (Bel.refl _ _)
 clear hw
 conv=>arg 2;whnf
 refine wp_region_noPanic ?_;refine wp_region_K (S:=(fun w'=>(∀(b o:Nat),b<W8.heap.size->w'.cell? ⟨b,o,none⟩=W8.cell? ⟨b,o,none⟩)/\SHs w W8 (W8.heap.size) w')) (k:=26) (by kernel_rfl) ?_ (fun hHeld=>?_)
 . ((try dsimp only);(exact K2s))
 refine TK 0 [21,20,14,13,2,1] ?_;refine TK 1 [21,20,14,13,2] ?_;refine TK 2 [21,20,14,13] ?_;refine TX 3 [21,20,14,11,8,7,6] ?_;refine TX 4 [21,20,14,11,8,7,6,5] ?_;refine TX 5 [21,20,14,11,8,7,6] ?_;refine TX 6 [21,20,14,11,8,7] ?_;refine TX 7 [21,20,14,11,8] ?_;refine TX 8 [21,20,14,11] ?_;refine TX 9 [21,20,14,11,10] ?_;refine TX 10 [21,20,14,11] ?_;refine TX 11 [21,20,14] ?_;refine TX 12 [21,20,14,13] ?_
 refine TK 13 [21,20,14] ?_;refine TK 14 [21,20] ?_;refine TK 15 [21,18] (v:=.agg cs) ?_ (hy:=fun w hSw=>yields_load_P rfl rfl HP.out ((hSw.2.near.block _ l2).trans HK2.out));refine TK 16 [21,18,17] ?_;refine TK 17 [21,18] ?_;refine KRs [18] ?_;refine KCs (fun K hK=>?_) ?_
 .go_simp;refine(worldPoss_c (HP.out.bel hHeld.2.near) (HM.out.stateV.pres hHeld.2.near.pb) hF h1L hw hh).mono ?_;rintro e w21 ⟨rfl,hb2⟩;have hy2:=hb2.size
  (try simp at hy2)
  rw[hps]
  (try go_wp2_with fail)
  refine SA hK (hHeld.2.call hb2).hold fun hHeld=>?_;clear hK K
  refine TK 19 [21,20] ?_;refine TK 20 [21] ?_;refine TK 21 [] ?_;refine TK 22 [25,24,23] ?_;refine TK 23 [25,24] ?_;refine KRs [24] ?_;refine KCs (fun K hK=>?_) ?_
  .go_simp;refine(sign_c (HM.out.qv.2.2.pres hHeld.2.near.pb)).mono ?_;rintro e w22 ⟨rfl,hb3⟩;have hy3:=hb3.size
   (try simp at hy3)
   obtain⟨z2,hz2,hz20⟩:∃z,z=ratSign m.cost/\¬z<0:=⟨_,rfl,fun h=>hc0 (ratSign_neg.1 h)⟩
   rw[<-hz2];have hd3:decide (z2<0)=false:=decide_eq_false hz20;clear hz2
   (try go_wp2_with fail)
   refine SA hK (hHeld.2.call hb3).hold fun hHeld=>?_;clear hK K
   refine TK 25 [] ?_;refine KRs [26] ?_;refine KCs (fun K hK=>?_) ?_
   .go_simp;refine SE hK ?_;clear hK K
    refine wpAnyK_done (by kernel_rfl) ?_ _;refine NoPanic.normal ?_;exact hK _ _ _ _ _ _ _ _ _ _ _ _ _ _ _ _ _ _ _ _ _ _ _ _ _ _ _ hHeld.2.near
   exact KNs
  exact KNs
 exact KNs
theorem clReg5_s {W8:World}{p:ProbD}{L B2 B7:Nat}{m:MoveD}{cs:Array Value}{K:Act->World->Prop}{Q0:Exit->Act->World->Prop}{ds:List Deferred}{ph:Int}{ho:Option Addr}{hl hc:Nat}{x:Bool}{a1:Option Addr}{q1:Nat}{c1:Option Addr}{k1:Nat}{bl o nn cap j:Nat}{s':StateD}{phj:Int}{hoj:Option Addr}{hlj hcj:Nat}
 (u0 u3 u4 u5 u8 u9 u10 u11 u12 u13 u14 u15 u16 u17 u18 u19 u20 u21 u22 u23 u24 u25 u26 u27 u28 u29 u30 u31 u32 u33 u34 u35 u36 u37 u38 u39 u40 u41 u42 u43 u44 u45 u46 u47 u48 u49 u50 u51 u52 u53 u54 u55 u56 u57 u58 u59 u60 u61 u62 u63 u64 u65 u66 u67 u68 u69 u70 u71 u72 u73 u74 u75 u76 u77 u78 u79 u80 u81 u82 u83 u84 u85 u86 u87 u88 u89 u90 u91 u92 u93 u94 u95 u96 u97 u98 u99 u100 u101 u102 u103 u104:Value)
 (HP:Hid (PVal W8 (.agg cs) p)) (HK2:Hid (W8.heap[B2]?=some (.cells cs 44))) (HK7:Hid (W8.heap[B7]?=some (.cells #[.int .i64 ph,.slice ho hl hc,.bool x,.slice a1 q1 q1,.slice c1 k1 k1] 158))) (HM:Hid (MoveV W8 (.agg #[.int .i64 ph,.slice ho hl hc,.bool x,.slice a1 q1 q1,.slice c1 k1 k1]) m))
 (hF:ProbF L p) (h1L:1<=L) (hw:worldB p=true) (hps:possibleB p m.dst=true) (hh:m.dst.holds.length<=1000000) (hc0:¬m.cost<0)
 (hj:j<nn) (hj2:j<1000000) (f0:W8.cell? ⟨bl,o+j*5,none⟩=some (.int .i64 phj)) (f1:W8.cell? ⟨bl,o+j*5+1,none⟩=some (.slice hoj hlj hcj)) (HJ:Hid (StateV W8 (.agg #[.int .i64 phj,.slice hoj hlj hcj]) s')) (hlj':s'.holds.length<=1000000) (hbl:bl<W8.heap.size) (hbf:befS s' m.dst<0)
 (hK:∀(v23 v24 v25 v26 v27 v28 v29 v30 v31 v32 v33 v34 v35 v36 v37 v38 v39 v40 v41 v42 v43 v44 v45 v46 v47 v48:Value) (wx:World),Bel W8.heap.size W8 wx->K {tmps:=#[u0,.slice (some ⟨bl,o,none⟩) nn cap,.pointer (some ⟨B2,0,none⟩),u3,u4,u5,.int .i64 ((j+1:Nat):Int),.pointer (some ⟨B7,0,none⟩),u8,u9,u10,u11,u12,u13,u14,u15,u16,u17,u18,u19,u20,u21,u22,v23,v24,v25,v26,v27,v28,v29,v30,v31,v32,v33,v34,v35,v36,v37,v38,v39,v40,v41,v42,v43,v44,v45,v46,v47,v48,.bool false,u50,u51,u52,u53,u54,u55,u56,u57,u58,u59,u60,u61,u62,u63,u64,u65,u66,u67,u68,u69,u70,u71,u72,u73,u74,u75,u76,u77,u78,u79,u80,u81,u82,u83,u84,u85,u86,u87,u88,u89,u90,u91,u92,u93,u94,u95,u96,u97,u98,u99,u100,u101,u102,u103,u104],defers:=ds} wx):
 Code.wp Tryz.prog clReg5 (Exit.then K Q0) {tmps:=#[u0,.slice (some ⟨bl,o,none⟩) nn cap,.pointer (some ⟨B2,0,none⟩),u3,u4,u5,.int .i64 ((j+1:Nat):Int),.pointer (some ⟨B7,0,none⟩),u8,u9,u10,u11,u12,u13,u14,u15,u16,u17,u18,u19,u20,u21,u22,u23,u24,u25,u26,u27,u28,u29,u30,u31,u32,u33,u34,u35,u36,u37,u38,u39,u40,u41,u42,u43,u44,u45,u46,u47,u48,u49,u50,u51,u52,u53,u54,u55,u56,u57,u58,u59,u60,u61,u62,u63,u64,u65,u66,u67,u68,u69,u70,u71,u72,u73,u74,u75,u76,u77,u78,u79,u80,u81,u82,u83,u84,u85,u86,u87,u88,u89,u90,u91,u92,u93,u94,u95,u96,u97,u98,u99,u100,u101,u102,u103,u104],defers:=ds} W8:=by
 obtain⟨r0,r1,r2,r3,r4⟩:=row5 HK7.out;have l2:=BlkT.lt ⟨_,_,HK2.out⟩;have l7:=BlkT.lt ⟨_,_,HK7.out⟩;have hsub:((j+1:Nat):Int)-1=(j:Nat):=by omega
 have hwr:IntKind.i64.wrap ((j:Nat):Int)=(j:Nat):=i64_wrap_nat j (by omega);have hpj:(0:Int)<((j+1:Nat):Int):=by omega
 have hpd:decide ((0:Int)<((j+1:Nat):Int))=true:=decide_eq_true hpj;obtain⟨w,hw⟩:∃w:World,w=W8:=⟨_,rfl⟩
 have hst:SHs w W8 W8.heap.size W8:=by rw[hw];exact SHs.start NL NL (Bel.refl _ _)
 clear hw
 conv=>arg 2;whnf
 refine wp_region_noPanic ?_;refine wp_region_K (S:=(fun w'=>(∀(b o:Nat),b<W8.heap.size->w'.cell? ⟨b,o,none⟩=W8.cell? ⟨b,o,none⟩)/\SHs w W8 (W8.heap.size) w')) (k:=26) (by kernel_rfl) ?_ (fun hHeld=>?_)
 . ((try dsimp only);(exact K2s))
 refine TK 0 [21,20,14,13,2,1] ?_;refine TK 1 [21,20,14,13,2] ?_;refine TK 2 [21,20,14,13] ?_;refine TK 3 [21,20,14,11,8,7,6] ?_;refine TK 4 [21,20,14,11,8,7,6,5] ?_;refine TK 5 [21,20,14,11,8,7,6] ?_;refine TK 6 [21,20,14,11,8,7] ?_;refine TK 7 [21,20,14,11,8] ?_;refine TK 8 [21,20,14,11] ?_;refine TK 9 [21,20,14,11,10] ?_;refine TK 10 [21,20,14,11] ?_;refine KRs [11] ?_;refine KCs (fun K hK=>?_) ?_
 .go_simp;refine(before_c (HJ.out.pres hHeld.2.near.pb) (HM.out.stateV.pres hHeld.2.near.pb) hlj').mono ?_;rintro e w20 ⟨rfl,hb1⟩;have hy1:=hb1.size
  (try simp at hy1)
  obtain⟨z,hz,hz0⟩:∃z,z=befS s' m.dst/\z<0:=⟨_,rfl,hbf⟩
  rw[<-hz];have hd1:decide (0<=z)=false:=decide_eq_false (by omega);have hd2:decide (z>=0)=false:=decide_eq_false (by omega);clear hz
  (try go_wp2_with fail)
  refine SA hK (hHeld.2.call hb1).hold fun hHeld=>?_;clear hK K
  refine TK 12 [21,20,14,13] ?_;refine TK 13 [21,20,14] ?_;refine TK 14 [21,20] ?_;refine TK 15 [21,18] (v:=.agg cs) ?_ (hy:=fun w hSw=>yields_load_P rfl rfl HP.out ((hSw.2.near.block _ l2).trans HK2.out));refine TK 16 [21,18,17] ?_;refine TK 17 [21,18] ?_;refine KRs [18] ?_;refine KCs (fun K hK=>?_) ?_
  .go_simp;refine(worldPoss_c (HP.out.bel hHeld.2.near) (HM.out.stateV.pres hHeld.2.near.pb) hF h1L hw hh).mono ?_;rintro e w21 ⟨rfl,hb2⟩;have hy2:=hb2.size
   (try simp at hy2)
   rw[hps]
   (try go_wp2_with fail)
   refine SA hK (hHeld.2.call hb2).hold fun hHeld=>?_;clear hK K
   refine TK 19 [21,20] ?_;refine TK 20 [21] ?_;refine TK 21 [] ?_;refine TK 22 [25,24,23] ?_;refine TK 23 [25,24] ?_;refine KRs [24] ?_;refine KCs (fun K hK=>?_) ?_
   .go_simp;refine(sign_c (HM.out.qv.2.2.pres hHeld.2.near.pb)).mono ?_;rintro e w22 ⟨rfl,hb3⟩;have hy3:=hb3.size
    (try simp at hy3)
    obtain⟨z2,hz2,hz20⟩:∃z,z=ratSign m.cost/\¬z<0:=⟨_,rfl,fun h=>hc0 (ratSign_neg.1 h)⟩
    rw[<-hz2];have hd3:decide (z2<0)=false:=decide_eq_false hz20;clear hz2
    (try go_wp2_with fail)
    refine SA hK (hHeld.2.call hb3).hold fun hHeld=>?_;clear hK K
    refine TK 25 [] ?_;refine KRs [26] ?_;refine KCs (fun K hK=>?_) ?_
    .go_simp;refine SE hK ?_;clear hK K
     refine wpAnyK_done (by kernel_rfl) ?_ _;refine NoPanic.normal ?_;exact hK _ _ _ _ _ _ _ _ _ _ _ _ _ _ _ _ _ _ _ _ _ _ _ _ _ _ _ hHeld.2.near
    exact KNs
   exact KNs
  exact KNs
 exact KNs
theorem clReg7_c {W8:World}{B5 B7 bV nl:Nat}{l:List MoveD}{m:MoveD}{Q0:Exit->Act->World->Prop}{ds:List Deferred}{ph:Int}{ho:Option Addr}{hl hc:Nat}{x:Bool}{a1:Option Addr}{q1:Nat}{c1:Option Addr}{k1:Nat}
 (u0 u1 u2 u3 u4 u6 u8 u9 u10 u11 u12 u13 u14 u15 u16 u17 u18 u19 u20 u21 u22 u23 u24 u25 u26 u27 u28 u29 u30 u31 u32 u33 u34 u35 u36 u37 u38 u39 u40 u41 u42 u43 u44 u45 u46 u47 u48 u49 u50 u51 u52 u53 u54 u55 u56 u57 u58 u59 u60 u61 u62 u63 u64 u65 u66 u67 u68 u69 u70 u71 u72 u73 u74 u75 u76 u77 u78 u79 u80 u81 u82 u83 u84 u85 u86 u87 u88 u89 u90 u91 u92 u93 u94 u95 u96 u97 u98 u99 u100 u101 u102 u103 u104:Value)
 (HK5:Hid (W8.heap[B5]?=some (.cells #[.map (some bV)] 236))) (HK7:Hid (W8.heap[B7]?=some (.cells #[.int .i64 ph,.slice ho hl hc,.bool x,.slice a1 q1 q1,.slice c1 k1 k1] 158))) (HM:Hid (MoveV W8 (.agg #[.int .i64 ph,.slice ho hl hc,.bool x,.slice a1 q1 q1,.slice c1 k1 k1]) m)) (HV:Hid (MapQ nl W8 bV l)) (HSO:Hid (SOk nl m.dst)) (h4:m.dst.holds.length<=4) (hll:l.length<=1000000)
 (hK:∀(v50 v51 v52 v53 v54 v55:Value) (w1 wx:World),Bel W8.heap.size W8 w1->Trn bV w1 wx->MapQ nl wx bV (m::l.filter fun e=>decide (e.dst≠m.dst))->Q0 .normal {tmps:=#[u0,u1,u2,u3,u4,.pointer (some ⟨B5,0,none⟩),u6,.pointer (some ⟨B7,0,none⟩),u8,u9,u10,u11,u12,u13,u14,u15,u16,u17,u18,u19,u20,u21,u22,u23,u24,u25,u26,u27,u28,u29,u30,u31,u32,u33,u34,u35,u36,u37,u38,u39,u40,u41,u42,u43,u44,u45,u46,u47,u48,u49,v50,v51,v52,v53,v54,v55,u56,u57,u58,u59,u60,u61,u62,u63,u64,u65,u66,u67,u68,u69,u70,u71,u72,u73,u74,u75,u76,u77,u78,u79,u80,u81,u82,u83,u84,u85,u86,u87,u88,u89,u90,u91,u92,u93,u94,u95,u96,u97,u98,u99,u100,u101,u102,u103,u104],defers:=ds} wx):
 Code.wp Tryz.prog clReg7 Q0 {tmps:=#[u0,u1,u2,u3,u4,.pointer (some ⟨B5,0,none⟩),u6,.pointer (some ⟨B7,0,none⟩),u8,u9,u10,u11,u12,u13,u14,u15,u16,u17,u18,u19,u20,u21,u22,u23,u24,u25,u26,u27,u28,u29,u30,u31,u32,u33,u34,u35,u36,u37,u38,u39,u40,u41,u42,u43,u44,u45,u46,u47,u48,u49,u50,u51,u52,u53,u54,u55,u56,u57,u58,u59,u60,u61,u62,u63,u64,u65,u66,u67,u68,u69,u70,u71,u72,u73,u74,u75,u76,u77,u78,u79,u80,u81,u82,u83,u84,u85,u86,u87,u88,u89,u90,u91,u92,u93,u94,u95,u96,u97,u98,u99,u100,u101,u102,u103,u104],defers:=ds} W8:=by
 obtain⟨r50,r51⟩:=row1 HK5.out;obtain⟨r0,r1,r2,r3,r4⟩:=row5 HK7.out;have l5:=BlkT.lt ⟨_,_,HK5.out⟩;have l7:=BlkT.lt ⟨_,_,HK7.out⟩;obtain⟨w,hw⟩:∃w:World,w=W8:=⟨_,rfl⟩
 have hst:SHs w W8 W8.heap.size W8:=by rw[hw];exact SHs.start NL NL (Bel.refl _ _)
 clear hw
 conv=>arg 2;whnf
 refine wp_region_noPanic ?_;refine wp_region_K (S:=(fun w'=>(∀(b o:Nat),b<W8.heap.size->w'.cell? ⟨b,o,none⟩=W8.cell? ⟨b,o,none⟩)/\SHs w W8 (W8.heap.size) w')) (k:=6) (by kernel_rfl) ?_ (fun hHeld=>?_)
 . ((try dsimp only);(exact K2s))
 refine TK 0 [] ?_;refine TK 1 [] ?_;refine TK 2 [] ?_;refine TK 4 [] ?_;refine TK 5 [] ?_;refine KRs [3] ?_;refine KCs (fun K hK=>?_) ?_
 .go_simp;refine(key_c (HM.out.stateV.pres hHeld.2.near.pb) h4).mono ?_;rintro e w20 ⟨rfl,hb1⟩;have hy1:=hb1.size
  (try simp at hy1)
  obtain⟨z0,z1,z2,z3,z4,hkv⟩:=keyV_cells m.dst;rw[hkv];have HKV:=LH hkv;clear hkv
  (try go_wp2_with fail)
  refine SA hK (hHeld.2.call hb1).hold fun hHeld=>?_;clear hK K
  refine KRs [6] ?_;refine KCs (fun K hK=>?_) ?_
  .go_simp;have hnear:=hHeld.2.near;refine upon_upd (l:=l) (Ok:=CostV) (ky:=MoveD.dst) (e:=m) _ (fun _ _=>rfl) (HV.out.bel hnear) Tryz.underlying236 (by unfold maxLen;omega) HSO.out HKV.out.symm (HM.out.qv.2.2.pres hnear.pb) (fun _ _ _=>costTrn) ?_;intro w8 hm8 ht8;refine SE hK ?_;clear hK K
   refine wpAnyK_done (by kernel_rfl) ?_ _;refine NoPanic.normal ?_;exact hK _ _ _ _ _ _ _ _ hnear ht8 hm8
  exact KNs
 exact KNs
end
section
open Go.Maps (Keyed)
theorem grown_set3 {w w1:World}{B:Nat}{a b c:Value}(h:Bel w.heap.size w w1):w.grownBy (((w1.setCell ⟨B,0,none⟩ a).setCell ⟨B,1,none⟩ b).setCell ⟨B,2,none⟩ c) (some B):=
 ⟨h.os,h.tape,h.output,by simp[World.setCell];exact h.size,fun k hk hB=>by
  have hne:k≠B:=fun e=>hB (by rw[e]);rw[heap_setCell_other _ _ _ _ hne,heap_setCell_other _ _ _ _ hne,heap_setCell_other _ _ _ _ hne];exact h.block k hk⟩
noncomputable def prReg12:Code:=((Tryz.f25.body.bind (regionOf 12)).getD .skip)
noncomputable def prReg18:Code:=((Tryz.f25.body.bind (regionOf 18)).getD .skip)
noncomputable def prReg22:Code:=((Tryz.f25.body.bind (regionOf 22)).getD .skip)
theorem StateV.ints {w:World}{ph:Int}{hv:Value}{s:StateD}(h:StateV w (.agg #[.int .i64 ph,hv]) s):IntsV w hv s.holds:=by
 obtain⟨hv',e,hh⟩:=h;simp only[Value.agg.injEq,Array.mk.injEq,List.cons.injEq,and_true]at e;rw[e.2];exact hh
theorem prReg12_c {W8:World}{p:ProbD}{L B2 B3 wb wo nn wcap k:Nat}{cs:Array Value}{so:Option Addr}{sl sc:Nat}{fo xc:Bool}{ac:Option Addr}{nc:Nat}{cc:Option Addr}{kc:Nat}{mv:Value}{s0 s1:StateD}{ph0 ph1:Int}{ho0 ho1:Option Addr}{hl0 hc0 hl1 hc1:Nat}{K:Act->World->Prop}{Q0:Exit->Act->World->Prop}{ds:List Deferred}
 (u0 u1 u4 u5 u6 u8 u9 u10 u11 u12 u13 u14 u15 u16 u17 u18 u19 u20 u21 u22 u23 u24 u25 u26 u27 u28 u29 u30 u31 u32 u33 u34 u35 u36 u37 u38 u39 u40 u41 u42 u43 u44 u45 u46 u47 u48 u49 u50 u51 u52 u53 u54 u55 u56 u57 u58 u59 u60 u61 u62 u63 u64 u65 u66 u67 u68 u69 u70 u71 u72 u73 u74 u75 u76 u77 u78 u79 u80 u81 u82 u83 u84 u85 u86 u87 u88 u89 u90 u91 u92 u93 u94 u95 u96 u97 u98 u99 u100 u101 u102 u103 u104 u105 u106 u107 u108 u109 u110 u111 u112 u113 u114 u115 u116 u117 u118 u119 u120 u121 u122 u123 u124 u125 u126 u127 u128 u129 u130 u131:Value)
 (HP:Hid (PVal W8 (.agg cs) p)) (HK2:Hid (W8.heap[B2]?=some (.cells cs 44))) (e27:W8.cell? ⟨B2,27,none⟩=some (.slice so sl sc)) (HST:Hid (StateV W8 (.agg #[.int .i64 0,.slice so sl sc]) ⟨0,p.start⟩))
 (HK3:Hid (W8.heap[B3]?=some (.cells #[.bool fo,.bool xc,.slice ac nc nc,.slice cc kc kc,.slice (some ⟨wb,wo,none⟩) nn wcap,mv] 61))) (hk:k<nn) (hk2:k<1000000) (hwb:wb<W8.heap.size)
 (f0:W8.cell? ⟨wb,wo,none⟩=some (.int .i64 ph0)) (f1:W8.cell? ⟨wb,wo+1,none⟩=some (.slice ho0 hl0 hc0)) (H0:Hid (StateV W8 (.agg #[.int .i64 ph0,.slice ho0 hl0 hc0]) s0)) (h0s:s0=⟨0,p.start⟩) (h0l:s0.holds.length<=1000000)
 (g0:W8.cell? ⟨wb,wo+k*2,none⟩=some (.int .i64 ph1)) (g1:W8.cell? ⟨wb,wo+k*2+1,none⟩=some (.slice ho1 hl1 hc1)) (H1:Hid (StateV W8 (.agg #[.int .i64 ph1,.slice ho1 hl1 hc1]) s1)) (hF:ProbF L p) (hfi:Fine p s1) (hgo:goalB p s1=true)
 (hK:∀(v63 v64 v65 v66 v67 v68 v69 v70 v71 v72 v73 v74 v75 v76 v77 v78 v79 v80 v81 v82 v83 v84 v85 v86 v87 v88 v89 v90 v91 v92 v93 v94 v95 v96 v97:Value) (wx:World),Bel W8.heap.size W8 wx->K {tmps:=#[u0,u1,.pointer (some ⟨B2,0,none⟩),.pointer (some ⟨B3,0,none⟩),u4,u5,u6,.int .i64 ((k+1:Nat):Int),u8,u9,u10,u11,u12,u13,u14,u15,u16,u17,u18,u19,u20,u21,u22,u23,u24,u25,u26,u27,u28,u29,u30,u31,u32,u33,u34,u35,u36,u37,u38,u39,u40,u41,u42,u43,u44,u45,u46,u47,u48,u49,u50,u51,u52,u53,u54,u55,u56,u57,u58,u59,u60,u61,u62,v63,v64,v65,v66,v67,v68,v69,v70,v71,v72,v73,v74,v75,v76,v77,v78,v79,v80,v81,v82,v83,v84,v85,v86,v87,v88,v89,v90,v91,v92,v93,v94,v95,v96,v97,.bool false,u99,u100,u101,u102,u103,u104,u105,u106,u107,u108,u109,u110,u111,u112,u113,u114,u115,u116,u117,u118,u119,u120,u121,u122,u123,u124,u125,u126,u127,u128,u129,u130,u131],defers:=ds} wx):
 Code.wp Tryz.prog prReg12 (Exit.then K Q0) {tmps:=#[u0,u1,.pointer (some ⟨B2,0,none⟩),.pointer (some ⟨B3,0,none⟩),u4,u5,u6,.int .i64 ((k+1:Nat):Int),u8,u9,u10,u11,u12,u13,u14,u15,u16,u17,u18,u19,u20,u21,u22,u23,u24,u25,u26,u27,u28,u29,u30,u31,u32,u33,u34,u35,u36,u37,u38,u39,u40,u41,u42,u43,u44,u45,u46,u47,u48,u49,u50,u51,u52,u53,u54,u55,u56,u57,u58,u59,u60,u61,u62,u63,u64,u65,u66,u67,u68,u69,u70,u71,u72,u73,u74,u75,u76,u77,u78,u79,u80,u81,u82,u83,u84,u85,u86,u87,u88,u89,u90,u91,u92,u93,u94,u95,u96,u97,u98,u99,u100,u101,u102,u103,u104,u105,u106,u107,u108,u109,u110,u111,u112,u113,u114,u115,u116,u117,u118,u119,u120,u121,u122,u123,u124,u125,u126,u127,u128,u129,u130,u131],defers:=ds} W8:=by
 obtain⟨q0,q1,q2,q3,q4,q5,-,-,-,-,-,-⟩:=row6 HK3.out;have l2:=BlkT.lt ⟨_,_,HK2.out⟩;have l3:=BlkT.lt ⟨_,_,HK3.out⟩;have hsub:((k+1:Nat):Int)-1=(k:Nat):=by omega
 have hwr:IntKind.i64.wrap ((k:Nat):Int)=(k:Nat):=i64_wrap_nat k (by omega);have hne:¬((k+1:Nat):Int)=0:=by omega
 have hnd:decide (((k+1:Nat):Int)=0)=false:=decide_eq_false hne;have h0n:0<nn:=by omega
 have hho:holdsB p s1.holds=true:=hfi.holds;obtain⟨w,hw⟩:∃w:World,w=W8:=⟨_,rfl⟩
 have hst:SHs w W8 W8.heap.size W8:=by rw[hw];exact SHs.start NL NL (Bel.refl _ _)
 clear hw
 conv=>arg 2;whnf
 refine wp_region_noPanic ?_;refine wp_region_K (S:=(fun w'=>(∀(b o:Nat),b<W8.heap.size->w'.cell? ⟨b,o,none⟩=W8.cell? ⟨b,o,none⟩)/\SHs w W8 (W8.heap.size) w')) (k:=35) (by kernel_rfl) ?_ (fun hHeld=>?_)
 . ((try dsimp only);(exact K2s))
 refine TK 0 [25,24,13,12,2,1] ?_;refine TK 1 [25,24,13,12,2] ?_;refine TK 2 [25,24,13,12] ?_;refine TK 3 [25,24,13,10,6,5,4] ?_;refine TK 4 [25,24,13,10,6,5] ?_;refine TK 5 [25,24,13,10,6] ?_;refine TK 6 [25,24,13,10] ?_;refine TK 7 [25,24,13,10,9,8] ?_;refine TK 8 [25,24,13,10,9] ?_;refine TK 9 [25,24,13,10] ?_;refine KRs [10] ?_;refine KCs (fun K hK=>?_) ?_
 .go_simp;refine(before_c (H0.out.pres hHeld.2.near.pb) (HST.out.pres hHeld.2.near.pb) h0l).mono ?_;rintro e w20 ⟨rfl,hb1⟩;have hy1:=hb1.size
  (try simp at hy1)
  rw[befS_eq.2 h0s]
  (try go_wp2_with fail)
  refine SA hK (hHeld.2.call hb1).hold fun hHeld=>?_;clear hK K
  refine TK 11 [25,24,13,12] ?_;refine TK 12 [25,24,13] ?_;refine TK 13 [25,24] ?_;refine TK 14 [25,22] (v:=.agg cs) ?_ (hy:=fun w hSw=>yields_load_P rfl rfl HP.out ((hSw.2.near.block _ l2).trans HK2.out));refine TK 15 [25,22,21,20,19,16] ?_;refine TK 16 [25,22,21,20,19] ?_;refine TK 17 [25,22,21,20,19,18] ?_;refine TK 18 [25,22,21,20,19] ?_;refine TK 19 [25,22,21,20] ?_;refine TK 20 [25,22,21] ?_
  refine TK 21 [25,22] ?_;refine KRs [22] ?_;refine KCs (fun K hK=>?_) ?_
  .go_simp;refine(holds_c (HP.out.bel hHeld.2.near) (H1.out.ints.pres hHeld.2.near.pb) (by have:=hfi.len;omega)).mono ?_;rintro e w21 ⟨rfl,hb2⟩;have hy2:=hb2.size
   (try simp at hy2)
   rw[hho]
   (try go_wp2_with fail)
   refine SA hK (hHeld.2.call hb2).hold fun hHeld=>?_;clear hK K
   refine TK 23 [25,24] ?_;refine TK 24 [25] ?_;refine TK 25 [] ?_;refine TK 26 [34,33] (v:=.agg cs) ?_ (hy:=fun w hSw=>yields_load_P rfl rfl HP.out ((hSw.2.near.block _ l2).trans HK2.out));refine TK 27 [34,33,32,31,28] ?_;refine TK 28 [34,33,32,31] ?_;refine TK 29 [34,33,32,31,30] ?_;refine TK 30 [34,33,32,31] ?_;refine TK 31 [34,33,32] ?_;refine TK 32 [34,33] ?_;refine KRs [33] ?_;refine KCs (fun K hK=>?_) ?_
   .go_simp;refine(goal_c (HP.out.bel hHeld.2.near) (H1.out.pres hHeld.2.near.pb) hF (fine_idx hfi) (by have:=hfi.len;omega)).mono ?_;rintro e w22 ⟨rfl,hb3⟩;have hy3:=hb3.size
    (try simp at hy3)
    rw[hgo]
    (try go_wp2_with fail)
    refine SA hK (hHeld.2.call hb3).hold fun hHeld=>?_;clear hK K
    refine TK 34 [] ?_;refine KRs [35] ?_;refine KCs (fun K hK=>?_) ?_
    .go_simp;refine SE hK ?_;clear hK K
     refine wpAnyK_done (by kernel_rfl) ?_ _;refine NoPanic.normal ?_;exact hK _ _ _ _ _ _ _ _ _ _ _ _ _ _ _ _ _ _ _ _ _ _ _ _ _ _ _ _ _ _ _ _ _ _ _ _ hHeld.2.near
    exact KNs
   exact KNs
  exact KNs
 exact KNs
theorem prReg18_c {W8:World}{p:ProbD}{L B2 B3 B9 wb wo nn wcap j:Nat}{cs:Array Value}{fo xc:Bool}{ac:Option Addr}{nc:Nat}{cc:Option Addr}{kc:Nat}{mv:Value}{s1:StateD}{ph1:Int}{ho1:Option Addr}{hl1 hc1:Nat}{K:Act->World->Prop}{Q0:Exit->Act->World->Prop}{ds:List Deferred}
 (u0 u1 u4 u5 u6 u7 u8 u10 u11 u12 u13 u14 u15 u16 u17 u18 u19 u20 u21 u22 u23 u24 u25 u26 u27 u28 u29 u30 u31 u32 u33 u34 u35 u36 u37 u38 u39 u40 u41 u42 u43 u44 u45 u46 u47 u48 u49 u50 u51 u52 u53 u54 u55 u56 u57 u58 u59 u60 u61 u62 u63 u64 u65 u66 u67 u68 u69 u70 u71 u72 u73 u74 u75 u76 u77 u78 u79 u80 u81 u82 u83 u84 u85 u86 u87 u88 u89 u90 u91 u92 u93 u94 u95 u96 u97 u98 u99 u100 u101 u102 u103 u104 u105 u106 u107 u108 u109 u110 u111 u112 u113 u114 u115 u116 u117 u118 u119 u120 u121 u122 u123 u124 u125 u126 u127 u128 u129 u130 u131:Value)
 (hms:MovesSeqC) (HP:Hid (PVal W8 (.agg cs) p)) (HK2:Hid (W8.heap[B2]?=some (.cells cs 44)))
 (HK3:Hid (W8.heap[B3]?=some (.cells #[.bool fo,.bool xc,.slice ac nc nc,.slice cc kc kc,.slice (some ⟨wb,wo,none⟩) nn wcap,mv] 61))) (HK9:Hid (W8.heap[B9]?=some (.cells #[.int .i64 ((j+1:Nat):Int)] 3))) (hj:j<nn) (hj2:j<1000000) (hwb:wb<W8.heap.size)
 (g0:W8.cell? ⟨wb,wo+j*2,none⟩=some (.int .i64 ph1)) (g1:W8.cell? ⟨wb,wo+j*2+1,none⟩=some (.slice ho1 hl1 hc1)) (H1:Hid (StateV W8 (.agg #[.int .i64 ph1,.slice ho1 hl1 hc1]) s1)) (hF:ProbF L p) (h1L:1<=L) (hfi:Fine p s1)
 (hK:∀(v105 v106 v107 v108 v109 v110 v111 v112 v113:Value) (vm:Value) (wx:World),MovesV wx vm (movesL p s1)->Bel W8.heap.size W8 wx->K {tmps:=#[u0,u1,.pointer (some ⟨B2,0,none⟩),.pointer (some ⟨B3,0,none⟩),u4,u5,u6,u7,u8,.pointer (some ⟨B9,0,none⟩),vm,u11,u12,u13,u14,u15,u16,u17,u18,u19,u20,u21,u22,u23,u24,u25,u26,u27,u28,u29,u30,u31,u32,u33,u34,u35,u36,u37,u38,u39,u40,u41,u42,u43,u44,u45,u46,u47,u48,u49,u50,u51,u52,u53,u54,u55,u56,u57,u58,u59,u60,u61,u62,u63,u64,u65,u66,u67,u68,u69,u70,u71,u72,u73,u74,u75,u76,u77,u78,u79,u80,u81,u82,u83,u84,u85,u86,u87,u88,u89,u90,u91,u92,u93,u94,u95,u96,u97,u98,u99,u100,u101,u102,u103,u104,v105,v106,v107,v108,v109,v110,v111,v112,v113,u114,u115,u116,u117,u118,u119,u120,u121,u122,u123,u124,u125,u126,u127,u128,u129,u130,u131],defers:=ds} wx):
 Code.wp Tryz.prog prReg18 (Exit.then K Q0) {tmps:=#[u0,u1,.pointer (some ⟨B2,0,none⟩),.pointer (some ⟨B3,0,none⟩),u4,u5,u6,u7,u8,.pointer (some ⟨B9,0,none⟩),u10,u11,u12,u13,u14,u15,u16,u17,u18,u19,u20,u21,u22,u23,u24,u25,u26,u27,u28,u29,u30,u31,u32,u33,u34,u35,u36,u37,u38,u39,u40,u41,u42,u43,u44,u45,u46,u47,u48,u49,u50,u51,u52,u53,u54,u55,u56,u57,u58,u59,u60,u61,u62,u63,u64,u65,u66,u67,u68,u69,u70,u71,u72,u73,u74,u75,u76,u77,u78,u79,u80,u81,u82,u83,u84,u85,u86,u87,u88,u89,u90,u91,u92,u93,u94,u95,u96,u97,u98,u99,u100,u101,u102,u103,u104,u105,u106,u107,u108,u109,u110,u111,u112,u113,u114,u115,u116,u117,u118,u119,u120,u121,u122,u123,u124,u125,u126,u127,u128,u129,u130,u131],defers:=ds} W8:=by
 obtain⟨q0,q1,q2,q3,q4,q5,-,-,-,-,-,-⟩:=row6 HK3.out;obtain⟨n0,n1⟩:=row1 HK9.out;have l2:=BlkT.lt ⟨_,_,HK2.out⟩;have l3:=BlkT.lt ⟨_,_,HK3.out⟩;have l9:=BlkT.lt ⟨_,_,HK9.out⟩;have hsub:((j+1:Nat):Int)-1=(j:Nat):=by omega
 have hwr:IntKind.i64.wrap ((j:Nat):Int)=(j:Nat):=i64_wrap_nat j (by omega);obtain⟨w,hw⟩:∃w:World,w=W8:=⟨_,rfl⟩
 have hst:SHs w W8 W8.heap.size W8:=by rw[hw];exact SHs.start NL NL (Bel.refl _ _)
 clear hw
 conv=>arg 2;whnf
 refine wp_region_noPanic ?_;refine wp_region_K (S:=(fun w'=>(∀(b o:Nat),b<W8.heap.size->w'.cell? ⟨b,o,none⟩=W8.cell? ⟨b,o,none⟩)/\SHs w W8 (W8.heap.size) w')) (k:=9) (by kernel_rfl) ?_ (fun hHeld=>?_)
 . ((try dsimp only);(exact K2s))
 refine TK 0 [] (v:=.agg cs) ?_ (hy:=fun w hSw=>yields_load_P rfl rfl HP.out ((hSw.2.near.block _ l2).trans HK2.out));refine TK 1 [] ?_;refine TK 2 [] ?_;refine TK 3 [] ?_;refine TK 4 [] ?_;refine TK 5 [] ?_;refine TK 6 [] ?_;refine KRs [7] ?_;refine KCs (fun K hK=>?_) ?_
 .go_simp;refine(movesF_c (HP.out.bel hHeld.2.near) (H1.out.pres hHeld.2.near.pb)).mono ?_;rintro e w20 ⟨rfl,hwk,hb1⟩;have hy1:=hb1.size
  (try simp at hy1)
  (try go_wp2_with fail)
  refine SA hK (hHeld.2.call hb1).hold fun hHeld=>?_;clear hK K
  refine KRs [8] ?_;refine KCs (fun K hK=>?_) ?_
  .go_simp;refine(collect_c hms hfi hF h1L hwk).mono ?_;rintro e w21 ⟨vm,rfl,hvm,hb2⟩;have hy2:=hb2.size
   (try simp at hy2)
   (try go_wp2_with fail)
   refine SA hK (hHeld.2.call hb2).hold fun hHeld=>?_;clear hK K
   refine KRs [9] ?_;refine KCs (fun K hK=>?_) ?_
   .go_simp;refine SE hK ?_;clear hK K
    refine wpAnyK_done (by kernel_rfl) ?_ _;refine NoPanic.normal ?_;exact hK _ _ _ _ _ _ _ _ _ _ _ hvm hHeld.2.near
   exact KNs
  exact KNs
 exact KNs
theorem prReg22_c {W8:World}{L1 L2 B8 mb mo mn mc k:Nat}{q1 q2:Rat}{x8:Bool}{a8:Option Addr}{n8:Nat}{c8:Option Addr}{k8:Nat}{x2:Bool}{a2:Option Addr}{n2:Nat}{c2:Option Addr}{k2:Nat}{Q0:Exit->Act->World->Prop}{ds:List Deferred}
 (u0 u1 u2 u3 u4 u5 u6 u7 u9 u12 u13 u14 u15 u16 u17 u18 u19 u20 u21 u22 u23 u24 u25 u26 u27 u28 u29 u30 u31 u32 u33 u34 u35 u36 u37 u38 u39 u40 u41 u42 u43 u44 u45 u46 u47 u48 u49 u50 u51 u52 u53 u54 u55 u56 u57 u58 u59 u60 u61 u62 u63 u64 u65 u66 u67 u68 u69 u70 u71 u72 u73 u74 u75 u76 u77 u78 u79 u80 u81 u82 u83 u84 u85 u86 u87 u88 u89 u90 u91 u92 u93 u94 u95 u96 u97 u98 u99 u100 u101 u102 u103 u104 u105 u106 u107 u108 u109 u110 u111 u112 u113 u114 u115 u116 u117 u118 u119 u120 u121 u122 u123 u124 u125 u126 u127 u128 u129 u130 u131:Value)
 (HK8:Hid (W8.heap[B8]?=some (.cells #[.bool x8,.slice a8 n8 n8,.slice c8 k8 k8] 39))) (HQ8:Hid (QV W8 (.agg #[.bool x8,.slice a8 n8 n8,.slice c8 k8 k8]) q1)) (hk:k<mn) (hmb:mb<W8.heap.size)
 (g2:W8.cell? ⟨mb,mo+k*5+2,none⟩=some (.bool x2)) (g3:W8.cell? ⟨mb,mo+k*5+2+1,none⟩=some (.slice a2 n2 n2)) (g4:W8.cell? ⟨mb,mo+k*5+2+2,none⟩=some (.slice c2 k2 k2)) (HQ2:Hid (QV W8 (.agg #[.bool x2,.slice a2 n2 n2,.slice c2 k2 k2]) q2))
 (HF1:Hid (QF L1 q1)) (HF2:Hid (QF L2 q2)) (HSZ:Hid (L1+L2<=1000000000))
 (hK:∀(v119 v120 v121 v122 v123 v124 v125:Value) (x9:Bool) (a9:Option Addr) (n9:Nat) (c9:Option Addr) (k9:Nat) (wx:World),wx.heap[B8]?=some (.cells #[.bool x9,.slice a9 n9 n9,.slice c9 k9 k9] 39)->QV wx (.agg #[.bool x9,.slice a9 n9 n9,.slice c9 k9 k9]) (q1+q2)->W8.grownBy wx (some B8)->Q0 .normal {tmps:=#[u0,u1,u2,u3,u4,u5,u6,u7,.pointer (some ⟨B8,0,none⟩),u9,.slice (some ⟨mb,mo,none⟩) mn mc,.int .i64 (k:Nat),u12,u13,u14,u15,u16,u17,u18,u19,u20,u21,u22,u23,u24,u25,u26,u27,u28,u29,u30,u31,u32,u33,u34,u35,u36,u37,u38,u39,u40,u41,u42,u43,u44,u45,u46,u47,u48,u49,u50,u51,u52,u53,u54,u55,u56,u57,u58,u59,u60,u61,u62,u63,u64,u65,u66,u67,u68,u69,u70,u71,u72,u73,u74,u75,u76,u77,u78,u79,u80,u81,u82,u83,u84,u85,u86,u87,u88,u89,u90,u91,u92,u93,u94,u95,u96,u97,u98,u99,u100,u101,u102,u103,u104,u105,u106,u107,u108,u109,u110,u111,u112,u113,u114,u115,u116,u117,u118,v119,v120,v121,v122,v123,v124,v125,u126,u127,u128,u129,u130,u131],defers:=ds} wx):
 Code.wp Tryz.prog prReg22 Q0 {tmps:=#[u0,u1,u2,u3,u4,u5,u6,u7,.pointer (some ⟨B8,0,none⟩),u9,.slice (some ⟨mb,mo,none⟩) mn mc,.int .i64 (k:Nat),u12,u13,u14,u15,u16,u17,u18,u19,u20,u21,u22,u23,u24,u25,u26,u27,u28,u29,u30,u31,u32,u33,u34,u35,u36,u37,u38,u39,u40,u41,u42,u43,u44,u45,u46,u47,u48,u49,u50,u51,u52,u53,u54,u55,u56,u57,u58,u59,u60,u61,u62,u63,u64,u65,u66,u67,u68,u69,u70,u71,u72,u73,u74,u75,u76,u77,u78,u79,u80,u81,u82,u83,u84,u85,u86,u87,u88,u89,u90,u91,u92,u93,u94,u95,u96,u97,u98,u99,u100,u101,u102,u103,u104,u105,u106,u107,u108,u109,u110,u111,u112,u113,u114,u115,u116,u117,u118,u119,u120,u121,u122,u123,u124,u125,u126,u127,u128,u129,u130,u131],defers:=ds} W8:=by
 obtain⟨r0,r1,r2,r3,r4,r5⟩:=row3 HK8.out;have l8:=BlkT.lt ⟨_,_,HK8.out⟩;obtain⟨w,hw⟩:∃w:World,w=W8:=⟨_,rfl⟩
 have hst:SHs w W8 W8.heap.size W8:=by rw[hw];exact SHs.start NL NL (Bel.refl _ _)
 clear hw
 conv=>arg 2;whnf
 refine wp_region_noPanic ?_;refine wp_region_K (S:=(fun w'=>(∀(b o:Nat),b<W8.heap.size->w'.cell? ⟨b,o,none⟩=W8.cell? ⟨b,o,none⟩)/\SHs w W8 (W8.heap.size) w')) (k:=7) (by kernel_rfl) ?_ (fun hHeld=>?_)
 . ((try dsimp only);(exact K2s))
 refine TK 0 [] ?_;refine TK 1 [] ?_;refine TK 2 [] ?_;refine TK 3 [] ?_;refine TK 4 [] ?_;refine TK 5 [] ?_;refine KRs [6] ?_;refine KCs (fun K hK=>?_) ?_
 .go_simp;refine(qadd_c (HQ8.out.pres hHeld.2.near.pb) (HQ2.out.pres hHeld.2.near.pb) HF1.out HF2.out HSZ.out).mono ?_;rintro e w20 ⟨vq1,rfl,hQ1,hb1⟩;have hy1:=hb1.size
  (try simp at hy1)
  obtain⟨xs1,as1,ns1,cs1,ks1,rfl⟩:=hQ1.cells
  (try go_wp2_with fail)
  refine SA hK (hHeld.2.call hb1).hold fun hHeld=>?_;clear hK K
  refine KRs [7] ?_;refine KCs (fun K hK=>?_) ?_
  .have hk8:w20.heap[B8]?=some (.cells #[.bool x8,.slice a8 n8 n8,.slice c8 k8 k8] 39):=(hHeld.2.near.block _ l8).trans HK8.out;obtain⟨j0,j1,j2,j3,j4,j5⟩:=row3 hk8;have hnear:=hHeld.2.near;go_simp;refine SE hK ?_;clear hK K
   refine wpAnyK_done (by kernel_rfl) ?_ _;refine NoPanic.normal ?_;exact hK _ _ _ _ _ _ _ _ _ _ _ _ _ (set3_heap hk8) (QV.pres hQ1 (Pres.set3 ⟨_,_,hk8⟩ (by decide) _ _ _ _ _ _)) (grown_set3 hnear)
  exact KNs
 exact KNs
end
structure MvAt (w:World) (ao:Option Addr) (ms:List MoveD) (f:Nat->Value):Prop where
 cells:CellsAt 93 w ao (ms.length*5) f
 at':∀i,i<ms.length->MoveV w (.agg #[f (i*5),f (i*5+1),f (i*5+2),f (i*5+3),f (i*5+4)]) (ms.getD i move0)
theorem MvAt.bel {w w':World}{ao:Option Addr}{ms:List MoveD}{f:Nat->Value}(h:MvAt w ao ms f)(hb:Bel w.heap.size w w'):MvAt w' ao ms f:=⟨h.cells.pres hb.pb,fun i hi=>(h.at' i hi).bel hb⟩
theorem MvAt.el {w:World}{ao:Option Addr}{ms:List MoveD}{f:Nat->Value}(h:MvAt w ao ms f){i:Nat}(hi:i<ms.length):
 ∃bl o,ao=some ⟨bl,o,none⟩/\bl<w.heap.size/\∃(ph:Int) (ho:Option Addr) (hl hc:Nat) (x:Bool) (a:Option Addr) (n:Nat) (c:Option Addr) (k:Nat),
  w.cell? ⟨bl,o+i*5,none⟩=some (.int .i64 ph)/\w.cell? ⟨bl,o+i*5+1,none⟩=some (.slice ho hl hc)/\w.cell? ⟨bl,o+i*5+2,none⟩=some (.bool x)/\
  w.cell? ⟨bl,o+i*5+3,none⟩=some (.slice a n n)/\w.cell? ⟨bl,o+i*5+4,none⟩=some (.slice c k k)/\
  MoveV w (.agg #[.int .i64 ph,.slice ho hl hc,.bool x,.slice a n n,.slice c k k]) (ms.getD i move0):=by
 have hm:=h.at' i hi;obtain⟨ph,ho,hl,hc,x,a,n,c,k,e⟩:=hm.cells;obtain⟨bl,o,rfl,hb,hcell⟩:=h.cells.open (by omega);rw[e]at hm;simp only[Value.agg.injEq,Array.mk.injEq,List.cons.injEq,and_true]at e;obtain⟨e0,e1,e2,e3,e4⟩:=e
 have H:∀j v,j<5->f (i*5+j)=v->w.cell? ⟨bl,o+i*5+j,none⟩=some v:=fun j v hj e=>by
  rw[<-e,<-hcell (i*5+j) (by omega),Nat.add_assoc]
 exact⟨bl,o,rfl,hb,ph,ho,hl,hc,x,a,n,c,k,H 0 _ (by omega) e0,H 1 _ (by omega) e1,H 2 _ (by omega) e2,H 3 _ (by omega) e3,H 4 _ (by omega) e4,hm⟩
theorem StatesAt.bel {w w':World}{ao:Option Addr}{ss:List StateD}{f:Nat->Value}(h:StatesAt w ao ss f)(hb:Bel w.heap.size w w'):StatesAt w' ao ss f:=h.pres hb.pb hb.pb
theorem StatesAt.el {w:World}{ao:Option Addr}{ss:List StateD}{f:Nat->Value}(h:StatesAt w ao ss f){i:Nat}(hi:i<ss.length):
 ∃bl o,ao=some ⟨bl,o,none⟩/\bl<w.heap.size/\∃(ph:Int) (ho:Option Addr) (hl hc:Nat),
  w.cell? ⟨bl,o+i*2,none⟩=some (.int .i64 ph)/\w.cell? ⟨bl,o+i*2+1,none⟩=some (.slice ho hl hc)/\StateV w (.agg #[.int .i64 ph,.slice ho hl hc]) (ss.getD i state0):=by
 have hm:=h.at' i hi;obtain⟨ph,ho,hl,hc,e⟩:=hm.two;obtain⟨bl,o,rfl,hb,hcell⟩:=h.cells.open (by omega);rw[e]at hm;simp only[Value.agg.injEq,Array.mk.injEq,List.cons.injEq,and_true]at e;obtain⟨e0,e1⟩:=e
 have H:∀j v,j<2->f (i*2+j)=v->w.cell? ⟨bl,o+i*2+j,none⟩=some v:=fun j v hj e=>by
  rw[<-e,<-hcell (i*2+j) (by omega),Nat.add_assoc]
 exact⟨bl,o,rfl,hb,ph,ho,hl,hc,H 0 _ (by omega) e0,H 1 _ (by omega) e1,hm⟩
def PredX (K:Nat)(cb:Array Value)(pr:MoveD->Bool)(w:World)(ms:List MoveD):Prop:=∀(W:World) (v:Value) (m:MoveD),Bel w.heap.size w W->MoveV W v m->m∈ms->
 Calls Tryz.prog K (#[v]++cb) W fun e w'=>e=.returned (.bool (pr m))/\Bel W.heap.size W w'
theorem prove1_c {w:World}{B3 B9 wb wo nn wcap i:Nat}{fo xc:Bool}{ac:Option Addr}{nc:Nat}{cc:Option Addr}{kc:Nat}{mv:Value}{way:List StateD}{f:Nat->Value}{ms:List MoveD}
 (h3:w.heap[B3]?=some (.cells #[.bool fo,.bool xc,.slice ac nc nc,.slice cc kc kc,.slice (some ⟨wb,wo,none⟩) nn wcap,mv] 61)) (h9:w.heap[B9]?=some (.cells #[.int .i64 (i:Nat)] 3)) (hn:nn=way.length) (hi:i<way.length)
 (hw:StatesAt w (some ⟨wb,wo,none⟩) way f) (hfi:∀m∈ms,m.dst.holds.length<=1000000):
 PredX 96 #[.pointer (some ⟨B3,0,none⟩),.pointer (some ⟨B9,0,none⟩)] (fun m=>decide (befS m.dst (way.getD i state0)=0)) w ms:=by
 intro W v m hk hm hmem;obtain⟨ph,ho,hl,hc,x,a,n,c,k,rfl⟩:=hm.cells;have h3':=(hk.block _ (BlkT.lt ⟨_,_,h3⟩)).trans h3;have h9':=(hk.block _ (BlkT.lt ⟨_,_,h9⟩)).trans h9;obtain⟨bl,o,e,hbl,ph2,ho2,hl2,hc2,g0,g1,hs2⟩:=(hw.bel hk).el hi
 cases e
 have HSV:=LH hm.stateV;have HS2:=LH hs2;have hlm:=hfi m hmem;obtain⟨q,hq⟩:∃q,q=befS m.dst (way.getD i state0):=⟨_,rfl⟩
 have HQ:=LH hq;have hq':(fun m:MoveD=>decide (befS m.dst (way.getD i state0)=0)) m=decide (q=0):=by rw[hq]
 rw[hq'];obtain⟨q0,q1,q2,q3,q4,q5,-,-,-,-,-,-⟩:=row6 h3';obtain⟨n0,n1⟩:=row1 h9';have l3:=BlkT.lt ⟨_,_,h3'⟩;have l9:=BlkT.lt ⟨_,_,h9'⟩;have hin:i<nn:=by omega
 clear h3 h9 hw hfi hm hk hmem hq hq' hs2 h3' h9' hn
 go_enter Tryz.func96,Tryz.ntmps96
 go_upto_region 1 with fail
 refine name_world ?_;intro W1 hW1;have hb1:Bel W.heap.size W W1:=by rw[hW1];exact(Bel.refl _ _).alloc NL _
 obtain⟨t0,t1,t2,t3,t4⟩:=row5 (at_world hW1 (b:=W.heap.size) (heap_new _ _ rfl));have hz0:W.heap.size<W1.heap.size:=by rw[hW1];simp
 have HW:=LH hb1;have p4:=(hb1.cell (p:=⟨B3,4,none⟩) l3).trans q4;have p9:=(hb1.cell (p:=⟨B9,0,none⟩) l9).trans n0;have pg0:=(hb1.cell (p:=⟨wb,wo+i*2,none⟩) hbl).trans g0;have pg1:=(hb1.cell (p:=⟨wb,wo+i*2+1,none⟩) hbl).trans g1;have HSV1:Hid (StateV W1 (.agg #[.int .i64 ph,.slice ho hl hc]) m.dst):=HSV.out.pres hb1.pb;have HS21:Hid (StateV W1 (.agg #[.int .i64 ph2,.slice ho2 hl2 hc2]) (way.getD i state0)):=HS2.out.pres hb1.pb
 have l3':B3<W1.heap.size:=by omega
 have l9':B9<W1.heap.size:=by omega
 have hbl':wb<W1.heap.size:=by omega
 clear hW1 hb1 q0 q1 q2 q3 q4 q5 n0 n1 g0 g1 HSV HS2 l3 l9 hbl;obtain⟨w,hw⟩:∃w:World,w=W1:=⟨_,rfl⟩
 have hst:SHs w W1 W1.heap.size W1:=by rw[hw];exact SHs.start NL NL (Bel.refl _ _)
 clear hw
 go_region_held3 (fun w'=>(∀(b o:Nat),b<W1.heap.size->w'.cell? ⟨b,o,none⟩=W1.cell? ⟨b,o,none⟩)/\SHs w W1 (W1.heap.size) w') (exact K2s)
  (first|(go_at_call 64;(try (rename _/\_=>hh;rcases hh with⟨hSc,hSb⟩));refine(before_c (HSV1.out.pres hSb.near.pb) (HS21.out.pres hSb.near.pb) hlm).mono ?_;rintro e w20 ⟨rfl,hb9⟩;rw[<-HQ.out];have hz9:=(hSb.call hb9).near.size))
 all_goals go_wp2
 all_goals((try (rename _/\_=>hh;rcases hh with⟨hSc,hSb⟩));go_ret;exact⟨rfl,HW.out.trans (hSb.near.mono HW.out.size)⟩)
theorem indexX_c {w:World}{v:Value}{ms:List MoveD}{B B9:Nat}{pr:MoveD->Bool}(hv:MovesV w v ms)(hp:PredX 96 #[.pointer (some ⟨B,0,none⟩),.pointer (some ⟨B9,0,none⟩)] pr w ms)(hlen:ms.length<=1000000):
 Calls Tryz.prog 95 #[v,.func (.func 96) #[] #[.pointer (some ⟨B,0,none⟩),.pointer (some ⟨B9,0,none⟩)]] w fun e w'=>(∃r,e=.returned (.int .i64 r)/\idxM pr ms r)/\Bel w.heap.size w w':=by
 obtain⟨ao,cap,f,rfl,hcap,hma1,hma2⟩:=hv;have hma:MvAt w ao ms f:=⟨hma1,hma2⟩
 clear hma1 hma2;obtain⟨n,hn⟩:∃n,n=ms.length:=⟨_,rfl⟩
 have HM:=LH hma;have HP:=LH hp;have HN:=LH hn;rw[<-hn]at hcap hlen|-;clear hma hp hn
 go_enter Tryz.func95,Tryz.ntmps95
 go_wp2
 go_loopg [8] n (fun g s8 wr=>∃i:Nat,g=n-i/\i<=n/\s8=.int .i64 i/\(∀j,j<i->pr (ms.getD j move0)=false)/\Bel w.heap.size w wr)
 case atStart=>exact⟨0,rfl,Nat.zero_le _,rfl,fun j hj=>by omega,Bel.refl _ _⟩
 case round=>
  obtain⟨i,hg,hi,rfl,hno,hbr⟩:=hrel;have HB:=LH hbr;have HNO:=LH hno;clear hno
  by_cases hlt:i<n
  .have HMR:=LH (HM.out.bel hbr);obtain⟨b,o,rfl,hbl,ph,ho,hl,hc,x,a,q,c,k,f0,f1,f2,f3,f4,hmv⟩:=HMR.out.el (i:=i) (by rw[<-HN.out];exact hlt);have HMV:=LH hmv;obtain⟨z,hz⟩:∃z,z=pr (ms.getD i move0):=⟨_,rfl⟩
   have HZ:=LH hz;clear hmv hz hbr
   have hmem:ms.getD i move0∈ms:=by
    have h1:i<ms.length:=by rw[<-HN.out];exact hlt
    rw[getD_get h1];exact List.getElem_mem h1
   go_wp2_with fail
   refine(HP.out wr _ _ HB.out HMV.out hmem).mono ?_;rintro e w3 ⟨rfl,hb3⟩;rw[<-HZ.out]
   cases z
   .go_wp2
    go_roundg (n-(i+1))
    case rel=>exact⟨i+1,rfl,by omega,by push_cast;rfl,fun j hj=>by
     by_cases e:j=i
     .subst e;exact HZ.out.symm
     .exact HNO.out j (by omega),HB.out.trans (hb3.mono HB.out.size)⟩
    case measure=>omega
   .go_wp2;go_ret;exact⟨⟨_,rfl,.inr ⟨i,by rw[<-HN.out];exact hlt,rfl,HZ.out.symm,HNO.out⟩⟩,HB.out.trans (hb3.mono HB.out.size)⟩
  .obtain rfl:i=n:=by omega
   clear hbr;go_wp2;go_ret;exact⟨⟨_,rfl,.inl ⟨rfl,fun j hj=>HNO.out j (by rw[HN.out];exact hj)⟩⟩,HB.out⟩
section
open Go.Maps (Keyed)
theorem Pres.alloc2 {T U:TypeId}{w:World}{a b:Array Value}{fa fb:Nat×Nat}(h:T≠U):Pres T (w.alloc (.cells a U fa)) (w.alloc (.cells b U fb)):=fun k cur fr hk=>by
 rcases Nat.lt_trichotomy k w.heap.size with hl|rfl|hl
 .rw[heap_old _ _ hl]at hk|-;exact hk
 .rw[heap_new _ _ rfl]at hk
  cases hk
  exact absurd rfl h
 .rw[Array.getElem?_eq_none (by simp;omega)]at hk
  cases hk
theorem clReg9_c {W8:World}{B5 bV nl:Nat}{lv:List MoveD}{s:StateD}{K:Act->World->Prop}{B2:Nat}{Q0:Exit->Act->World->Prop}{ds:List Deferred}{so:Option Addr}{sl sc:Nat}{b0 b1 b2 b3 b4 b5 b6 b7 b8 b9 b10 b11 b12 b13 b14 b15 b16 b17 b18 b19 b20 b21 b22 b23 b24 b25 b26 b28 b29 b30 b31:Value}
 (u0 u1 u3 u4 u6 u7 u8 u9 u10 u11 u12 u13 u14 u15 u16 u17 u18 u19 u20 u21 u22 u23 u24 u25 u26 u27 u28 u29 u30 u31 u32 u33 u34 u35 u36 u37 u38 u39 u40 u41 u42 u43 u44 u45 u46 u47 u48 u49 u50 u51 u52 u53 u54 u55 u56 u57 u58 u59 u60 u61 u62 u63 u64 u65 u66 u67 u68 u69 u70 u71 u72 u73 u74 u75 u76 u77 u78 u79 u80 u81 u82 u83 u84 u85 u86 u87 u88 u89 u90 u91 u92 u93 u94 u95 u96 u97 u98 u99 u100 u101 u102 u103 u104:Value)
 (HK5:Hid (W8.heap[B5]?=some (.cells #[.map (some bV)] 236))) (HV:Hid (MapQ nl W8 bV lv)) (HSO:Hid (SOk nl s)) (h4:s.holds.length<=4) (HEX:Hid (∃e∈lv,e.dst=s))
 (HK2:Hid (W8.heap[B2]?=some (.cells #[b0,b1,b2,b3,b4,b5,b6,b7,b8,b9,b10,b11,b12,b13,b14,b15,b16,b17,b18,b19,b20,b21,b22,b23,b24,b25,b26,.slice so sl sc,b28,b29,b30,b31] 44))) (HS:Hid (StateV W8 (.agg #[.int .i64 0,.slice so sl sc]) s))
 (hK:∀(v57 v58 v59 v60 v61 v62 v63 v64 v65:Value) (B8:Nat) (e:MoveD) (x:Bool) (a:Option Addr) (n:Nat) (c:Option Addr) (k:Nat) (wx:World),e∈lv->e.dst=s->wx.heap[B8]?=some (.cells #[.bool x,.slice a n n,.slice c k k] 39)->QV wx (.agg #[.bool x,.slice a n n,.slice c k k]) e.cost->Bel W8.heap.size W8 wx->K {tmps:=#[u0,u1,.pointer (some ⟨B2,0,none⟩),u3,u4,.pointer (some ⟨B5,0,none⟩),u6,u7,.pointer (some ⟨B8,0,none⟩),.bool true,u10,u11,u12,u13,u14,u15,u16,u17,u18,u19,u20,u21,u22,u23,u24,u25,u26,u27,u28,u29,u30,u31,u32,u33,u34,u35,u36,u37,u38,u39,u40,u41,u42,u43,u44,u45,u46,u47,u48,u49,u50,u51,u52,u53,u54,u55,u56,v57,v58,v59,v60,v61,v62,v63,v64,v65,u66,u67,u68,u69,u70,u71,u72,u73,u74,u75,u76,u77,u78,u79,u80,u81,u82,u83,u84,u85,u86,u87,u88,u89,u90,u91,u92,u93,u94,u95,u96,u97,u98,u99,u100,u101,u102,u103,u104],defers:=ds} wx):
 Code.wp Tryz.prog clReg9 (Exit.then K Q0) {tmps:=#[u0,u1,.pointer (some ⟨B2,0,none⟩),u3,u4,.pointer (some ⟨B5,0,none⟩),u6,u7,u8,u9,u10,u11,u12,u13,u14,u15,u16,u17,u18,u19,u20,u21,u22,u23,u24,u25,u26,u27,u28,u29,u30,u31,u32,u33,u34,u35,u36,u37,u38,u39,u40,u41,u42,u43,u44,u45,u46,u47,u48,u49,u50,u51,u52,u53,u54,u55,u56,u57,u58,u59,u60,u61,u62,u63,u64,u65,u66,u67,u68,u69,u70,u71,u72,u73,u74,u75,u76,u77,u78,u79,u80,u81,u82,u83,u84,u85,u86,u87,u88,u89,u90,u91,u92,u93,u94,u95,u96,u97,u98,u99,u100,u101,u102,u103,u104],defers:=ds} W8:=by
 obtain⟨r50,r51⟩:=row1 HK5.out;have l5:=BlkT.lt ⟨_,_,HK5.out⟩;obtain⟨-,-,-,-,-,-,-,-,-,-,-,-,-,-,-,-,-,-,-,-,-,-,-,-,-,-,-,e27,-,-,-,-⟩:=row32 HK2.out;have l2:=BlkT.lt ⟨_,_,HK2.out⟩;obtain⟨w,hw⟩:∃w:World,w=W8:=⟨_,rfl⟩
 have hst:SHs w W8 W8.heap.size W8:=by rw[hw];exact SHs.start NL NL (Bel.refl _ _)
 clear hw
 conv=>arg 2;whnf
 refine wp_region_noPanic ?_;refine wp_region_K (S:=(fun w'=>(∀(b o:Nat),b<W8.heap.size->w'.cell? ⟨b,o,none⟩=W8.cell? ⟨b,o,none⟩)/\SHs w W8 (W8.heap.size) w')) (k:=11) (by kernel_rfl) ?_ (fun hHeld=>?_)
 . ((try dsimp only);(exact K2s))
 refine TK 0 [] ?_;refine TK 1 [] ?_;refine TK 2 [] ?_;refine TK 3 [] ?_;refine KRs [4,9] ?_;refine KCs (fun K hK=>?_) ?_
 .go_simp;refine(key_c (HS.out.pres hHeld.2.near.pb) h4).mono ?_;rintro e w20 ⟨rfl,hb1⟩;have hy1:=hb1.size
  (try simp at hy1)
  obtain⟨z0,z1,z2,z3,z4,hkv⟩:=keyV_cells s;rw[hkv];have HKV:=LH hkv;clear hkv
  (try go_wp2_with fail)
  refine SA hK (hHeld.2.call hb1).hold fun hHeld=>?_;clear hK K
  refine KRs [5,9] ?_;refine KCs (fun K hK=>?_) ?_
  .go_simp;refine upon_look_ok (Ok:=CostV) (ky:=MoveD.dst) (fun _ _=>rfl) (HV.out.bel hHeld.2.near) Tryz.underlying236 (Tryz.zeroValue39 _) HSO.out HKV.out.symm (fun v9 e9 he9 hes9 hm9=>?_) (fun hno=>absurd HEX.out (fun⟨e,he,hes⟩=>hno e he hes));obtain⟨x9,a9,n9,c9,k9,rfl⟩:=QV.cells hm9
   (try go_wp2_with fail)
   refine SA hK hHeld fun hHeld=>?_;clear hK K
   refine TK 6 [] ?_;refine TK 7 [] ?_;refine TK 8 [] ?_;refine KRs [9] ?_;refine KCs (fun K hK=>?_) ?_
   .go_simp;refine SA hK (hHeld.2.alloc _).hold fun hHeld=>?_;clear hK K
    refine KRs [10] ?_;refine KCs (fun K hK=>?_) ?_
    .have hrw3:(w20.alloc (.cells #[.bool false,.slice none 0 0,.slice none 0 0] 39)).heap[w20.heap.size]?=some (.cells #[.bool false,.slice none 0 0,.slice none 0 0] 39):=(heap_new _ _ rfl)
     obtain⟨j0,j1,j2,j3,j4,j5⟩:=row3 hrw3;have hm9':QV (w20.alloc (.cells #[.bool false,.slice none 0 0,.slice none 0 0] 39)) (.agg #[.bool x9,.slice a9 n9 n9,.slice c9 k9 k9]) e9.cost:=by first|exact hm9|exact QV.pres hm9 (Pres.alloc _ _)
     go_simp;refine SS hK fun hHeld=>?_;clear hK K
     refine KRs [11] ?_;refine KCs (fun K hK=>?_) ?_
     .go_simp;refine SE hK ?_;clear hK K
      refine wpAnyK_done (by kernel_rfl) ?_ _;refine NoPanic.normal ?_;exact hK _ _ _ _ _ _ _ _ _ _ e9 x9 a9 n9 c9 k9 _ he9 hes9 (heap_new _ _ rfl) (QV.pres hm9' (Pres.alloc2 (by decide))) hHeld.2.near
     exact KNs
    exact KNs
   exact KNs
  refine KCs (fun K hK=>?_) ?_
  .go_simp;refine SA hK (hHeld.2.alloc _).hold fun hHeld=>?_;clear hK K
   refine KRs [5] ?_;refine KCs (fun K hK=>?_) ?_
   .go_simp;refine upon_look_ok (Ok:=CostV) (ky:=MoveD.dst) (fun _ _=>rfl) (HV.out.bel hHeld.2.near) Tryz.underlying236 (Tryz.zeroValue39 _) HSO.out HKV.out.symm (fun v9 e9 he9 hes9 hm9=>?_) (fun hno=>absurd HEX.out (fun⟨e,he,hes⟩=>hno e he hes));obtain⟨x9,a9,n9,c9,k9,rfl⟩:=QV.cells hm9
    (try go_wp2_with fail)
    refine SA hK hHeld fun hHeld=>?_;clear hK K
    refine TK 6 [] ?_;refine TK 7 [] ?_;refine TK 8 [] ?_;refine KRs [10] ?_;refine KCs (fun K hK=>?_) ?_
    .have hrw3:(w20.alloc (.cells #[.bool false,.slice none 0 0,.slice none 0 0] 39)).heap[w20.heap.size]?=some (.cells #[.bool false,.slice none 0 0,.slice none 0 0] 39):=(heap_new _ _ rfl)
     obtain⟨j0,j1,j2,j3,j4,j5⟩:=row3 hrw3;have hm9':QV (w20.alloc (.cells #[.bool false,.slice none 0 0,.slice none 0 0] 39)) (.agg #[.bool x9,.slice a9 n9 n9,.slice c9 k9 k9]) e9.cost:=by first|exact hm9|exact QV.pres hm9 (Pres.alloc _ _)
     go_simp;refine SS hK fun hHeld=>?_;clear hK K
     refine KRs [11] ?_;refine KCs (fun K hK=>?_) ?_
     .go_simp;refine SE hK ?_;clear hK K
      refine wpAnyK_done (by kernel_rfl) ?_ _;refine NoPanic.normal ?_;exact hK _ _ _ _ _ _ _ _ _ _ e9 x9 a9 n9 c9 k9 _ he9 hes9 (heap_new _ _ rfl) (QV.pres hm9' (Pres.alloc2 (by decide))) hHeld.2.near
     exact KNs
    exact KNs
   exact KNs
  exact KNs
 refine KCs (fun K hK=>?_) ?_
 .go_simp;refine SA hK (hHeld.2.alloc _).hold fun hHeld=>?_;clear hK K
  refine KRs [4] ?_;refine KCs (fun K hK=>?_) ?_
  .go_simp;refine(key_c (HS.out.pres hHeld.2.near.pb) h4).mono ?_;rintro e w20 ⟨rfl,hb1⟩;have hy1:=hb1.size
   (try simp at hy1)
   obtain⟨z0,z1,z2,z3,z4,hkv⟩:=keyV_cells s;rw[hkv];have HKV:=LH hkv;clear hkv;have hrw:w20.heap[W8.heap.size]?=some (.cells #[.bool false,.slice none 0 0,.slice none 0 0] 39):=(hb1.block _ (by first|omega|(simp;done)|(simp;omega))).trans (heap_new _ _ (by simp))
   (try go_wp2_with fail)
   refine SA hK (hHeld.2.call hb1).hold fun hHeld=>?_;clear hK K
   refine KRs [5] ?_;refine KCs (fun K hK=>?_) ?_
   .go_simp;refine upon_look_ok (Ok:=CostV) (ky:=MoveD.dst) (fun _ _=>rfl) (HV.out.bel hHeld.2.near) Tryz.underlying236 (Tryz.zeroValue39 _) HSO.out HKV.out.symm (fun v9 e9 he9 hes9 hm9=>?_) (fun hno=>absurd HEX.out (fun⟨e,he,hes⟩=>hno e he hes));obtain⟨x9,a9,n9,c9,k9,rfl⟩:=QV.cells hm9
    (try go_wp2_with fail)
    refine SA hK hHeld fun hHeld=>?_;clear hK K
    refine TK 6 [] ?_;refine TK 7 [] ?_;refine TK 8 [] ?_;refine KRs [10] ?_;refine KCs (fun K hK=>?_) ?_
    .have hrw3:w20.heap[W8.heap.size]?=some (.cells #[.bool false,.slice none 0 0,.slice none 0 0] 39):=hrw;obtain⟨j0,j1,j2,j3,j4,j5⟩:=row3 hrw3;have hm9':QV w20 (.agg #[.bool x9,.slice a9 n9 n9,.slice c9 k9 k9]) e9.cost:=by first|exact hm9|exact QV.pres hm9 (Pres.alloc _ _)
     go_simp;refine SS hK fun hHeld=>?_;clear hK K
     refine KRs [11] ?_;refine KCs (fun K hK=>?_) ?_
     .go_simp;refine SE hK ?_;clear hK K
      refine wpAnyK_done (by kernel_rfl) ?_ _;refine NoPanic.normal ?_;exact hK _ _ _ _ _ _ _ _ _ _ e9 x9 a9 n9 c9 k9 _ he9 hes9 (set3_heap hrw3) (QV.pres hm9' (Pres.set3 ⟨_,_,hrw3⟩ (by decide) _ _ _ _ _ _)) hHeld.2.near
     exact KNs
    exact KNs
   exact KNs
  exact KNs
 exact KNs
theorem clReg17_c {W8:World}{B5 bV nl:Nat}{lv:List MoveD}{s:StateD}{K:Act->World->Prop}{N l n nb B12:Nat}{Kp:World->World->Prop}{I:List MoveD->World->Prop}{Ix:Code->List MoveD->World->Prop}{xs:List MoveD}{W:World}{ph2:Int}{ho2:Option Addr}{hl2 hc2:Nat}{x2:Bool}{a2:Option Addr}{q2:Nat}{c2:Option Addr}{k2:Nat}
 (u0 u1 u2 u3 u4 u6 u7 u8 u9 u10 u11 u13 u14 u15 u16 u17 u18 u19 u20 u21 u22 u23 u24 u25 u26 u27 u28 u29 u30 u31 u32 u33 u34 u35 u36 u37 u38 u39 u40 u41 u42 u43 u44 u45 u46 u47 u48 u49 u50 u51 u52 u53 u54 u55 u56 u57 u58 u59 u60 u61 u62 u63 u64 u65 u66 u67 u68 u69 u70 u71 u72 u73 u74 u75 u76 u77 u78 u79 u80 u81 u82 u83 u84 u85 u86 u87 u88 u89 u90 u91 u92 u93 u94 u95 u96 u97 u98 u99 u100 u101 u102 u103 u104:Value)
 (HK5:Hid (W8.heap[B5]?=some (.cells #[.map (some bV)] 236))) (HV:Hid (MapQ nl W8 bV lv)) (HSO:Hid (SOk nl s)) (h4:s.holds.length<=4) (HEX:Hid (∃e∈lv,e.dst=s))
 (HK12:Hid (W8.heap[B12]?=some (.cells #[.int .i64 ph2,.slice ho2 hl2 hc2,.bool x2,.slice a2 q2 q2,.slice c2 k2 k2] 93))) (HS:Hid (StateV W8 (.agg #[.int .i64 ph2,.slice ho2 hl2 hc2]) s))
 (hK:∀(v84 v85 v86 v87 v88 v89 v90 v91:Value) (B8:Nat) (e:MoveD) (x:Bool) (a:Option Addr) (n:Nat) (c:Option Addr) (k:Nat) (wx:World),e∈lv->e.dst=s->wx.heap[B8]?=some (.cells #[.bool x,.slice a n n,.slice c k k] 39)->QV wx (.agg #[.bool x,.slice a n n,.slice c k k]) e.cost->Bel W8.heap.size W8 wx->K {tmps:=#[u0,u1,u2,u3,u4,.pointer (some ⟨B5,0,none⟩),u6,u7,u8,u9,u10,u11,.pointer (some ⟨B12,0,none⟩),.pointer (some ⟨B8,0,none⟩),.bool true,u15,u16,u17,u18,u19,u20,u21,u22,u23,u24,u25,u26,u27,u28,u29,u30,u31,u32,u33,u34,u35,u36,u37,u38,u39,u40,u41,u42,u43,u44,u45,u46,u47,u48,u49,u50,u51,u52,u53,u54,u55,u56,u57,u58,u59,u60,u61,u62,u63,u64,u65,u66,u67,u68,u69,u70,u71,u72,u73,u74,u75,u76,u77,u78,u79,u80,u81,u82,u83,v84,v85,v86,v87,v88,v89,v90,v91,u92,u93,u94,u95,u96,u97,u98,u99,u100,u101,u102,u103,u104],defers:=[]} wx):
 clReg17.wpIn (Fence.wide.inRound l) n Tryz.prog (Exit.then K (Exit.inBlock nb (roundQ N Kp I Ix xs W))) {tmps:=#[u0,u1,u2,u3,u4,.pointer (some ⟨B5,0,none⟩),u6,u7,u8,u9,u10,u11,.pointer (some ⟨B12,0,none⟩),u13,u14,u15,u16,u17,u18,u19,u20,u21,u22,u23,u24,u25,u26,u27,u28,u29,u30,u31,u32,u33,u34,u35,u36,u37,u38,u39,u40,u41,u42,u43,u44,u45,u46,u47,u48,u49,u50,u51,u52,u53,u54,u55,u56,u57,u58,u59,u60,u61,u62,u63,u64,u65,u66,u67,u68,u69,u70,u71,u72,u73,u74,u75,u76,u77,u78,u79,u80,u81,u82,u83,u84,u85,u86,u87,u88,u89,u90,u91,u92,u93,u94,u95,u96,u97,u98,u99,u100,u101,u102,u103,u104],defers:=[]} W8:=by
 obtain⟨r50,r51⟩:=row1 HK5.out;have l5:=BlkT.lt ⟨_,_,HK5.out⟩;obtain⟨t0,t1,t2,t3,t4⟩:=row5 HK12.out;have l12:=BlkT.lt ⟨_,_,HK12.out⟩;obtain⟨w,hw⟩:∃w:World,w=W8:=⟨_,rfl⟩
 have hst:SHs w W8 W8.heap.size W8:=by rw[hw];exact SHs.start NL NL (Bel.refl _ _)
 clear hw
 conv=>arg 4;whnf
 refine wpIn_round_K (S:=(fun w'=>(∀(b o:Nat),b<W8.heap.size->w'.cell? ⟨b,o,none⟩=W8.cell? ⟨b,o,none⟩)/\SHs w W8 (W8.heap.size) w')) (k:=10) (by kernel_rfl) (by kernel_rfl) (by rintro⟨_,_,h⟩;exact h) ?_ (fun hHeld=>?_)
 . ((try dsimp only);(exact K2s))
 refine TK 0 [] ?_;refine TK 1 [] ?_;refine TK 2 [] ?_;refine KRs [3,8] ?_;refine KCs (fun K hK=>?_) ?_
 .go_simp;refine(key_c (HS.out.pres hHeld.2.near.pb) h4).mono ?_;rintro e w20 ⟨rfl,hb1⟩;have hy1:=hb1.size
  (try simp at hy1)
  obtain⟨z0,z1,z2,z3,z4,hkv⟩:=keyV_cells s;rw[hkv];have HKV:=LH hkv;clear hkv
  (try go_wp2_with fail)
  refine SA hK (hHeld.2.call hb1).hold fun hHeld=>?_;clear hK K
  refine KRs [4,8] ?_;refine KCs (fun K hK=>?_) ?_
  .go_simp;refine upon_look_ok (Ok:=CostV) (ky:=MoveD.dst) (fun _ _=>rfl) (HV.out.bel hHeld.2.near) Tryz.underlying236 (Tryz.zeroValue39 _) HSO.out HKV.out.symm (fun v9 e9 he9 hes9 hm9=>?_) (fun hno=>absurd HEX.out (fun⟨e,he,hes⟩=>hno e he hes));obtain⟨x9,a9,n9,c9,k9,rfl⟩:=QV.cells hm9
   (try go_wp2_with fail)
   refine SA hK hHeld fun hHeld=>?_;clear hK K
   refine TK 5 [] ?_;refine TK 6 [] ?_;refine TK 7 [] ?_;refine KRs [8] ?_;refine KCs (fun K hK=>?_) ?_
   .go_simp;refine SA hK (hHeld.2.alloc _).hold fun hHeld=>?_;clear hK K
    refine KRs [9] ?_;refine KCs (fun K hK=>?_) ?_
    .have hrw3:(w20.alloc (.cells #[.bool false,.slice none 0 0,.slice none 0 0] 39)).heap[w20.heap.size]?=some (.cells #[.bool false,.slice none 0 0,.slice none 0 0] 39):=(heap_new _ _ rfl)
     obtain⟨j0,j1,j2,j3,j4,j5⟩:=row3 hrw3;have hm9':QV (w20.alloc (.cells #[.bool false,.slice none 0 0,.slice none 0 0] 39)) (.agg #[.bool x9,.slice a9 n9 n9,.slice c9 k9 k9]) e9.cost:=by first|exact hm9|exact QV.pres hm9 (Pres.alloc _ _)
     go_simp;refine SS hK fun hHeld=>?_;clear hK K
     refine KRs [10] ?_;refine KCs (fun K hK=>?_) ?_
     .go_simp;refine SE hK ?_;clear hK K
      refine wpAnyK_done (by kernel_rfl) ?_ _;exact hK _ _ _ _ _ _ _ _ _ e9 x9 a9 n9 c9 k9 _ he9 hes9 (heap_new _ _ rfl) (QV.pres hm9' (Pres.alloc2 (by decide))) hHeld.2.near
     exact KNs
    exact KNs
   exact KNs
  refine KCs (fun K hK=>?_) ?_
  .go_simp;refine SA hK (hHeld.2.alloc _).hold fun hHeld=>?_;clear hK K
   refine KRs [4] ?_;refine KCs (fun K hK=>?_) ?_
   .go_simp;refine upon_look_ok (Ok:=CostV) (ky:=MoveD.dst) (fun _ _=>rfl) (HV.out.bel hHeld.2.near) Tryz.underlying236 (Tryz.zeroValue39 _) HSO.out HKV.out.symm (fun v9 e9 he9 hes9 hm9=>?_) (fun hno=>absurd HEX.out (fun⟨e,he,hes⟩=>hno e he hes));obtain⟨x9,a9,n9,c9,k9,rfl⟩:=QV.cells hm9
    (try go_wp2_with fail)
    refine SA hK hHeld fun hHeld=>?_;clear hK K
    refine TK 5 [] ?_;refine TK 6 [] ?_;refine TK 7 [] ?_;refine KRs [9] ?_;refine KCs (fun K hK=>?_) ?_
    .have hrw3:(w20.alloc (.cells #[.bool false,.slice none 0 0,.slice none 0 0] 39)).heap[w20.heap.size]?=some (.cells #[.bool false,.slice none 0 0,.slice none 0 0] 39):=(heap_new _ _ rfl)
     obtain⟨j0,j1,j2,j3,j4,j5⟩:=row3 hrw3;have hm9':QV (w20.alloc (.cells #[.bool false,.slice none 0 0,.slice none 0 0] 39)) (.agg #[.bool x9,.slice a9 n9 n9,.slice c9 k9 k9]) e9.cost:=by first|exact hm9|exact QV.pres hm9 (Pres.alloc _ _)
     go_simp;refine SS hK fun hHeld=>?_;clear hK K
     refine KRs [10] ?_;refine KCs (fun K hK=>?_) ?_
     .go_simp;refine SE hK ?_;clear hK K
      refine wpAnyK_done (by kernel_rfl) ?_ _;exact hK _ _ _ _ _ _ _ _ _ e9 x9 a9 n9 c9 k9 _ he9 hes9 (heap_new _ _ rfl) (QV.pres hm9' (Pres.alloc2 (by decide))) hHeld.2.near
     exact KNs
    exact KNs
   exact KNs
  exact KNs
 refine KCs (fun K hK=>?_) ?_
 .go_simp;refine SA hK (hHeld.2.alloc _).hold fun hHeld=>?_;clear hK K
  refine KRs [3] ?_;refine KCs (fun K hK=>?_) ?_
  .go_simp;refine(key_c (HS.out.pres hHeld.2.near.pb) h4).mono ?_;rintro e w20 ⟨rfl,hb1⟩;have hy1:=hb1.size
   (try simp at hy1)
   obtain⟨z0,z1,z2,z3,z4,hkv⟩:=keyV_cells s;rw[hkv];have HKV:=LH hkv;clear hkv;have hrw:w20.heap[W8.heap.size]?=some (.cells #[.bool false,.slice none 0 0,.slice none 0 0] 39):=(hb1.block _ (by first|omega|(simp;done)|(simp;omega))).trans (heap_new _ _ (by simp))
   (try go_wp2_with fail)
   refine SA hK (hHeld.2.call hb1).hold fun hHeld=>?_;clear hK K
   refine KRs [4] ?_;refine KCs (fun K hK=>?_) ?_
   .go_simp;refine upon_look_ok (Ok:=CostV) (ky:=MoveD.dst) (fun _ _=>rfl) (HV.out.bel hHeld.2.near) Tryz.underlying236 (Tryz.zeroValue39 _) HSO.out HKV.out.symm (fun v9 e9 he9 hes9 hm9=>?_) (fun hno=>absurd HEX.out (fun⟨e,he,hes⟩=>hno e he hes));obtain⟨x9,a9,n9,c9,k9,rfl⟩:=QV.cells hm9
    (try go_wp2_with fail)
    refine SA hK hHeld fun hHeld=>?_;clear hK K
    refine TK 5 [] ?_;refine TK 6 [] ?_;refine TK 7 [] ?_;refine KRs [9] ?_;refine KCs (fun K hK=>?_) ?_
    .have hrw3:w20.heap[W8.heap.size]?=some (.cells #[.bool false,.slice none 0 0,.slice none 0 0] 39):=hrw;obtain⟨j0,j1,j2,j3,j4,j5⟩:=row3 hrw3;have hm9':QV w20 (.agg #[.bool x9,.slice a9 n9 n9,.slice c9 k9 k9]) e9.cost:=by first|exact hm9|exact QV.pres hm9 (Pres.alloc _ _)
     go_simp;refine SS hK fun hHeld=>?_;clear hK K
     refine KRs [10] ?_;refine KCs (fun K hK=>?_) ?_
     .go_simp;refine SE hK ?_;clear hK K
      refine wpAnyK_done (by kernel_rfl) ?_ _;exact hK _ _ _ _ _ _ _ _ _ e9 x9 a9 n9 c9 k9 _ he9 hes9 (set3_heap hrw3) (QV.pres hm9' (Pres.set3 ⟨_,_,hrw3⟩ (by decide) _ _ _ _ _ _)) hHeld.2.near
     exact KNs
    exact KNs
   exact KNs
  exact KNs
 exact KNs
theorem clReg18_c {W8:World}{L1 L2 N l n nb B11 B12 B8:Nat}{a y:MoveD}{c9:Rat}{K:Act->World->Prop}{Kp:World->World->Prop}{I:List MoveD->World->Prop}{Ix:Code->List MoveD->World->Prop}{xs:List MoveD}{W:World}{ph:Int}{ho:Option Addr}{hl hc:Nat}{x:Bool}{a1:Option Addr}{q1:Nat}{c1:Option Addr}{k1:Nat}{ph2:Int}{ho2:Option Addr}{hl2 hc2:Nat}{x2:Bool}{a2:Option Addr}{q2:Nat}{c2:Option Addr}{k2:Nat}{x9:Bool}{a9:Option Addr}{n9:Nat}{d9:Option Addr}{k9:Nat}
 (u0 u1 u2 u3 u4 u5 u6 u7 u8 u9 u10 u15 u16 u17 u18 u19 u20 u21 u22 u23 u24 u25 u26 u27 u28 u29 u30 u31 u32 u33 u34 u35 u36 u37 u38 u39 u40 u41 u42 u43 u44 u45 u46 u47 u48 u49 u50 u51 u52 u53 u54 u55 u56 u57 u58 u59 u60 u61 u62 u63 u64 u65 u66 u67 u68 u69 u70 u71 u72 u73 u74 u75 u76 u77 u78 u79 u80 u81 u82 u83 u84 u85 u86 u87 u88 u89 u90 u91 u92 u93 u94 u95 u96 u97 u98 u99 u100 u101 u102 u103 u104:Value)
 (HK11:Hid (W8.heap[B11]?=some (.cells #[.int .i64 ph,.slice ho hl hc,.bool x,.slice a1 q1 q1,.slice c1 k1 k1] 158)))
 (HK12:Hid (W8.heap[B12]?=some (.cells #[.int .i64 ph2,.slice ho2 hl2 hc2,.bool x2,.slice a2 q2 q2,.slice c2 k2 k2] 93)))
 (HK8:Hid (W8.heap[B8]?=some (.cells #[.bool x9,.slice a9 n9 n9,.slice d9 k9 k9] 39)))
 (HAV:Hid (QV W8 (.agg #[.bool x,.slice a1 q1 q1,.slice c1 k1 k1]) a.cost)) (HYQ:Hid (QV W8 (.agg #[.bool x2,.slice a2 q2 q2,.slice c2 k2 k2]) y.cost)) (HEQ:Hid (QV W8 (.agg #[.bool x9,.slice a9 n9 n9,.slice d9 k9 k9]) c9))
 (HFA:Hid (QF L1 a.cost)) (HFY:Hid (QF L2 y.cost)) (HFE:Hid (QF L1 c9)) (HSZ:Hid (L1+L2<=1000000000)) (HSZ2:Hid (L1+(L1+L2+1)<=1000000000)) (HLE:Hid (c9<=a.cost+y.cost))
 (hK:∀(v92 v93 v94 v95 v96 v97 v98 v99 v100 v101 v102:Value) (wx:World),Bel W8.heap.size W8 wx->K {tmps:=#[u0,u1,u2,u3,u4,u5,u6,u7,u8,u9,u10,.pointer (some ⟨B11,0,none⟩),.pointer (some ⟨B12,0,none⟩),.pointer (some ⟨B8,0,none⟩),.bool true,u15,u16,u17,u18,u19,u20,u21,u22,u23,u24,u25,u26,u27,u28,u29,u30,u31,u32,u33,u34,u35,u36,u37,u38,u39,u40,u41,u42,u43,u44,u45,u46,u47,u48,u49,u50,u51,u52,u53,u54,u55,u56,u57,u58,u59,u60,u61,u62,u63,u64,u65,u66,u67,u68,u69,u70,u71,u72,u73,u74,u75,u76,u77,u78,u79,u80,u81,u82,u83,u84,u85,u86,u87,u88,u89,u90,u91,v92,v93,v94,v95,v96,v97,v98,v99,v100,v101,v102,.bool false,u104],defers:=[]} wx):
 clReg18.wpIn (Fence.wide.inRound l) n Tryz.prog (Exit.then K (Exit.inBlock nb (roundQ N Kp I Ix xs W))) {tmps:=#[u0,u1,u2,u3,u4,u5,u6,u7,u8,u9,u10,.pointer (some ⟨B11,0,none⟩),.pointer (some ⟨B12,0,none⟩),.pointer (some ⟨B8,0,none⟩),.bool true,u15,u16,u17,u18,u19,u20,u21,u22,u23,u24,u25,u26,u27,u28,u29,u30,u31,u32,u33,u34,u35,u36,u37,u38,u39,u40,u41,u42,u43,u44,u45,u46,u47,u48,u49,u50,u51,u52,u53,u54,u55,u56,u57,u58,u59,u60,u61,u62,u63,u64,u65,u66,u67,u68,u69,u70,u71,u72,u73,u74,u75,u76,u77,u78,u79,u80,u81,u82,u83,u84,u85,u86,u87,u88,u89,u90,u91,u92,u93,u94,u95,u96,u97,u98,u99,u100,u101,u102,u103,u104],defers:=[]} W8:=by
 obtain⟨r0,r1,r2,r3,r4⟩:=row5 HK11.out;obtain⟨t0,t1,t2,t3,t4⟩:=row5 HK12.out;obtain⟨s0,s1,s2,-,-,-⟩:=row3 HK8.out;have l11:=BlkT.lt ⟨_,_,HK11.out⟩;have l12:=BlkT.lt ⟨_,_,HK12.out⟩;have l8:=BlkT.lt ⟨_,_,HK8.out⟩;obtain⟨w,hw⟩:∃w:World,w=W8:=⟨_,rfl⟩
 have hst:SHs w W8 W8.heap.size W8:=by rw[hw];exact SHs.start NL NL (Bel.refl _ _)
 clear hw
 conv=>arg 4;whnf
 refine wpIn_round_K (S:=(fun w'=>(∀(b o:Nat),b<W8.heap.size->w'.cell? ⟨b,o,none⟩=W8.cell? ⟨b,o,none⟩)/\SHs w W8 (W8.heap.size) w')) (k:=11) (by kernel_rfl) (by kernel_rfl) (by rintro⟨_,_,h⟩;exact h) ?_ (fun hHeld=>?_)
 . ((try dsimp only);(exact K2s))
 refine TK 0 [2,1] ?_;refine TK 1 [2] ?_;refine TK 2 [] ?_;refine TK 3 [10,9] ?_;refine TK 4 [10,9,8,5] ?_;refine TK 5 [10,9,8] ?_;refine TK 6 [10,9,8,7] ?_;refine TK 7 [10,9,8] ?_;refine KRs [8] ?_;refine KCs (fun K hK=>?_) ?_
 .go_simp;refine(qadd_c (HAV.out.pres hHeld.2.near.pb) (HYQ.out.pres hHeld.2.near.pb) HFA.out HFY.out HSZ.out).mono ?_;rintro e w20 ⟨vq1,rfl,hQ1,hb1⟩;have hy1:=hb1.size
  (try simp at hy1)
  obtain⟨xs1,as1,ns1,cs1,ks1,rfl⟩:=hQ1.cells
  (try go_wp2_with fail)
  refine SA hK (hHeld.2.call hb1).hold fun hHeld=>?_;clear hK K
  refine KRs [9] ?_;refine KCs (fun K hK=>?_) ?_
  .go_simp;refine(qcmp_c (HEQ.out.pres hHeld.2.near.pb) hQ1 HFE.out (HFA.out.add HFY.out) HSZ2.out).mono ?_;rintro e w21 ⟨rfl,hb2⟩;have hy2:=hb2.size
   (try simp at hy2)
   obtain⟨z,hz,hz0⟩:∃z,z=cmpR c9 (a.cost+y.cost)/\¬0<z:=⟨_,rfl,fun h=>by have h1:=cmpR_gt.1 h;have h2:=HLE.out;grind⟩
   rw[<-hz];have hd1:decide (0<z)=false:=decide_eq_false hz0;have hd2:decide (z>0)=false:=decide_eq_false hz0;clear hz
   (try go_wp2_with fail)
   refine SA hK (hHeld.2.call hb2).hold fun hHeld=>?_;clear hK K
   refine TK 10 [] ?_;refine KRs [11] ?_;refine KCs (fun K hK=>?_) ?_
   .go_simp;refine SE hK ?_;clear hK K
    refine wpAnyK_done (by kernel_rfl) ?_ _;exact hK _ _ _ _ _ _ _ _ _ _ _ _ hHeld.2.near
   exact KNs
  exact KNs
 exact KNs
end
section
open Go.Maps (Keyed)
attribute [local go_sem] Oper.semAt_some
structure CY (w wr:World) (p:ProbD) (pv:Value) (nl B2 B4 B5 bV:Nat) (ds:List Deferred) (tp:Nat) (V:List MoveD) (ao:Option Addr) (f:Nat->Value) (ms:List MoveD):Prop where
 bel:Bel w.heap.size w wr
 low:w.heap.size<=bV/\w.heap.size<=B4
 b2:∃cs,pv=.agg cs/\wr.heap[B2]?=some (.cells cs 44)
 prob:PVal wr pv p
 b4:wr.heap[B4]?=some (.cells #[.bool false] 4)
 b5:wr.heap[B5]?=some (.cells #[.map (some bV)] 236)
 val:MapQ nl wr bV V
 row:MarksAt wr ao ms f
 mkd:MarksD w.heap.size tp ds wr/\tp<=wr.heap.size
section
variable {w wr wr' : World} {p : ProbD} {pv : Value} {nl B2 B4 B5 bV tp : Nat} {ds : List Deferred} {V : List MoveD} {ao : Option Addr} {f : Nat → Value} {ms : List MoveD}
theorem CY.lt (h:CY w wr p pv nl B2 B4 B5 bV ds tp V ao f ms):bV<wr.heap.size/\B2<wr.heap.size/\B4<wr.heap.size/\B5<wr.heap.size:=by
 obtain⟨cs,-,h1⟩:=h.b2;exact⟨h.val.lt,(Array.getElem?_eq_some_iff.1 h1).1,(Array.getElem?_eq_some_iff.1 h.b4).1,(Array.getElem?_eq_some_iff.1 h.b5).1⟩
theorem CY.call (h:CY w wr p pv nl B2 B4 B5 bV ds tp V ao f ms)(hb:Bel wr.heap.size wr wr'):CY w wr' p pv nl B2 B4 B5 bV ds tp V ao f ms:=by
 obtain⟨l1,l2,l4,l5⟩:=h.lt;obtain⟨cs,e,h1⟩:=h.b2;exact⟨h.bel.trans (hb.mono h.bel.size),h.low,⟨cs,e,(hb.block _ l2).trans h1⟩,h.prob.bel hb,(hb.block _ l4).trans h.b4,(hb.block _ l5).trans h.b5,h.val.bel hb,h.row.bel hb,h.mkd.1.kp (KpT.of_bel (T:=158) hb),Nat.le_trans h.mkd.2 hb.size⟩
theorem CY.st {B:Nat}(h:CY w wr p pv nl B2 B4 B5 bV ds tp V ao f ms)(hs:St B wr wr')(hB:bV<B/\tp<=B)(hw:w.heap.size<=B):CY w wr' p pv nl B2 B4 B5 bV ds tp V ao f ms:=by
 obtain⟨cs,e,h1⟩:=h.b2
 exact⟨h.bel.trans (hs.bel.mono hw),h.low,⟨cs,e,hs.cells _ _ _ _ h1⟩,h.prob.keep (KpI.of_st hs),hs.cells _ _ _ _ h.b4,hs.cells _ _ _ _ h.b5,
  h.val.heap (hs.bel.block _ hB.1) fun v e he=>he.pres (hs.pres _),h.row.pres (hs.pres _) (hs.pres _) (hs.pres _),h.mkd.1.st hs hB.2,Nat.le_trans h.mkd.2 hs.bel.size⟩
theorem CY.turn {V':List MoveD}(h:CY w wr p pv nl B2 B4 B5 bV ds tp V ao f ms)(ht:Trn bV wr wr')(hV:MapQ nl wr' bV V'):CY w wr' p pv nl B2 B4 B5 bV ds tp V' ao f ms:=by
 obtain⟨cs,e,h1⟩:=h.b2
 exact⟨h.bel.trans (ht.bel h.low.1),h.low,⟨cs,e,ht.pres _ _ _ _ h1⟩,h.prob.keep ht.kpi,ht.pres _ _ _ _ h.b4,ht.pres _ _ _ _ h.b5,
  hV,h.row.pres (ht.pres _) (ht.pres _) (ht.pres _),h.mkd.1.trn ht h.val.obj,by rw[ht.size];exact h.mkd.2⟩
theorem CY.mark {d:Nat}(h:CY w wr p pv nl B2 B4 B5 bV ds tp V ao f ms)(h1:tp<=d)(h2:w.heap.size<=d)(h3:wr.heap[d]?=some (.deferred (some []))):CY w wr p pv nl B2 B4 B5 bV ({target:=.collected d,args:=#[]}::ds) wr.heap.size V ao f ms:=
 ⟨h.bel,h.low,h.b2,h.prob,h.b4,h.b5,h.val,h.row,⟨⟨d,rfl,h2,(Array.getElem?_eq_some_iff.1 h3).1,h3,h.mkd.1.mono h1⟩,Nat.le_refl _⟩⟩
end
def ValI (ms:List MoveD)(i:Nat)(V:List MoveD):Prop:=∀e,e∈V ↔ e∈ms.take i
theorem ValI.nil (ms:List MoveD):ValI ms 0 []:=fun e=>by simp
theorem ValI.step {ms V:List MoveD}{i:Nat}(h:ValI ms i V)(hn:NdL ms)(hi:i<ms.length):ValI ms (i+1) (ms.getD i move0::V.filter fun e=>decide (e.dst≠(ms.getD i move0).dst)):=fun e=>by
 rw[List.mem_cons,List.mem_filter,h e,List.take_succ_eq_append_getElem hi,List.mem_append,List.mem_singleton,getD_get hi];constructor
 .rintro(h|⟨h,-⟩)
  .exact .inr h
  .exact .inl h
 .rintro(h|h)
  .refine .inr ⟨h,?_⟩;simp only[decide_eq_true_eq];intro ee;have hm:e∈ms:=List.mem_of_mem_take h;have:=dst_inj hn hm (List.getElem_mem hi) ee;subst this
   have hnd:ms.Nodup:=by
    unfold NdL at hn;unfold List.Nodup at hn|-;rw[List.pairwise_map]at hn;exact hn.imp fun h e=>h (by rw[e])
   obtain⟨k,hk,e1⟩:=List.mem_iff_getElem.1 h;rw[List.getElem_take]at e1;simp at hk;have h2:=List.pairwise_iff_getElem.1 hnd k i (by omega) hi (by omega);exact h2 e1
  .exact .inl h
theorem ValI.all {ms V:List MoveD}(h:ValI ms ms.length V)(e:MoveD):e∈V ↔ e∈ms:=by rw[h e,List.take_length]
noncomputable def clBody:Code:=((Tryz.f91.body.bind firstRange).getD .skip)
def ClosI (w:World)(p:ProbD)(pv:Value)(B2 B4 B5 bV:Nat)(ds:List Deferred)(tp:Nat)(V:List MoveD)(ao:Option Addr)(f:Nat->Value)(ms:List MoveD)(B11:Nat)(a:MoveD)(cs:Array Value)(pre:List MoveD)(W:World):Prop:=
 CY w W p pv p.walker.legs.toNat B2 B4 B5 bV ds tp V ao f ms/\pre.length<=1000/\W.heap[B11]?=some (.cells cs 158)/\MoveV W (.agg cs) a
theorem clBody_c {w W:World}{p:ProbD}{pv:Value}{L B2 B4 B5 bV tp B11 B12 N l:Nat}{ds:List Deferred}{V:List MoveD}{ao:Option Addr}{f:Nat->Value}{ms:List MoveD}{a y:MoveD}{pre:List MoveD}{csx:Array Value}{ph:Int}{ho:Option Addr}{hl hc:Nat}{x:Bool}{a1:Option Addr}{q1:Nat}{c1:Option Addr}{k1:Nat}
 (u0 u1 u3 u6 u7 u8 u9 u10 u13 u14 u15 u16 u17 u18 u19 u20 u21 u22 u23 u24 u25 u26 u27 u28 u29 u30 u31 u32 u33 u34 u35 u36 u37 u38 u39 u40 u41 u42 u43 u44 u45 u46 u47 u48 u49 u50 u51 u52 u53 u54 u55 u56 u57 u58 u59 u60 u61 u62 u63 u64 u65 u66 u67 u68 u69 u70 u71 u72 u73 u74 u75 u76 u77 u78 u79 u80 u81 u82 u83 u84 u85 u86 u87 u88 u89 u90 u91 u92 u93 u94 u95 u96 u97 u98 u99 u100 u101 u102 u103 u104:Value) (hfi:Fine p a.dst) (hF:ProbF L p) (h1L:1<=L) (hL:L<=1000) (hD:IsMarks p ms) (haD:a∈ms) (hV:ValI ms ms.length V) (hQD:∀e∈ms,QF ((20*L+21)*5001) e.cost)
 (hI:ClosI w p pv B2 B4 B5 bV ds tp V ao f ms B11 a #[.int .i64 ph,.slice ho hl hc,.bool x,.slice a1 q1 q1,.slice c1 k1 k1] pre W) (hok:MoveV W (.agg csx) y) (hk12:W.heap[B12]?=some (.cells csx 93)) (hpx:pre++[y]<+:movesL p a.dst):
 clBody.wpIn (Fence.wide.inRound l) (9-1-1) Tryz.prog (roundQ N KpI (ClosI w p pv B2 B4 B5 bV ds tp V ao f ms B11 a #[.int .i64 ph,.slice ho hl hc,.bool x,.slice a1 q1 q1,.slice c1 k1 k1]) (fun _ _ _=>False) (pre++[y]) W)
  {tmps:=#[u0,u1,.pointer (some ⟨B2,0,none⟩),u3,.pointer (some ⟨B4,0,none⟩),.pointer (some ⟨B5,0,none⟩),u6,u7,u8,u9,u10,.pointer (some ⟨B11,0,none⟩),.pointer (some ⟨B12,0,none⟩),u13,u14,u15,u16,u17,u18,u19,u20,u21,u22,u23,u24,u25,u26,u27,u28,u29,u30,u31,u32,u33,u34,u35,u36,u37,u38,u39,u40,u41,u42,u43,u44,u45,u46,u47,u48,u49,u50,u51,u52,u53,u54,u55,u56,u57,u58,u59,u60,u61,u62,u63,u64,u65,u66,u67,u68,u69,u70,u71,u72,u73,u74,u75,u76,u77,u78,u79,u80,u81,u82,u83,u84,u85,u86,u87,u88,u89,u90,u91,u92,u93,u94,u95,u96,u97,u98,u99,u100,u101,u102,u103,u104],defers:=[]} W:=by
 have hpb:pre.length+1<=64:=by
  have h1:=hpx.length_le;have h2:=movesL_len (s:=a.dst) hfi.world;simp at h1;omega
 obtain⟨h1,h2,h4,h5⟩:=hI;obtain⟨-,hyM⟩:=drop_pre hpx;obtain⟨hyF,-,hyc⟩:=movesL_ok hfi hyM;have hyQ:=QF.cost hfi hF h1L hyM;obtain⟨ph2,ho2,hl2,hc2,x2,a2,q2,c2,k2,e⟩:=hok.cells
 injection e with e
 subst e;have HSO:Hid (SOk p.walker.legs.toNat y.dst):=SOk.of_fine hyF;have hy4:y.dst.holds.length<=4:=hyF.len.1;obtain⟨m',hm',he',hc'⟩:=hD.closed a haD y hyM;have HEX:Hid (∃e∈V,e.dst=y.dst):=⟨m',(hV.all _).2 hm',he'⟩
 have HUN:Hid (∀e∈V,e.dst=y.dst->e∈ms/\e.cost<=a.cost+y.cost):=fun e he hee=>by
  have h1:=(hV.all e).1 he;have h2:=dst_inj hD.nodup h1 hm' (by rw[hee,he']);subst h2;exact⟨h1,hc'⟩
 have HFA:=LH (hQD a haD);have HFY:=LH hyQ;have HFD:=LH hQD;have HS:=LH h1;have HMM:=LH h5;have HY:=LH hok;have hz11:=BlkT.lt ⟨_,_,h4⟩;have hz12:=BlkT.lt ⟨_,_,hk12⟩;have HK11:=LH h4;have HK12:=LH hk12;clear h1 h4 h5 hok hk12 hpx hyM hyF hyc hyQ hQD hD hV hm' he' hc'
 conv=>arg 4;whnf
 gi_upto_region 17 with fail
 refine clReg17_c _ _ _ _ _ _ _ _ _ _ _ _ _ _ _ _ _ _ _ _ _ _ _ _ _ _ _ _ _ _ _ _ _ _ _ _ _ _ _ _ _ _ _ _ _ _ _ _ _ _ _ _ _ _ _ _ _ _ _ _ _ _ _ _ _ _ _ _ _ _ _ _ _ _ _ _ _ _ _ _ _ _ _ _ _ _ _ _ _ _ _ _ _ _ _ _ _ _ _ _ _ _ _ (LH HS.out.b5) (LH HS.out.val) HSO hy4 HEX HK12 (LH HY.out.stateV) (fun v84 v85 v86 v87 v88 v89 v90 v91 B8 e9 x9 a9 n9 d9 k9 wx he9 hes9 hrw9 hqv9 hbx=>?_);obtain⟨hm9,hle⟩:=HUN.out e9 he9 hes9
 have HMX:=LH (HMM.out.bel hbx);have HYX:=LH (HY.out.bel hbx);have HBX:=LH hbx
 gi_upto_region 18 with fail
 refine clReg18_c _ _ _ _ _ _ _ _ _ _ _ _ _ _ _ _ _ _ _ _ _ _ _ _ _ _ _ _ _ _ _ _ _ _ _ _ _ _ _ _ _ _ _ _ _ _ _ _ _ _ _ _ _ _ _ _ _ _ _ _ _ _ _ _ _ _ _ _ _ _ _ _ _ _ _ _ _ _ _ _ _ _ _ _ _ _ _ _ _ _ _ _ _ _ _ _ _ _ _ _ _ (LH ((hbx.block _ hz11).trans HK11.out)) (LH ((hbx.block _ hz12).trans HK12.out)) (LH hrw9) (LH HMX.out.qv.2.2) (LH HYX.out.qv.2.2) (LH hqv9) HFA HFY (LH (HFD.out _ hm9)) (LH (by omega)) (LH (by omega)) (LH hle) (fun v92 v93 v94 v95 v96 v97 v98 v99 v100 v101 v102 wy hby=>?_)
 have HBY:=LH (hbx.trans (hby.mono hbx.size))
 gi_wp2
 exact⟨Others.of_bel HBY.out,KpI.of_bel HBY.out,HS.out.call HBY.out,by simp;omega,(HBY.out.block _ hz11).trans HK11.out,HMM.out.bel HBY.out⟩
theorem clReg5_c {W8:World}{p:ProbD}{L B2 B7:Nat}{m:MoveD}{cs:Array Value}{K:Act->World->Prop}{Q0:Exit->Act->World->Prop}{ds:List Deferred}{ph:Int}{ho:Option Addr}{hl hc:Nat}{x:Bool}{a1:Option Addr}{q1:Nat}{c1:Option Addr}{k1:Nat}{bl o nn cap i:Nat}
 (u0 u3 u4 u5 u8 u9 u10 u11 u12 u13 u14 u15 u16 u17 u18 u19 u20 u21 u22 u23 u24 u25 u26 u27 u28 u29 u30 u31 u32 u33 u34 u35 u36 u37 u38 u39 u40 u41 u42 u43 u44 u45 u46 u47 u48 u49 u50 u51 u52 u53 u54 u55 u56 u57 u58 u59 u60 u61 u62 u63 u64 u65 u66 u67 u68 u69 u70 u71 u72 u73 u74 u75 u76 u77 u78 u79 u80 u81 u82 u83 u84 u85 u86 u87 u88 u89 u90 u91 u92 u93 u94 u95 u96 u97 u98 u99 u100 u101 u102 u103 u104:Value)
 (HP:Hid (PVal W8 (.agg cs) p)) (HK2:Hid (W8.heap[B2]?=some (.cells cs 44))) (HK7:Hid (W8.heap[B7]?=some (.cells #[.int .i64 ph,.slice ho hl hc,.bool x,.slice a1 q1 q1,.slice c1 k1 k1] 158))) (HM:Hid (MoveV W8 (.agg #[.int .i64 ph,.slice ho hl hc,.bool x,.slice a1 q1 q1,.slice c1 k1 k1]) m))
 (hF:ProbF L p) (h1L:1<=L) (hw:worldB p=true) (hps:possibleB p m.dst=true) (hh:m.dst.holds.length<=1000000) (hc0:¬m.cost<0) (hbl:bl<W8.heap.size)
 (HC:Hid (i=0\/∃(j:Nat) (s':StateD) (phj:Int) (hoj:Option Addr) (hlj hcj:Nat),i=j+1/\j<nn/\j<1000000/\W8.cell? ⟨bl,o+j*5,none⟩=some (.int .i64 phj)/\W8.cell? ⟨bl,o+j*5+1,none⟩=some (.slice hoj hlj hcj)/\StateV W8 (.agg #[.int .i64 phj,.slice hoj hlj hcj]) s'/\s'.holds.length<=1000000/\befS s' m.dst<0))
 (hK:∀(v23 v24 v25 v26 v27 v28 v29 v30 v31 v32 v33 v34 v35 v36 v37 v38 v39 v40 v41 v42 v43 v44 v45 v46 v47 v48:Value) (wx:World),Bel W8.heap.size W8 wx->K {tmps:=#[u0,.slice (some ⟨bl,o,none⟩) nn cap,.pointer (some ⟨B2,0,none⟩),u3,u4,u5,.int .i64 (i:Nat),.pointer (some ⟨B7,0,none⟩),u8,u9,u10,u11,u12,u13,u14,u15,u16,u17,u18,u19,u20,u21,u22,v23,v24,v25,v26,v27,v28,v29,v30,v31,v32,v33,v34,v35,v36,v37,v38,v39,v40,v41,v42,v43,v44,v45,v46,v47,v48,.bool false,u50,u51,u52,u53,u54,u55,u56,u57,u58,u59,u60,u61,u62,u63,u64,u65,u66,u67,u68,u69,u70,u71,u72,u73,u74,u75,u76,u77,u78,u79,u80,u81,u82,u83,u84,u85,u86,u87,u88,u89,u90,u91,u92,u93,u94,u95,u96,u97,u98,u99,u100,u101,u102,u103,u104],defers:=ds} wx):
 Code.wp Tryz.prog clReg5 (Exit.then K Q0) {tmps:=#[u0,.slice (some ⟨bl,o,none⟩) nn cap,.pointer (some ⟨B2,0,none⟩),u3,u4,u5,.int .i64 (i:Nat),.pointer (some ⟨B7,0,none⟩),u8,u9,u10,u11,u12,u13,u14,u15,u16,u17,u18,u19,u20,u21,u22,u23,u24,u25,u26,u27,u28,u29,u30,u31,u32,u33,u34,u35,u36,u37,u38,u39,u40,u41,u42,u43,u44,u45,u46,u47,u48,u49,u50,u51,u52,u53,u54,u55,u56,u57,u58,u59,u60,u61,u62,u63,u64,u65,u66,u67,u68,u69,u70,u71,u72,u73,u74,u75,u76,u77,u78,u79,u80,u81,u82,u83,u84,u85,u86,u87,u88,u89,u90,u91,u92,u93,u94,u95,u96,u97,u98,u99,u100,u101,u102,u103,u104],defers:=ds} W8:=by
 rcases HC.out with rfl|⟨j,s',phj,hoj,hlj,hcj,rfl,h1,h2,h3,h4,h5,h6,h7⟩
 .exact clReg5_0 _ _ _ _ _ _ _ _ _ _ _ _ _ _ _ _ _ _ _ _ _ _ _ _ _ _ _ _ _ _ _ _ _ _ _ _ _ _ _ _ _ _ _ _ _ _ _ _ _ _ _ _ _ _ _ _ _ _ _ _ _ _ _ _ _ _ _ _ _ _ _ _ _ _ _ _ _ _ _ _ _ _ _ _ _ _ _ _ _ _ _ _ _ _ _ _ _ _ _ _ _ _ HP HK2 HK7 HM hF h1L hw hps hh hc0 hK
 .exact clReg5_s _ _ _ _ _ _ _ _ _ _ _ _ _ _ _ _ _ _ _ _ _ _ _ _ _ _ _ _ _ _ _ _ _ _ _ _ _ _ _ _ _ _ _ _ _ _ _ _ _ _ _ _ _ _ _ _ _ _ _ _ _ _ _ _ _ _ _ _ _ _ _ _ _ _ _ _ _ _ _ _ _ _ _ _ _ _ _ _ _ _ _ _ _ _ _ _ _ _ _ _ _ HP HK2 HK7 HM hF h1L hw hps hh hc0 h1 h2 h3 h4 (LH h5) h6 hbl h7 hK
end
section
open Go.Maps (Keyed)
attribute [local go_sem] Oper.semAt_some
theorem load1b {w:World}{b:Nat}{T:TypeId}{a0:Value}(h:w.heap[b]?=some (.cells #[a0] T)):(loadVar 4 ⟨b,0,none⟩).run Tryz.prog w=.ok a0 w:=by
 obtain⟨c0,-⟩:=row1 h;clear h;go_simp
theorem SortedM.get {ms:List MoveD}(h:SortedM ms){j:Nat}(hj:j+1<ms.length):befS (ms.getD j move0).dst (ms.getD (j+1) move0).dst<0:=by
 rw[getD_get (by omega),getD_get hj];exact List.pairwise_iff_getElem.1 h j (j+1) (by omega) hj (by omega)
theorem closed_c (hms:MovesSeqC){w:World}{pv:Value}{p:ProbD}{L cap:Nat}{ao:Option Addr}{f:Nat->Value}{ms:List MoveD}(hp:PVal w pv p)(hF:ProbF L p)(h1L:1<=L)(hL:L<=1000)(hpr:probB p=true)
 (hI:IsMarks p ms) (hS:SortedM ms) (hlen:ms.length<=5000) (hQ:∀e∈ms,QF ((20*L+21)*5001) e.cost) (hrow:MarksAt w ao ms f) (_hcap:ms.length<=cap):
 Calls Tryz.prog 91 #[pv,.slice ao ms.length cap] w fun e w'=>e=.returned (.bool true)/\Bel w.heap.size w w':=by
 have HP:=LH hp;have HI:=LH hI;have HSM:=LH hS;have HQD:=LH hQ;have HROW:=LH hrow;obtain⟨g,mo,mc,wo,wc,so,sc,go,gc,epv,hmap0,hwalk0,hword0,hstart0,hgoal0,htgt0⟩:=hp.lit;clear hmap0 hwalk0 hword0 hgoal0 htgt0;obtain⟨cs,hcs⟩:∃cs,pv=.agg cs:=⟨_,epv⟩
 obtain⟨m0,hm0,hm0s,hm0c⟩:=hI.start;obtain⟨bl,o,rfl,-,-⟩:=hrow.el (i:=0) (List.length_pos_of_mem hm0);have hst0:∀a∈ms,Fine p a.dst:=fun a ha=>((hI.reach a ha).fine hpr).1;have hps0:∀a∈ms,possibleB p a.dst=true:=fun a ha=>(hI.reach a ha).poss hpr;have hnn0:∀a∈ms,¬a.cost<0:=fun a ha h=>by have:=((hI.reach a ha).fine hpr).2.2;grind
 have HFI:=LH hst0;have HPO:=LH hps0;have HNN:=LH hnn0;have hwo:=probB_world hpr;clear hp epv hI hQ hrow hst0 hps0 hnn0 hS;subst hcs;refine(callsIn_wide (n:=9)).1 ?_;refine callsIn_of_wp_marks Tryz.func91 rfl trivial ?_ rfl;simp only[Tryz.ntmps91,List.size_toArray,List.length_cons,List.length_nil,Nat.reduceAdd,Nat.reduceSub,Array.replicate_succ,Array.replicate_zero,List.push_toArray,List.append_toArray,List.nil_append,List.cons_append]
 refine wpIn_wide.2 ?_;generalize hQ:bodyPostM Fence.wide 9 Tryz.prog Tryz.f91 (fun e w'=>e=.returned (.bool true)/\Bel w.heap.size w w')=QQ;have HQQ:=LH hQ;clear hQ
 go_wp2_with (refine wpList_mk_g rfl 236 rfl ?_)
 refine name_world ?_;intro W0 hW0;have hbW:Bel w.heap.size w W0:=by rw[hW0];exact((Bel.new.alloc (by simp) _).alloc Sd _).alloc Sd _
 have hk2:W0.heap[w.heap.size]?=some (.cells cs 44):=at_world hW0 ((heap_old _ _ Sd).trans ((heap_old _ _ Sd).trans ((heap_old _ _ Sd).trans (heap_new _ _ rfl))));have hk4:W0.heap[w.heap.size+1]?=some (.cells #[.bool false] 4):=at_world hW0 ((heap_old _ _ Sd).trans ((heap_old _ _ Sd).trans (heap_new _ _ (by simp))))
 have hk5:W0.heap[w.heap.size+1+1+1]?=some (.cells #[.map (some (w.heap.size+1+1))] 236):=at_world hW0 (heap_new _ _ (by simp))
 have hmV:MapQ p.walker.legs.toNat W0 (w.heap.size+1+1) []:=by
  rw[hW0];have:=MapQ.bel (MapG.made (ky:=MoveD.dst) (Ok:=CostV) (n:=p.walker.legs.toNat) ((w.alloc (.cells cs 44)).alloc (.cells #[.bool false] 4))) ((Bel.refl _ _).alloc NL (.cells #[.map (some (w.heap.size+1+1))] 236))
  simpa using this
 have HCY:Hid (CY w W0 p (.agg cs) p.walker.legs.toNat w.heap.size (w.heap.size+1) (w.heap.size+1+1+1) (w.heap.size+1+1) [] 0 [] (some ⟨bl,o,none⟩) f ms):=
  ⟨hbW,⟨by omega,by omega⟩,⟨_,rfl,hk2⟩,HP.out.bel hbW,hk4,hk5,hmV,HROW.out.bel hbW,trivial,Nat.zero_le _⟩
 clear hW0 hbW hk2 hk4 hk5 hmV HP HROW;generalize w.heap.size+1+1+1=B5 at *;generalize w.heap.size+1+1=bV at *;generalize w.heap.size+1=B4 at *;generalize hB2:w.heap.size=B2 at *
 go_loopg [18] ms.length (fun kk s18 wr=>∃(i:Nat) (V:List MoveD),s18=.int .i64 (i:Nat)/\i<=ms.length/\kk=ms.length-i/\CY w wr p (.agg cs) p.walker.legs.toNat B2 B4 B5 bV [] 0 V (some ⟨bl,o,none⟩) f ms/\ValI ms i V/\V.length<=i)
 case atStart=>exact⟨0,[],rfl,Nat.zero_le _,rfl,HCY.out,ValI.nil ms,Nat.le_refl _⟩
 case round=>
  obtain⟨i,V,rfl,hi,hg,hcy,hvi,hvl⟩:=hrel;have HS:=LH hcy;have HVI:=LH hvi;clear HCY hcy hvi
  by_cases hlt:i<ms.length
  .obtain⟨bl',o',e',hbl0,ph,ho,hl,hc,x,a1,q1,c1,k1,f0,f1,f2,f3,f4,hmv⟩:=HS.out.row.el hlt;obtain⟨rfl,rfl⟩:bl=bl'/\o=o':=by cases e';exact⟨rfl,rfl⟩
   have HMV:=LH hmv;clear hmv e'
   go_upto_region 5 with fail
   refine name_world ?_;intro W1 hW1;have hB1:Bel wr.heap.size wr W1:=by rw[hW1];exact(Bel.refl _ _).alloc NL _
   have hk7:=at_world hW1 (b:=wr.heap.size) (heap_new _ _ rfl);have hz1:wr.heap.size<W1.heap.size:=by rw[hW1];simp
   have hma:ms.getD i move0∈ms:=by rw[getD_get hlt];exact List.getElem_mem hlt
   have HS1:=LH (HS.out.call hB1);have HM1:=LH (HMV.out.bel hB1);have HK7:=LH hk7;have hfi:=HFI.out _ hma
   have HC:Hid (i=0\/∃(j:Nat) (s':StateD) (phj:Int) (hoj:Option Addr) (hlj hcj:Nat),i=j+1/\j<ms.length/\j<1000000/\W1.cell? ⟨bl,o+j*5,none⟩=some (.int .i64 phj)/\W1.cell? ⟨bl,o+j*5+1,none⟩=some (.slice hoj hlj hcj)/\StateV W1 (.agg #[.int .i64 phj,.slice hoj hlj hcj]) s'/\s'.holds.length<=1000000/\befS s' (ms.getD i move0).dst<0):=by
    rcases Nat.eq_zero_or_pos i with h0|h0
    .exact .inl h0
    .obtain⟨j,rfl⟩:∃j,i=j+1:=⟨i-1,by omega⟩
     obtain⟨bl'',o'',e'',-,phj,hoj,hlj,hcj,xj,aj,qj,cj,kj,j0,j1,-,-,-,hmj⟩:=HS1.out.row.el (i:=j) (by omega)
     cases e''
     have hmj2:ms.getD j move0∈ms:=by rw[getD_get (by omega)];exact List.getElem_mem _
     exact .inr ⟨j,(ms.getD j move0).dst,phj,hoj,hlj,hcj,rfl,by omega,by omega,j0,j1,hmj.stateV,by have:=(HFI.out _ hmj2).len;omega,HSM.out.get hlt⟩
   obtain⟨cs4,e4,hcs4⟩:=HS1.out.b2;obtain rfl:cs=cs4:=by cases e4;rfl
   clear hW1 hk7 f0 f1 f2 f3 f4 HS HMV hB1 e4;generalize hB7:wr.heap.size=B7 at *;refine clReg5_c _ _ _ _ _ _ _ _ _ _ _ _ _ _ _ _ _ _ _ _ _ _ _ _ _ _ _ _ _ _ _ _ _ _ _ _ _ _ _ _ _ _ _ _ _ _ _ _ _ _ _ _ _ _ _ _ _ _ _ _ _ _ _ _ _ _ _ _ _ _ _ _ _ _ _ _ _ _ _ _ _ _ _ _ _ _ _ _ _ _ _ _ _ _ _ _ _ _ _ _ _ (LH HS1.out.prob) (LH hcs4) HK7 HM1 hF h1L hwo (HPO.out _ hma) (by have:=hfi.len;omega) (HNN.out _ hma) (by omega) HC (fun v23 v24 v25 v26 v27 v28 v29 v30 v31 v32 v33 v34 v35 v36 v37 v38 v39 v40 v41 v42 v43 v44 v45 v46 v47 v48 wx hbx=>?_)
   have HS2:=LH (HS1.out.call hbx);have HK72:=LH ((hbx.block _ hz1).trans HK7.out);have HM2:=LH (HM1.out.bel hbx);clear HS1 HM1 HK7 hbx HC hcs4
   go_upto_region 7 with fail
   refine clReg7_c _ _ _ _ _ _ _ _ _ _ _ _ _ _ _ _ _ _ _ _ _ _ _ _ _ _ _ _ _ _ _ _ _ _ _ _ _ _ _ _ _ _ _ _ _ _ _ _ _ _ _ _ _ _ _ _ _ _ _ _ _ _ _ _ _ _ _ _ _ _ _ _ _ _ _ _ _ _ _ _ _ _ _ _ _ _ _ _ _ _ _ _ _ _ _ _ _ _ _ _ _ _ _ (LH HS2.out.b5) HK72 HM2 (LH HS2.out.val) (LH (SOk.of_fine hfi)) (hfi.len.1) (by omega) (fun v50 v51 v52 v53 v54 v55 w1 wy hb1 ht2 hm2=>?_);have HS3:=LH ((HS2.out.call hb1).turn ht2 hm2)
   have HVS:=LH (HVI.out.step HI.out.nodup hlt);have hvl2:=List.length_filter_le (fun e:MoveD=>decide (e.dst≠(ms.getD i move0).dst)) V;clear HS2 HK72 HM2 hb1 ht2 hm2 HVI;go_wp2
   go_roundg (ms.length-(i+1))
   case rel=>exact⟨i+1,_,by push_cast;rfl,by omega,rfl,HS3.out,HVS.out,by simp only[List.length_cons];omega⟩
   case measure=>omega
  .obtain rfl:i=ms.length:=by omega
   have HVA:=LH HVI.out.all;have HVI2:=LH HVI.out;have HEX:Hid (∃e∈V,e.dst=⟨0,p.start⟩):=⟨m0,(HVA.out m0).2 hm0,hm0s⟩
   have hs0:=start_fine hpr;obtain⟨cs4,e4,hcs4⟩:=HS.out.b2;obtain rfl:cs=cs4:=by cases e4;rfl
   obtain⟨g',mo',mc',wo',wc',so',sc',go',gc',epv',-,-,-,hstart,-,-⟩:=HS.out.prob.lit
   injection epv' with epv'
   have hsv:StateV wr (.agg #[.int .i64 0,.slice so' p.start.length sc']) ⟨0,p.start⟩:=⟨_,rfl,hstart⟩
   clear hlt e4 hi hg HVI
   go_upto_region 9 with fail
   refine clReg9_c _ _ _ _ _ _ _ _ _ _ _ _ _ _ _ _ _ _ _ _ _ _ _ _ _ _ _ _ _ _ _ _ _ _ _ _ _ _ _ _ _ _ _ _ _ _ _ _ _ _ _ _ _ _ _ _ _ _ _ _ _ _ _ _ _ _ _ _ _ _ _ _ _ _ _ _ _ _ _ _ _ _ _ _ _ _ _ _ _ _ _ _ _ _ _ _ _ _ _ _ _ _ _ (LH HS.out.b5) (LH HS.out.val) (LH (SOk.of_fine hs0)) hs0.len.1 HEX (LH (by rw[hcs4,epv'])) (LH hsv) (fun v57 v58 v59 v60 v61 v62 v63 v64 v65 B8 e9 x9 a9 n9 c9 k9 wx he9 hes9 hrw9 hqv9 hbx=>?_)
   have HS2:=LH (HS.out.call hbx)
   have he9c:e9.cost=0:=by
    have h1:=(HVA.out _).1 he9;have h2:=dst_inj HI.out.nodup h1 hm0 (by rw[hes9,hm0s]);have h3:=HNN.out _ h1;rw[h2]at h3|-
    grind
   rw[he9c]at hqv9;obtain⟨t0,t1,t2,-,-,-⟩:=row3 hrw9;have HQ9:=LH hqv9;have hz8:=BlkT.lt ⟨_,_,hrw9⟩;clear HS hbx hrw9 hqv9 hes9 he9 he9c hcs4 epv' hstart hsv
   go_wp2_with fail
   refine(sign_c HQ9.out).mono ?_;rintro e w5 ⟨rfl,hb5⟩;rw[show ratSign 0=0 from rfl];have HS3:=LH (HS2.out.call hb5);clear HS2 hb5 HQ9 t0 t1 t2
   go_wp2_with fail
   refine wp_loop_ghost_k (fun k' a' w'=>∃(u0 u1 u3 u6 u7 u8 u9 u10 u11 u12 u13 u14 u15 u16 u17 u18 u19 u20 u21 u22 u23 u24 u25 u26 u27 u28 u29 u30 u31 u32 u33 u34 u35 u36 u37 u38 u39 u40 u41 u42 u43 u44 u45 u46 u47 u48 u49 u50 u51 u52 u53 u54 u55 u56 u57 u58 u59 u60 u61 u62 u63 u64 u65 u66 u67 u68 u69 u70 u71 u72 u75 u76 u77 u78 u79 u80 u81 u82 u83 u84 u85 u86 u87 u88 u89 u90 u91 u92 u93 u94 u95 u96 u97 u98 u99 u100 u101 u102 u103 u104:Value) (ds:List Deferred),((∃(i:Nat) (tp:Nat),u75=.int .i64 (i:Nat)/\i<=ms.length/\k'=ms.length-i/\CY w w' p (.agg cs) p.walker.legs.toNat B2 B4 B5 bV ds tp V (some ⟨bl,o,none⟩) f ms))/\a'=({tmps:=#[u0,u1,.pointer (some ⟨B2,0,none⟩),u3,.pointer (some ⟨B4,0,none⟩),.pointer (some ⟨B5,0,none⟩),u6,u7,u8,u9,u10,u11,u12,u13,u14,u15,u16,u17,u18,u19,u20,u21,u22,u23,u24,u25,u26,u27,u28,u29,u30,u31,u32,u33,u34,u35,u36,u37,u38,u39,u40,u41,u42,u43,u44,u45,u46,u47,u48,u49,u50,u51,u52,u53,u54,u55,u56,u57,u58,u59,u60,u61,u62,u63,u64,u65,u66,u67,u68,u69,u70,u71,u72,.slice (some ⟨bl,o,none⟩) ms.length cap,.int .i64 (ms.length:Nat),u75,u76,u77,u78,u79,u80,u81,u82,u83,u84,u85,u86,u87,u88,u89,u90,u91,u92,u93,u94,u95,u96,u97,u98,u99,u100,u101,u102,u103,u104],defers:=ds}:Act)) ms.length ?aStart ?aRound
   case aStart=>
    (repeat apply Exists.intro)
    refine⟨?aS,rfl⟩;exact⟨0,_,rfl,Nat.zero_le _,rfl,HS3.out⟩
   case aRound=>
    intro gk _ wr2 hinv
    iterate 100 (obtain⟨_,hinv⟩:=hinv)
    obtain⟨ds,hrel,ha⟩:=hinv;subst ha
    try dsimp only
    intro _ _ _ _;obtain⟨i,tp,rfl,hi,hg,hcy⟩:=hrel;have HS:=LH hcy;clear HS3 hcy
    by_cases hlt:i<ms.length
    .obtain⟨bl',o',e',-,ph2,ho2,hl2,hc2,x2,a2,q2,c2,k2,f0,f1,f2,f3,f4,hmv⟩:=HS.out.row.el hlt;obtain⟨rfl,rfl⟩:bl=bl'/\o=o':=by cases e';exact⟨rfl,rfl⟩
     have HMV:=LH hmv;clear hmv e'
     go_upto_region 15 with fail
     refine name_world ?_;intro W1 hW1;have hB1:Bel wr2.heap.size wr2 W1:=by rw[hW1];exact(Bel.refl _ _).alloc NL _
     have hk11:=at_world hW1 (b:=wr2.heap.size) (heap_new _ _ rfl);have HS1:=LH (HS.out.call hB1);have HMV1:=LH (HMV.out.bel hB1);obtain⟨r0,r1,r2,r3,r4⟩:=row5 hk11;have HK11:=LH hk11;have hz11:wr2.heap.size<W1.heap.size:=by rw[hW1];simp
     have hma:ms.getD i move0∈ms:=by rw[getD_get hlt];exact List.getElem_mem hlt
     have HFA:=LH (HFI.out _ hma);obtain⟨a,haa⟩:∃a,a=ms.getD i move0:=⟨_,rfl⟩
     rw[<-haa]at HMV1 HFA hma;have HSV:=LH HMV1.out.stateV;clear hW1 hk11 f0 f1 f2 f3 f4 HS HMV hB1 haa;generalize hB11:wr2.heap.size=B11 at *;obtain⟨cs4,e4,hcs4⟩:=HS1.out.b2;obtain rfl:cs=cs4:=by cases e4;rfl
     clear e4
     go_wp2_with (first|(refine wpList_load_P (.tmp 2) rfl _ rfl HS1.out.prob hcs4 rfl ?_)|(go_at_call 94;refine(movesF_c HS1.out.prob HSV.out).mono ?_;rintro e w11 ⟨rfl,hwk,hb11⟩))
     have HS2:=LH (HS1.out.call hb11);have HK11b:=LH ((hb11.block _ hz11).trans HK11.out);have HMV2:=LH (HMV1.out.bel hb11);have HWK:=LH hwk;have HL2:=LH HS2.out.lt;have HMK:=LH HS2.out.mkd.2;have HBL:=LH HS2.out.bel.size;clear HS1 HK11 HMV1 hwk hb11 HSV r0 r1 r2 r3 r4 hcs4;refine(wpIn_wide (n:=9)).1 ?_
     refine rangeM_box (gf:=146) (lb:=#[.pointer (some ⟨W1.heap.size+1,0,none⟩),.pointer (some ⟨W1.heap.size,0,none⟩)]) (q:=12) 93 rfl (enters_of Tryz.func146 (by kernel_rfl) rfl) (hms _ _ _ L _ _ _ HFA.out hF h1L HWK.out) (fun A C v x h k=>h.pres (k.pres _) (k.pres _)) (fun h k=>h.trans k) (fun h=>KpI.of_st h)
      (ClosI w p (.agg cs) B2 B4 B5 bV ds tp V (some ⟨bl,o,none⟩) f ms B11 a #[.int .i64 ph2,.slice ho2 hl2 hc2,.bool x2,.slice a2 q2 q2,.slice c2 k2 k2])
      (fun _ _ _=>False) (fun s A C ⟨h1,h2,h4,h5⟩ hs=>⟨h1.st hs ⟨HL2.out.1,HMK.out⟩ HBL.out,h2,hs.cells _ _ _ _ h4,h5.pres (hs.pres _) (hs.pres _)⟩) (fun _ _ _ _ h _=>h)
      ⟨HS2.out,by simp,HK11b.out,HMV2.out⟩ ?assign ?body ?done ?stop
     case stop=>
      rintro Dd cd pre W _ _ h _;exact h.elim
     case assign=>
      intro l v x W K hok hK;obtain⟨ph3,ho3,hl3,hc3,x3,a3,q3,c3,k3,rfl⟩:=hok.cells;have hK2:=hK _ rfl;simp only[List.setIfInBounds_toArray,List.set_cons_succ,List.set_cons_zero]at hK2;have HK:=LH hK2;clear hok hK hK2
      gi_wp2
      exact HK.out
     case done=>
      rintro Dd xs W hD rfl ⟨h1,h2,h4,h5⟩ hKd;have HSN:=LH (h1.mark (Nat.le_trans HMK.out hD) (Nat.le_trans HBL.out (by omega)) hKd);clear h1 h2 h4 h5 hKd;go_wp2
      go_roundg (ms.length-(i+1))
      case rel=>exact⟨i+1,_,by push_cast;rfl,by omega,rfl,HSN.out⟩
      case measure=>omega
     case body=>
      rintro l pre csx y B12 W hI hok hk12 hpx;simp only[List.setIfInBounds_toArray,List.set_cons_zero,List.set_cons_succ];exact clBody_c _ _ _ _ _ _ _ _ _ _ _ _ _ _ _ _ _ _ _ _ _ _ _ _ _ _ _ _ _ _ _ _ _ _ _ _ _ _ _ _ _ _ _ _ _ _ _ _ _ _ _ _ _ _ _ _ _ _ _ _ _ _ _ _ _ _ _ _ _ _ _ _ _ _ _ _ _ _ _ _ _ _ _ _ _ _ _ _ _ _ _ _ _ _ _ _ _ _ _ _ HFA.out hF h1L hL HI.out hma HVI2.out HQD.out hI hok hk12 hpx
    .have hdn:decide ((i:Int)<ms.length)=false:=decide_eq_false (by omega);obtain rfl:i=ms.length:=by omega
     obtain⟨s0,s1⟩:=row1 HS.out.b4;have hlb:=HS.out.lt;have hlB:=HS.out.low.2;have HGR:=LH (grown_set1 (B:=B4) (o:=0) (a:=.bool true) (Bel.refl wr2.heap.size wr2))
     go_wp2_with fail
     rw[<-HQQ.out];have HKP:=LH (KpT.of_grown HGR.out HS.out.b4);have hb8:Bel w.heap.size w (wr2.setCell ⟨B4,0,none⟩ (.bool true)):=HS.out.bel.trans (Bel.of_grown HGR.out hlB hlb.2.2.1);have hk8:(wr2.setCell ⟨B4,0,none⟩ (.bool true)).heap[B4]?=some (.cells #[.bool true] 4):=by simp[World.setCell,Array.getElem?_modify,HS.out.b4]
     refine leaves_all (HS.out.mkd.1.kp HKP.out) fun W' hst hkp=>?_;exact⟨_,results_c1 rfl _ rfl (load1b (hkp _ _ hk8 (fun e=>by cases e))),rfl,by rw[<-hB2];exact hb8.trans hst.bel⟩
end
section
open Go.Maps (Keyed)
structure PY (w wr:World) (p:ProbD) (cs:Array Value) (B2 B3:Nat) (pl:PlanD) (fo:Bool) (xc:Bool) (ac:Option Addr) (nc:Nat) (cc:Option Addr) (kc:Nat) (wao:Option Addr) (nn wcap:Nat) (mao:Option Addr) (mcap:Nat) (wf mf:Nat->Value):Prop where
 bel:Bel w.heap.size w wr
 prob:PVal wr (.agg cs) p
 b2:wr.heap[B2]?=some (.cells cs 44)
 b3:wr.heap[B3]?=some (.cells #[.bool fo,.bool xc,.slice ac nc nc,.slice cc kc kc,.slice wao nn wcap,.slice mao pl.marks.length mcap] 61)
 cost:QV wr (.agg #[.bool xc,.slice ac nc nc,.slice cc kc kc]) pl.cost
 way:StatesAt wr wao pl.way wf
 marks:MarksAt wr mao pl.marks mf
section
variable {w wr wr' : World} {p : ProbD} {cs : Array Value} {B2 B3 : Nat} {pl : PlanD} {fo : Bool} {xc : Bool} {ac : Option Addr} {nc : Nat} {cc : Option Addr} {kc : Nat} {wao : Option Addr} {nn wcap : Nat} {mao : Option Addr} {mcap : Nat} {wf mf : Nat → Value}
theorem PY.call (h:PY w wr p cs B2 B3 pl fo xc ac nc cc kc wao nn wcap mao mcap wf mf)(hb:Bel wr.heap.size wr wr'):PY w wr' p cs B2 B3 pl fo xc ac nc cc kc wao nn wcap mao mcap wf mf:=
 ⟨h.bel.trans (hb.mono h.bel.size),h.prob.bel hb,(hb.block _ (BlkT.lt ⟨_,_,h.b2⟩)).trans h.b2,(hb.block _ (BlkT.lt ⟨_,_,h.b3⟩)).trans h.b3,h.cost.pres hb.pb,h.way.bel hb,h.marks.bel hb⟩
theorem PVal.keep4 {T:TypeId}{w w':World}{pv:Value}{p:ProbD}(h:PVal w pv p)(k:KpT T w w')(n1:T≠3)(n2:T≠232)(n3:T≠5)(n4:T≠97):PVal w' pv p:=by
 obtain⟨g,e,⟨mo,mc,mg,e0,hc,hm⟩,h2,h3,h4,h5,h6⟩:=h;have p1:=k.pres (T':=3) n1.symm;have p2:=k.pres (T':=232) n2.symm;have p3:=k.pres (T':=5) n3.symm;have p4:=k.pres (T':=97) n4.symm;exact⟨g,e,⟨mo,mc,mg,e0,hc,hm.keep p4 p2⟩,h2.pres p2,h3.pres p3,h4.pres p1,h5.pres p1,h6.pres p2⟩
theorem PY.grown {B8:Nat}{c8:Array Value}(h:PY w wr p cs B2 B3 pl fo xc ac nc cc kc wao nn wcap mao mcap wf mf)(hg:wr.grownBy wr' (some B8))(hk:wr.heap[B8]?=some (.cells c8 39))(h8:w.heap.size<=B8):PY w wr' p cs B2 B3 pl fo xc ac nc cc kc wao nn wcap mao mcap wf mf:=by
 have k:=KpT.of_grown hg hk;exact⟨h.bel.trans (Bel.of_grown hg h8 (Array.getElem?_eq_some_iff.1 hk).1),h.prob.keep4 k (by decide) (by decide) (by decide) (by decide),k.pres (by decide) _ _ _ h.b2,k.pres (by decide) _ _ _ h.b3,h.cost.pres (k.pres (by decide)),h.way.pres (k.pres (by decide)) (k.pres (by decide)),h.marks.pres (k.pres (by decide)) (k.pres (by decide)) (k.pres (by decide))⟩
end
theorem PlanIs.goals {L:Nat}{p:ProbD}{pl:PlanD}(h:PlanIs L p pl){m:MoveD}(hm:m∈pl.marks)(hg:goalB p m.dst=true):pl.found=true/\¬m.cost<pl.cost:=by
 have hmem:m∈goalsL p pl.marks:=by unfold goalsL;rw[List.mem_filter];exact⟨hm,hg⟩
 rcases h.way with⟨h0,-⟩|⟨g,-,hgi,hf,hc,-⟩
 .rw[h0]at hmem;cases hmem
 .refine⟨hf,?_⟩;obtain⟨k,hk,hfi,hmin⟩:=firstI_in (List.ne_nil_of_mem hmem);obtain⟨j,hj,e⟩:=List.mem_iff_getElem.1 hmem;have h1:=hmin j hj;rw[getD_get hj,e]at h1;rw[hc,hgi,hfi];simp only[Int.toNat_natCast]
  grind
theorem prove_c (hms:MovesSeqC){w:World}{pv av:Value}{p:ProbD}{L:Nat}{pl:PlanD}(hp:PVal w pv p)(hF:ProbF L p)(h1L:1<=L)(hL:L<=1000)(hls:p.start.length<=1000000)(hlg:p.goal.length<=1000000)(hpr:probB p=true)
 (hv:PlanV w av pl) (hI:PlanIs L p pl):Calls Tryz.prog 25 #[pv,av] w fun e w'=>e=.returned (.bool true)/\Bel w.heap.size w w':=by
 have HP:=LH hp;have HI:=LH hI;obtain⟨g0,mo,mc,wo0,wc0,so,sc,go,gc,epv,-,-,-,-,-,-⟩:=hp.lit;obtain⟨cs,hcs⟩:∃cs,pv=.agg cs:=⟨_,epv⟩
 obtain⟨xc,ac,nc,cc,kc,wv,mv,rfl,hqc,⟨wao,wcap,wf,rfl,hwc,hwa⟩,mao,mcap,mf,rfl,hmc,hma⟩:=hv;obtain⟨fo,hfo⟩:∃fo,fo=pl.found:=⟨_,rfl⟩
 obtain⟨nn,hnn⟩:∃nn,nn=pl.way.length:=⟨_,rfl⟩
 have HGO:Hid (∀m∈pl.marks,goalB p m.dst=true->fo=true/\¬m.cost<pl.cost):=by rw[hfo];exact fun m hm hg=>hI.goals hm hg
 have HQC:=LH hqc;have HWA:=LH hwa;have HMA:=LH hma;have HFO:=LH hfo;have HNN:=LH hnn;have hlen:=hI.few;rw[<-hfo,<-hnn];rw[<-hnn]at hwc;have HFI:Hid (∀a∈pl.marks,Fine p a.dst):=fun a ha=>((hI.marks.reach a ha).fine hpr).1;clear hp epv hI hqc hwa hma hfo hnn;subst hcs
 go_enter Tryz.func25,Tryz.ntmps25
 go_upto_region 1 with fail
 refine name_world ?_;intro W1 hW1;have hBW:Bel w.heap.size w W1:=by rw[hW1];exact Bel.new.alloc (by simp) _
 have hk2:W1.heap[w.heap.size]?=some (.cells cs 44):=at_world hW1 ((heap_old _ _ (by simp)).trans (heap_new _ _ rfl));have hk3:=at_world hW1 (b:=w.heap.size+1) (heap_new _ _ (by simp));have HS:Hid (PY w W1 p cs w.heap.size (w.heap.size+1) pl fo xc ac nc cc kc wao nn wcap mao mcap wf mf):=⟨hBW,HP.out.bel hBW,hk2,hk3,HQC.out.pres hBW.pb,HWA.out.bel hBW,HMA.out.bel hBW⟩
 clear hW1 hBW hk2 hk3 HP HQC HWA HMA;generalize hB3:w.heap.size+1=B3 at *;generalize hB2:w.heap.size=B2 at *
 go_wp2_with (refine wpList_load_P (.tmp 2) rfl _ rfl HS.out.prob HS.out.b2 rfl ?_)
 refine(checkProblem_c HS.out.prob hF h1L hls hlg).mono ?_;rintro e w2 ⟨rfl,hb2⟩;have HS2:=LH (HS.out.call hb2);obtain⟨q0,q1,q2,q3,q4,q5,-,-,-,-,-,-⟩:=row6 HS2.out.b3;clear hb2 HS;rw[show ckProb p=0 by unfold ckProb;rw[hpr];rfl]
 go_wp2_with (refine wpList_load_P (.tmp 2) rfl _ rfl HS2.out.prob HS2.out.b2 rfl ?_)
 refine(closed_c hms HS2.out.prob hF h1L hL hpr HI.out.marks HI.out.sorted hlen HI.out.size HS2.out.marks hmc).mono ?_;rintro e w3 ⟨rfl,hb3⟩;have HS3:=LH (HS2.out.call hb3);clear hb3 HS2 q0 q1 q2 q3 q4 q5;obtain⟨q0,q1,q2,q3,q4,q5,-,-,-,-,-,-⟩:=row6 HS3.out.b3
 go_wp2_with fail
 go_loopg [25] pl.marks.length (fun kk s25 wr=>∃(i:Nat),s25=.int .i64 (i:Nat)/\i<=pl.marks.length/\kk=pl.marks.length-i/\PY w wr p cs B2 B3 pl fo xc ac nc cc kc wao nn wcap mao mcap wf mf)
 case atStart=>exact⟨0,rfl,Nat.zero_le _,rfl,HS3.out⟩
 case round=>
  obtain⟨i,rfl,hi,hg,hpy⟩:=hrel;have HS:=LH hpy;clear HS3 hpy q0 q1 q2 q3 q4 q5
  by_cases hlt:i<pl.marks.length
  .obtain⟨bl,o,e',hbl0,ph,ho,hl,hc,x,a1,q1,c1,k1,f0,f1,f2,f3,f4,hmv⟩:=HS.out.marks.el hlt;subst e';have HMV:=LH hmv;clear hmv
   go_upto_region 6 with fail
   refine name_world ?_;intro W1 hW1;have hB1:Bel wr.heap.size wr W1:=by rw[hW1];exact(Bel.refl _ _).alloc NL _
   have hk7:=at_world hW1 (b:=wr.heap.size) (heap_new _ _ rfl);have hmem:pl.marks.getD i move0∈pl.marks:=by rw[getD_get hlt];exact List.getElem_mem hlt
   have HS1:=LH (HS.out.call hB1);have HM1:=LH (HMV.out.bel hB1);obtain⟨r0,r1,r2,r3,r4⟩:=row5 hk7;have hz1:wr.heap.size<W1.heap.size:=by rw[hW1];simp
   have hfi:=HFI.out _ hmem;have HK7:=LH hk7;clear hW1 f0 f1 f2 f3 f4 HS HMV hB1 hk7;generalize hB7:wr.heap.size=B7 at *
   go_wp2_with (refine wpList_load_P (.tmp 2) rfl _ rfl HS1.out.prob HS1.out.b2 rfl ?_)
   refine(goal_c HS1.out.prob HM1.out.stateV hF (fine_idx hfi) (by have:=hfi.len;omega)).mono ?_;rintro e w4 ⟨rfl,hb4⟩;have HS4:=LH (HS1.out.call hb4);have HM4:=LH (HM1.out.bel hb4);have hk7:=(hb4.block _ hz1).trans HK7.out;clear r0 r1 r2 r3 r4 HK7 HS1 HM1 hb4
   cases hgb:goalB p (pl.marks.getD i move0).dst
   .go_wp2
    go_roundg (pl.marks.length-(i+1))
    case rel=>exact⟨i+1,by push_cast;rfl,by omega,rfl,HS4.out⟩
    case measure=>omega
   .obtain⟨hft,hcc⟩:=HGO.out _ hmem hgb;subst hft;obtain⟨r0,r1,r2,r3,r4⟩:=row5 hk7;obtain⟨q0,q1,q2,q3,q4,q5,-,-,-,-,-,-⟩:=row6 HS4.out.b3
    have hgc:QF ((20*L+21)*5001) pl.cost:=by
     rcases HI.out.way with⟨-,hf,-⟩|⟨g,hgm,-,-,hc,-⟩
     .rw[<-HFO.out]at hf;cases hf
     .rw[hc];unfold goalsL at hgm;exact HI.out.size g (List.mem_filter.1 hgm).1
    go_wp2_with fail
    refine(qcmp_c HM4.out.qv.2.2 HS4.out.cost (HI.out.size _ hmem) hgc (by omega)).mono ?_;rintro e w5 ⟨rfl,hb5⟩;obtain⟨z,hz,hz0⟩:∃z,z=cmpR (pl.marks.getD i move0).cost pl.cost/\¬z<0:=⟨_,rfl,fun h=>hcc (cmpR_lt.1 h)⟩
    rw[<-hz];have hd1:decide (z<0)=false:=decide_eq_false hz0;clear hz;have HS5:=LH (HS4.out.call hb5);clear r0 r1 r2 r3 r4 q0 q1 q2 q3 q4 q5 HS4 HM4 hk7 hb5;go_wp2
    go_roundg (pl.marks.length-(i+1))
    case rel=>exact⟨i+1,by push_cast;rfl,by omega,rfl,HS5.out⟩
    case measure=>omega
  .obtain rfl:i=pl.marks.length:=by omega
   obtain⟨q0,q1,q2,q3,q4,q5,-,-,-,-,-,-⟩:=row6 HS.out.b3;clear hlt hi hg;rcases HI.out.way with⟨-,hf,hc0,hw0⟩|⟨g,hgm,-,hf,hgc,hwb⟩
   .obtain rfl:fo=false:=by rw[HFO.out,hf]
    obtain rfl:nn=0:=by rw[HNN.out,hw0];rfl
    go_wp2_with fail
    refine(sign_c HS.out.cost).mono ?_;rintro e w5 ⟨rfl,hb5⟩;rw[hc0,show ratSign 0=0 from rfl];have HB:Hid (Bel w.heap.size w w5):=HS.out.bel.trans (hb5.mono HS.out.bel.size);subst hB2;go_wp2;go_ret;exact⟨rfl,HB.out⟩
   .obtain rfl:fo=true:=by rw[HFO.out,hf]
    have hgm2:g∈pl.marks:=by unfold goalsL at hgm;exact(List.mem_filter.1 hgm).1
    have hgoal:goalB p g.dst=true:=by unfold goalsL at hgm;exact(List.mem_filter.1 hgm).2
    obtain⟨hwm,hlast⟩:=WayM.of hpr HI.out.marks hgm2 hwb;rw[List.reverse_reverse]at hwm hlast;rw[List.length_reverse]at hlast;have HWM:=LH hwm;obtain⟨k,rfl⟩:∃k,nn=k+1:=⟨nn-1,by have:=hwm.some;have:=HNN.out;omega⟩
    have hwl:pl.way.length=k+1:=HNN.out.symm;obtain⟨wb,wo,e',hwb0,ph0,ho0,hl0,hc0,f0,f1,hs0⟩:=HS.out.way.el (i:=0) (by omega);subst e';obtain⟨wb',wo',e',-,ph1,ho1,hl1,hc1,g0,g1,hs1⟩:=HS.out.way.el (i:=k) (by omega)
    cases e'
    have hlk:pl.way.getD k state0=g.dst:=by rw[<-hlast,hwl];rfl
    obtain⟨g',mo',mc',wo',wc',so',sc',go',gc',epv',-,-,-,hstart,-,-⟩:=HS.out.prob.lit
    injection epv' with epv'
    have hsv:StateV wr (.agg #[.int .i64 0,.slice so' p.start.length sc']) ⟨0,p.start⟩:=⟨_,rfl,hstart⟩
    have e27:wr.cell? ⟨B2,27,none⟩=some (.slice so' p.start.length sc'):=by
     have h1:=HS.out.b2;rw[epv']at h1;simp[World.cell?,h1]
    have hway5:=HI.out.short;have hfl:=(start_fine hpr).len;have H0:=LH hs0;have H1:=LH hs1;have HST:=LH hsv;clear hs0 hs1 hsv hstart epv' hgm hwb hwm
    go_upto_region 12 with fail
    refine prReg12_c _ _ _ _ _ _ _ _ _ _ _ _ _ _ _ _ _ _ _ _ _ _ _ _ _ _ _ _ _ _ _ _ _ _ _ _ _ _ _ _ _ _ _ _ _ _ _ _ _ _ _ _ _ _ _ _ _ _ _ _ _ _ _ _ _ _ _ _ _ _ _ _ _ _ _ _ _ _ _ _ _ _ _ _ _ _ _ _ _ _ _ _ _ _ _ _ _ _ _ _ _ _ _ _ _ _ _ _ _ _ _ _ _ _ _ _ _ _ _ _ _ _ _ _ _ _ _ _ _ (LH HS.out.prob) (LH HS.out.b2) e27 HST (LH HS.out.b3) (by omega) (by omega) hwb0 (by simpa using f0) (by simpa using f1) H0 HWM.out.start (by rw[HWM.out.start];show p.start.length<=1000000;exact hls) g0 g1 H1 hF (by rw[hlk];exact HFI.out _ hgm2) (by rw[hlk];exact hgoal) (fun v63 v64 v65 v66 v67 v68 v69 v70 v71 v72 v73 v74 v75 v76 v77 v78 v79 v80 v81 v82 v83 v84 v85 v86 v87 v88 v89 v90 v91 v92 v93 v94 v95 v96 v97 wx hbx=>?_)
    have HS6:=LH (HS.out.call hbx);clear HS H0 H1 HST e27 f0 f1 g0 g1 hbx q0 q1 q2 q3 q4 q5
    go_wp2_with fail
    refine name_world ?_;intro W0 hW0;have hq8:D4.QB W0 wx.heap.size 0:=⟨false,none,0,none,0,at_world hW0 ((heap_old _ _ (by simp)).trans (heap_new _ _ rfl)),QV.zero _⟩
    have hk9:W0.heap[wx.heap.size+1]?=some (.cells #[.int .i64 ((0+1:Nat):Int)] 3):=at_world hW0 (heap_new _ _ (by simp));have hbw:Bel wx.heap.size wx W0:=by rw[hW0];exact Bel.new.alloc (by simp) _
    have HS7:=LH (HS6.out.call hbw);have hlow8:w.heap.size<=wx.heap.size:=HS6.out.bel.size;have HQ8:=LH hq8;have HK9:=LH hk9;obtain⟨m0,hm0,hm0d⟩:=HWM.out.at' 0 HWM.out.some;have hm0c:m0.cost=0:=HWM.out.zero m0 hm0 (by rw[hm0d];exact HWM.out.start);have hway:k<=6000:=by omega
    clear hW0 hq8 hk9 hbw HS6;generalize wx.heap.size+1=B9 at *;generalize wx.heap.size=B8 at *
    go_loopg [9] k (fun kk s9 wr=>∃(j B9:Nat) (q:Rat),s9=.pointer (some ⟨B9,0,none⟩)/\j<=k/\kk=k-j/\PY w wr p cs B2 B3 pl true xc ac nc cc kc (some ⟨wb,wo,none⟩) (k+1) wcap mao mcap wf mf/\D4.QB wr B8 q/\(∃a∈pl.marks,a.dst=pl.way.getD j state0/\q=a.cost)/\wr.heap[B9]?=some (.cells #[.int .i64 ((j+1:Nat):Int)] 3))
    case atStart=>exact⟨0,_,0,rfl,Nat.zero_le _,rfl,HS7.out,HQ8.out,⟨m0,hm0,hm0d,hm0c.symm⟩,HK9.out⟩
    case round=>
     obtain⟨j,B9,q,rfl,hj,hg2,hpy,hq8,⟨a,ham,had,hqa⟩,hk9⟩:=hrel;have HS:=LH hpy;have HQ8:=LH hq8;have HK9:=LH hk9;have HAD:=LH had;have HQA:=LH hqa;obtain⟨n0,n1⟩:=row1 hk9;have l9:=BlkT.lt ⟨_,_,hk9⟩;clear HS7 hpy hq8 hk9 had hqa
     by_cases hlt:j<k
     .obtain⟨a',ha',had',m1,hm1,hm1d,x1,hx1,hx1d,hx1c⟩:=HWM.out.step j (by omega);have haa:a'=a:=dst_inj HI.out.marks.nodup ha' ham (by rw[had',HAD.out]);rw[haa]at hx1 hx1c;have HX1:=LH hx1;have HX1D:=LH hx1d;have HX1C:=LH hx1c;have HM1D:=LH hm1d;have hfa:=HFI.out a ham;obtain⟨wb',wo',e',hwb1,ph1,ho1,hl1,hc1,g0,g1,hs1⟩:=HS.out.way.el (i:=j) (by omega)
      cases e'
      rw[<-HAD.out]at hs1;obtain⟨g',mo',mc',wo',wc',so',sc',go',gc',-,-,-,hword,-,-,-⟩:=HS.out.prob.lit;have hB256:=LH hword.1;have H1:=LH hs1;clear hx1 hx1d hx1c hm1d haa ha' had' hs1 hword
      go_upto_region 18 with fail
      refine prReg18_c _ _ _ _ _ _ _ _ _ _ _ _ _ _ _ _ _ _ _ _ _ _ _ _ _ _ _ _ _ _ _ _ _ _ _ _ _ _ _ _ _ _ _ _ _ _ _ _ _ _ _ _ _ _ _ _ _ _ _ _ _ _ _ _ _ _ _ _ _ _ _ _ _ _ _ _ _ _ _ _ _ _ _ _ _ _ _ _ _ _ _ _ _ _ _ _ _ _ _ _ _ _ _ _ _ _ _ _ _ _ _ _ _ _ _ _ _ _ _ _ _ _ _ _ _ _ _ _ _ hms (LH HS.out.prob) (LH HS.out.b2) (LH HS.out.b3) HK9 (by omega) (by omega) hwb1 g0 g1 H1 hF h1L hfa (fun v105 v106 v107 v108 v109 v110 v111 v112 v113 vm wx2 hvm hbx2=>?_)
      have HS8:=LH (HS.out.call hbx2);have HQ82:=LH (HQ8.out.bel hbx2);have hk92:=(hbx2.block _ l9).trans HK9.out;have HK92:=LH hk92;have HVM:=LH hvm;obtain⟨vao,vcap,vf,rfl,hvc,hvcl,hvat⟩:=hvm;have HAT:Hid (MvAt wx2 vao (movesL p a.dst) vf):=⟨hvcl,hvat⟩
      have l92:=BlkT.lt ⟨_,_,hk92⟩;have hml:=movesL_len (s:=a.dst) hfa.world;have hmf:∀m∈movesL p a.dst,m.dst.holds.length<=1000000:=fun m hm=>by have:=(movesL_ok hfa hm).1.len;omega
      have HMF:=LH hmf;clear HS HQ8 HK9 H1 hk92 hvcl hvat hbx2 g0 g1 n0 n1 l9 hmf
      go_wp2_with fail
      refine(indexX_c HVM.out (prove1_c HS8.out.b3 HK92.out HNN.out (by omega) HS8.out.way HMF.out) (by omega)).mono ?_;rintro e w5 ⟨⟨r,rfl,hidx⟩,hb5⟩
      obtain⟨i,hi2,rfl,hxi⟩:∃i:Nat,i<(movesL p a.dst).length/\r=(i:Nat)/\(movesL p a.dst).getD i move0=x1:=by
       rcases hidx with⟨-,hno⟩|⟨i,hi2,hr,hpr2,-⟩
       .exfalso;obtain⟨t,ht,e⟩:=List.mem_iff_getElem.1 HX1.out;have h1:=hno t ht;rw[getD_get ht,e]at h1;have h2:befS x1.dst (pl.way.getD (j+1) state0)=0:=befS_eq.2 (by rw[HX1D.out,HM1D.out]);simp only[h2,decide_true]at h1
        cases h1
       .refine⟨i,hi2,hr,?_⟩;have h1:=befS_eq.1 (of_decide_eq_true hpr2);exact movesL_inj hfa hB256.out (by rw[getD_get hi2];exact List.getElem_mem hi2) HX1.out (by rw[h1,HX1D.out,HM1D.out])
      have HXI:=LH hxi;have HS9:=LH (HS8.out.call hb5);have HQ9:=HQ82.out.bel hb5;have HK93:=LH ((hb5.block _ l92).trans HK92.out);obtain⟨mb,mo2,rfl,hmb,ph4,ho4,hl4,hc4,x4,a4,q4',c4,k4,f0,f1,f2,f3,f4,hmv4⟩:=(HAT.out.bel hb5).el hi2;rw[hxi]at hmv4;have HMV4:=LH hmv4;obtain⟨x8,a8,n8,c8,k8,hk8,hv8⟩:=HQ9;have HK8:=LH hk8;have HV8:=LH hv8;have hid0:decide ((i:Int)<0)=false:=decide_eq_false (by omega)
      have hqq:QF ((20*L+21)*5001) q:=by rw[HQA.out];exact HI.out.size a ham
      have hqx:QF (20*L+20) x1.cost:=QF.cost hfa hF h1L HX1.out;have HQQ2:=LH hqq;have HQX2:=LH hqx;clear HS8 HQ82 HK92 HVM HAT hidx hb5 hxi hmv4 hk8 hv8 f0 f1 hqq hqx l92
      go_upto_region 22 with fail
      refine prReg22_c _ _ _ _ _ _ _ _ _ _ _ _ _ _ _ _ _ _ _ _ _ _ _ _ _ _ _ _ _ _ _ _ _ _ _ _ _ _ _ _ _ _ _ _ _ _ _ _ _ _ _ _ _ _ _ _ _ _ _ _ _ _ _ _ _ _ _ _ _ _ _ _ _ _ _ _ _ _ _ _ _ _ _ _ _ _ _ _ _ _ _ _ _ _ _ _ _ _ _ _ _ _ _ _ _ _ _ _ _ _ _ _ _ _ _ _ _ _ _ _ _ _ _ _ _ _ _ _ _ HK8 HV8 hi2 hmb f2 f3 f4 (LH HMV4.out.qv.2.2) HQQ2 HQX2 (LH (by omega)) (fun v119 v120 v121 v122 v123 v124 v125 x9 a9 n9 c9 k9 wy hr9 hq9 hg9=>?_)
      have hne:B9≠B8:=fun e=>by
       have h1:=HK93.out;rw[e,HK8.out]at h1
       cases h1
      have hk9y:=(hg9.block B9 (BlkT.lt ⟨_,_,HK93.out⟩) (fun e=>hne (by cases e;rfl))).trans HK93.out;have HSY:=LH (HS9.out.grown hg9 HK8.out hlow8);have HQY:Hid (D4.QB wy B8 (q+x1.cost)):=⟨_,_,_,_,_,hr9,hq9⟩
      obtain⟨n0,n1⟩:=row1 hk9y;have l9y:=BlkT.lt ⟨_,_,hk9y⟩;clear HS9 HK93 HK8 HV8 HMV4 hr9 hq9 hg9 hk9y hne f2 f3 f4;go_wp2
      go_roundg (k-(j+1))
      case rel=>exact⟨j+1,_,_,rfl,by omega,rfl,HSY.out.call Bel.new,HQY.out.bel Bel.new,⟨m1,hm1,HM1D.out,by rw[HQA.out,HX1C.out]⟩,by rw[heap_new _ _ rfl];push_cast;rfl⟩
      case measure=>omega
     .obtain rfl:j=k:=by omega
      have hag:a=g:=dst_inj HI.out.marks.nodup ham hgm2 (by rw[HAD.out,hlk]);have hqp:q=pl.cost:=by rw[HQA.out,hag,hgc]
      obtain⟨x8,a8,n8,c8,k8,hk8,hv8⟩:=HQ8.out;have HV8:=LH hv8;obtain⟨r0,r1,r2,-,-,-⟩:=row3 hk8;obtain⟨q0,q1,q2,q3,q4,q5,-,-,-,-,-,-⟩:=row6 HS.out.b3;have l8:=BlkT.lt ⟨_,_,hk8⟩;have hqf:QF ((20*L+21)*5001) q:=by rw[HQA.out];exact HI.out.size a ham
      have HQP:=LH hqp;have HQF:=LH hqf;clear hk8 hv8 hag hqp hqf
      go_wp2_with fail
      refine(qcmp_c HV8.out HS.out.cost HQF.out (by rw[<-HQP.out];exact HQF.out) (by omega)).mono ?_;rintro e w5 ⟨rfl,hb5⟩;rw[cmpR_eq.2 HQP.out];have HB:Hid (Bel w.heap.size w w5):=HS.out.bel.trans (hb5.mono HS.out.bel.size);clear hb5 n0 n1 r0 r1 r2 q0 q1 q2 q3 q4 q5;go_wp2;go_ret;exact⟨rfl,HB.out⟩
end
def exM:List MoveD:=[⟨⟨0,[0,1]⟩,0⟩,⟨⟨0,[2,1]⟩,6⟩,⟨⟨0,[2,3]⟩,12⟩,⟨⟨1,[0,1]⟩,1⟩,⟨⟨1,[2,1]⟩,7⟩,⟨⟨1,[2,3]⟩,13⟩,⟨⟨2,[0,1]⟩,2⟩,⟨⟨2,[2,1]⟩,8⟩,⟨⟨2,[2,3]⟩,10⟩,⟨⟨3,[0,1]⟩,3⟩,⟨⟨3,[2,1]⟩,9⟩,⟨⟨3,[2,3]⟩,11⟩]
def exO:List MoveD:=[⟨⟨0,[0,1]⟩,0⟩,⟨⟨1,[0,1]⟩,1⟩,⟨⟨2,[0,1]⟩,2⟩,⟨⟨3,[0,1]⟩,3⟩,⟨⟨0,[2,1]⟩,6⟩,⟨⟨1,[2,1]⟩,7⟩,⟨⟨2,[2,1]⟩,8⟩,⟨⟨3,[2,1]⟩,9⟩,⟨⟨2,[2,3]⟩,10⟩,⟨⟨3,[2,3]⟩,11⟩,⟨⟨0,[2,3]⟩,12⟩,⟨⟨1,[2,3]⟩,13⟩]
def exWay:List StateD:=[⟨0,[2,3]⟩,⟨3,[2,3]⟩,⟨2,[2,3]⟩,⟨1,[2,1]⟩,⟨0,[2,1]⟩,⟨3,[0,1]⟩,⟨2,[0,1]⟩,⟨1,[0,1]⟩,⟨0,[0,1]⟩]
theorem exMarks:okMarks exP exM exO=true:=by kernel_rfl
theorem exProb:probB exP=true:=by kernel_rfl
theorem exGoals:goalsL exP exM=[⟨⟨0,[2,3]⟩,12⟩]:=by kernel_rfl
theorem exWayN:wayN exP exM 20 ⟨0,[2,3]⟩ 12=some exWay:=by kernel_rfl
theorem exPlan {L:Nat}{pl:PlanD}(h:PlanIs L exP pl):pl.found=true/\pl.cost=12/\pl.way.length=9:=by
 have hm:pl.marks=exM:=IsMarks.unique h.marks (okMarks_is exMarks).1 h.sorted (okMarks_is exMarks).2;rcases h.way with⟨h0,-⟩|⟨g,hg,-,hf,hc,hw⟩
 .rw[hm,exGoals]at h0;cases h0
 .rw[hm,exGoals,List.mem_singleton]at hg;subst hg;rw[hm]at hw;have:=WayB.unique hw (wayN_B exWayN);refine⟨hf,hc,?_⟩;have h2:=congrArg List.length this;rw[List.length_reverse]at h2;rw[h2];rfl
theorem len_sub {l r:List StateD}(h:l.Nodup)(hs:∀x∈l,x∈r):l.length<=r.length:=by
 induction l generalizing r with
 |nil=>exact Nat.zero_le _
 |cons a l ih=>
  rw[List.nodup_cons]at h;have ha:=hs a (by simp)
  have h1:=ih (r:=r.erase a) h.2 (fun x hx=>by
   have hne:x≠a:=fun e=>h.1 (e▸hx);exact(List.mem_erase_of_ne hne).2 (hs x (by simp[hx])))
  rw[List.length_erase_of_mem ha]at h1;have:=List.length_pos_of_mem ha;simp only[List.length_cons];omega
theorem exFind {L:Nat}{er:Int}{pl:PlanD}(h:FindE L exP er pl):er=0/\PlanIs L exP pl:=by
 rcases h with⟨h,-⟩|⟨-,⟨l,hn,hl,hr⟩,-⟩|⟨-,h1,h2⟩
 .rw[exProb]at h;cases h
 .exfalso
  have:=len_sub hn (r:=exM.map (·.dst)) fun s hs=>by
   obtain⟨c,hc⟩:=hr s hs;obtain⟨m,hm,e,-⟩:=(okMarks_is exMarks).1.least hc;exact List.mem_map.2 ⟨m,hm,e⟩
  have h12:(exM.map (·.dst)).length=12:=rfl;omega
 .exact⟨h1,h2⟩
theorem QF.one1:QF 1 1:=⟨by rw[show(1:Rat).num.natAbs=1 from rfl,nlen_one];exact Nat.le_refl _,by rw[show(1:Rat).den=1 from rfl,nlen_one];exact Nat.le_refl _⟩
theorem exProbF:ProbF 10 exP:=by
 have h0:QF 10 0:=QF.zero 10 (by decide);have h1:QF 10 1:=QF.one1.mono (by decide);have h2':QF 3 2:=by have:=QF.add QF.one1 QF.one1;rw[show(1:Rat)+1=2 by grind]at this;exact this
 have h2:QF 10 2:=h2'.mono (by decide);have h3:QF 10 3:=by have:=QF.add h2' QF.one1;rw[show(2:Rat)+1=3 by grind]at this;exact this.mono (by decide)
 refine⟨fun i hi=>?_,⟨h2,h0,h0,h1,h0,h1,h0,h1⟩,h2,by decide⟩;have hi4:i<4:=hi;rcases i with _|_|_|_|i
 .exact⟨h0,h0,h0,h0⟩
 .exact⟨h1,h0,h0,h0⟩
 .exact⟨h2,h0,h0,h0⟩
 .exact⟨h3,h0,h0,h0⟩
 .omega
end Go.Proofs.YtlgjakpoaelehaaGreat
