/- Functions and contracts of a law's callees, written by a program of this session (a changed print): each contract says that the machine's call answers what the plain function says. Conditions: the plain function's own answer. -/
import Derived.Test.YtogcoedmagoogaaGreatDoorZPFnExactCheckAssertionx0
import Derived.Test.YtogcoedmagoogaaGreatDoorZPFnExactCheckAssertionx7
import Derived.Test.YtogcoedmagoogaaGreatDoorZPFnExactCheckAssertionx8
import Derived.Test.YtogcoedmagoogaaGreatDoorZPFnExactCheckAssertionx10
import Derived.Test.YtogcoedmagoogaaGreatDoorZPFnExactCheckAssertionx11
namespace Go.Proofs.YtogcoedmagoogaaGreatDoor.PFnExactCheckAssertion
open Go.RowKit Go.Proofs.YtogcoedmagoogaaGreatDoorW.PrintWords Go.Proofs.YtogcoedmagoogaaGreatDoorW.PrintLast Go.Proofs.YtogcoedmagoogaaGreatDoorW.PrintMore
attribute [local go_sem] max2_int min2_int max_two min_two max_three min_three max_four min_four   -- for this text's walks alone
set_option linter.unusedVariables false
set_option linter.unusedSimpArgs false
abbrev Am12_ {p : Prop} (h : p) : Aside0 p := Aside0.mk h

namespace Y12
class Ex_ (w W:World):Prop where
 k:∀ {g:Nat} {o:Obj},w.heap[g]?=some o → W.heap[g]?=some o
 e:∀ {v:World},Below v.heap.size v w → Below v.heap.size v W
instance (priority:=low) Ex_.rf (w:World):Ex_ w w:=⟨fun h => h,fun h => h⟩
instance Ex_.dn {w W:World} [x:Ex_ w W] (n:Nat):Ex_ w (W.drewN n):=⟨fun h => blk_drewN (x.k h) n,fun h => pw_below_drewN (x.e h) n⟩
instance Ex_.dr {w W:World} [x:Ex_ w W]:Ex_ w W.drew:=⟨fun h => blk_drew (x.k h),fun h => below_drew1 (x.e h)⟩
instance Ex_.al {w W:World} [x:Ex_ w W] (o:Obj):Ex_ w (W.alloc o):=⟨fun h => blk_alloc (x.k h) o,fun h => below_alloc (x.e h) o⟩
theorem xk_ {w W:World} {g:Nat} {o:Obj} (h:Aside0 (w.heap[g]?=some o)) [x:Ex_ w W]:W.heap[g]?=some o:=x.k h.out
theorem ne1_ {w W:World} {g g':Nat} {o:Obj} (hg:g'=W.heap.size) (h:Aside0 (w.heap[g]?=some o)) [x:Ex_ w W]:Aside0 (g ≠ g'):=Am12_ (by rw [hg];exact Nat.ne_of_lt (blk_lt (x.k h.out)))
theorem ne2_ {w W:World} {g g':Nat} {o:Obj} (hg:g'=W.heap.size) (h:Aside0 (w.heap[g]?=some o)) [x:Ex_ w W]:Aside0 (g' ≠ g):=Am12_ (by rw [hg];exact Nat.ne_of_gt (blk_lt (x.k h.out)))
theorem gw_ {v w W:World} {g':Nat} (hg:g'=W.heap.size) (h:Aside0 (Below v.heap.size v w)) [x:Ex_ w W]:Aside0 (v.heap.size ≤ g'):=Am12_ (by rw [hg];exact below_size (x.e h.out))
theorem bb_ {w W W':World} {g:Nat} {o:Obj} (h:Aside0 (w.heap[g]?=some o)) (hb:Below W.heap.size W W') [x:Ex_ w W]:Aside0 (W'.heap[g]?=some o):=Am12_ (blk_below (x.k h.out) hb)
theorem bs_ {v w W W':World} (h:Aside0 (Below v.heap.size v w)) (hb:Below W.heap.size W W') [x:Ex_ w W]:Aside0 (Below v.heap.size v W'):=Am12_ (below_step (x.e h.out) hb)
theorem xe_ {v w W:World} (h:Aside0 (Below v.heap.size v w)) [x:Ex_ w W]:Below v.heap.size v W:=x.e h.out
end Y12
open Y12

namespace Y12
abbrev Sa_ := @List.setIfInBounds_toArray
abbrev Sb_ := @List.set_cons_zero
abbrev Sc_ := @List.set_cons_succ
theorem q_ {w W : World} {g : Nat} {t : TypeId} {cs : Array Value} (h : Aside0 (w.heap[g]? = some (.cells cs t (0, 0)))) (i : Nat) {v : Option Value} (e : cs[i]? = v) [x : Ex_ w W] : W.cell? ⟨g, i, none⟩ = v := (blk_cell (x.k h.out) i).trans e
end Y12
open Y12
/-! ### spec_CheckAssertion: function 15 -/
def spec_CheckAssertion.j0:Nat → Int → Int → Int → Bool → ByteArray → ByteArray → Int → Int → Bool → Int → Int → Option (Int)
|0,_,_,_,_,_,_,_,_,_,_,_ => none
|k + 1,x0,x3,x4,x19,x300000,x300001,x300002,x300003,x300004,x300005,x300006 => if x19=true then (some 1) else (if x300004=true then (if x300002=x3 then ((spec_AssertionMessage.f k x300000 x300001 x300002 x300003 x300004 x300005 x300006).bind fun t306 => ((some (([x300005]:List Int):List Int)).bind fun y309 => (if t306.length + y309.length < 17592186044416 then ((spec_VerifySignature.f k x0 (t306 ++ y309) x300006).bind fun t315 => (if t315=true then (if x300005 ≤ x4 then (some 4) else (some 0)) else (some 5))) else (none)))) else (some 3)) else (some 2))
def spec_CheckAssertion.f (k:Nat) (a0:Int) (a1_0:ByteArray) (a1_1:ByteArray) (a1_2:Int) (a1_3:Int) (a1_4:Bool) (a1_5:Int) (a1_6:Int) (a2:ByteArray) (a3:Int) (a4:Int):Option (Int):=(spec_ParseOrigin.f k a1_1).bind fun bt300 => (if a1_0.toList=a2.toList then (if bt300.2.2.2=true then ((spec_MayUse.f k bt300.1 bt300.2.1 bt300.2.2.1 a2).bind fun t305 => (spec_CheckAssertion.j0 k a0 a3 a4 (!t305) a1_0 a1_1 a1_2 a1_3 a1_4 a1_5 a1_6)) else (spec_CheckAssertion.j0 k a0 a3 a4 true a1_0 a1_1 a1_2 a1_3 a1_4 a1_5 a1_6)) else (spec_CheckAssertion.j0 k a0 a3 a4 true a1_0 a1_1 a1_2 a1_3 a1_4 a1_5 a1_6))
theorem spec_CheckAssertion.mono_l:∀ k,(∀ y0 y1 y2 y3 y4 y5 y6 y7 y8 y9 y10,LeO (spec_CheckAssertion.j0 k y0 y1 y2 y3 y4 y5 y6 y7 y8 y9 y10) (spec_CheckAssertion.j0 (k + 1) y0 y1 y2 y3 y4 y5 y6 y7 y8 y9 y10))
|0 => fun _ _ _ _ _ _ _ _ _ _ _ r h => by simp [spec_CheckAssertion.j0] at h
|k + 1 => by
  have ih0:=spec_CheckAssertion.mono_l k
  ·intro y0 y1 y2 y3 y4 y5 y6 y7 y8 y9 y10
   unfold spec_CheckAssertion.j0
   repeat' first
  |(with_reducible exact ih0 _ _ _ _ _ _ _ _ _ _ _)
  |(with_reducible exact spec_AssertionMessage.mono _ _ _ _ _ _ _ _)
  |(with_reducible exact spec_MayUse.mono _ _ _ _ _)
  |(with_reducible exact spec_ParseOrigin.mono _ _)
  |(with_reducible exact spec_VerifySignature.mono _ _ _ _)
  |(with_reducible exact LeO.refl _)
  |(with_reducible exact LeO.none _)
  |(with_reducible refine LeO.ite ?_ ?_)
  |(with_reducible refine LeO.bind ?_ (fun _ => ?_))
  |exact ih0 _ _ _ _ _ _ _ _ _ _ _
  |exact spec_AssertionMessage.mono _ _ _ _ _ _ _ _
  |exact spec_MayUse.mono _ _ _ _ _
  |exact spec_ParseOrigin.mono _ _
  |exact spec_VerifySignature.mono _ _ _ _
  |exact LeO.none _
  |refine LeO.ite ?_ ?_
  |refine LeO.bind ?_ (fun _ => ?_)
theorem spec_CheckAssertion.mono:∀ a0 a1 a2 a3 a4 a5 a6 a7 a8 a9 a10 k,LeO (spec_CheckAssertion.f k a0 a1 a2 a3 a4 a5 a6 a7 a8 a9 a10) (spec_CheckAssertion.f (k + 1) a0 a1 a2 a3 a4 a5 a6 a7 a8 a9 a10):=by
 intro a0 a1 a2 a3 a4 a5 a6 a7 a8 a9 a10 k;have ih0:=spec_CheckAssertion.mono_l k
 unfold spec_CheckAssertion.f
 repeat' first
  |(with_reducible exact ih0 _ _ _ _ _ _ _ _ _ _ _)
  |(with_reducible exact spec_AssertionMessage.mono _ _ _ _ _ _ _ _)
  |(with_reducible exact spec_MayUse.mono _ _ _ _ _)
  |(with_reducible exact spec_ParseOrigin.mono _ _)
  |(with_reducible exact spec_VerifySignature.mono _ _ _ _)
  |(with_reducible exact LeO.refl _)
  |(with_reducible exact LeO.none _)
  |(with_reducible refine LeO.ite ?_ ?_)
  |(with_reducible refine LeO.bind ?_ (fun _ => ?_))
  |exact ih0 _ _ _ _ _ _ _ _ _ _ _
  |exact spec_AssertionMessage.mono _ _ _ _ _ _ _ _
  |exact spec_MayUse.mono _ _ _ _ _
  |exact spec_ParseOrigin.mono _ _
  |exact spec_VerifySignature.mono _ _ _ _
  |exact LeO.none _
  |refine LeO.ite ?_ ?_
  |refine LeO.bind ?_ (fun _ => ?_)
def spec_CheckAssertion.T8:Bool × List (List Nat × List Nat):=(true,[([],[]),([],[]),([1],[1]),([],[]),([3],[3]),([4],[4]),([2,5,2],[2,5]),([],[]),([7],[7]),([0,6,8,6],[0,6,8]),([9],[9]),([10,9],[10])])
def spec_CheckAssertion.B8:List Nat:=[0,0,2,0,8,24,62,0,128,511,1023,2047]
theorem spec_CheckAssertion.tab8:rtab .any (opsOf Tryz.f15 8)=spec_CheckAssertion.T8:=by kernel_rfl
theorem spec_CheckAssertion.bits8:waitsOk spec_CheckAssertion.T8.2 spec_CheckAssertion.B8=true:=by kernel_rfl
set_option maxHeartbeats 8000000 in
set_option maxRecDepth 100000 in
theorem spec_CheckAssertion.calls (k:Nat) (a0:Int) (a1_0:ByteArray) (a1_1:ByteArray) (a1_2:Int) (a1_3:Int) (a1_4:Bool) (a1_5:Int) (a1_6:Int) (a2:ByteArray) (a3:Int) (a4:Int) (r:Int) (w:World) (h:spec_CheckAssertion.f k a0 a1_0 a1_1 a1_2 a1_3 a1_4 a1_5 a1_6 a2 a3 a4=some r) :
  Calls Tryz.prog 15 #[.int .i64 a0,.agg #[.string a1_0,.string a1_1,.int .i64 a1_2,.int .i64 a1_3,.bool a1_4,.int .i64 a1_5,.int .i64 a1_6],.string a2,.int .i64 a3,.int .i64 a4] w fun e w' => e=.returned (.int .i64 r)∧Below w.heap.size w w':=by
 have hu30:=Tryz.underlying30;have hu28:=Tryz.underlying28;have HB:=Am12_ (Below.refl w.heap.size w);have H:=h;unfold spec_CheckAssertion.f at H;clear h;replace H:=Option.bind_eq_some_iff.mp H;obtain ⟨⟨t300,t301,t302,t303⟩,A60,H⟩:=H
 try dsimp only at H
 have A6:=Am12_ A60;clear A60;have HC7:=Am12_ H;clear H
 go_enter Tryz.func15,Tryz.ntmps15
 go_upto_region 2 with (first|((with_reducible refine gate_dst (N:=6) rfl ?_);refine box_event ?hg (N:=6) ?hd (cs:=#[.string a1_0,.string a1_1,.int .i64 a1_2,.int .i64 a1_3,.bool a1_4,.int .i64 a1_5,.int .i64 a1_6]) (t:=30) ?hr ?_;(case hd => rfl);(case hg => rfl);(case hr => first|(go_simp;done)|(go_simp;rfl));intro gb299 hg w8 hbox hb;have n0_:=bs_ HB hb;have n1_:=Am12_ (hbox);have n2_:=gw_ hg HB;have n3_:=gw_ hg HB;clear HB;have HB:=n0_;have BK299:=n1_;have GW299:=n2_;have GE299:=n3_;clear n0_ n1_ n2_ n3_;clear hb hbox hg;have hcz9_0:w8.cell? ⟨gb299,0,none⟩=some (.string a1_0):=q_ BK299 0 rfl;have hcz9_1:w8.cell? ⟨gb299,1,none⟩=some (.string a1_1):=q_ BK299 1 rfl;have hcz9_2:w8.cell? ⟨gb299,2,none⟩=some (.int .i64 a1_2):=q_ BK299 2 rfl;have hcz9_3:w8.cell? ⟨gb299,3,none⟩=some (.int .i64 a1_3):=q_ BK299 3 rfl;have hcz9_4:w8.cell? ⟨gb299,4,none⟩=some (.bool a1_4):=q_ BK299 4 rfl;have hcz9_5:w8.cell? ⟨gb299,5,none⟩=some (.int .i64 a1_5):=q_ BK299 5 rfl;have hcz9_6:w8.cell? ⟨gb299,6,none⟩=some (.int .i64 a1_6):=q_ BK299 6 rfl;have hfz9_0:=blk_frozen BK299.out 0;have hfz9_1:=blk_frozen BK299.out 1;have hfz9_2:=blk_frozen BK299.out 2;have hfz9_3:=blk_frozen BK299.out 3;have hfz9_4:=blk_frozen BK299.out 4;have hfz9_5:=blk_frozen BK299.out 5;have hfz9_6:=blk_frozen BK299.out 6)|((with_reducible refine gate_callee (f:=29) rfl ?_);refine goesL_ (some 16) rfl rfl Tryz.func29 (by kernel_rfl) rfl #[.string a1_1] rfl (by (try simp only [List.map_toArray,List.map_cons,List.map_nil]);first|done|rfl|(simp only [List.length_drop,List.length_take];rfl)) ?_;(with_reducible refine (spec_ParseOrigin.calls k a1_1 t300 t301 t302 t303 _ A6.out).mono ?_);rintro e w10 ⟨rfl,hb⟩;refine ⟨_,rfl,?_⟩;have n0_:=bb_ BK299 hb;have n1_:=bs_ HB hb;clear BK299;clear HB;have BK299:=n0_;have HB:=n1_;clear n0_ n1_;(try clear hb);(try clear hb2);(try clear hk);(try clear hi))|((with_reducible refine gate_dst (N:=11) rfl ?_);refine box_event ?hg (N:=11) ?hd (cs:=#[.bool false,.string (⟨#[]⟩:ByteArray),.int .i64 0]) (t:=28) ?hr ?_;(case hd => rfl);(case hg => rfl);(case hr => first|(go_simp;done)|(go_simp;rfl));intro gb304 hg w11 hbox hb;have n0_:=bb_ BK299 hb;have n1_:=bs_ HB hb;have n2_:=Am12_ (hbox);have n3_:=gw_ hg HB;have n4_:=gw_ hg HB;have n5_:=ne1_ hg BK299;have n6_:=ne2_ hg BK299;clear BK299;clear HB;have BK299:=n0_;have HB:=n1_;have BK304:=n2_;have GW304:=n3_;have GE304:=n4_;have NB299_304:=n5_;have NB304_299:=n6_;clear n0_ n1_ n2_ n3_ n4_ n5_ n6_;clear hb hbox hg;have hnb12:=NB304_299.out;have hnc12:=NB299_304.out;have hcz13_0:w11.cell? ⟨gb304,0,none⟩=some (.bool false):=q_ BK304 0 rfl;have hcz13_1:w11.cell? ⟨gb304,1,none⟩=some (.string (⟨#[]⟩:ByteArray)):=q_ BK304 1 rfl;have hcz13_2:w11.cell? ⟨gb304,2,none⟩=some (.int .i64 0):=q_ BK304 2 rfl;have hfz13_0:=blk_frozen BK304.out 0;have hfz13_1:=blk_frozen BK304.out 1;have hfz13_2:=blk_frozen BK304.out 2))
 (try simp only [Act.put,Sa_,Sb_,Sc_])
 go_cut [19] (fun v19 wc => ∃ (kq:Nat) (x19_6:Bool),v19=.bool x19_6∧Aside0 (spec_CheckAssertion.j0 kq a0 a3 a4 x19_6 a1_0 a1_1 a1_2 a1_3 a1_4 a1_5 a1_6=some r)∧Aside0 (kq ≤ k)∧Aside0 (wc.heap[gb299]?=some (.cells #[.string a1_0,.string a1_1,.int .i64 a1_2,.int .i64 a1_3,.bool a1_4,.int .i64 a1_5,.int .i64 a1_6] 30 (0,0)))∧Aside0 (wc.heap[gb304]?=some (.cells #[.bool t300,.string t301,.int .i64 t302] 28 (0,0)))∧Aside0 (Below w.heap.size w wc))
 case first =>
  have H:=HC7.out;clear HC7
  by_cases c14:a1_0.toList=a2.toList
  ·rw [if_pos c14] at H
   have c14b0:(a1_0.toList == a2.toList)=true:=beq_iff_eq.mpr c14;have c14b1:(a1_0.toList != a2.toList)=false:=bne_eq_false_iff_eq.mpr c14;clear c14
   (first|rw [c14b0]|(simp only [i64_w,i32_w];rw [c14b0])|skip)
   by_cases c15:t303=true
   ·subst c15
    rw [if_pos rfl] at H
    replace H:=Option.bind_eq_some_iff.mp H;obtain ⟨t305,A160,H⟩:=H
    try dsimp only at H
    have A16:=Am12_ A160;clear A160;have H':=Am12_ H;clear H;have hnb17:=NB299_304.out;have hnc17:=NB304_299.out;have hcz18_0:w11.cell? ⟨gb299,0,none⟩=some (.string a1_0):=q_ BK299 0 rfl;have hcz18_1:w11.cell? ⟨gb299,1,none⟩=some (.string a1_1):=q_ BK299 1 rfl;have hcz18_2:w11.cell? ⟨gb299,2,none⟩=some (.int .i64 a1_2):=q_ BK299 2 rfl;have hcz18_3:w11.cell? ⟨gb299,3,none⟩=some (.int .i64 a1_3):=q_ BK299 3 rfl;have hcz18_4:w11.cell? ⟨gb299,4,none⟩=some (.bool a1_4):=q_ BK299 4 rfl;have hcz18_5:w11.cell? ⟨gb299,5,none⟩=some (.int .i64 a1_5):=q_ BK299 5 rfl;have hcz18_6:w11.cell? ⟨gb299,6,none⟩=some (.int .i64 a1_6):=q_ BK299 6 rfl;have hfz18_0:=blk_frozen BK299.out 0;have hfz18_1:=blk_frozen BK299.out 1;have hfz18_2:=blk_frozen BK299.out 2;have hfz18_3:=blk_frozen BK299.out 3;have hfz18_4:=blk_frozen BK299.out 4;have hfz18_5:=blk_frozen BK299.out 5;have hfz18_6:=blk_frozen BK299.out 6;have hcz19_0:w11.cell? ⟨gb304,0,none⟩=some (.bool false):=q_ BK304 0 rfl;have hcz19_1:w11.cell? ⟨gb304,1,none⟩=some (.string (⟨#[]⟩:ByteArray)):=q_ BK304 1 rfl;have hcz19_2:w11.cell? ⟨gb304,2,none⟩=some (.int .i64 0):=q_ BK304 2 rfl;have hfz19_0:=blk_frozen BK304.out 0;have hfz19_1:=blk_frozen BK304.out 1;have hfz19_2:=blk_frozen BK304.out 2
    go_wp2_with (first|(go_at_call 19;(with_reducible refine (spec_MayUse.calls k t300 t301 t302 a2 t305 _ A16.out).mono ?_);rintro e w20 ⟨rfl,hb⟩;have n0_:=Am12_ (blk_below (g:=gb299) (o:=.cells #[.string a1_0,.string a1_1,.int .i64 a1_2,.int .i64 a1_3,.bool a1_4,.int .i64 a1_5,.int .i64 a1_6] 30 (0,0)) (by (repeat (first|(with_reducible first|refine blk_drewN ?_ _|refine blk_drew ?_|refine blk_alloc ?_ _)|refine blk_far ?_ NB299_304.out _));exact BK299.out) hb);have n1_:=Am12_ (blk_below (g:=gb304) (o:=.cells #[.bool t300,.string t301,.int .i64 t302] 28 (0,0)) (by (with_reducible repeat (first|refine blk_drewN ?_ _|refine blk_drew ?_|refine blk_alloc ?_ _));refine blk_put (cs:=#[.bool t300,.string t301,.int .i64 0]) ?_ 2 _ rfl;(with_reducible repeat (first|refine blk_drewN ?_ _|refine blk_drew ?_|refine blk_alloc ?_ _));refine blk_put (cs:=#[.bool t300,.string (⟨#[]⟩:ByteArray),.int .i64 0]) ?_ 1 _ rfl;(with_reducible repeat (first|refine blk_drewN ?_ _|refine blk_drew ?_|refine blk_alloc ?_ _));refine blk_put (cs:=#[.bool false,.string (⟨#[]⟩:ByteArray),.int .i64 0]) ?_ 0 _ rfl;(with_reducible repeat (first|refine blk_drewN ?_ _|refine blk_drew ?_|refine blk_alloc ?_ _));exact BK304.out) hb);have n2_:=Am12_ (below_step (by repeat (first|(with_reducible first|exact HB.out|apply below_alloc|apply pw_below_drewN|apply below_drew1|refine below_set ?_ GE299.out|refine below_set ?_ GE304.out)|exact HB.out)) hb);clear BK299;clear BK304;clear HB;have BK299:=n0_;have BK304:=n1_;have HB:=n2_;clear n0_ n1_ n2_;(try clear hb);(try clear hb2);(try clear hk);(try clear hi)))
    go_meet
    case rel => exact ⟨_,(!t305),(by first|rfl|(simp;done)|(simp [*];done)),H',⟨by first|omega|exact Nat.le_refl _⟩,⟨by (with_reducible repeat (first|refine blk_drewN ?_ _|refine blk_drew ?_|refine blk_alloc ?_ _));exact BK299.out⟩,⟨by (with_reducible repeat (first|refine blk_drewN ?_ _|refine blk_drew ?_|refine blk_alloc ?_ _));exact BK304.out⟩,⟨by repeat (first|(with_reducible first|exact HB.out|apply below_alloc|apply pw_below_drewN|apply below_drew1|refine below_set ?_ GE299.out|refine below_set ?_ GE304.out)|exact HB.out)⟩⟩
   ·replace c15:=Bool.eq_false_iff.mpr c15;subst c15
    rw [if_neg (show ¬ (false=true) by decide)] at H
    have H':=Am12_ H;clear H;have hnb21:=NB299_304.out;have hnc21:=NB304_299.out;have hcz22_0:w11.cell? ⟨gb299,0,none⟩=some (.string a1_0):=q_ BK299 0 rfl;have hcz22_1:w11.cell? ⟨gb299,1,none⟩=some (.string a1_1):=q_ BK299 1 rfl;have hcz22_2:w11.cell? ⟨gb299,2,none⟩=some (.int .i64 a1_2):=q_ BK299 2 rfl;have hcz22_3:w11.cell? ⟨gb299,3,none⟩=some (.int .i64 a1_3):=q_ BK299 3 rfl;have hcz22_4:w11.cell? ⟨gb299,4,none⟩=some (.bool a1_4):=q_ BK299 4 rfl;have hcz22_5:w11.cell? ⟨gb299,5,none⟩=some (.int .i64 a1_5):=q_ BK299 5 rfl;have hcz22_6:w11.cell? ⟨gb299,6,none⟩=some (.int .i64 a1_6):=q_ BK299 6 rfl;have hfz22_0:=blk_frozen BK299.out 0;have hfz22_1:=blk_frozen BK299.out 1;have hfz22_2:=blk_frozen BK299.out 2;have hfz22_3:=blk_frozen BK299.out 3;have hfz22_4:=blk_frozen BK299.out 4;have hfz22_5:=blk_frozen BK299.out 5;have hfz22_6:=blk_frozen BK299.out 6
    go_wp2
    go_meet
    case rel => exact ⟨_,(true),(by first|rfl|(simp;done)|(simp [*];done)),H',⟨by first|omega|exact Nat.le_refl _⟩,⟨by (with_reducible repeat (first|refine blk_drewN ?_ _|refine blk_drew ?_|refine blk_alloc ?_ _));refine blk_far ?_ NB299_304.out _;(with_reducible repeat (first|refine blk_drewN ?_ _|refine blk_drew ?_|refine blk_alloc ?_ _));refine blk_far ?_ NB299_304.out _;(with_reducible repeat (first|refine blk_drewN ?_ _|refine blk_drew ?_|refine blk_alloc ?_ _));refine blk_far ?_ NB299_304.out _;(with_reducible repeat (first|refine blk_drewN ?_ _|refine blk_drew ?_|refine blk_alloc ?_ _));exact BK299.out⟩,⟨by (with_reducible repeat (first|refine blk_drewN ?_ _|refine blk_drew ?_|refine blk_alloc ?_ _));refine blk_put (cs:=#[.bool t300,.string t301,.int .i64 0]) ?_ 2 _ rfl;(with_reducible repeat (first|refine blk_drewN ?_ _|refine blk_drew ?_|refine blk_alloc ?_ _));refine blk_put (cs:=#[.bool t300,.string (⟨#[]⟩:ByteArray),.int .i64 0]) ?_ 1 _ rfl;(with_reducible repeat (first|refine blk_drewN ?_ _|refine blk_drew ?_|refine blk_alloc ?_ _));refine blk_put (cs:=#[.bool false,.string (⟨#[]⟩:ByteArray),.int .i64 0]) ?_ 0 _ rfl;(with_reducible repeat (first|refine blk_drewN ?_ _|refine blk_drew ?_|refine blk_alloc ?_ _));exact BK304.out⟩,⟨by repeat (first|(with_reducible first|exact HB.out|apply below_alloc|apply pw_below_drewN|apply below_drew1|refine below_set ?_ GE299.out|refine below_set ?_ GE304.out)|exact HB.out)⟩⟩
  ·rw [if_neg c14] at H
   have c14b0:(a1_0.toList == a2.toList)=false:=beq_eq_false_iff_ne.mpr c14;have c14b1:(a1_0.toList != a2.toList)=true:=bne_iff_ne.mpr c14
   (first|rw [c14b0]|(simp only [i64_w,i32_w];rw [c14b0])|skip)
   have H':=Am12_ H;clear H;have hnb23:=NB299_304.out;have hnc23:=NB304_299.out;have hcz24_0:w11.cell? ⟨gb299,0,none⟩=some (.string a1_0):=q_ BK299 0 rfl;have hcz24_1:w11.cell? ⟨gb299,1,none⟩=some (.string a1_1):=q_ BK299 1 rfl;have hcz24_2:w11.cell? ⟨gb299,2,none⟩=some (.int .i64 a1_2):=q_ BK299 2 rfl;have hcz24_3:w11.cell? ⟨gb299,3,none⟩=some (.int .i64 a1_3):=q_ BK299 3 rfl;have hcz24_4:w11.cell? ⟨gb299,4,none⟩=some (.bool a1_4):=q_ BK299 4 rfl;have hcz24_5:w11.cell? ⟨gb299,5,none⟩=some (.int .i64 a1_5):=q_ BK299 5 rfl;have hcz24_6:w11.cell? ⟨gb299,6,none⟩=some (.int .i64 a1_6):=q_ BK299 6 rfl;have hfz24_0:=blk_frozen BK299.out 0;have hfz24_1:=blk_frozen BK299.out 1;have hfz24_2:=blk_frozen BK299.out 2;have hfz24_3:=blk_frozen BK299.out 3;have hfz24_4:=blk_frozen BK299.out 4;have hfz24_5:=blk_frozen BK299.out 5;have hfz24_6:=blk_frozen BK299.out 6
   go_wp2
   go_meet
   case rel => exact ⟨_,(true),(by first|rfl|(simp;done)|(simp [*];done)),H',⟨by first|omega|exact Nat.le_refl _⟩,⟨by (with_reducible repeat (first|refine blk_drewN ?_ _|refine blk_drew ?_|refine blk_alloc ?_ _));refine blk_far ?_ NB299_304.out _;(with_reducible repeat (first|refine blk_drewN ?_ _|refine blk_drew ?_|refine blk_alloc ?_ _));refine blk_far ?_ NB299_304.out _;(with_reducible repeat (first|refine blk_drewN ?_ _|refine blk_drew ?_|refine blk_alloc ?_ _));refine blk_far ?_ NB299_304.out _;(with_reducible repeat (first|refine blk_drewN ?_ _|refine blk_drew ?_|refine blk_alloc ?_ _));exact BK299.out⟩,⟨by (with_reducible repeat (first|refine blk_drewN ?_ _|refine blk_drew ?_|refine blk_alloc ?_ _));refine blk_put (cs:=#[.bool t300,.string t301,.int .i64 0]) ?_ 2 _ rfl;(with_reducible repeat (first|refine blk_drewN ?_ _|refine blk_drew ?_|refine blk_alloc ?_ _));refine blk_put (cs:=#[.bool t300,.string (⟨#[]⟩:ByteArray),.int .i64 0]) ?_ 1 _ rfl;(with_reducible repeat (first|refine blk_drewN ?_ _|refine blk_drew ?_|refine blk_alloc ?_ _));refine blk_put (cs:=#[.bool false,.string (⟨#[]⟩:ByteArray),.int .i64 0]) ?_ 0 _ rfl;(with_reducible repeat (first|refine blk_drewN ?_ _|refine blk_drew ?_|refine blk_alloc ?_ _));exact BK304.out⟩,⟨by repeat (first|(with_reducible first|exact HB.out|apply below_alloc|apply pw_below_drewN|apply below_drew1|refine below_set ?_ GE299.out|refine below_set ?_ GE304.out)|exact HB.out)⟩⟩
 case rest =>
  clear HC7
  try clear c1
  try clear c2
  try clear p2
  try clear c12
  try clear c14
  try clear c14b0
  try clear c14b1
  try clear c15
  try clear c17
  try clear c21
  try clear c23
  try clear hcz13_0
  try clear hcz13_1
  try clear hcz13_2
  try clear hcz18_0
  try clear hcz18_1
  try clear hcz18_2
  try clear hcz18_3
  try clear hcz18_4
  try clear hcz18_5
  try clear hcz18_6
  try clear hcz19_0
  try clear hcz19_1
  try clear hcz19_2
  try clear hcz22_0
  try clear hcz22_1
  try clear hcz22_2
  try clear hcz22_3
  try clear hcz22_4
  try clear hcz22_5
  try clear hcz22_6
  try clear hcz24_0
  try clear hcz24_1
  try clear hcz24_2
  try clear hcz24_3
  try clear hcz24_4
  try clear hcz24_5
  try clear hcz24_6
  try clear hcz9_0
  try clear hcz9_1
  try clear hcz9_2
  try clear hcz9_3
  try clear hcz9_4
  try clear hcz9_5
  try clear hcz9_6
  try clear hfz13_0
  try clear hfz13_1
  try clear hfz13_2
  try clear hfz18_0
  try clear hfz18_1
  try clear hfz18_2
  try clear hfz18_3
  try clear hfz18_4
  try clear hfz18_5
  try clear hfz18_6
  try clear hfz19_0
  try clear hfz19_1
  try clear hfz19_2
  try clear hfz22_0
  try clear hfz22_1
  try clear hfz22_2
  try clear hfz22_3
  try clear hfz22_4
  try clear hfz22_5
  try clear hfz22_6
  try clear hfz24_0
  try clear hfz24_1
  try clear hfz24_2
  try clear hfz24_3
  try clear hfz24_4
  try clear hfz24_5
  try clear hfz24_6
  try clear hfz9_0
  try clear hfz9_1
  try clear hfz9_2
  try clear hfz9_3
  try clear hfz9_4
  try clear hfz9_5
  try clear hfz9_6
  obtain ⟨kq,x19_6,rfl,HA,HJ6,BK299,BK304,HB⟩:=hcut
  cases kq with
 |zero => exact absurd HA.out (by simp [spec_CheckAssertion.j0])
 |succ kj6 =>
   have H:=HA.out;clear HA;simp only [spec_CheckAssertion.j0] at H
   by_cases c25:x19_6=true
   ·subst c25
    rw [if_pos rfl] at H
    obtain rfl:=Option.some.inj H
    go_wp2
    go_ret
    exact ⟨by first|rfl|(simp [errW_none,errW_some] <;> rfl)|(simp [*,errW_none,errW_some] <;> rfl),by repeat (first|(with_reducible first|exact HB.out|apply below_alloc|apply pw_below_drewN|apply below_drew1|refine below_set ?_ GE299.out|refine below_set ?_ GE304.out)|exact HB.out)⟩
   ·replace c25:=Bool.eq_false_iff.mpr c25;subst c25
    rw [if_neg (show ¬ (false=true) by decide)] at H
    by_cases c26:a1_4=true
    ·subst c26
     rw [if_pos rfl] at H
     by_cases c27:a1_2=a3
     ·rw [if_pos c27] at H
      have c27b0:(a1_2 == a3)=true:=beq_iff_eq.mpr c27;have c27b1:(a1_2 != a3)=false:=bne_eq_false_iff_eq.mpr c27;clear c27;replace H:=Option.bind_eq_some_iff.mp H;obtain ⟨t306,A280,H⟩:=H
      try dsimp only at H
      have A28:=Am12_ A280;clear A280;obtain ⟨y309,hy309⟩:∃ y_:List Int,y_=(([a1_5]:List Int)):=⟨_,rfl⟩;replace H:(if t306.length + y309.length < 17592186044416 then ((spec_VerifySignature.f kj6 a0 (t306 ++ y309) a1_6).bind fun t315 => (if t315=true then (if a1_5 ≤ a4 then (some 4) else (some 0)) else (some 5))) else (none))=some r:=by first|(rw [hy309];with_reducible exact H)|(have H2_:=(Option.bind_some _ _).symm.trans H;rw [hy309];with_reducible exact H2_)|(have H2_:=(Option.bind_some _ _).symm.trans H;with_reducible exact H2_)|with_reducible exact H|(rw [hy309];exact H)|exact H
      have Ny309:=Am12_ hy309;clear hy309
      by_cases c29:t306.length + y309.length < 17592186044416
      ·rw [if_pos c29] at H
       have LMc29:=Am12_ c29;clear c29;obtain ⟨y312,hy312⟩:∃ y_:List Int,y_=(t306 ++ y309):=⟨_,rfl⟩;replace H:((spec_VerifySignature.f kj6 a0 y312 a1_6).bind fun t315 => (if t315=true then (if a1_5 ≤ a4 then (some 4) else (some 0)) else (some 5)))=some r:=by first|(rw [hy312];with_reducible exact H)|(have H2_:=(Option.bind_some _ _).symm.trans H;rw [hy312];with_reducible exact H2_)|(have H2_:=(Option.bind_some _ _).symm.trans H;with_reducible exact H2_)|with_reducible exact H|(rw [hy312];exact H)|exact H
       have Ny312:=Am12_ hy312;clear hy312;replace H:=Option.bind_eq_some_iff.mp H;obtain ⟨t315,A300,H⟩:=H
       try dsimp only at H
       have A30:=Am12_ A300;clear A300
       by_cases c31:t315=true
       ·subst c31
        rw [if_pos rfl] at H
        by_cases c32:a1_5 ≤ a4
        ·rw [if_pos c32] at H
         have c32b0:decide (a1_5 ≤ a4)=true:=decide_eq_true c32;clear c32;obtain rfl:=Option.some.inj H;have hnb33:=NB299_304.out;have hnc33:=NB304_299.out;have hcz34_0:wc.cell? ⟨gb299,0,none⟩=some (.string a1_0):=q_ BK299 0 rfl;have hcz34_1:wc.cell? ⟨gb299,1,none⟩=some (.string a1_1):=q_ BK299 1 rfl;have hcz34_2:wc.cell? ⟨gb299,2,none⟩=some (.int .i64 a1_2):=q_ BK299 2 rfl;have hcz34_3:wc.cell? ⟨gb299,3,none⟩=some (.int .i64 a1_3):=q_ BK299 3 rfl;have hcz34_4:wc.cell? ⟨gb299,4,none⟩=some (.bool true):=q_ BK299 4 rfl;have hcz34_5:wc.cell? ⟨gb299,5,none⟩=some (.int .i64 a1_5):=q_ BK299 5 rfl;have hcz34_6:wc.cell? ⟨gb299,6,none⟩=some (.int .i64 a1_6):=q_ BK299 6 rfl;have hfz34_0:=blk_frozen BK299.out 0;have hfz34_1:=blk_frozen BK299.out 1;have hfz34_2:=blk_frozen BK299.out 2;have hfz34_3:=blk_frozen BK299.out 3;have hfz34_4:=blk_frozen BK299.out 4;have hfz34_5:=blk_frozen BK299.out 5;have hfz34_6:=blk_frozen BK299.out 6
         try go_wp2
         replace BK299:=Am12_ (blk_drew BK299.out);replace BK304:=Am12_ (blk_drew BK304.out);replace HB:=Am12_ (below_drew1 HB.out);refine start_ (n:=12) (S:=fun w' => w'.cell? ⟨gb299,0,none⟩=some (.string a1_0)∧w'.cell? ⟨gb299,1,none⟩=some (.string a1_1)∧w'.cell? ⟨gb299,2,none⟩=some (.int .i64 a1_2)∧w'.cell? ⟨gb299,3,none⟩=some (.int .i64 a1_3)∧w'.cell? ⟨gb299,4,none⟩=some (.bool true)∧w'.cell? ⟨gb299,5,none⟩=some (.int .i64 a1_5)∧w'.cell? ⟨gb299,6,none⟩=some (.int .i64 a1_6)) (ds:=[]) #[false,false,false,false,false,false,false,false,false,false,false,false] (by kernel_rfl) rfl rfl ⟨q_ BK299 0 rfl,q_ BK299 1 rfl,q_ BK299 2 rfl,q_ BK299 3 rfl,q_ BK299 4 rfl,q_ BK299 5 rfl,q_ BK299 6 rfl⟩ (fun hHeld => ?_);refine with_tabW spec_CheckAssertion.tab8 spec_CheckAssertion.bits8 (fun HT_ HW_ => ?_);generalize wc.drew=w35 at BK299 BK304 HB hHeld ⊢;refine pure_ (i:=0) (N:=some 44) (v:=?_) (a':=?_) #[true,false,false,false,false,false,false,false,false,false,false,false] rfl rfl (any_of HT_.out (by kernel_rfl)) (fun _ _ _ h => h) (Or.inl ⟨by rfl,?_⟩) ?_ ?_;rotate_left
         ·intro w'
          go_simp
          with_reducible rfl
         rotate_left
         ·simp only [Act.put,Sa_,Sb_,Sc_,i64_w,i32_w]
          rfl
         refine pure_ (i:=3) (N:=some 47) (v:=?_) (a':=?_) #[true,false,false,true,false,false,false,false,false,false,false,false] rfl rfl (any_of HT_.out (by kernel_rfl)) (fun _ _ _ h => h) (Or.inl ⟨by rfl,?_⟩) ?_ ?_;rotate_left
         ·intro w'
          go_simp
          with_reducible rfl
         rotate_left
         ·simp only [Act.put,Sa_,Sb_,Sc_,i64_w,i32_w]
          rfl
         refine pure_ (i:=7) (N:=some 51) (v:=?_) (a':=?_) #[true,false,false,true,false,false,false,true,false,false,false,false] rfl rfl (any_of HT_.out (by kernel_rfl)) (fun _ _ _ h => h) (Or.inl ⟨by rfl,?_⟩) ?_ ?_;rotate_left
         ·intro w'
          go_simp
          with_reducible rfl
         rotate_left
         ·simp only [Act.put,Sa_,Sb_,Sc_,i64_w,i32_w]
          rfl
         refine take_ (i:=1) (N:=some 45) (v:=?_) (a':=?_) #[true,true,false,true,false,false,false,true,false,false,false,false] rfl rfl (take_ofW HT_.out HW_.out (by kernel_rfl)) (fun _ _ _ h => h) (Or.inl ⟨by rfl,?_⟩) hHeld ?_ ?_;rotate_left
         ·rintro w' ⟨s0,s1,s2,s3,s4,s5,s6⟩
          go_simp
          with_reducible rfl
         rotate_left
         ·simp only [Act.put,Sa_,Sb_,Sc_,i64_w,i32_w]
          rfl
         refine take_ (i:=4) (N:=some 48) (v:=?_) (a':=?_) #[true,true,false,true,true,false,false,true,false,false,false,false] rfl rfl (take_ofW HT_.out HW_.out (by kernel_rfl)) (fun _ _ _ h => h) (Or.inl ⟨by rfl,?_⟩) hHeld ?_ ?_;rotate_left
         ·rintro w' ⟨s0,s1,s2,s3,s4,s5,s6⟩
          go_simp
          with_reducible rfl
         rotate_left
         ·simp only [Act.put,Sa_,Sb_,Sc_,i64_w,i32_w]
          rfl
         refine take_ (i:=8) (N:=some 52) (v:=?_) (a':=?_) #[true,true,false,true,true,false,false,true,true,false,false,false] rfl rfl (take_ofW HT_.out HW_.out (by kernel_rfl)) (fun _ _ _ h => h) (Or.inl ⟨by rfl,?_⟩) hHeld ?_ ?_;rotate_left
         ·rintro w' ⟨s0,s1,s2,s3,s4,s5,s6⟩
          go_simp
          with_reducible rfl
         rotate_left
         ·simp only [Act.put,Sa_,Sb_,Sc_,i64_w,i32_w]
          rfl
         refine join_ (σ:=Value × Value) 4 #[true,true,true,true,true,true,false,true,true,false,false,false] (fun s_ => [(46,s_.1),(49,s_.2)]) (fun s_ w' => (w'.cell? ⟨gb299,0,none⟩=some (.string a1_0)∧w'.cell? ⟨gb299,1,none⟩=some (.string a1_1)∧w'.cell? ⟨gb299,2,none⟩=some (.int .i64 a1_2)∧w'.cell? ⟨gb299,3,none⟩=some (.int .i64 a1_3)∧w'.cell? ⟨gb299,4,none⟩=some (.bool true)∧w'.cell? ⟨gb299,5,none⟩=some (.int .i64 a1_5)∧w'.cell? ⟨gb299,6,none⟩=some (.int .i64 a1_6))∧(Kd.R (Kd.int .i64) 3 w' w.heap.size (fun k_ => some k_ ≠ (s_.2:Value).ownBlock) s_.1 t306)∧(Kd.R (Kd.int .i64) 3 w' w.heap.size (fun k_ => some k_ ≠ (s_.1:Value).ownBlock) s_.2 y309)∧(w'.heap[gb299]?=some (.cells #[.string a1_0,.string a1_1,.int .i64 a1_2,.int .i64 a1_3,.bool true,.int .i64 a1_5,.int .i64 a1_6] 30 (0,0)))∧(w'.heap[gb304]?=some (.cells #[.bool t300,.string t301,.int .i64 t302] 28 (0,0)))∧(Below w.heap.size w w')) ?_ ?_;rotate_left
         ·intro hCont;refine two_ (i:=2) (j:=5) (Ni:=some 46) (Nj:=some 49) #[true,true,true,true,true,false,false,true,true,false,false,false] #[true,true,false,true,true,true,false,true,true,false,false,false] rfl rfl rfl rfl (two_of HT_.out (by kernel_rfl)) (by decide) (by decide) (fun K hK => ?_) (fun K hK => ?_)
          ·skip
           refine goes_ Tryz.func23 (by kernel_rfl) rfl #[.agg #[.string a1_0,.string a1_1,.int .i64 a1_2,.int .i64 a1_3,.bool true,.int .i64 a1_5,.int .i64 a1_6]] (by rfl) rfl rfl (by (try simp only [List.map_toArray,List.map_cons,List.map_nil]);first|done|rfl|(simp only [List.length_drop,List.length_take];rfl)) ?_;with_reducible refine (spec_AssertionMessage.calls kj6 a1_0 a1_1 a1_2 a1_3 true a1_5 a1_6 t306 _ A28.out).mono ?_;rintro e w36 ⟨v307,rfl,ho0,hb⟩;refine ⟨_,rfl,?_⟩;have HO308:=Am12_ (Kd.R_lower ho0 (below_size (xe_ HB)));replace BK299:=bb_ BK299 hb;replace BK304:=bb_ BK304 hb;replace HB:=bs_ HB hb;(try clear hb);(try clear hb2);(try clear hk);(try clear hi);(try clear ho0);refine hK.out _ _ ⟨q_ BK299 0 rfl,q_ BK299 1 rfl,q_ BK299 2 rfl,q_ BK299 3 rfl,q_ BK299 4 rfl,q_ BK299 5 rfl,q_ BK299 6 rfl⟩ (fun hHeld => ?_);clear hK K;refine norm_ (a':=?_) ?_ ?_;rotate_left
           ·show Act.put _ (some 46) _=_
            simp only [Act.put,Sa_,Sb_,Sc_,i64_w,i32_w]
            rfl
           refine one_ (i:=5) (N:=some 49) #[true,true,true,true,true,true,false,true,true,false,false,false] rfl rfl (one_of HT_.out (by kernel_rfl)) (by decide) (fun K hK => ?_);refine Kd.R_lit_step (Kd.int .i64) _ 3 ?hg (N:=49) ?hd (xs:=([a1_5]:List Int)) (inner:=[.int .i64 a1_5]) (ok:=fun _ => True) (okp:=fun _ => True) ?hr ?hp (fun _ hk => hk) trivial (Below.refl _ _) (Nat.le_refl _) (by simp) ?_;(case hd => rfl);(case hg => rfl);(case hr => first|(go_simp;done)|(go_simp;rfl));(case hp => exact (Reps.one (show Kd.M (Kd.int .i64) _ _ _ a1_5 [.int .i64 a1_5] from rfl) (Reps.none _ _)));intro v310 w37 ho38 hb hg_ hnew_;clear hg_ hnew_
           (first|rw [← Ny309.out] at ho38|(simp only [Int.reduceToNat] at ho38;rw [← Ny309.out] at ho38))
           have HO311:=Am12_ (Kd.R_lower (Kd.R_new' ho38 (Kd.R_lt (by (with_reducible repeat (first|apply Kd.R_alloc|apply Kd.R_drewN|apply Kd.R_drew));exact HO308.out))) (below_size (xe_ HB)));replace HO308:=Am12_ (Kd.R_elder' (by (with_reducible repeat (first|apply Kd.R_alloc|apply Kd.R_drewN|apply Kd.R_drew));exact HO308.out) (Kd.R_base ho38) hb);replace BK299:=bb_ BK299 hb;replace BK304:=bb_ BK304 hb;replace HB:=bs_ HB hb;clear hb ho38;refine hK.out _ _ ⟨q_ BK299 0 rfl,q_ BK299 1 rfl,q_ BK299 2 rfl,q_ BK299 3 rfl,q_ BK299 4 rfl,q_ BK299 5 rfl,q_ BK299 6 rfl⟩ (fun hHeld => ?_);clear hK K;refine norm_ (a':=?_) ?_ ?_;rotate_left
           ·show Act.put _ (some 49) _=_
            simp only [Act.put,Sa_,Sb_,Sc_,i64_w,i32_w]
            rfl
           exact norm_ (by simp only [putAll,Act.put,Sa_,Sb_,Sc_]) (hCont (v307,v310) _ ⟨hHeld,(by (with_reducible repeat (first|apply Kd.R_alloc|apply Kd.R_drewN|apply Kd.R_drew));exact Kd.R_mono HO308.out (fun _ hk => hk.2)),(by (with_reducible repeat (first|apply Kd.R_alloc|apply Kd.R_drewN|apply Kd.R_drew));exact Kd.R_mono HO311.out (fun _ hk => hk.2)),(xk_ BK299),(xk_ BK304),(xe_ HB)⟩)
          ·skip
           refine Kd.R_lit_step (Kd.int .i64) _ 3 ?hg (N:=49) ?hd (xs:=([a1_5]:List Int)) (inner:=[.int .i64 a1_5]) (ok:=fun _ => True) (okp:=fun _ => True) ?hr ?hp (fun _ hk => hk) trivial (Below.refl _ _) (Nat.le_refl _) (by simp) ?_;(case hd => rfl);(case hg => rfl);(case hr => first|(go_simp;done)|(go_simp;rfl));(case hp => exact (Reps.one (show Kd.M (Kd.int .i64) _ _ _ a1_5 [.int .i64 a1_5] from rfl) (Reps.none _ _)));intro v310 w36 ho37 hb hg_ hnew_;clear hg_ hnew_
           (first|rw [← Ny309.out] at ho37|(simp only [Int.reduceToNat] at ho37;rw [← Ny309.out] at ho37))
           have HO311:=Am12_ (Kd.R_lower ho37 (below_size (xe_ HB)));replace BK299:=bb_ BK299 hb;replace BK304:=bb_ BK304 hb;replace HB:=bs_ HB hb;clear hb ho37;refine hK.out _ _ ⟨q_ BK299 0 rfl,q_ BK299 1 rfl,q_ BK299 2 rfl,q_ BK299 3 rfl,q_ BK299 4 rfl,q_ BK299 5 rfl,q_ BK299 6 rfl⟩ (fun hHeld => ?_);clear hK K;refine norm_ (a':=?_) ?_ ?_;rotate_left
           ·show Act.put _ (some 49) _=_
            simp only [Act.put,Sa_,Sb_,Sc_,i64_w,i32_w]
            rfl
           refine one_ (i:=2) (N:=some 46) #[true,true,true,true,true,true,false,true,true,false,false,false] rfl rfl (one_of HT_.out (by kernel_rfl)) (by decide) (fun K hK => ?_);refine goes_ Tryz.func23 (by kernel_rfl) rfl #[.agg #[.string a1_0,.string a1_1,.int .i64 a1_2,.int .i64 a1_3,.bool true,.int .i64 a1_5,.int .i64 a1_6]] (by rfl) rfl rfl (by (try simp only [List.map_toArray,List.map_cons,List.map_nil]);first|done|rfl|(simp only [List.length_drop,List.length_take];rfl)) ?_;with_reducible refine (spec_AssertionMessage.calls kj6 a1_0 a1_1 a1_2 a1_3 true a1_5 a1_6 t306 _ A28.out).mono ?_;rintro e w38 ⟨v307,rfl,ho0,hb⟩;refine ⟨_,rfl,?_⟩;have HO308:=Am12_ (Kd.R_lower (Kd.R_new' ho0 (Kd.R_lt (by (with_reducible repeat (first|apply Kd.R_alloc|apply Kd.R_drewN|apply Kd.R_drew));exact HO311.out))) (below_size (xe_ HB)));replace HO311:=Am12_ (Kd.R_elder' (by (with_reducible repeat (first|apply Kd.R_alloc|apply Kd.R_drewN|apply Kd.R_drew));exact HO311.out) (Kd.R_base ho0) hb);replace BK299:=bb_ BK299 hb;replace BK304:=bb_ BK304 hb;replace HB:=bs_ HB hb;(try clear hb);(try clear hb2);(try clear hk);(try clear hi);(try clear ho0);refine hK.out _ _ ⟨q_ BK299 0 rfl,q_ BK299 1 rfl,q_ BK299 2 rfl,q_ BK299 3 rfl,q_ BK299 4 rfl,q_ BK299 5 rfl,q_ BK299 6 rfl⟩ (fun hHeld => ?_);clear hK K;refine norm_ (a':=?_) ?_ ?_;rotate_left
           ·show Act.put _ (some 46) _=_
            simp only [Act.put,Sa_,Sb_,Sc_,i64_w,i32_w]
            rfl
           exact norm_ (by simp only [putAll,Act.put,Sa_,Sb_,Sc_]) (hCont (v307,v310) _ ⟨hHeld,(by (with_reducible repeat (first|apply Kd.R_alloc|apply Kd.R_drewN|apply Kd.R_drew));exact Kd.R_mono HO308.out (fun _ hk => hk.2)),(by (with_reducible repeat (first|apply Kd.R_alloc|apply Kd.R_drewN|apply Kd.R_drew));exact Kd.R_mono HO311.out (fun _ hk => hk.2)),(xk_ BK299),(xk_ BK304),(xe_ HB)⟩)
         rintro ⟨v307,v310⟩ w39 ⟨hS_,h0_,h1_,h2_,h3_,h4_⟩;have n0_:Aside0 (Kd.R (Kd.int .i64) 3 w39 w.heap.size (fun k_ => some k_ ≠ (v310:Value).ownBlock) v307 t306):=⟨h0_⟩;have n1_:Aside0 (Kd.R (Kd.int .i64) 3 w39 w.heap.size (fun k_ => some k_ ≠ (v307:Value).ownBlock) v310 y309):=⟨h1_⟩;have n2_:Aside0 (w39.heap[gb299]?=some (.cells #[.string a1_0,.string a1_1,.int .i64 a1_2,.int .i64 a1_3,.bool true,.int .i64 a1_5,.int .i64 a1_6] 30 (0,0))):=⟨h2_⟩;have n3_:Aside0 (w39.heap[gb304]?=some (.cells #[.bool t300,.string t301,.int .i64 t302] 28 (0,0))):=⟨h3_⟩;have n4_:Aside0 (Below w.heap.size w w39):=⟨h4_⟩;clear BK299;clear BK304;clear HB;clear h0_ h1_ h2_ h3_ h4_;have HO308:=n0_;have HO311:=n1_;have BK299:=n2_;have BK304:=n3_;have HB:=n4_;clear n0_ n1_ n2_ n3_ n4_;have hHeld:w39.cell? ⟨gb299,0,none⟩=some (.string a1_0)∧w39.cell? ⟨gb299,1,none⟩=some (.string a1_1)∧w39.cell? ⟨gb299,2,none⟩=some (.int .i64 a1_2)∧w39.cell? ⟨gb299,3,none⟩=some (.int .i64 a1_3)∧w39.cell? ⟨gb299,4,none⟩=some (.bool true)∧w39.cell? ⟨gb299,5,none⟩=some (.int .i64 a1_5)∧w39.cell? ⟨gb299,6,none⟩=some (.int .i64 a1_6):=hS_;obtain ⟨Ao41,co41,eo41⟩:=Kd.R_slice HO311.out
         (first|subst eo41|(injection eo41 with f1_ f2_ f3_;have f4_:=f1_.symm;have f5_:=f3_.symm;clear f1_ f2_ f3_;subst f4_;subst f5_))
         refine norm_ (a':=?_) ?_ ?_;rotate_left
         ·simp only [putAll,Act.put,Sa_,Sb_,Sc_]
          rfl
         refine one_ (i:=6) (N:=some 50) #[true,true,true,true,true,true,true,true,true,false,false,false] rfl rfl (one_of HT_.out (by kernel_rfl)) (by decide) (fun K hK => ?_);refine Kd.R_append_rows_step (Kd.int .i64) (w0:=w) w.heap.size (by rfl) (.tmp 46) (.tmp 49) 47 3 (.int .i64 0) 8 rfl Tryz.underlying47 info3 rfl (by decide) (by omega) v307 t306 y309 _ _ _ (fun k_ => some k_ ≠ (.slice Ao41 y309.length co41:Value).ownBlock) (fun _ => False) rfl rfl ?aO ?aR (fun _ _ h => h) (fun _ h => h.elim) ?aF ?aB ?aS ?aL ?_
         (case aR => repeat (first|exact (Kd.R_reads' HO311.out).2.2|(with_reducible refine Kd.C_alloc ?_ _)|(with_reducible refine Kd.C_drewN ?_ _)|(with_reducible refine Kd.C_drew ?_)))
         (case aB => exact (xe_ HB))
         (case aF => exact (fun k_ hk => Kd.fresh' (Kd.R_lt (by (with_reducible repeat (first|apply Kd.R_alloc|apply Kd.R_drewN|apply Kd.R_drew));exact HO311.out)) k_ hk))
         (case aO => exact (by (with_reducible repeat (first|apply Kd.R_alloc|apply Kd.R_drewN|apply Kd.R_drew));exact HO308.out))
         (case aS => exact (below_size (xe_ HB)))
         (case aL => have:=LMc29.out;omega)
         intro v313 w40 ho hb hg hat;rw [← Ny312.out] at ho;have n0_:=Am12_ (blk_grown (xk_ BK299) hg (Kd.R_ne HO308.out BK299.out (by decide)));have n1_:=Am12_ (blk_grown (xk_ BK304) hg (Kd.R_ne HO308.out BK304.out (by decide)));have n2_:=Am12_ (Kd.R_after (ok:=(fun _ => True)) (by (with_reducible repeat (first|apply Kd.R_alloc|apply Kd.R_drewN|apply Kd.R_drew));exact Kd.R_mono HO311.out (fun _ hk => ⟨trivial,hk⟩)) hg hat);have n3_:=Am12_ (hb);have n4_:=Am12_ (ho);clear BK299;clear BK304;clear HO311;clear HB;clear HO308;have BK299:=n0_;have BK304:=n1_;have HO311:=n2_;have HB:=n3_;have HO314:=n4_;clear n0_ n1_ n2_ n3_ n4_;clear ho hb hg hat;obtain ⟨Ao42,co42,eo42⟩:=Kd.R_slice HO314.out
         (first|subst eo42|(injection eo42 with f1_ f2_ f3_;have f4_:=f1_.symm;have f5_:=f3_.symm;clear f1_ f2_ f3_;subst f4_;subst f5_))
         refine hK.out _ _ ⟨q_ BK299 0 rfl,q_ BK299 1 rfl,q_ BK299 2 rfl,q_ BK299 3 rfl,q_ BK299 4 rfl,q_ BK299 5 rfl,q_ BK299 6 rfl⟩ (fun hHeld => ?_);clear hK K;refine norm_ (a':=?_) ?_ ?_;rotate_left
         ·show Act.put _ (some 50) _=_
          simp only [Act.put,Sa_,Sb_,Sc_,i64_w,i32_w]
          rfl
         refine one_ (i:=9) (N:=some 53) #[true,true,true,true,true,true,true,true,true,true,false,false] rfl rfl (one_of HT_.out (by kernel_rfl)) (by decide) (fun K hK => ?_);refine goes_ Tryz.func43 (by kernel_rfl) rfl #[.int .i64 a0,.slice Ao42 y312.length co42,.int .i64 a1_6] (by rfl) rfl rfl (by (try simp only [List.map_toArray,List.map_cons,List.map_nil]);first|done|rfl|(simp only [List.length_drop,List.length_take];rfl)) ?_;with_reducible refine (spec_VerifySignature.calls kj6 a0 _ _ y312 a1_6 true _ ?side1 ?side2 A30.out).mono ?_
         (case side1 => repeat (first|exact (Kd.R_reads' HO314.out).2.2|(with_reducible refine Kd.C_alloc ?_ _)|(with_reducible refine Kd.C_drewN ?_ _)|(with_reducible refine Kd.C_drew ?_)))
         (case side2 => exact (Kd.R_reads' HO314.out).2.1)
         rintro e w43 ⟨rfl,hb⟩;refine ⟨_,rfl,?_⟩;replace HO311:=Am12_ (Kd.R_below (by (with_reducible repeat (first|apply Kd.R_alloc|apply Kd.R_drewN|apply Kd.R_drew));exact HO311.out) hb);replace HO314:=Am12_ (Kd.R_below (by (with_reducible repeat (first|apply Kd.R_alloc|apply Kd.R_drewN|apply Kd.R_drew));exact HO314.out) hb);replace BK299:=bb_ BK299 hb;replace BK304:=bb_ BK304 hb;replace HB:=bs_ HB hb;(try clear hb);(try clear hb2);(try clear hk);(try clear hi);refine hK.out _ _ ⟨q_ BK299 0 rfl,q_ BK299 1 rfl,q_ BK299 2 rfl,q_ BK299 3 rfl,q_ BK299 4 rfl,q_ BK299 5 rfl,q_ BK299 6 rfl⟩ (fun hHeld => ?_);clear hK K;refine norm_ (a':=?_) ?_ ?_;rotate_left
         ·show Act.put _ (some 53) _=_
          simp only [Act.put,Sa_,Sb_,Sc_,i64_w,i32_w]
          rfl
         refine pure_ (i:=10) (N:=some 54) (v:=?_) (a':=?_) #[true,true,true,true,true,true,true,true,true,true,true,false] rfl rfl (any_of HT_.out (by kernel_rfl)) (fun _ _ _ h => h) (Or.inl ⟨by rfl,?_⟩) ?_ ?_;rotate_left
         ·intro w'
          go_simp
          with_reducible rfl
         rotate_left
         ·simp only [Act.put,Sa_,Sb_,Sc_,i64_w,i32_w]
          rfl
         refine pure_ (i:=11) (N:=some 43) (v:=?_) (a':=?_) #[true,true,true,true,true,true,true,true,true,true,true,true] rfl rfl (any_of HT_.out (by kernel_rfl)) (fun _ _ _ h => h) (Or.inl ⟨by rfl,?_⟩) ?_ ?_;rotate_left
         ·intro w'
          go_simp
          with_reducible rfl
         rotate_left
         ·simp only [Act.put,Sa_,Sb_,Sc_,i64_w,i32_w]
          rfl
         refine done_ (done_of HT_.out (by kernel_rfl)) ?_;have hcz44_0:w43.cell? ⟨gb299,0,none⟩=some (.string a1_0):=q_ BK299 0 rfl;have hcz44_1:w43.cell? ⟨gb299,1,none⟩=some (.string a1_1):=q_ BK299 1 rfl;have hcz44_2:w43.cell? ⟨gb299,2,none⟩=some (.int .i64 a1_2):=q_ BK299 2 rfl;have hcz44_3:w43.cell? ⟨gb299,3,none⟩=some (.int .i64 a1_3):=q_ BK299 3 rfl;have hcz44_4:w43.cell? ⟨gb299,4,none⟩=some (.bool true):=q_ BK299 4 rfl;have hcz44_5:w43.cell? ⟨gb299,5,none⟩=some (.int .i64 a1_5):=q_ BK299 5 rfl;have hcz44_6:w43.cell? ⟨gb299,6,none⟩=some (.int .i64 a1_6):=q_ BK299 6 rfl;have hfz44_0:=blk_frozen BK299.out 0;have hfz44_1:=blk_frozen BK299.out 1;have hfz44_2:=blk_frozen BK299.out 2;have hfz44_3:=blk_frozen BK299.out 3;have hfz44_4:=blk_frozen BK299.out 4;have hfz44_5:=blk_frozen BK299.out 5;have hfz44_6:=blk_frozen BK299.out 6
         try go_wp2
         go_ret
         exact ⟨by first|rfl|(simp [errW_none,errW_some] <;> rfl)|(simp [*,errW_none,errW_some] <;> rfl),by repeat (first|(with_reducible first|exact HB.out|apply below_alloc|apply pw_below_drewN|apply below_drew1|refine below_set ?_ GE299.out|refine below_set ?_ GE304.out)|exact HB.out)⟩
        ·rw [if_neg c32] at H
         have c32b0:decide (a1_5 ≤ a4)=false:=decide_eq_false c32;clear c32;obtain rfl:=Option.some.inj H;have hnb45:=NB299_304.out;have hnc45:=NB304_299.out;have hcz46_0:wc.cell? ⟨gb299,0,none⟩=some (.string a1_0):=q_ BK299 0 rfl;have hcz46_1:wc.cell? ⟨gb299,1,none⟩=some (.string a1_1):=q_ BK299 1 rfl;have hcz46_2:wc.cell? ⟨gb299,2,none⟩=some (.int .i64 a1_2):=q_ BK299 2 rfl;have hcz46_3:wc.cell? ⟨gb299,3,none⟩=some (.int .i64 a1_3):=q_ BK299 3 rfl;have hcz46_4:wc.cell? ⟨gb299,4,none⟩=some (.bool true):=q_ BK299 4 rfl;have hcz46_5:wc.cell? ⟨gb299,5,none⟩=some (.int .i64 a1_5):=q_ BK299 5 rfl;have hcz46_6:wc.cell? ⟨gb299,6,none⟩=some (.int .i64 a1_6):=q_ BK299 6 rfl;have hfz46_0:=blk_frozen BK299.out 0;have hfz46_1:=blk_frozen BK299.out 1;have hfz46_2:=blk_frozen BK299.out 2;have hfz46_3:=blk_frozen BK299.out 3;have hfz46_4:=blk_frozen BK299.out 4;have hfz46_5:=blk_frozen BK299.out 5;have hfz46_6:=blk_frozen BK299.out 6
         try go_wp2
         replace BK299:=Am12_ (blk_drew BK299.out);replace BK304:=Am12_ (blk_drew BK304.out);replace HB:=Am12_ (below_drew1 HB.out);refine start_ (n:=12) (S:=fun w' => w'.cell? ⟨gb299,0,none⟩=some (.string a1_0)∧w'.cell? ⟨gb299,1,none⟩=some (.string a1_1)∧w'.cell? ⟨gb299,2,none⟩=some (.int .i64 a1_2)∧w'.cell? ⟨gb299,3,none⟩=some (.int .i64 a1_3)∧w'.cell? ⟨gb299,4,none⟩=some (.bool true)∧w'.cell? ⟨gb299,5,none⟩=some (.int .i64 a1_5)∧w'.cell? ⟨gb299,6,none⟩=some (.int .i64 a1_6)) (ds:=[]) #[false,false,false,false,false,false,false,false,false,false,false,false] (by kernel_rfl) rfl rfl ⟨q_ BK299 0 rfl,q_ BK299 1 rfl,q_ BK299 2 rfl,q_ BK299 3 rfl,q_ BK299 4 rfl,q_ BK299 5 rfl,q_ BK299 6 rfl⟩ (fun hHeld => ?_);refine with_tabW spec_CheckAssertion.tab8 spec_CheckAssertion.bits8 (fun HT_ HW_ => ?_);generalize wc.drew=w47 at BK299 BK304 HB hHeld ⊢;refine pure_ (i:=0) (N:=some 44) (v:=?_) (a':=?_) #[true,false,false,false,false,false,false,false,false,false,false,false] rfl rfl (any_of HT_.out (by kernel_rfl)) (fun _ _ _ h => h) (Or.inl ⟨by rfl,?_⟩) ?_ ?_;rotate_left
         ·intro w'
          go_simp
          with_reducible rfl
         rotate_left
         ·simp only [Act.put,Sa_,Sb_,Sc_,i64_w,i32_w]
          rfl
         refine pure_ (i:=3) (N:=some 47) (v:=?_) (a':=?_) #[true,false,false,true,false,false,false,false,false,false,false,false] rfl rfl (any_of HT_.out (by kernel_rfl)) (fun _ _ _ h => h) (Or.inl ⟨by rfl,?_⟩) ?_ ?_;rotate_left
         ·intro w'
          go_simp
          with_reducible rfl
         rotate_left
         ·simp only [Act.put,Sa_,Sb_,Sc_,i64_w,i32_w]
          rfl
         refine pure_ (i:=7) (N:=some 51) (v:=?_) (a':=?_) #[true,false,false,true,false,false,false,true,false,false,false,false] rfl rfl (any_of HT_.out (by kernel_rfl)) (fun _ _ _ h => h) (Or.inl ⟨by rfl,?_⟩) ?_ ?_;rotate_left
         ·intro w'
          go_simp
          with_reducible rfl
         rotate_left
         ·simp only [Act.put,Sa_,Sb_,Sc_,i64_w,i32_w]
          rfl
         refine take_ (i:=1) (N:=some 45) (v:=?_) (a':=?_) #[true,true,false,true,false,false,false,true,false,false,false,false] rfl rfl (take_ofW HT_.out HW_.out (by kernel_rfl)) (fun _ _ _ h => h) (Or.inl ⟨by rfl,?_⟩) hHeld ?_ ?_;rotate_left
         ·rintro w' ⟨s0,s1,s2,s3,s4,s5,s6⟩
          go_simp
          with_reducible rfl
         rotate_left
         ·simp only [Act.put,Sa_,Sb_,Sc_,i64_w,i32_w]
          rfl
         refine take_ (i:=4) (N:=some 48) (v:=?_) (a':=?_) #[true,true,false,true,true,false,false,true,false,false,false,false] rfl rfl (take_ofW HT_.out HW_.out (by kernel_rfl)) (fun _ _ _ h => h) (Or.inl ⟨by rfl,?_⟩) hHeld ?_ ?_;rotate_left
         ·rintro w' ⟨s0,s1,s2,s3,s4,s5,s6⟩
          go_simp
          with_reducible rfl
         rotate_left
         ·simp only [Act.put,Sa_,Sb_,Sc_,i64_w,i32_w]
          rfl
         refine take_ (i:=8) (N:=some 52) (v:=?_) (a':=?_) #[true,true,false,true,true,false,false,true,true,false,false,false] rfl rfl (take_ofW HT_.out HW_.out (by kernel_rfl)) (fun _ _ _ h => h) (Or.inl ⟨by rfl,?_⟩) hHeld ?_ ?_;rotate_left
         ·rintro w' ⟨s0,s1,s2,s3,s4,s5,s6⟩
          go_simp
          with_reducible rfl
         rotate_left
         ·simp only [Act.put,Sa_,Sb_,Sc_,i64_w,i32_w]
          rfl
         refine join_ (σ:=Value × Value) 4 #[true,true,true,true,true,true,false,true,true,false,false,false] (fun s_ => [(46,s_.1),(49,s_.2)]) (fun s_ w' => (w'.cell? ⟨gb299,0,none⟩=some (.string a1_0)∧w'.cell? ⟨gb299,1,none⟩=some (.string a1_1)∧w'.cell? ⟨gb299,2,none⟩=some (.int .i64 a1_2)∧w'.cell? ⟨gb299,3,none⟩=some (.int .i64 a1_3)∧w'.cell? ⟨gb299,4,none⟩=some (.bool true)∧w'.cell? ⟨gb299,5,none⟩=some (.int .i64 a1_5)∧w'.cell? ⟨gb299,6,none⟩=some (.int .i64 a1_6))∧(Kd.R (Kd.int .i64) 3 w' w.heap.size (fun k_ => some k_ ≠ (s_.2:Value).ownBlock) s_.1 t306)∧(Kd.R (Kd.int .i64) 3 w' w.heap.size (fun k_ => some k_ ≠ (s_.1:Value).ownBlock) s_.2 y309)∧(w'.heap[gb299]?=some (.cells #[.string a1_0,.string a1_1,.int .i64 a1_2,.int .i64 a1_3,.bool true,.int .i64 a1_5,.int .i64 a1_6] 30 (0,0)))∧(w'.heap[gb304]?=some (.cells #[.bool t300,.string t301,.int .i64 t302] 28 (0,0)))∧(Below w.heap.size w w')) ?_ ?_;rotate_left
         ·intro hCont;refine two_ (i:=2) (j:=5) (Ni:=some 46) (Nj:=some 49) #[true,true,true,true,true,false,false,true,true,false,false,false] #[true,true,false,true,true,true,false,true,true,false,false,false] rfl rfl rfl rfl (two_of HT_.out (by kernel_rfl)) (by decide) (by decide) (fun K hK => ?_) (fun K hK => ?_)
          ·skip
           refine goes_ Tryz.func23 (by kernel_rfl) rfl #[.agg #[.string a1_0,.string a1_1,.int .i64 a1_2,.int .i64 a1_3,.bool true,.int .i64 a1_5,.int .i64 a1_6]] (by rfl) rfl rfl (by (try simp only [List.map_toArray,List.map_cons,List.map_nil]);first|done|rfl|(simp only [List.length_drop,List.length_take];rfl)) ?_;with_reducible refine (spec_AssertionMessage.calls kj6 a1_0 a1_1 a1_2 a1_3 true a1_5 a1_6 t306 _ A28.out).mono ?_;rintro e w48 ⟨v307,rfl,ho0,hb⟩;refine ⟨_,rfl,?_⟩;have HO308:=Am12_ (Kd.R_lower ho0 (below_size (xe_ HB)));replace BK299:=bb_ BK299 hb;replace BK304:=bb_ BK304 hb;replace HB:=bs_ HB hb;(try clear hb);(try clear hb2);(try clear hk);(try clear hi);(try clear ho0);refine hK.out _ _ ⟨q_ BK299 0 rfl,q_ BK299 1 rfl,q_ BK299 2 rfl,q_ BK299 3 rfl,q_ BK299 4 rfl,q_ BK299 5 rfl,q_ BK299 6 rfl⟩ (fun hHeld => ?_);clear hK K;refine norm_ (a':=?_) ?_ ?_;rotate_left
           ·show Act.put _ (some 46) _=_
            simp only [Act.put,Sa_,Sb_,Sc_,i64_w,i32_w]
            rfl
           refine one_ (i:=5) (N:=some 49) #[true,true,true,true,true,true,false,true,true,false,false,false] rfl rfl (one_of HT_.out (by kernel_rfl)) (by decide) (fun K hK => ?_);refine Kd.R_lit_step (Kd.int .i64) _ 3 ?hg (N:=49) ?hd (xs:=([a1_5]:List Int)) (inner:=[.int .i64 a1_5]) (ok:=fun _ => True) (okp:=fun _ => True) ?hr ?hp (fun _ hk => hk) trivial (Below.refl _ _) (Nat.le_refl _) (by simp) ?_;(case hd => rfl);(case hg => rfl);(case hr => first|(go_simp;done)|(go_simp;rfl));(case hp => exact (Reps.one (show Kd.M (Kd.int .i64) _ _ _ a1_5 [.int .i64 a1_5] from rfl) (Reps.none _ _)));intro v310 w49 ho50 hb hg_ hnew_;clear hg_ hnew_
           (first|rw [← Ny309.out] at ho50|(simp only [Int.reduceToNat] at ho50;rw [← Ny309.out] at ho50))
           have HO311:=Am12_ (Kd.R_lower (Kd.R_new' ho50 (Kd.R_lt (by (with_reducible repeat (first|apply Kd.R_alloc|apply Kd.R_drewN|apply Kd.R_drew));exact HO308.out))) (below_size (xe_ HB)));replace HO308:=Am12_ (Kd.R_elder' (by (with_reducible repeat (first|apply Kd.R_alloc|apply Kd.R_drewN|apply Kd.R_drew));exact HO308.out) (Kd.R_base ho50) hb);replace BK299:=bb_ BK299 hb;replace BK304:=bb_ BK304 hb;replace HB:=bs_ HB hb;clear hb ho50;refine hK.out _ _ ⟨q_ BK299 0 rfl,q_ BK299 1 rfl,q_ BK299 2 rfl,q_ BK299 3 rfl,q_ BK299 4 rfl,q_ BK299 5 rfl,q_ BK299 6 rfl⟩ (fun hHeld => ?_);clear hK K;refine norm_ (a':=?_) ?_ ?_;rotate_left
           ·show Act.put _ (some 49) _=_
            simp only [Act.put,Sa_,Sb_,Sc_,i64_w,i32_w]
            rfl
           exact norm_ (by simp only [putAll,Act.put,Sa_,Sb_,Sc_]) (hCont (v307,v310) _ ⟨hHeld,(by (with_reducible repeat (first|apply Kd.R_alloc|apply Kd.R_drewN|apply Kd.R_drew));exact Kd.R_mono HO308.out (fun _ hk => hk.2)),(by (with_reducible repeat (first|apply Kd.R_alloc|apply Kd.R_drewN|apply Kd.R_drew));exact Kd.R_mono HO311.out (fun _ hk => hk.2)),(xk_ BK299),(xk_ BK304),(xe_ HB)⟩)
          ·skip
           refine Kd.R_lit_step (Kd.int .i64) _ 3 ?hg (N:=49) ?hd (xs:=([a1_5]:List Int)) (inner:=[.int .i64 a1_5]) (ok:=fun _ => True) (okp:=fun _ => True) ?hr ?hp (fun _ hk => hk) trivial (Below.refl _ _) (Nat.le_refl _) (by simp) ?_;(case hd => rfl);(case hg => rfl);(case hr => first|(go_simp;done)|(go_simp;rfl));(case hp => exact (Reps.one (show Kd.M (Kd.int .i64) _ _ _ a1_5 [.int .i64 a1_5] from rfl) (Reps.none _ _)));intro v310 w48 ho49 hb hg_ hnew_;clear hg_ hnew_
           (first|rw [← Ny309.out] at ho49|(simp only [Int.reduceToNat] at ho49;rw [← Ny309.out] at ho49))
           have HO311:=Am12_ (Kd.R_lower ho49 (below_size (xe_ HB)));replace BK299:=bb_ BK299 hb;replace BK304:=bb_ BK304 hb;replace HB:=bs_ HB hb;clear hb ho49;refine hK.out _ _ ⟨q_ BK299 0 rfl,q_ BK299 1 rfl,q_ BK299 2 rfl,q_ BK299 3 rfl,q_ BK299 4 rfl,q_ BK299 5 rfl,q_ BK299 6 rfl⟩ (fun hHeld => ?_);clear hK K;refine norm_ (a':=?_) ?_ ?_;rotate_left
           ·show Act.put _ (some 49) _=_
            simp only [Act.put,Sa_,Sb_,Sc_,i64_w,i32_w]
            rfl
           refine one_ (i:=2) (N:=some 46) #[true,true,true,true,true,true,false,true,true,false,false,false] rfl rfl (one_of HT_.out (by kernel_rfl)) (by decide) (fun K hK => ?_);refine goes_ Tryz.func23 (by kernel_rfl) rfl #[.agg #[.string a1_0,.string a1_1,.int .i64 a1_2,.int .i64 a1_3,.bool true,.int .i64 a1_5,.int .i64 a1_6]] (by rfl) rfl rfl (by (try simp only [List.map_toArray,List.map_cons,List.map_nil]);first|done|rfl|(simp only [List.length_drop,List.length_take];rfl)) ?_;with_reducible refine (spec_AssertionMessage.calls kj6 a1_0 a1_1 a1_2 a1_3 true a1_5 a1_6 t306 _ A28.out).mono ?_;rintro e w50 ⟨v307,rfl,ho0,hb⟩;refine ⟨_,rfl,?_⟩;have HO308:=Am12_ (Kd.R_lower (Kd.R_new' ho0 (Kd.R_lt (by (with_reducible repeat (first|apply Kd.R_alloc|apply Kd.R_drewN|apply Kd.R_drew));exact HO311.out))) (below_size (xe_ HB)));replace HO311:=Am12_ (Kd.R_elder' (by (with_reducible repeat (first|apply Kd.R_alloc|apply Kd.R_drewN|apply Kd.R_drew));exact HO311.out) (Kd.R_base ho0) hb);replace BK299:=bb_ BK299 hb;replace BK304:=bb_ BK304 hb;replace HB:=bs_ HB hb;(try clear hb);(try clear hb2);(try clear hk);(try clear hi);(try clear ho0);refine hK.out _ _ ⟨q_ BK299 0 rfl,q_ BK299 1 rfl,q_ BK299 2 rfl,q_ BK299 3 rfl,q_ BK299 4 rfl,q_ BK299 5 rfl,q_ BK299 6 rfl⟩ (fun hHeld => ?_);clear hK K;refine norm_ (a':=?_) ?_ ?_;rotate_left
           ·show Act.put _ (some 46) _=_
            simp only [Act.put,Sa_,Sb_,Sc_,i64_w,i32_w]
            rfl
           exact norm_ (by simp only [putAll,Act.put,Sa_,Sb_,Sc_]) (hCont (v307,v310) _ ⟨hHeld,(by (with_reducible repeat (first|apply Kd.R_alloc|apply Kd.R_drewN|apply Kd.R_drew));exact Kd.R_mono HO308.out (fun _ hk => hk.2)),(by (with_reducible repeat (first|apply Kd.R_alloc|apply Kd.R_drewN|apply Kd.R_drew));exact Kd.R_mono HO311.out (fun _ hk => hk.2)),(xk_ BK299),(xk_ BK304),(xe_ HB)⟩)
         rintro ⟨v307,v310⟩ w51 ⟨hS_,h0_,h1_,h2_,h3_,h4_⟩;have n0_:Aside0 (Kd.R (Kd.int .i64) 3 w51 w.heap.size (fun k_ => some k_ ≠ (v310:Value).ownBlock) v307 t306):=⟨h0_⟩;have n1_:Aside0 (Kd.R (Kd.int .i64) 3 w51 w.heap.size (fun k_ => some k_ ≠ (v307:Value).ownBlock) v310 y309):=⟨h1_⟩;have n2_:Aside0 (w51.heap[gb299]?=some (.cells #[.string a1_0,.string a1_1,.int .i64 a1_2,.int .i64 a1_3,.bool true,.int .i64 a1_5,.int .i64 a1_6] 30 (0,0))):=⟨h2_⟩;have n3_:Aside0 (w51.heap[gb304]?=some (.cells #[.bool t300,.string t301,.int .i64 t302] 28 (0,0))):=⟨h3_⟩;have n4_:Aside0 (Below w.heap.size w w51):=⟨h4_⟩;clear BK299;clear BK304;clear HB;clear h0_ h1_ h2_ h3_ h4_;have HO308:=n0_;have HO311:=n1_;have BK299:=n2_;have BK304:=n3_;have HB:=n4_;clear n0_ n1_ n2_ n3_ n4_;have hHeld:w51.cell? ⟨gb299,0,none⟩=some (.string a1_0)∧w51.cell? ⟨gb299,1,none⟩=some (.string a1_1)∧w51.cell? ⟨gb299,2,none⟩=some (.int .i64 a1_2)∧w51.cell? ⟨gb299,3,none⟩=some (.int .i64 a1_3)∧w51.cell? ⟨gb299,4,none⟩=some (.bool true)∧w51.cell? ⟨gb299,5,none⟩=some (.int .i64 a1_5)∧w51.cell? ⟨gb299,6,none⟩=some (.int .i64 a1_6):=hS_;obtain ⟨Ao53,co53,eo53⟩:=Kd.R_slice HO311.out
         (first|subst eo53|(injection eo53 with f1_ f2_ f3_;have f4_:=f1_.symm;have f5_:=f3_.symm;clear f1_ f2_ f3_;subst f4_;subst f5_))
         refine norm_ (a':=?_) ?_ ?_;rotate_left
         ·simp only [putAll,Act.put,Sa_,Sb_,Sc_]
          rfl
         refine one_ (i:=6) (N:=some 50) #[true,true,true,true,true,true,true,true,true,false,false,false] rfl rfl (one_of HT_.out (by kernel_rfl)) (by decide) (fun K hK => ?_);refine Kd.R_append_rows_step (Kd.int .i64) (w0:=w) w.heap.size (by rfl) (.tmp 46) (.tmp 49) 47 3 (.int .i64 0) 8 rfl Tryz.underlying47 info3 rfl (by decide) (by omega) v307 t306 y309 _ _ _ (fun k_ => some k_ ≠ (.slice Ao53 y309.length co53:Value).ownBlock) (fun _ => False) rfl rfl ?aO ?aR (fun _ _ h => h) (fun _ h => h.elim) ?aF ?aB ?aS ?aL ?_
         (case aR => repeat (first|exact (Kd.R_reads' HO311.out).2.2|(with_reducible refine Kd.C_alloc ?_ _)|(with_reducible refine Kd.C_drewN ?_ _)|(with_reducible refine Kd.C_drew ?_)))
         (case aB => exact (xe_ HB))
         (case aF => exact (fun k_ hk => Kd.fresh' (Kd.R_lt (by (with_reducible repeat (first|apply Kd.R_alloc|apply Kd.R_drewN|apply Kd.R_drew));exact HO311.out)) k_ hk))
         (case aO => exact (by (with_reducible repeat (first|apply Kd.R_alloc|apply Kd.R_drewN|apply Kd.R_drew));exact HO308.out))
         (case aS => exact (below_size (xe_ HB)))
         (case aL => have:=LMc29.out;omega)
         intro v313 w52 ho hb hg hat;rw [← Ny312.out] at ho;have n0_:=Am12_ (blk_grown (xk_ BK299) hg (Kd.R_ne HO308.out BK299.out (by decide)));have n1_:=Am12_ (blk_grown (xk_ BK304) hg (Kd.R_ne HO308.out BK304.out (by decide)));have n2_:=Am12_ (Kd.R_after (ok:=(fun _ => True)) (by (with_reducible repeat (first|apply Kd.R_alloc|apply Kd.R_drewN|apply Kd.R_drew));exact Kd.R_mono HO311.out (fun _ hk => ⟨trivial,hk⟩)) hg hat);have n3_:=Am12_ (hb);have n4_:=Am12_ (ho);clear BK299;clear BK304;clear HO311;clear HB;clear HO308;have BK299:=n0_;have BK304:=n1_;have HO311:=n2_;have HB:=n3_;have HO314:=n4_;clear n0_ n1_ n2_ n3_ n4_;clear ho hb hg hat;obtain ⟨Ao54,co54,eo54⟩:=Kd.R_slice HO314.out
         (first|subst eo54|(injection eo54 with f1_ f2_ f3_;have f4_:=f1_.symm;have f5_:=f3_.symm;clear f1_ f2_ f3_;subst f4_;subst f5_))
         refine hK.out _ _ ⟨q_ BK299 0 rfl,q_ BK299 1 rfl,q_ BK299 2 rfl,q_ BK299 3 rfl,q_ BK299 4 rfl,q_ BK299 5 rfl,q_ BK299 6 rfl⟩ (fun hHeld => ?_);clear hK K;refine norm_ (a':=?_) ?_ ?_;rotate_left
         ·show Act.put _ (some 50) _=_
          simp only [Act.put,Sa_,Sb_,Sc_,i64_w,i32_w]
          rfl
         refine one_ (i:=9) (N:=some 53) #[true,true,true,true,true,true,true,true,true,true,false,false] rfl rfl (one_of HT_.out (by kernel_rfl)) (by decide) (fun K hK => ?_);refine goes_ Tryz.func43 (by kernel_rfl) rfl #[.int .i64 a0,.slice Ao54 y312.length co54,.int .i64 a1_6] (by rfl) rfl rfl (by (try simp only [List.map_toArray,List.map_cons,List.map_nil]);first|done|rfl|(simp only [List.length_drop,List.length_take];rfl)) ?_;with_reducible refine (spec_VerifySignature.calls kj6 a0 _ _ y312 a1_6 true _ ?side1 ?side2 A30.out).mono ?_
         (case side1 => repeat (first|exact (Kd.R_reads' HO314.out).2.2|(with_reducible refine Kd.C_alloc ?_ _)|(with_reducible refine Kd.C_drewN ?_ _)|(with_reducible refine Kd.C_drew ?_)))
         (case side2 => exact (Kd.R_reads' HO314.out).2.1)
         rintro e w55 ⟨rfl,hb⟩;refine ⟨_,rfl,?_⟩;replace HO311:=Am12_ (Kd.R_below (by (with_reducible repeat (first|apply Kd.R_alloc|apply Kd.R_drewN|apply Kd.R_drew));exact HO311.out) hb);replace HO314:=Am12_ (Kd.R_below (by (with_reducible repeat (first|apply Kd.R_alloc|apply Kd.R_drewN|apply Kd.R_drew));exact HO314.out) hb);replace BK299:=bb_ BK299 hb;replace BK304:=bb_ BK304 hb;replace HB:=bs_ HB hb;(try clear hb);(try clear hb2);(try clear hk);(try clear hi);refine hK.out _ _ ⟨q_ BK299 0 rfl,q_ BK299 1 rfl,q_ BK299 2 rfl,q_ BK299 3 rfl,q_ BK299 4 rfl,q_ BK299 5 rfl,q_ BK299 6 rfl⟩ (fun hHeld => ?_);clear hK K;refine norm_ (a':=?_) ?_ ?_;rotate_left
         ·show Act.put _ (some 53) _=_
          simp only [Act.put,Sa_,Sb_,Sc_,i64_w,i32_w]
          rfl
         refine pure_ (i:=10) (N:=some 54) (v:=?_) (a':=?_) #[true,true,true,true,true,true,true,true,true,true,true,false] rfl rfl (any_of HT_.out (by kernel_rfl)) (fun _ _ _ h => h) (Or.inl ⟨by rfl,?_⟩) ?_ ?_;rotate_left
         ·intro w'
          go_simp
          with_reducible rfl
         rotate_left
         ·simp only [Act.put,Sa_,Sb_,Sc_,i64_w,i32_w]
          rfl
         refine pure_ (i:=11) (N:=some 43) (v:=?_) (a':=?_) #[true,true,true,true,true,true,true,true,true,true,true,true] rfl rfl (any_of HT_.out (by kernel_rfl)) (fun _ _ _ h => h) (Or.inl ⟨by rfl,?_⟩) ?_ ?_;rotate_left
         ·intro w'
          go_simp
          with_reducible rfl
         rotate_left
         ·simp only [Act.put,Sa_,Sb_,Sc_,i64_w,i32_w]
          rfl
         refine done_ (done_of HT_.out (by kernel_rfl)) ?_;have hcz56_0:w55.cell? ⟨gb299,0,none⟩=some (.string a1_0):=q_ BK299 0 rfl;have hcz56_1:w55.cell? ⟨gb299,1,none⟩=some (.string a1_1):=q_ BK299 1 rfl;have hcz56_2:w55.cell? ⟨gb299,2,none⟩=some (.int .i64 a1_2):=q_ BK299 2 rfl;have hcz56_3:w55.cell? ⟨gb299,3,none⟩=some (.int .i64 a1_3):=q_ BK299 3 rfl;have hcz56_4:w55.cell? ⟨gb299,4,none⟩=some (.bool true):=q_ BK299 4 rfl;have hcz56_5:w55.cell? ⟨gb299,5,none⟩=some (.int .i64 a1_5):=q_ BK299 5 rfl;have hcz56_6:w55.cell? ⟨gb299,6,none⟩=some (.int .i64 a1_6):=q_ BK299 6 rfl;have hfz56_0:=blk_frozen BK299.out 0;have hfz56_1:=blk_frozen BK299.out 1;have hfz56_2:=blk_frozen BK299.out 2;have hfz56_3:=blk_frozen BK299.out 3;have hfz56_4:=blk_frozen BK299.out 4;have hfz56_5:=blk_frozen BK299.out 5;have hfz56_6:=blk_frozen BK299.out 6
         try go_wp2
         go_ret
         exact ⟨by first|rfl|(simp [errW_none,errW_some] <;> rfl)|(simp [*,errW_none,errW_some] <;> rfl),by repeat (first|(with_reducible first|exact HB.out|apply below_alloc|apply pw_below_drewN|apply below_drew1|refine below_set ?_ GE299.out|refine below_set ?_ GE304.out)|exact HB.out)⟩
       ·replace c31:=Bool.eq_false_iff.mpr c31;subst c31
        rw [if_neg (show ¬ (false=true) by decide)] at H
        obtain rfl:=Option.some.inj H;have hnb57:=NB299_304.out;have hnc57:=NB304_299.out;have hcz58_0:wc.cell? ⟨gb299,0,none⟩=some (.string a1_0):=q_ BK299 0 rfl;have hcz58_1:wc.cell? ⟨gb299,1,none⟩=some (.string a1_1):=q_ BK299 1 rfl;have hcz58_2:wc.cell? ⟨gb299,2,none⟩=some (.int .i64 a1_2):=q_ BK299 2 rfl;have hcz58_3:wc.cell? ⟨gb299,3,none⟩=some (.int .i64 a1_3):=q_ BK299 3 rfl;have hcz58_4:wc.cell? ⟨gb299,4,none⟩=some (.bool true):=q_ BK299 4 rfl;have hcz58_5:wc.cell? ⟨gb299,5,none⟩=some (.int .i64 a1_5):=q_ BK299 5 rfl;have hcz58_6:wc.cell? ⟨gb299,6,none⟩=some (.int .i64 a1_6):=q_ BK299 6 rfl;have hfz58_0:=blk_frozen BK299.out 0;have hfz58_1:=blk_frozen BK299.out 1;have hfz58_2:=blk_frozen BK299.out 2;have hfz58_3:=blk_frozen BK299.out 3;have hfz58_4:=blk_frozen BK299.out 4;have hfz58_5:=blk_frozen BK299.out 5;have hfz58_6:=blk_frozen BK299.out 6
        try go_wp2
        replace BK299:=Am12_ (blk_drew BK299.out);replace BK304:=Am12_ (blk_drew BK304.out);replace HB:=Am12_ (below_drew1 HB.out);refine start_ (n:=12) (S:=fun w' => w'.cell? ⟨gb299,0,none⟩=some (.string a1_0)∧w'.cell? ⟨gb299,1,none⟩=some (.string a1_1)∧w'.cell? ⟨gb299,2,none⟩=some (.int .i64 a1_2)∧w'.cell? ⟨gb299,3,none⟩=some (.int .i64 a1_3)∧w'.cell? ⟨gb299,4,none⟩=some (.bool true)∧w'.cell? ⟨gb299,5,none⟩=some (.int .i64 a1_5)∧w'.cell? ⟨gb299,6,none⟩=some (.int .i64 a1_6)) (ds:=[]) #[false,false,false,false,false,false,false,false,false,false,false,false] (by kernel_rfl) rfl rfl ⟨q_ BK299 0 rfl,q_ BK299 1 rfl,q_ BK299 2 rfl,q_ BK299 3 rfl,q_ BK299 4 rfl,q_ BK299 5 rfl,q_ BK299 6 rfl⟩ (fun hHeld => ?_);refine with_tabW spec_CheckAssertion.tab8 spec_CheckAssertion.bits8 (fun HT_ HW_ => ?_);generalize wc.drew=w59 at BK299 BK304 HB hHeld ⊢;refine pure_ (i:=0) (N:=some 44) (v:=?_) (a':=?_) #[true,false,false,false,false,false,false,false,false,false,false,false] rfl rfl (any_of HT_.out (by kernel_rfl)) (fun _ _ _ h => h) (Or.inl ⟨by rfl,?_⟩) ?_ ?_;rotate_left
        ·intro w'
         go_simp
         with_reducible rfl
        rotate_left
        ·simp only [Act.put,Sa_,Sb_,Sc_,i64_w,i32_w]
         rfl
        refine pure_ (i:=3) (N:=some 47) (v:=?_) (a':=?_) #[true,false,false,true,false,false,false,false,false,false,false,false] rfl rfl (any_of HT_.out (by kernel_rfl)) (fun _ _ _ h => h) (Or.inl ⟨by rfl,?_⟩) ?_ ?_;rotate_left
        ·intro w'
         go_simp
         with_reducible rfl
        rotate_left
        ·simp only [Act.put,Sa_,Sb_,Sc_,i64_w,i32_w]
         rfl
        refine pure_ (i:=7) (N:=some 51) (v:=?_) (a':=?_) #[true,false,false,true,false,false,false,true,false,false,false,false] rfl rfl (any_of HT_.out (by kernel_rfl)) (fun _ _ _ h => h) (Or.inl ⟨by rfl,?_⟩) ?_ ?_;rotate_left
        ·intro w'
         go_simp
         with_reducible rfl
        rotate_left
        ·simp only [Act.put,Sa_,Sb_,Sc_,i64_w,i32_w]
         rfl
        refine take_ (i:=1) (N:=some 45) (v:=?_) (a':=?_) #[true,true,false,true,false,false,false,true,false,false,false,false] rfl rfl (take_ofW HT_.out HW_.out (by kernel_rfl)) (fun _ _ _ h => h) (Or.inl ⟨by rfl,?_⟩) hHeld ?_ ?_;rotate_left
        ·rintro w' ⟨s0,s1,s2,s3,s4,s5,s6⟩
         go_simp
         with_reducible rfl
        rotate_left
        ·simp only [Act.put,Sa_,Sb_,Sc_,i64_w,i32_w]
         rfl
        refine take_ (i:=4) (N:=some 48) (v:=?_) (a':=?_) #[true,true,false,true,true,false,false,true,false,false,false,false] rfl rfl (take_ofW HT_.out HW_.out (by kernel_rfl)) (fun _ _ _ h => h) (Or.inl ⟨by rfl,?_⟩) hHeld ?_ ?_;rotate_left
        ·rintro w' ⟨s0,s1,s2,s3,s4,s5,s6⟩
         go_simp
         with_reducible rfl
        rotate_left
        ·simp only [Act.put,Sa_,Sb_,Sc_,i64_w,i32_w]
         rfl
        refine take_ (i:=8) (N:=some 52) (v:=?_) (a':=?_) #[true,true,false,true,true,false,false,true,true,false,false,false] rfl rfl (take_ofW HT_.out HW_.out (by kernel_rfl)) (fun _ _ _ h => h) (Or.inl ⟨by rfl,?_⟩) hHeld ?_ ?_;rotate_left
        ·rintro w' ⟨s0,s1,s2,s3,s4,s5,s6⟩
         go_simp
         with_reducible rfl
        rotate_left
        ·simp only [Act.put,Sa_,Sb_,Sc_,i64_w,i32_w]
         rfl
        refine join_ (σ:=Value × Value) 4 #[true,true,true,true,true,true,false,true,true,false,false,false] (fun s_ => [(46,s_.1),(49,s_.2)]) (fun s_ w' => (w'.cell? ⟨gb299,0,none⟩=some (.string a1_0)∧w'.cell? ⟨gb299,1,none⟩=some (.string a1_1)∧w'.cell? ⟨gb299,2,none⟩=some (.int .i64 a1_2)∧w'.cell? ⟨gb299,3,none⟩=some (.int .i64 a1_3)∧w'.cell? ⟨gb299,4,none⟩=some (.bool true)∧w'.cell? ⟨gb299,5,none⟩=some (.int .i64 a1_5)∧w'.cell? ⟨gb299,6,none⟩=some (.int .i64 a1_6))∧(Kd.R (Kd.int .i64) 3 w' w.heap.size (fun k_ => some k_ ≠ (s_.2:Value).ownBlock) s_.1 t306)∧(Kd.R (Kd.int .i64) 3 w' w.heap.size (fun k_ => some k_ ≠ (s_.1:Value).ownBlock) s_.2 y309)∧(w'.heap[gb299]?=some (.cells #[.string a1_0,.string a1_1,.int .i64 a1_2,.int .i64 a1_3,.bool true,.int .i64 a1_5,.int .i64 a1_6] 30 (0,0)))∧(w'.heap[gb304]?=some (.cells #[.bool t300,.string t301,.int .i64 t302] 28 (0,0)))∧(Below w.heap.size w w')) ?_ ?_;rotate_left
        ·intro hCont;refine two_ (i:=2) (j:=5) (Ni:=some 46) (Nj:=some 49) #[true,true,true,true,true,false,false,true,true,false,false,false] #[true,true,false,true,true,true,false,true,true,false,false,false] rfl rfl rfl rfl (two_of HT_.out (by kernel_rfl)) (by decide) (by decide) (fun K hK => ?_) (fun K hK => ?_)
         ·skip
          refine goes_ Tryz.func23 (by kernel_rfl) rfl #[.agg #[.string a1_0,.string a1_1,.int .i64 a1_2,.int .i64 a1_3,.bool true,.int .i64 a1_5,.int .i64 a1_6]] (by rfl) rfl rfl (by (try simp only [List.map_toArray,List.map_cons,List.map_nil]);first|done|rfl|(simp only [List.length_drop,List.length_take];rfl)) ?_;with_reducible refine (spec_AssertionMessage.calls kj6 a1_0 a1_1 a1_2 a1_3 true a1_5 a1_6 t306 _ A28.out).mono ?_;rintro e w60 ⟨v307,rfl,ho0,hb⟩;refine ⟨_,rfl,?_⟩;have HO308:=Am12_ (Kd.R_lower ho0 (below_size (xe_ HB)));replace BK299:=bb_ BK299 hb;replace BK304:=bb_ BK304 hb;replace HB:=bs_ HB hb;(try clear hb);(try clear hb2);(try clear hk);(try clear hi);(try clear ho0);refine hK.out _ _ ⟨q_ BK299 0 rfl,q_ BK299 1 rfl,q_ BK299 2 rfl,q_ BK299 3 rfl,q_ BK299 4 rfl,q_ BK299 5 rfl,q_ BK299 6 rfl⟩ (fun hHeld => ?_);clear hK K;refine norm_ (a':=?_) ?_ ?_;rotate_left
          ·show Act.put _ (some 46) _=_
           simp only [Act.put,Sa_,Sb_,Sc_,i64_w,i32_w]
           rfl
          refine one_ (i:=5) (N:=some 49) #[true,true,true,true,true,true,false,true,true,false,false,false] rfl rfl (one_of HT_.out (by kernel_rfl)) (by decide) (fun K hK => ?_);refine Kd.R_lit_step (Kd.int .i64) _ 3 ?hg (N:=49) ?hd (xs:=([a1_5]:List Int)) (inner:=[.int .i64 a1_5]) (ok:=fun _ => True) (okp:=fun _ => True) ?hr ?hp (fun _ hk => hk) trivial (Below.refl _ _) (Nat.le_refl _) (by simp) ?_;(case hd => rfl);(case hg => rfl);(case hr => first|(go_simp;done)|(go_simp;rfl));(case hp => exact (Reps.one (show Kd.M (Kd.int .i64) _ _ _ a1_5 [.int .i64 a1_5] from rfl) (Reps.none _ _)));intro v310 w61 ho62 hb hg_ hnew_;clear hg_ hnew_
          (first|rw [← Ny309.out] at ho62|(simp only [Int.reduceToNat] at ho62;rw [← Ny309.out] at ho62))
          have HO311:=Am12_ (Kd.R_lower (Kd.R_new' ho62 (Kd.R_lt (by (with_reducible repeat (first|apply Kd.R_alloc|apply Kd.R_drewN|apply Kd.R_drew));exact HO308.out))) (below_size (xe_ HB)));replace HO308:=Am12_ (Kd.R_elder' (by (with_reducible repeat (first|apply Kd.R_alloc|apply Kd.R_drewN|apply Kd.R_drew));exact HO308.out) (Kd.R_base ho62) hb);replace BK299:=bb_ BK299 hb;replace BK304:=bb_ BK304 hb;replace HB:=bs_ HB hb;clear hb ho62;refine hK.out _ _ ⟨q_ BK299 0 rfl,q_ BK299 1 rfl,q_ BK299 2 rfl,q_ BK299 3 rfl,q_ BK299 4 rfl,q_ BK299 5 rfl,q_ BK299 6 rfl⟩ (fun hHeld => ?_);clear hK K;refine norm_ (a':=?_) ?_ ?_;rotate_left
          ·show Act.put _ (some 49) _=_
           simp only [Act.put,Sa_,Sb_,Sc_,i64_w,i32_w]
           rfl
          exact norm_ (by simp only [putAll,Act.put,Sa_,Sb_,Sc_]) (hCont (v307,v310) _ ⟨hHeld,(by (with_reducible repeat (first|apply Kd.R_alloc|apply Kd.R_drewN|apply Kd.R_drew));exact Kd.R_mono HO308.out (fun _ hk => hk.2)),(by (with_reducible repeat (first|apply Kd.R_alloc|apply Kd.R_drewN|apply Kd.R_drew));exact Kd.R_mono HO311.out (fun _ hk => hk.2)),(xk_ BK299),(xk_ BK304),(xe_ HB)⟩)
         ·skip
          refine Kd.R_lit_step (Kd.int .i64) _ 3 ?hg (N:=49) ?hd (xs:=([a1_5]:List Int)) (inner:=[.int .i64 a1_5]) (ok:=fun _ => True) (okp:=fun _ => True) ?hr ?hp (fun _ hk => hk) trivial (Below.refl _ _) (Nat.le_refl _) (by simp) ?_;(case hd => rfl);(case hg => rfl);(case hr => first|(go_simp;done)|(go_simp;rfl));(case hp => exact (Reps.one (show Kd.M (Kd.int .i64) _ _ _ a1_5 [.int .i64 a1_5] from rfl) (Reps.none _ _)));intro v310 w60 ho61 hb hg_ hnew_;clear hg_ hnew_
          (first|rw [← Ny309.out] at ho61|(simp only [Int.reduceToNat] at ho61;rw [← Ny309.out] at ho61))
          have HO311:=Am12_ (Kd.R_lower ho61 (below_size (xe_ HB)));replace BK299:=bb_ BK299 hb;replace BK304:=bb_ BK304 hb;replace HB:=bs_ HB hb;clear hb ho61;refine hK.out _ _ ⟨q_ BK299 0 rfl,q_ BK299 1 rfl,q_ BK299 2 rfl,q_ BK299 3 rfl,q_ BK299 4 rfl,q_ BK299 5 rfl,q_ BK299 6 rfl⟩ (fun hHeld => ?_);clear hK K;refine norm_ (a':=?_) ?_ ?_;rotate_left
          ·show Act.put _ (some 49) _=_
           simp only [Act.put,Sa_,Sb_,Sc_,i64_w,i32_w]
           rfl
          refine one_ (i:=2) (N:=some 46) #[true,true,true,true,true,true,false,true,true,false,false,false] rfl rfl (one_of HT_.out (by kernel_rfl)) (by decide) (fun K hK => ?_);refine goes_ Tryz.func23 (by kernel_rfl) rfl #[.agg #[.string a1_0,.string a1_1,.int .i64 a1_2,.int .i64 a1_3,.bool true,.int .i64 a1_5,.int .i64 a1_6]] (by rfl) rfl rfl (by (try simp only [List.map_toArray,List.map_cons,List.map_nil]);first|done|rfl|(simp only [List.length_drop,List.length_take];rfl)) ?_;with_reducible refine (spec_AssertionMessage.calls kj6 a1_0 a1_1 a1_2 a1_3 true a1_5 a1_6 t306 _ A28.out).mono ?_;rintro e w62 ⟨v307,rfl,ho0,hb⟩;refine ⟨_,rfl,?_⟩;have HO308:=Am12_ (Kd.R_lower (Kd.R_new' ho0 (Kd.R_lt (by (with_reducible repeat (first|apply Kd.R_alloc|apply Kd.R_drewN|apply Kd.R_drew));exact HO311.out))) (below_size (xe_ HB)));replace HO311:=Am12_ (Kd.R_elder' (by (with_reducible repeat (first|apply Kd.R_alloc|apply Kd.R_drewN|apply Kd.R_drew));exact HO311.out) (Kd.R_base ho0) hb);replace BK299:=bb_ BK299 hb;replace BK304:=bb_ BK304 hb;replace HB:=bs_ HB hb;(try clear hb);(try clear hb2);(try clear hk);(try clear hi);(try clear ho0);refine hK.out _ _ ⟨q_ BK299 0 rfl,q_ BK299 1 rfl,q_ BK299 2 rfl,q_ BK299 3 rfl,q_ BK299 4 rfl,q_ BK299 5 rfl,q_ BK299 6 rfl⟩ (fun hHeld => ?_);clear hK K;refine norm_ (a':=?_) ?_ ?_;rotate_left
          ·show Act.put _ (some 46) _=_
           simp only [Act.put,Sa_,Sb_,Sc_,i64_w,i32_w]
           rfl
          exact norm_ (by simp only [putAll,Act.put,Sa_,Sb_,Sc_]) (hCont (v307,v310) _ ⟨hHeld,(by (with_reducible repeat (first|apply Kd.R_alloc|apply Kd.R_drewN|apply Kd.R_drew));exact Kd.R_mono HO308.out (fun _ hk => hk.2)),(by (with_reducible repeat (first|apply Kd.R_alloc|apply Kd.R_drewN|apply Kd.R_drew));exact Kd.R_mono HO311.out (fun _ hk => hk.2)),(xk_ BK299),(xk_ BK304),(xe_ HB)⟩)
        rintro ⟨v307,v310⟩ w63 ⟨hS_,h0_,h1_,h2_,h3_,h4_⟩;have n0_:Aside0 (Kd.R (Kd.int .i64) 3 w63 w.heap.size (fun k_ => some k_ ≠ (v310:Value).ownBlock) v307 t306):=⟨h0_⟩;have n1_:Aside0 (Kd.R (Kd.int .i64) 3 w63 w.heap.size (fun k_ => some k_ ≠ (v307:Value).ownBlock) v310 y309):=⟨h1_⟩;have n2_:Aside0 (w63.heap[gb299]?=some (.cells #[.string a1_0,.string a1_1,.int .i64 a1_2,.int .i64 a1_3,.bool true,.int .i64 a1_5,.int .i64 a1_6] 30 (0,0))):=⟨h2_⟩;have n3_:Aside0 (w63.heap[gb304]?=some (.cells #[.bool t300,.string t301,.int .i64 t302] 28 (0,0))):=⟨h3_⟩;have n4_:Aside0 (Below w.heap.size w w63):=⟨h4_⟩;clear BK299;clear BK304;clear HB;clear h0_ h1_ h2_ h3_ h4_;have HO308:=n0_;have HO311:=n1_;have BK299:=n2_;have BK304:=n3_;have HB:=n4_;clear n0_ n1_ n2_ n3_ n4_;have hHeld:w63.cell? ⟨gb299,0,none⟩=some (.string a1_0)∧w63.cell? ⟨gb299,1,none⟩=some (.string a1_1)∧w63.cell? ⟨gb299,2,none⟩=some (.int .i64 a1_2)∧w63.cell? ⟨gb299,3,none⟩=some (.int .i64 a1_3)∧w63.cell? ⟨gb299,4,none⟩=some (.bool true)∧w63.cell? ⟨gb299,5,none⟩=some (.int .i64 a1_5)∧w63.cell? ⟨gb299,6,none⟩=some (.int .i64 a1_6):=hS_;obtain ⟨Ao65,co65,eo65⟩:=Kd.R_slice HO311.out
        (first|subst eo65|(injection eo65 with f1_ f2_ f3_;have f4_:=f1_.symm;have f5_:=f3_.symm;clear f1_ f2_ f3_;subst f4_;subst f5_))
        refine norm_ (a':=?_) ?_ ?_;rotate_left
        ·simp only [putAll,Act.put,Sa_,Sb_,Sc_]
         rfl
        refine one_ (i:=6) (N:=some 50) #[true,true,true,true,true,true,true,true,true,false,false,false] rfl rfl (one_of HT_.out (by kernel_rfl)) (by decide) (fun K hK => ?_);refine Kd.R_append_rows_step (Kd.int .i64) (w0:=w) w.heap.size (by rfl) (.tmp 46) (.tmp 49) 47 3 (.int .i64 0) 8 rfl Tryz.underlying47 info3 rfl (by decide) (by omega) v307 t306 y309 _ _ _ (fun k_ => some k_ ≠ (.slice Ao65 y309.length co65:Value).ownBlock) (fun _ => False) rfl rfl ?aO ?aR (fun _ _ h => h) (fun _ h => h.elim) ?aF ?aB ?aS ?aL ?_
        (case aR => repeat (first|exact (Kd.R_reads' HO311.out).2.2|(with_reducible refine Kd.C_alloc ?_ _)|(with_reducible refine Kd.C_drewN ?_ _)|(with_reducible refine Kd.C_drew ?_)))
        (case aB => exact (xe_ HB))
        (case aF => exact (fun k_ hk => Kd.fresh' (Kd.R_lt (by (with_reducible repeat (first|apply Kd.R_alloc|apply Kd.R_drewN|apply Kd.R_drew));exact HO311.out)) k_ hk))
        (case aO => exact (by (with_reducible repeat (first|apply Kd.R_alloc|apply Kd.R_drewN|apply Kd.R_drew));exact HO308.out))
        (case aS => exact (below_size (xe_ HB)))
        (case aL => have:=LMc29.out;omega)
        intro v313 w64 ho hb hg hat;rw [← Ny312.out] at ho;have n0_:=Am12_ (blk_grown (xk_ BK299) hg (Kd.R_ne HO308.out BK299.out (by decide)));have n1_:=Am12_ (blk_grown (xk_ BK304) hg (Kd.R_ne HO308.out BK304.out (by decide)));have n2_:=Am12_ (Kd.R_after (ok:=(fun _ => True)) (by (with_reducible repeat (first|apply Kd.R_alloc|apply Kd.R_drewN|apply Kd.R_drew));exact Kd.R_mono HO311.out (fun _ hk => ⟨trivial,hk⟩)) hg hat);have n3_:=Am12_ (hb);have n4_:=Am12_ (ho);clear BK299;clear BK304;clear HO311;clear HB;clear HO308;have BK299:=n0_;have BK304:=n1_;have HO311:=n2_;have HB:=n3_;have HO314:=n4_;clear n0_ n1_ n2_ n3_ n4_;clear ho hb hg hat;obtain ⟨Ao66,co66,eo66⟩:=Kd.R_slice HO314.out
        (first|subst eo66|(injection eo66 with f1_ f2_ f3_;have f4_:=f1_.symm;have f5_:=f3_.symm;clear f1_ f2_ f3_;subst f4_;subst f5_))
        refine hK.out _ _ ⟨q_ BK299 0 rfl,q_ BK299 1 rfl,q_ BK299 2 rfl,q_ BK299 3 rfl,q_ BK299 4 rfl,q_ BK299 5 rfl,q_ BK299 6 rfl⟩ (fun hHeld => ?_);clear hK K;refine norm_ (a':=?_) ?_ ?_;rotate_left
        ·show Act.put _ (some 50) _=_
         simp only [Act.put,Sa_,Sb_,Sc_,i64_w,i32_w]
         rfl
        refine one_ (i:=9) (N:=some 53) #[true,true,true,true,true,true,true,true,true,true,false,false] rfl rfl (one_of HT_.out (by kernel_rfl)) (by decide) (fun K hK => ?_);refine goes_ Tryz.func43 (by kernel_rfl) rfl #[.int .i64 a0,.slice Ao66 y312.length co66,.int .i64 a1_6] (by rfl) rfl rfl (by (try simp only [List.map_toArray,List.map_cons,List.map_nil]);first|done|rfl|(simp only [List.length_drop,List.length_take];rfl)) ?_;with_reducible refine (spec_VerifySignature.calls kj6 a0 _ _ y312 a1_6 false _ ?side1 ?side2 A30.out).mono ?_
        (case side1 => repeat (first|exact (Kd.R_reads' HO314.out).2.2|(with_reducible refine Kd.C_alloc ?_ _)|(with_reducible refine Kd.C_drewN ?_ _)|(with_reducible refine Kd.C_drew ?_)))
        (case side2 => exact (Kd.R_reads' HO314.out).2.1)
        rintro e w67 ⟨rfl,hb⟩;refine ⟨_,rfl,?_⟩;replace HO311:=Am12_ (Kd.R_below (by (with_reducible repeat (first|apply Kd.R_alloc|apply Kd.R_drewN|apply Kd.R_drew));exact HO311.out) hb);replace HO314:=Am12_ (Kd.R_below (by (with_reducible repeat (first|apply Kd.R_alloc|apply Kd.R_drewN|apply Kd.R_drew));exact HO314.out) hb);replace BK299:=bb_ BK299 hb;replace BK304:=bb_ BK304 hb;replace HB:=bs_ HB hb;(try clear hb);(try clear hb2);(try clear hk);(try clear hi);refine hK.out _ _ ⟨q_ BK299 0 rfl,q_ BK299 1 rfl,q_ BK299 2 rfl,q_ BK299 3 rfl,q_ BK299 4 rfl,q_ BK299 5 rfl,q_ BK299 6 rfl⟩ (fun hHeld => ?_);clear hK K;refine norm_ (a':=?_) ?_ ?_;rotate_left
        ·show Act.put _ (some 53) _=_
         simp only [Act.put,Sa_,Sb_,Sc_,i64_w,i32_w]
         rfl
        refine pure_ (i:=10) (N:=some 54) (v:=?_) (a':=?_) #[true,true,true,true,true,true,true,true,true,true,true,false] rfl rfl (any_of HT_.out (by kernel_rfl)) (fun _ _ _ h => h) (Or.inl ⟨by rfl,?_⟩) ?_ ?_;rotate_left
        ·intro w'
         go_simp
         with_reducible rfl
        rotate_left
        ·simp only [Act.put,Sa_,Sb_,Sc_,i64_w,i32_w]
         rfl
        refine pure_ (i:=11) (N:=some 43) (v:=?_) (a':=?_) #[true,true,true,true,true,true,true,true,true,true,true,true] rfl rfl (any_of HT_.out (by kernel_rfl)) (fun _ _ _ h => h) (Or.inl ⟨by rfl,?_⟩) ?_ ?_;rotate_left
        ·intro w'
         go_simp
         with_reducible rfl
        rotate_left
        ·simp only [Act.put,Sa_,Sb_,Sc_,i64_w,i32_w]
         rfl
        refine done_ (done_of HT_.out (by kernel_rfl)) ?_
        try go_wp2
        go_ret
        exact ⟨by first|rfl|(simp [errW_none,errW_some] <;> rfl)|(simp [*,errW_none,errW_some] <;> rfl),by repeat (first|(with_reducible first|exact HB.out|apply below_alloc|apply pw_below_drewN|apply below_drew1|refine below_set ?_ GE299.out|refine below_set ?_ GE304.out)|exact HB.out)⟩
      ·rw [if_neg c29] at H
       exact absurd H (by simp)
     ·rw [if_neg c27] at H
      have c27b0:(a1_2 == a3)=false:=beq_eq_false_iff_ne.mpr c27;have c27b1:(a1_2 != a3)=true:=bne_iff_ne.mpr c27;obtain rfl:=Option.some.inj H;have hnb68:=NB299_304.out;have hnc68:=NB304_299.out;have hcz69_0:wc.cell? ⟨gb299,0,none⟩=some (.string a1_0):=q_ BK299 0 rfl;have hcz69_1:wc.cell? ⟨gb299,1,none⟩=some (.string a1_1):=q_ BK299 1 rfl;have hcz69_2:wc.cell? ⟨gb299,2,none⟩=some (.int .i64 a1_2):=q_ BK299 2 rfl;have hcz69_3:wc.cell? ⟨gb299,3,none⟩=some (.int .i64 a1_3):=q_ BK299 3 rfl;have hcz69_4:wc.cell? ⟨gb299,4,none⟩=some (.bool true):=q_ BK299 4 rfl;have hcz69_5:wc.cell? ⟨gb299,5,none⟩=some (.int .i64 a1_5):=q_ BK299 5 rfl;have hcz69_6:wc.cell? ⟨gb299,6,none⟩=some (.int .i64 a1_6):=q_ BK299 6 rfl;have hfz69_0:=blk_frozen BK299.out 0;have hfz69_1:=blk_frozen BK299.out 1;have hfz69_2:=blk_frozen BK299.out 2;have hfz69_3:=blk_frozen BK299.out 3;have hfz69_4:=blk_frozen BK299.out 4;have hfz69_5:=blk_frozen BK299.out 5;have hfz69_6:=blk_frozen BK299.out 6
      go_wp2
      go_ret
      exact ⟨by first|rfl|(simp [errW_none,errW_some] <;> rfl)|(simp [*,errW_none,errW_some] <;> rfl),by repeat (first|(with_reducible first|exact HB.out|apply below_alloc|apply pw_below_drewN|apply below_drew1|refine below_set ?_ GE299.out|refine below_set ?_ GE304.out)|exact HB.out)⟩
    ·replace c26:=Bool.eq_false_iff.mpr c26;subst c26
     rw [if_neg (show ¬ (false=true) by decide)] at H
     obtain rfl:=Option.some.inj H;have hnb70:=NB299_304.out;have hnc70:=NB304_299.out;have hcz71_0:wc.cell? ⟨gb299,0,none⟩=some (.string a1_0):=q_ BK299 0 rfl;have hcz71_1:wc.cell? ⟨gb299,1,none⟩=some (.string a1_1):=q_ BK299 1 rfl;have hcz71_2:wc.cell? ⟨gb299,2,none⟩=some (.int .i64 a1_2):=q_ BK299 2 rfl;have hcz71_3:wc.cell? ⟨gb299,3,none⟩=some (.int .i64 a1_3):=q_ BK299 3 rfl;have hcz71_4:wc.cell? ⟨gb299,4,none⟩=some (.bool false):=q_ BK299 4 rfl;have hcz71_5:wc.cell? ⟨gb299,5,none⟩=some (.int .i64 a1_5):=q_ BK299 5 rfl;have hcz71_6:wc.cell? ⟨gb299,6,none⟩=some (.int .i64 a1_6):=q_ BK299 6 rfl;have hfz71_0:=blk_frozen BK299.out 0;have hfz71_1:=blk_frozen BK299.out 1;have hfz71_2:=blk_frozen BK299.out 2;have hfz71_3:=blk_frozen BK299.out 3;have hfz71_4:=blk_frozen BK299.out 4;have hfz71_5:=blk_frozen BK299.out 5;have hfz71_6:=blk_frozen BK299.out 6
     go_wp2
     go_ret
     exact ⟨by first|rfl|(simp [errW_none,errW_some] <;> rfl)|(simp [*,errW_none,errW_some] <;> rfl),by repeat (first|(with_reducible first|exact HB.out|apply below_alloc|apply pw_below_drewN|apply below_drew1|refine below_set ?_ GE299.out|refine below_set ?_ GE304.out)|exact HB.out)⟩

end Go.Proofs.YtogcoedmagoogaaGreatDoor.PFnExactCheckAssertion
