/- Functions and contracts of a law's callees, written by a program of this session (a changed print): each contract says that the machine's call answers what the plain function says. Conditions: the plain function's own answer. -/
import Derived.Test.YtogcoedmagoogaaGreatDoorZPFnAssertionsx0
import Derived.Test.YtogcoedmagoogaaGreatDoorZPFnAssertionsx1
import Derived.Test.YtogcoedmagoogaaGreatDoorZPFnAssertionsx2
import Derived.Test.YtogcoedmagoogaaGreatDoorZPFnAssertionsx3
import Derived.Test.YtogcoedmagoogaaGreatDoorZPFnAssertionsx7
namespace Go.Proofs.YtogcoedmagoogaaGreatDoor.PFnAssertions
open Go.RowKit Go.Proofs.YtogcoedmagoogaaGreatDoorW.PrintWords Go.Proofs.YtogcoedmagoogaaGreatDoorW.PrintLast Go.Proofs.YtogcoedmagoogaaGreatDoorW.PrintMore
attribute [local go_sem] max2_int min2_int max_two min_two max_three min_three max_four min_four   -- for this text's walks alone
set_option linter.unusedVariables false
set_option linter.unusedSimpArgs false
abbrev Am8_ {p : Prop} (h : p) : Aside0 p := Aside0.mk h

namespace Y8
class Ex_ (w W:World):Prop where
 k:∀ {g:Nat} {o:Obj},w.heap[g]?=some o → W.heap[g]?=some o
 e:∀ {v:World},Below v.heap.size v w → Below v.heap.size v W
instance (priority:=low) Ex_.rf (w:World):Ex_ w w:=⟨fun h => h,fun h => h⟩
instance Ex_.dn {w W:World} [x:Ex_ w W] (n:Nat):Ex_ w (W.drewN n):=⟨fun h => blk_drewN (x.k h) n,fun h => pw_below_drewN (x.e h) n⟩
instance Ex_.dr {w W:World} [x:Ex_ w W]:Ex_ w W.drew:=⟨fun h => blk_drew (x.k h),fun h => below_drew1 (x.e h)⟩
instance Ex_.al {w W:World} [x:Ex_ w W] (o:Obj):Ex_ w (W.alloc o):=⟨fun h => blk_alloc (x.k h) o,fun h => below_alloc (x.e h) o⟩
theorem xk_ {w W:World} {g:Nat} {o:Obj} (h:Aside0 (w.heap[g]?=some o)) [x:Ex_ w W]:W.heap[g]?=some o:=x.k h.out
theorem ne1_ {w W:World} {g g':Nat} {o:Obj} (hg:g'=W.heap.size) (h:Aside0 (w.heap[g]?=some o)) [x:Ex_ w W]:Aside0 (g ≠ g'):=Am8_ (by rw [hg];exact Nat.ne_of_lt (blk_lt (x.k h.out)))
theorem ne2_ {w W:World} {g g':Nat} {o:Obj} (hg:g'=W.heap.size) (h:Aside0 (w.heap[g]?=some o)) [x:Ex_ w W]:Aside0 (g' ≠ g):=Am8_ (by rw [hg];exact Nat.ne_of_gt (blk_lt (x.k h.out)))
theorem gw_ {v w W:World} {g':Nat} (hg:g'=W.heap.size) (h:Aside0 (Below v.heap.size v w)) [x:Ex_ w W]:Aside0 (v.heap.size ≤ g'):=Am8_ (by rw [hg];exact below_size (x.e h.out))
theorem bb_ {w W W':World} {g:Nat} {o:Obj} (h:Aside0 (w.heap[g]?=some o)) (hb:Below W.heap.size W W') [x:Ex_ w W]:Aside0 (W'.heap[g]?=some o):=Am8_ (blk_below (x.k h.out) hb)
theorem bs_ {v w W W':World} (h:Aside0 (Below v.heap.size v w)) (hb:Below W.heap.size W W') [x:Ex_ w W]:Aside0 (Below v.heap.size v W'):=Am8_ (below_step (x.e h.out) hb)
theorem xe_ {v w W:World} (h:Aside0 (Below v.heap.size v w)) [x:Ex_ w W]:Below v.heap.size v W:=x.e h.out
end Y8
open Y8

namespace Y8
abbrev Sa_ := @List.setIfInBounds_toArray
abbrev Sb_ := @List.set_cons_zero
abbrev Sc_ := @List.set_cons_succ
theorem q_ {w W : World} {g : Nat} {t : TypeId} {cs : Array Value} (h : Aside0 (w.heap[g]? = some (.cells cs t (0, 0)))) (i : Nat) {v : Option Value} (e : cs[i]? = v) [x : Ex_ w W] : W.cell? ⟨g, i, none⟩ = v := (blk_cell (x.k h.out) i).trans e
end Y8
open Y8
/-! ### impl_CheckAssertion: function 11 -/
def impl_CheckAssertion.j0:Nat → Int → Int → Int → Bool → ByteArray → ByteArray → Int → Int → Bool → Int → Int → Option (Int)
|0,_,_,_,_,_,_,_,_,_,_,_ => none
|k + 1,x0,x3,x4,x19,x283000,x283001,x283002,x283003,x283004,x283005,x283006 => if x19=true then (some 1) else (if x283004=true then (if x283002=x3 then ((impl_AssertionMessage.f k x283000 x283001 x283002 x283003 x283004 x283005 x283006).bind fun t289 => ((impl_joined.f k t289 (([(([x283005]:List Int))]:List (List Int)))).bind fun t298 => ((impl_VerifySignature.f k x0 t298 x283006).bind fun t301 => (if t301=true then (if x283005 ≤ x4 then (some 4) else (some 0)) else (some 5))))) else (some 3)) else (some 2))
def impl_CheckAssertion.f (k:Nat) (a0:Int) (a1_0:ByteArray) (a1_1:ByteArray) (a1_2:Int) (a1_3:Int) (a1_4:Bool) (a1_5:Int) (a1_6:Int) (a2:ByteArray) (a3:Int) (a4:Int):Option (Int):=(impl_ParseOrigin.f k a1_1).bind fun bt283 => (if a1_0.toList=a2.toList then (if bt283.2.2.2=true then ((impl_MayUse.f k bt283.1 bt283.2.1 bt283.2.2.1 a2).bind fun t288 => (impl_CheckAssertion.j0 k a0 a3 a4 (!t288) a1_0 a1_1 a1_2 a1_3 a1_4 a1_5 a1_6)) else (impl_CheckAssertion.j0 k a0 a3 a4 true a1_0 a1_1 a1_2 a1_3 a1_4 a1_5 a1_6)) else (impl_CheckAssertion.j0 k a0 a3 a4 true a1_0 a1_1 a1_2 a1_3 a1_4 a1_5 a1_6))
theorem impl_CheckAssertion.mono_l:∀ k,(∀ y0 y1 y2 y3 y4 y5 y6 y7 y8 y9 y10,LeO (impl_CheckAssertion.j0 k y0 y1 y2 y3 y4 y5 y6 y7 y8 y9 y10) (impl_CheckAssertion.j0 (k + 1) y0 y1 y2 y3 y4 y5 y6 y7 y8 y9 y10))
|0 => fun _ _ _ _ _ _ _ _ _ _ _ r h => by simp [impl_CheckAssertion.j0] at h
|k + 1 => by
  have ih0:=impl_CheckAssertion.mono_l k
  ·intro y0 y1 y2 y3 y4 y5 y6 y7 y8 y9 y10
   unfold impl_CheckAssertion.j0
   repeat' first
  |(with_reducible exact ih0 _ _ _ _ _ _ _ _ _ _ _)
  |(with_reducible exact impl_AssertionMessage.mono _ _ _ _ _ _ _ _)
  |(with_reducible exact impl_MayUse.mono _ _ _ _ _)
  |(with_reducible exact impl_ParseOrigin.mono _ _)
  |(with_reducible exact impl_VerifySignature.mono _ _ _ _)
  |(with_reducible exact impl_joined.mono _ _ _)
  |(with_reducible exact LeO.refl _)
  |(with_reducible exact LeO.none _)
  |(with_reducible refine LeO.ite ?_ ?_)
  |(with_reducible refine LeO.bind ?_ (fun _ => ?_))
  |exact ih0 _ _ _ _ _ _ _ _ _ _ _
  |exact impl_AssertionMessage.mono _ _ _ _ _ _ _ _
  |exact impl_MayUse.mono _ _ _ _ _
  |exact impl_ParseOrigin.mono _ _
  |exact impl_VerifySignature.mono _ _ _ _
  |exact impl_joined.mono _ _ _
  |exact LeO.none _
  |refine LeO.ite ?_ ?_
  |refine LeO.bind ?_ (fun _ => ?_)
theorem impl_CheckAssertion.mono:∀ a0 a1 a2 a3 a4 a5 a6 a7 a8 a9 a10 k,LeO (impl_CheckAssertion.f k a0 a1 a2 a3 a4 a5 a6 a7 a8 a9 a10) (impl_CheckAssertion.f (k + 1) a0 a1 a2 a3 a4 a5 a6 a7 a8 a9 a10):=by
 intro a0 a1 a2 a3 a4 a5 a6 a7 a8 a9 a10 k;have ih0:=impl_CheckAssertion.mono_l k
 unfold impl_CheckAssertion.f
 repeat' first
  |(with_reducible exact ih0 _ _ _ _ _ _ _ _ _ _ _)
  |(with_reducible exact impl_AssertionMessage.mono _ _ _ _ _ _ _ _)
  |(with_reducible exact impl_MayUse.mono _ _ _ _ _)
  |(with_reducible exact impl_ParseOrigin.mono _ _)
  |(with_reducible exact impl_VerifySignature.mono _ _ _ _)
  |(with_reducible exact impl_joined.mono _ _ _)
  |(with_reducible exact LeO.refl _)
  |(with_reducible exact LeO.none _)
  |(with_reducible refine LeO.ite ?_ ?_)
  |(with_reducible refine LeO.bind ?_ (fun _ => ?_))
  |exact ih0 _ _ _ _ _ _ _ _ _ _ _
  |exact impl_AssertionMessage.mono _ _ _ _ _ _ _ _
  |exact impl_MayUse.mono _ _ _ _ _
  |exact impl_ParseOrigin.mono _ _
  |exact impl_VerifySignature.mono _ _ _ _
  |exact impl_joined.mono _ _ _
  |exact LeO.none _
  |refine LeO.ite ?_ ?_
  |refine LeO.bind ?_ (fun _ => ?_)
def impl_CheckAssertion.T8:Bool × List (List Nat × List Nat):=(true,[([],[]),([],[]),([1],[1]),([],[]),([3],[3]),([4],[4]),([5],[5]),([2,6,2],[2,6]),([],[]),([8],[8]),([0,7,9,7],[0,7,9]),([10],[10]),([11,10],[11])])
def impl_CheckAssertion.B8:List Nat:=[0,0,2,0,8,24,56,126,0,256,1023,2047,4095]
theorem impl_CheckAssertion.tab8:rtab .any (opsOf Tryz.f11 8)=impl_CheckAssertion.T8:=by kernel_rfl
theorem impl_CheckAssertion.bits8:waitsOk impl_CheckAssertion.T8.2 impl_CheckAssertion.B8=true:=by kernel_rfl
set_option maxHeartbeats 8000000 in
set_option maxRecDepth 100000 in
theorem impl_CheckAssertion.calls (k:Nat) (a0:Int) (a1_0:ByteArray) (a1_1:ByteArray) (a1_2:Int) (a1_3:Int) (a1_4:Bool) (a1_5:Int) (a1_6:Int) (a2:ByteArray) (a3:Int) (a4:Int) (r:Int) (w:World) (ht_:Man.Tab w) (h:impl_CheckAssertion.f k a0 a1_0 a1_1 a1_2 a1_3 a1_4 a1_5 a1_6 a2 a3 a4=some r) :
  Calls Tryz.prog 11 #[.int .i64 a0,.agg #[.string a1_0,.string a1_1,.int .i64 a1_2,.int .i64 a1_3,.bool a1_4,.int .i64 a1_5,.int .i64 a1_6],.string a2,.int .i64 a3,.int .i64 a4] w fun e w' => e=.returned (.int .i64 r)∧Below w.heap.size w w':=by
 have HT:=Am8_ ht_;clear ht_;have hu30:=Tryz.underlying30;have hu28:=Tryz.underlying28;have HB:=Am8_ (Below.refl w.heap.size w);have H:=h;unfold impl_CheckAssertion.f at H;clear h;replace H:=Option.bind_eq_some_iff.mp H;obtain ⟨⟨t283,t284,t285,t286⟩,A60,H⟩:=H
 try dsimp only at H
 have A6:=Am8_ A60;clear A60;have HC7:=Am8_ H;clear H
 go_enter Tryz.func11,Tryz.ntmps11
 go_upto_region 2 with (first|((with_reducible refine gate_dst (N:=6) rfl ?_);refine box_event ?hg (N:=6) ?hd (cs:=#[.string a1_0,.string a1_1,.int .i64 a1_2,.int .i64 a1_3,.bool a1_4,.int .i64 a1_5,.int .i64 a1_6]) (t:=30) ?hr ?_;(case hd => rfl);(case hg => rfl);(case hr => first|(go_simp;done)|(go_simp;rfl));intro gb282 hg w8 hbox hb;have n0_:=bs_ HB hb;have n1_:=Am8_ (hbox);have n2_:=gw_ hg HB;have n3_:=gw_ hg HB;clear HB;have HB:=n0_;have BK282:=n1_;have GW282:=n2_;have GE282:=n3_;clear n0_ n1_ n2_ n3_;clear hb hbox hg;have hcz9_0:w8.cell? ⟨gb282,0,none⟩=some (.string a1_0):=q_ BK282 0 rfl;have hcz9_1:w8.cell? ⟨gb282,1,none⟩=some (.string a1_1):=q_ BK282 1 rfl;have hcz9_2:w8.cell? ⟨gb282,2,none⟩=some (.int .i64 a1_2):=q_ BK282 2 rfl;have hcz9_3:w8.cell? ⟨gb282,3,none⟩=some (.int .i64 a1_3):=q_ BK282 3 rfl;have hcz9_4:w8.cell? ⟨gb282,4,none⟩=some (.bool a1_4):=q_ BK282 4 rfl;have hcz9_5:w8.cell? ⟨gb282,5,none⟩=some (.int .i64 a1_5):=q_ BK282 5 rfl;have hcz9_6:w8.cell? ⟨gb282,6,none⟩=some (.int .i64 a1_6):=q_ BK282 6 rfl;have hfz9_0:=blk_frozen BK282.out 0;have hfz9_1:=blk_frozen BK282.out 1;have hfz9_2:=blk_frozen BK282.out 2;have hfz9_3:=blk_frozen BK282.out 3;have hfz9_4:=blk_frozen BK282.out 4;have hfz9_5:=blk_frozen BK282.out 5;have hfz9_6:=blk_frozen BK282.out 6)|((with_reducible refine gate_callee (f:=25) rfl ?_);refine goesL_ (some 16) rfl rfl Tryz.func25 (by kernel_rfl) rfl #[.string a1_1] rfl (by (try simp only [List.map_toArray,List.map_cons,List.map_nil]);first|done|rfl|(simp only [List.length_drop,List.length_take];rfl)) ?_;(with_reducible refine (impl_ParseOrigin.calls (ht_:=Man.tab_on HT.out (xe_ HB)) k a1_1 t283 t284 t285 t286 _ A6.out).mono ?_);rintro e w10 ⟨rfl,hb⟩;refine ⟨_,rfl,?_⟩;have n0_:=bb_ BK282 hb;have n1_:=bs_ HB hb;clear BK282;clear HB;have BK282:=n0_;have HB:=n1_;clear n0_ n1_;(try clear hb);(try clear hb2);(try clear hk);(try clear hi))|((with_reducible refine gate_dst (N:=11) rfl ?_);refine box_event ?hg (N:=11) ?hd (cs:=#[.bool false,.string (⟨#[]⟩:ByteArray),.int .i64 0]) (t:=28) ?hr ?_;(case hd => rfl);(case hg => rfl);(case hr => first|(go_simp;done)|(go_simp;rfl));intro gb287 hg w11 hbox hb;have n0_:=bb_ BK282 hb;have n1_:=bs_ HB hb;have n2_:=Am8_ (hbox);have n3_:=gw_ hg HB;have n4_:=gw_ hg HB;have n5_:=ne1_ hg BK282;have n6_:=ne2_ hg BK282;clear BK282;clear HB;have BK282:=n0_;have HB:=n1_;have BK287:=n2_;have GW287:=n3_;have GE287:=n4_;have NB282_287:=n5_;have NB287_282:=n6_;clear n0_ n1_ n2_ n3_ n4_ n5_ n6_;clear hb hbox hg;have hnb12:=NB287_282.out;have hnc12:=NB282_287.out;have hcz13_0:w11.cell? ⟨gb287,0,none⟩=some (.bool false):=q_ BK287 0 rfl;have hcz13_1:w11.cell? ⟨gb287,1,none⟩=some (.string (⟨#[]⟩:ByteArray)):=q_ BK287 1 rfl;have hcz13_2:w11.cell? ⟨gb287,2,none⟩=some (.int .i64 0):=q_ BK287 2 rfl;have hfz13_0:=blk_frozen BK287.out 0;have hfz13_1:=blk_frozen BK287.out 1;have hfz13_2:=blk_frozen BK287.out 2))
 (try simp only [Act.put,Sa_,Sb_,Sc_])
 go_cut [19] (fun v19 wc => ∃ (kq:Nat) (x19_6:Bool),v19=.bool x19_6∧Aside0 (impl_CheckAssertion.j0 kq a0 a3 a4 x19_6 a1_0 a1_1 a1_2 a1_3 a1_4 a1_5 a1_6=some r)∧Aside0 (kq ≤ k)∧Aside0 (wc.heap[gb282]?=some (.cells #[.string a1_0,.string a1_1,.int .i64 a1_2,.int .i64 a1_3,.bool a1_4,.int .i64 a1_5,.int .i64 a1_6] 30 (0,0)))∧Aside0 (wc.heap[gb287]?=some (.cells #[.bool t283,.string t284,.int .i64 t285] 28 (0,0)))∧Aside0 (Below w.heap.size w wc))
 case first =>
  have H:=HC7.out;clear HC7
  by_cases c14:a1_0.toList=a2.toList
  ·rw [if_pos c14] at H
   have c14b0:(a1_0.toList == a2.toList)=true:=beq_iff_eq.mpr c14;have c14b1:(a1_0.toList != a2.toList)=false:=bne_eq_false_iff_eq.mpr c14;clear c14
   (first|rw [c14b0]|(simp only [i64_w,i32_w];rw [c14b0])|skip)
   by_cases c15:t286=true
   ·subst c15
    rw [if_pos rfl] at H
    replace H:=Option.bind_eq_some_iff.mp H;obtain ⟨t288,A160,H⟩:=H
    try dsimp only at H
    have A16:=Am8_ A160;clear A160;have H':=Am8_ H;clear H;have hnb17:=NB282_287.out;have hnc17:=NB287_282.out;have hcz18_0:w11.cell? ⟨gb282,0,none⟩=some (.string a1_0):=q_ BK282 0 rfl;have hcz18_1:w11.cell? ⟨gb282,1,none⟩=some (.string a1_1):=q_ BK282 1 rfl;have hcz18_2:w11.cell? ⟨gb282,2,none⟩=some (.int .i64 a1_2):=q_ BK282 2 rfl;have hcz18_3:w11.cell? ⟨gb282,3,none⟩=some (.int .i64 a1_3):=q_ BK282 3 rfl;have hcz18_4:w11.cell? ⟨gb282,4,none⟩=some (.bool a1_4):=q_ BK282 4 rfl;have hcz18_5:w11.cell? ⟨gb282,5,none⟩=some (.int .i64 a1_5):=q_ BK282 5 rfl;have hcz18_6:w11.cell? ⟨gb282,6,none⟩=some (.int .i64 a1_6):=q_ BK282 6 rfl;have hfz18_0:=blk_frozen BK282.out 0;have hfz18_1:=blk_frozen BK282.out 1;have hfz18_2:=blk_frozen BK282.out 2;have hfz18_3:=blk_frozen BK282.out 3;have hfz18_4:=blk_frozen BK282.out 4;have hfz18_5:=blk_frozen BK282.out 5;have hfz18_6:=blk_frozen BK282.out 6;have hcz19_0:w11.cell? ⟨gb287,0,none⟩=some (.bool false):=q_ BK287 0 rfl;have hcz19_1:w11.cell? ⟨gb287,1,none⟩=some (.string (⟨#[]⟩:ByteArray)):=q_ BK287 1 rfl;have hcz19_2:w11.cell? ⟨gb287,2,none⟩=some (.int .i64 0):=q_ BK287 2 rfl;have hfz19_0:=blk_frozen BK287.out 0;have hfz19_1:=blk_frozen BK287.out 1;have hfz19_2:=blk_frozen BK287.out 2
    go_wp2_with (first|(go_at_call 31;(with_reducible refine (impl_MayUse.calls k t283 t284 t285 a2 t288 _ A16.out).mono ?_);rintro e w20 ⟨rfl,hb⟩;have n0_:=Am8_ (blk_below (g:=gb282) (o:=.cells #[.string a1_0,.string a1_1,.int .i64 a1_2,.int .i64 a1_3,.bool a1_4,.int .i64 a1_5,.int .i64 a1_6] 30 (0,0)) (by (repeat (first|(with_reducible first|refine blk_drewN ?_ _|refine blk_drew ?_|refine blk_alloc ?_ _)|refine blk_far ?_ NB282_287.out _));exact BK282.out) hb);have n1_:=Am8_ (blk_below (g:=gb287) (o:=.cells #[.bool t283,.string t284,.int .i64 t285] 28 (0,0)) (by (with_reducible repeat (first|refine blk_drewN ?_ _|refine blk_drew ?_|refine blk_alloc ?_ _));refine blk_put (cs:=#[.bool t283,.string t284,.int .i64 0]) ?_ 2 _ rfl;(with_reducible repeat (first|refine blk_drewN ?_ _|refine blk_drew ?_|refine blk_alloc ?_ _));refine blk_put (cs:=#[.bool t283,.string (⟨#[]⟩:ByteArray),.int .i64 0]) ?_ 1 _ rfl;(with_reducible repeat (first|refine blk_drewN ?_ _|refine blk_drew ?_|refine blk_alloc ?_ _));refine blk_put (cs:=#[.bool false,.string (⟨#[]⟩:ByteArray),.int .i64 0]) ?_ 0 _ rfl;(with_reducible repeat (first|refine blk_drewN ?_ _|refine blk_drew ?_|refine blk_alloc ?_ _));exact BK287.out) hb);have n2_:=Am8_ (below_step (by repeat (first|(with_reducible first|exact HB.out|apply below_alloc|apply pw_below_drewN|apply below_drew1|refine below_set ?_ GE282.out|refine below_set ?_ GE287.out)|exact HB.out)) hb);clear BK282;clear BK287;clear HB;have BK282:=n0_;have BK287:=n1_;have HB:=n2_;clear n0_ n1_ n2_;(try clear hb);(try clear hb2);(try clear hk);(try clear hi)))
    go_meet
    case rel => exact ⟨_,(!t288),(by first|rfl|(simp;done)|(simp [*];done)),H',⟨by first|omega|exact Nat.le_refl _⟩,⟨by (with_reducible repeat (first|refine blk_drewN ?_ _|refine blk_drew ?_|refine blk_alloc ?_ _));exact BK282.out⟩,⟨by (with_reducible repeat (first|refine blk_drewN ?_ _|refine blk_drew ?_|refine blk_alloc ?_ _));exact BK287.out⟩,⟨by repeat (first|(with_reducible first|exact HB.out|apply below_alloc|apply pw_below_drewN|apply below_drew1|refine below_set ?_ GE282.out|refine below_set ?_ GE287.out)|exact HB.out)⟩⟩
   ·replace c15:=Bool.eq_false_iff.mpr c15;subst c15
    rw [if_neg (show ¬ (false=true) by decide)] at H
    have H':=Am8_ H;clear H;have hnb21:=NB282_287.out;have hnc21:=NB287_282.out;have hcz22_0:w11.cell? ⟨gb282,0,none⟩=some (.string a1_0):=q_ BK282 0 rfl;have hcz22_1:w11.cell? ⟨gb282,1,none⟩=some (.string a1_1):=q_ BK282 1 rfl;have hcz22_2:w11.cell? ⟨gb282,2,none⟩=some (.int .i64 a1_2):=q_ BK282 2 rfl;have hcz22_3:w11.cell? ⟨gb282,3,none⟩=some (.int .i64 a1_3):=q_ BK282 3 rfl;have hcz22_4:w11.cell? ⟨gb282,4,none⟩=some (.bool a1_4):=q_ BK282 4 rfl;have hcz22_5:w11.cell? ⟨gb282,5,none⟩=some (.int .i64 a1_5):=q_ BK282 5 rfl;have hcz22_6:w11.cell? ⟨gb282,6,none⟩=some (.int .i64 a1_6):=q_ BK282 6 rfl;have hfz22_0:=blk_frozen BK282.out 0;have hfz22_1:=blk_frozen BK282.out 1;have hfz22_2:=blk_frozen BK282.out 2;have hfz22_3:=blk_frozen BK282.out 3;have hfz22_4:=blk_frozen BK282.out 4;have hfz22_5:=blk_frozen BK282.out 5;have hfz22_6:=blk_frozen BK282.out 6
    go_wp2
    go_meet
    case rel => exact ⟨_,(true),(by first|rfl|(simp;done)|(simp [*];done)),H',⟨by first|omega|exact Nat.le_refl _⟩,⟨by (with_reducible repeat (first|refine blk_drewN ?_ _|refine blk_drew ?_|refine blk_alloc ?_ _));refine blk_far ?_ NB282_287.out _;(with_reducible repeat (first|refine blk_drewN ?_ _|refine blk_drew ?_|refine blk_alloc ?_ _));refine blk_far ?_ NB282_287.out _;(with_reducible repeat (first|refine blk_drewN ?_ _|refine blk_drew ?_|refine blk_alloc ?_ _));refine blk_far ?_ NB282_287.out _;(with_reducible repeat (first|refine blk_drewN ?_ _|refine blk_drew ?_|refine blk_alloc ?_ _));exact BK282.out⟩,⟨by (with_reducible repeat (first|refine blk_drewN ?_ _|refine blk_drew ?_|refine blk_alloc ?_ _));refine blk_put (cs:=#[.bool t283,.string t284,.int .i64 0]) ?_ 2 _ rfl;(with_reducible repeat (first|refine blk_drewN ?_ _|refine blk_drew ?_|refine blk_alloc ?_ _));refine blk_put (cs:=#[.bool t283,.string (⟨#[]⟩:ByteArray),.int .i64 0]) ?_ 1 _ rfl;(with_reducible repeat (first|refine blk_drewN ?_ _|refine blk_drew ?_|refine blk_alloc ?_ _));refine blk_put (cs:=#[.bool false,.string (⟨#[]⟩:ByteArray),.int .i64 0]) ?_ 0 _ rfl;(with_reducible repeat (first|refine blk_drewN ?_ _|refine blk_drew ?_|refine blk_alloc ?_ _));exact BK287.out⟩,⟨by repeat (first|(with_reducible first|exact HB.out|apply below_alloc|apply pw_below_drewN|apply below_drew1|refine below_set ?_ GE282.out|refine below_set ?_ GE287.out)|exact HB.out)⟩⟩
  ·rw [if_neg c14] at H
   have c14b0:(a1_0.toList == a2.toList)=false:=beq_eq_false_iff_ne.mpr c14;have c14b1:(a1_0.toList != a2.toList)=true:=bne_iff_ne.mpr c14
   (first|rw [c14b0]|(simp only [i64_w,i32_w];rw [c14b0])|skip)
   have H':=Am8_ H;clear H;have hnb23:=NB282_287.out;have hnc23:=NB287_282.out;have hcz24_0:w11.cell? ⟨gb282,0,none⟩=some (.string a1_0):=q_ BK282 0 rfl;have hcz24_1:w11.cell? ⟨gb282,1,none⟩=some (.string a1_1):=q_ BK282 1 rfl;have hcz24_2:w11.cell? ⟨gb282,2,none⟩=some (.int .i64 a1_2):=q_ BK282 2 rfl;have hcz24_3:w11.cell? ⟨gb282,3,none⟩=some (.int .i64 a1_3):=q_ BK282 3 rfl;have hcz24_4:w11.cell? ⟨gb282,4,none⟩=some (.bool a1_4):=q_ BK282 4 rfl;have hcz24_5:w11.cell? ⟨gb282,5,none⟩=some (.int .i64 a1_5):=q_ BK282 5 rfl;have hcz24_6:w11.cell? ⟨gb282,6,none⟩=some (.int .i64 a1_6):=q_ BK282 6 rfl;have hfz24_0:=blk_frozen BK282.out 0;have hfz24_1:=blk_frozen BK282.out 1;have hfz24_2:=blk_frozen BK282.out 2;have hfz24_3:=blk_frozen BK282.out 3;have hfz24_4:=blk_frozen BK282.out 4;have hfz24_5:=blk_frozen BK282.out 5;have hfz24_6:=blk_frozen BK282.out 6
   go_wp2
   go_meet
   case rel => exact ⟨_,(true),(by first|rfl|(simp;done)|(simp [*];done)),H',⟨by first|omega|exact Nat.le_refl _⟩,⟨by (with_reducible repeat (first|refine blk_drewN ?_ _|refine blk_drew ?_|refine blk_alloc ?_ _));refine blk_far ?_ NB282_287.out _;(with_reducible repeat (first|refine blk_drewN ?_ _|refine blk_drew ?_|refine blk_alloc ?_ _));refine blk_far ?_ NB282_287.out _;(with_reducible repeat (first|refine blk_drewN ?_ _|refine blk_drew ?_|refine blk_alloc ?_ _));refine blk_far ?_ NB282_287.out _;(with_reducible repeat (first|refine blk_drewN ?_ _|refine blk_drew ?_|refine blk_alloc ?_ _));exact BK282.out⟩,⟨by (with_reducible repeat (first|refine blk_drewN ?_ _|refine blk_drew ?_|refine blk_alloc ?_ _));refine blk_put (cs:=#[.bool t283,.string t284,.int .i64 0]) ?_ 2 _ rfl;(with_reducible repeat (first|refine blk_drewN ?_ _|refine blk_drew ?_|refine blk_alloc ?_ _));refine blk_put (cs:=#[.bool t283,.string (⟨#[]⟩:ByteArray),.int .i64 0]) ?_ 1 _ rfl;(with_reducible repeat (first|refine blk_drewN ?_ _|refine blk_drew ?_|refine blk_alloc ?_ _));refine blk_put (cs:=#[.bool false,.string (⟨#[]⟩:ByteArray),.int .i64 0]) ?_ 0 _ rfl;(with_reducible repeat (first|refine blk_drewN ?_ _|refine blk_drew ?_|refine blk_alloc ?_ _));exact BK287.out⟩,⟨by repeat (first|(with_reducible first|exact HB.out|apply below_alloc|apply pw_below_drewN|apply below_drew1|refine below_set ?_ GE282.out|refine below_set ?_ GE287.out)|exact HB.out)⟩⟩
 case rest =>
  clear HC7
  try clear c1
  try clear c2
  try clear p2
  try clear c11
  try clear c12
  try clear c14
  try clear c14b0
  try clear c14b1
  try clear c15
  try clear c17
  try clear c21
  try clear c23
  try clear hcz13_0
  try clear hcz13_1
  try clear hcz13_2
  try clear hcz18_0
  try clear hcz18_1
  try clear hcz18_2
  try clear hcz18_3
  try clear hcz18_4
  try clear hcz18_5
  try clear hcz18_6
  try clear hcz19_0
  try clear hcz19_1
  try clear hcz19_2
  try clear hcz22_0
  try clear hcz22_1
  try clear hcz22_2
  try clear hcz22_3
  try clear hcz22_4
  try clear hcz22_5
  try clear hcz22_6
  try clear hcz24_0
  try clear hcz24_1
  try clear hcz24_2
  try clear hcz24_3
  try clear hcz24_4
  try clear hcz24_5
  try clear hcz24_6
  try clear hcz9_0
  try clear hcz9_1
  try clear hcz9_2
  try clear hcz9_3
  try clear hcz9_4
  try clear hcz9_5
  try clear hcz9_6
  try clear hfz13_0
  try clear hfz13_1
  try clear hfz13_2
  try clear hfz18_0
  try clear hfz18_1
  try clear hfz18_2
  try clear hfz18_3
  try clear hfz18_4
  try clear hfz18_5
  try clear hfz18_6
  try clear hfz19_0
  try clear hfz19_1
  try clear hfz19_2
  try clear hfz22_0
  try clear hfz22_1
  try clear hfz22_2
  try clear hfz22_3
  try clear hfz22_4
  try clear hfz22_5
  try clear hfz22_6
  try clear hfz24_0
  try clear hfz24_1
  try clear hfz24_2
  try clear hfz24_3
  try clear hfz24_4
  try clear hfz24_5
  try clear hfz24_6
  try clear hfz9_0
  try clear hfz9_1
  try clear hfz9_2
  try clear hfz9_3
  try clear hfz9_4
  try clear hfz9_5
  try clear hfz9_6
  obtain ⟨kq,x19_6,rfl,HA,HJ6,BK282,BK287,HB⟩:=hcut
  cases kq with
 |zero => exact absurd HA.out (by simp [impl_CheckAssertion.j0])
 |succ kj6 =>
   have H:=HA.out;clear HA;simp only [impl_CheckAssertion.j0] at H
   by_cases c25:x19_6=true
   ·subst c25
    rw [if_pos rfl] at H
    obtain rfl:=Option.some.inj H
    go_wp2
    go_ret
    exact ⟨by first|rfl|(simp [errW_none,errW_some] <;> rfl)|(simp [*,errW_none,errW_some] <;> rfl),by repeat (first|(with_reducible first|exact HB.out|apply below_alloc|apply pw_below_drewN|apply below_drew1|refine below_set ?_ GE282.out|refine below_set ?_ GE287.out)|exact HB.out)⟩
   ·replace c25:=Bool.eq_false_iff.mpr c25;subst c25
    rw [if_neg (show ¬ (false=true) by decide)] at H
    by_cases c26:a1_4=true
    ·subst c26
     rw [if_pos rfl] at H
     by_cases c27:a1_2=a3
     ·rw [if_pos c27] at H
      have c27b0:(a1_2 == a3)=true:=beq_iff_eq.mpr c27;have c27b1:(a1_2 != a3)=false:=bne_eq_false_iff_eq.mpr c27;clear c27;replace H:=Option.bind_eq_some_iff.mp H;obtain ⟨t289,A280,H⟩:=H
      try dsimp only at H
      have A28:=Am8_ A280;clear A280;obtain ⟨y292,hy292⟩:∃ y_:List Int,y_=(([a1_5]:List Int)):=⟨_,rfl⟩;replace H:((impl_joined.f kj6 t289 (([y292]:List (List Int)))).bind fun t298 => ((impl_VerifySignature.f kj6 a0 t298 a1_6).bind fun t301 => (if t301=true then (if a1_5 ≤ a4 then (some 4) else (some 0)) else (some 5))))=some r:=by first|(rw [hy292];with_reducible exact H)|(have H2_:=(Option.bind_some _ _).symm.trans H;rw [hy292];with_reducible exact H2_)|(have H2_:=(Option.bind_some _ _).symm.trans H;with_reducible exact H2_)|with_reducible exact H|(rw [hy292];exact H)|exact H
      have Ny292:=Am8_ hy292;clear hy292;obtain ⟨y295,hy295⟩:∃ y_:List (List Int),y_=(([y292]:List (List Int))):=⟨_,rfl⟩;replace H:((impl_joined.f kj6 t289 y295).bind fun t298 => ((impl_VerifySignature.f kj6 a0 t298 a1_6).bind fun t301 => (if t301=true then (if a1_5 ≤ a4 then (some 4) else (some 0)) else (some 5))))=some r:=by first|(rw [hy295];with_reducible exact H)|(have H2_:=(Option.bind_some _ _).symm.trans H;rw [hy295];with_reducible exact H2_)|(have H2_:=(Option.bind_some _ _).symm.trans H;with_reducible exact H2_)|with_reducible exact H|(rw [hy295];exact H)|exact H
      have Ny295:=Am8_ hy295;clear hy295;replace H:=Option.bind_eq_some_iff.mp H;obtain ⟨t298,A290,H⟩:=H
      try dsimp only at H
      have A29:=Am8_ A290;clear A290;replace H:=Option.bind_eq_some_iff.mp H;obtain ⟨t301,A300,H⟩:=H
      try dsimp only at H
      have A30:=Am8_ A300;clear A300
      by_cases c31:t301=true
      ·subst c31
       rw [if_pos rfl] at H
       by_cases c32:a1_5 ≤ a4
       ·rw [if_pos c32] at H
        have c32b0:decide (a1_5 ≤ a4)=true:=decide_eq_true c32;clear c32;obtain rfl:=Option.some.inj H;have hnb33:=NB282_287.out;have hnc33:=NB287_282.out;have hcz34_0:wc.cell? ⟨gb282,0,none⟩=some (.string a1_0):=q_ BK282 0 rfl;have hcz34_1:wc.cell? ⟨gb282,1,none⟩=some (.string a1_1):=q_ BK282 1 rfl;have hcz34_2:wc.cell? ⟨gb282,2,none⟩=some (.int .i64 a1_2):=q_ BK282 2 rfl;have hcz34_3:wc.cell? ⟨gb282,3,none⟩=some (.int .i64 a1_3):=q_ BK282 3 rfl;have hcz34_4:wc.cell? ⟨gb282,4,none⟩=some (.bool true):=q_ BK282 4 rfl;have hcz34_5:wc.cell? ⟨gb282,5,none⟩=some (.int .i64 a1_5):=q_ BK282 5 rfl;have hcz34_6:wc.cell? ⟨gb282,6,none⟩=some (.int .i64 a1_6):=q_ BK282 6 rfl;have hfz34_0:=blk_frozen BK282.out 0;have hfz34_1:=blk_frozen BK282.out 1;have hfz34_2:=blk_frozen BK282.out 2;have hfz34_3:=blk_frozen BK282.out 3;have hfz34_4:=blk_frozen BK282.out 4;have hfz34_5:=blk_frozen BK282.out 5;have hfz34_6:=blk_frozen BK282.out 6
        try go_wp2
        replace BK282:=Am8_ (blk_drew BK282.out);replace BK287:=Am8_ (blk_drew BK287.out);replace HB:=Am8_ (below_drew1 HB.out);refine start_ (n:=13) (S:=fun w' => True) (ds:=[]) #[false,false,false,false,false,false,false,false,false,false,false,false,false] (by kernel_rfl) rfl rfl trivial (fun hHeld => ?_);refine with_tabW impl_CheckAssertion.tab8 impl_CheckAssertion.bits8 (fun HT_ HW_ => ?_);generalize wc.drew=w35 at BK282 BK287 HB hHeld ⊢;refine pure_ (i:=0) (N:=some 44) (v:=?_) (a':=?_) #[true,false,false,false,false,false,false,false,false,false,false,false,false] rfl rfl (any_of HT_.out (by kernel_rfl)) (fun _ _ _ h => h) (Or.inl ⟨by rfl,?_⟩) ?_ ?_;rotate_left
        ·intro w'
         go_simp
         with_reducible rfl
        rotate_left
        ·simp only [Act.put,Sa_,Sb_,Sc_,i64_w,i32_w]
         rfl
        refine pure_ (i:=3) (N:=some 47) (v:=?_) (a':=?_) #[true,false,false,true,false,false,false,false,false,false,false,false,false] rfl rfl (any_of HT_.out (by kernel_rfl)) (fun _ _ _ h => h) (Or.inl ⟨by rfl,?_⟩) ?_ ?_;rotate_left
        ·intro w'
         go_simp
         with_reducible rfl
        rotate_left
        ·simp only [Act.put,Sa_,Sb_,Sc_,i64_w,i32_w]
         rfl
        refine pure_ (i:=8) (N:=some 52) (v:=?_) (a':=?_) #[true,false,false,true,false,false,false,false,true,false,false,false,false] rfl rfl (any_of HT_.out (by kernel_rfl)) (fun _ _ _ h => h) (Or.inl ⟨by rfl,?_⟩) ?_ ?_;rotate_left
        ·intro w'
         go_simp
         with_reducible rfl
        rotate_left
        ·simp only [Act.put,Sa_,Sb_,Sc_,i64_w,i32_w]
         rfl
        refine inv_at [1,2,4,5,6,7,9,10,11,12] (fun a0_ b a w' => ∃ (v290:Value) (v293:Value) (v296:Value) (v299:Value),a=putSel a0_ b [(1,45,.agg #[.string a1_0,.string a1_1,.int .i64 a1_2,.int .i64 a1_3,.bool true,.int .i64 a1_5,.int .i64 a1_6]),(2,46,v290),(4,48,.int .i64 a1_5),(5,49,v293),(6,50,v296),(7,51,v299),(9,53,.int .i64 a1_6),(10,54,.bool true),(11,55,.bool (!true)),(12,43,.bool (!true))]∧(w'.heap[gb282]?=some (.cells #[.string a1_0,.string a1_1,.int .i64 a1_2,.int .i64 a1_3,.bool true,.int .i64 a1_5,.int .i64 a1_6] 30 (0,0)))∧(w'.heap[gb287]?=some (.cells #[.bool t283,.string t284,.int .i64 t285] 28 (0,0)))∧(Below w.heap.size w w')∧(b 2=true → Kd.R (Kd.int .i64) 3 w' w.heap.size (fun _ => True) v290 t289)∧(b 5=true → b 6=false → Kd.R (Kd.int .i64) 3 w' w.heap.size (fun _ => True) v293 y292)∧(b 6=true → Kd.N (Kd.slice 3 (Kd.int .i64)) 47 w' w.heap.size (fun k_ => k_ ≠ gb282∧k_ ≠ gb287) v296 y295)∧(b 7=true → Kd.R (Kd.int .i64) 3 w' w.heap.size (fun _ => True) v299 t298)) HT_.out HW_.out (by kernel_rfl) (by kernel_rfl) ?_ ?_ ?_
        ·exact ⟨.bool false,.bool false,.bool false,.bool false,by simp only [putSel,Bool.false_eq_true,if_false],BK282.out,BK287.out,HB.out,fun h_ => absurd h_ (by decide),fun h_ => absurd h_ (by decide),fun h_ => absurd h_ (by decide),fun h_ => absurd h_ (by decide)⟩
        ·skip
         clear BK282 BK287 HB;refine steps_cons ?_ ?_
         ·rintro b a w' ⟨v290,v293,v296,v299,ha,Q_BK282,Q_BK287,Q_HB,Q_HO291,Q_HO294,Q_HO297,Q_HO300⟩ hb_ hon hoff;refine ⟨_,rfl,fun K hK => ?_⟩;have e6:a.tmps[6]?=some (.pointer (some ⟨gb282,0,none⟩)):=by rw [ha];exact (putSel_off rfl).trans rfl
          replace ha:=Am8_ ha;have BK282:=Am8_ Q_BK282;have BK287:=Am8_ Q_BK287;have HB:=Am8_ Q_HB;have hc0_:w'.cell? ⟨gb282,0,none⟩=some (.string a1_0):=q_ BK282 0 rfl;have hc1_:w'.cell? ⟨gb282,1,none⟩=some (.string a1_1):=q_ BK282 1 rfl;have hc2_:w'.cell? ⟨gb282,2,none⟩=some (.int .i64 a1_2):=q_ BK282 2 rfl;have hc3_:w'.cell? ⟨gb282,3,none⟩=some (.int .i64 a1_3):=q_ BK282 3 rfl;have hc4_:w'.cell? ⟨gb282,4,none⟩=some (.bool true):=q_ BK282 4 rfl;have hc5_:w'.cell? ⟨gb282,5,none⟩=some (.int .i64 a1_5):=q_ BK282 5 rfl;have hc6_:w'.cell? ⟨gb282,6,none⟩=some (.int .i64 a1_6):=q_ BK282 6 rfl;refine value_ (w1:=w') (v:=.agg #[.string a1_0,.string a1_1,.int .i64 a1_2,.int .i64 a1_3,.bool true,.int .i64 a1_5,.int .i64 a1_6]) (by rfl) rfl ?_ ?_
          ·go_simp
           (try simp only [i64_w])
           try rfl
          refine hK.out _ _ ⟨v290,v293,v296,v299,(by rw [ha.out];exact putSel_upk 0 hb_ rfl rfl rfl),Q_BK282,Q_BK287,Q_HB,fun h0_ => absurd ((hoff 2 (by kernel_rfl)).symm.trans h0_) (by decide),Q_HO294,Q_HO297,fun h0_ => absurd ((hoff 7 (by kernel_rfl)).symm.trans h0_) (by decide)⟩
         refine steps_cons ?_ ?_
         ·rintro b a w' ⟨v290,v293,v296,v299,ha,Q_BK282,Q_BK287,Q_HB,Q_HO291,Q_HO294,Q_HO297,Q_HO300⟩ hb_ hon hoff;refine ⟨_,rfl,fun K hK => ?_⟩;have e45:a.tmps[45]?=some (.agg #[.string a1_0,.string a1_1,.int .i64 a1_2,.int .i64 a1_3,.bool true,.int .i64 a1_5,.int .i64 a1_6]):=by rw [ha];exact putSel_on (e:=(1,45,.agg #[.string a1_0,.string a1_1,.int .i64 a1_2,.int .i64 a1_3,.bool true,.int .i64 a1_5,.int .i64 a1_6])) 0 rfl rfl (hon 1 (by kernel_rfl)) rfl
          replace ha:=Am8_ ha;have BK282:=Am8_ Q_BK282;have BK287:=Am8_ Q_BK287;have HB:=Am8_ Q_HB;refine goes_ Tryz.func22 (by kernel_rfl) rfl #[.agg #[.string a1_0,.string a1_1,.int .i64 a1_2,.int .i64 a1_3,.bool true,.int .i64 a1_5,.int .i64 a1_6]] (by rfl) rfl rfl (by simp only [List.map_toArray,List.map_cons,List.map_nil,Act.eval,Array.getD_eq_getD_getElem?,Option.getD_some,e45] <;> rfl) ?_;with_reducible refine (impl_AssertionMessage.calls kj6 a1_0 a1_1 a1_2 a1_3 true a1_5 a1_6 t289 _ A28.out).mono ?_;rintro e w36 ⟨v290,rfl,ho0,hb⟩;refine ⟨_,rfl,?_⟩;have n0_:=Am8_ (Kd.R_lower ho0 (below_size (xe_ HB)));have n1_:=bb_ BK282 hb;have n2_:=bb_ BK287 hb;have n3_:=bs_ HB hb;have z_HO294:=fun (h0_:b 5=true) (h1_:b 6=false) => (show Kd.R (Kd.int .i64) 3 w36 w.heap.size (fun _ => True) v293 y292 from by first|exact (Kd.R_elder' (by (with_reducible repeat (first|apply Kd.R_alloc|apply Kd.R_drewN|apply Kd.R_drew));exact (Q_HO294 h0_ h1_)) (Kd.R_base ho0) hb)|exact Kd.R_mono (Kd.R_elder' (by (with_reducible repeat (first|apply Kd.R_alloc|apply Kd.R_drewN|apply Kd.R_drew));exact (Q_HO294 h0_ h1_)) (Kd.R_base ho0) hb) (fun _ h_ => by first|trivial|exact h_|exact h_.1))
          have z_HO297:=fun (h0_:b 6=true) => (show Kd.N (Kd.slice 3 (Kd.int .i64)) 47 w36 w.heap.size (fun k_ => k_ ≠ gb282∧k_ ≠ gb287) v296 y295 from by first|exact (Kd.N_elder' (by (with_reducible repeat (first|apply Kd.N_alloc|apply Kd.N_drewN|apply Kd.N_drew));exact (Q_HO297 h0_)) (Kd.R_base ho0) hb)|exact Kd.N_mono (Kd.N_elder' (by (with_reducible repeat (first|apply Kd.N_alloc|apply Kd.N_drewN|apply Kd.N_drew));exact (Q_HO297 h0_)) (Kd.R_base ho0) hb) (fun _ h_ => by first|trivial|exact h_|exact h_.1))
          clear BK282;clear BK287;clear HB;have HO291:=n0_;have BK282:=n1_;have BK287:=n2_;have HB:=n3_;clear n0_ n1_ n2_ n3_;(try clear hb);(try clear hb2);(try clear hk);(try clear hi);(try clear ho0);refine hK.out _ _ ⟨v290,v293,v296,v299,(by rw [ha.out];exact putSel_upk 1 hb_ rfl rfl rfl),(xk_ BK282),(xk_ BK287),(xe_ HB),fun _ => (by (with_reducible repeat (first|apply Kd.R_alloc|apply Kd.R_drewN|apply Kd.R_drew));exact HO291.out),z_HO294,z_HO297,fun h0_ => absurd ((hoff 7 (by kernel_rfl)).symm.trans h0_) (by decide)⟩
         refine steps_cons ?_ ?_
         ·rintro b a w' ⟨v290,v293,v296,v299,ha,Q_BK282,Q_BK287,Q_HB,Q_HO291,Q_HO294,Q_HO297,Q_HO300⟩ hb_ hon hoff;refine ⟨_,rfl,fun K hK => ?_⟩;have e47:a.tmps[47]?=some (.pointer (some ⟨gb282,5,none⟩)):=by rw [ha];exact (putSel_off rfl).trans rfl
          replace ha:=Am8_ ha;have BK282:=Am8_ Q_BK282;have BK287:=Am8_ Q_BK287;have HB:=Am8_ Q_HB;have hc0_:w'.cell? ⟨gb282,0,none⟩=some (.string a1_0):=q_ BK282 0 rfl;have hc1_:w'.cell? ⟨gb282,1,none⟩=some (.string a1_1):=q_ BK282 1 rfl;have hc2_:w'.cell? ⟨gb282,2,none⟩=some (.int .i64 a1_2):=q_ BK282 2 rfl;have hc3_:w'.cell? ⟨gb282,3,none⟩=some (.int .i64 a1_3):=q_ BK282 3 rfl;have hc4_:w'.cell? ⟨gb282,4,none⟩=some (.bool true):=q_ BK282 4 rfl;have hc5_:w'.cell? ⟨gb282,5,none⟩=some (.int .i64 a1_5):=q_ BK282 5 rfl;have hc6_:w'.cell? ⟨gb282,6,none⟩=some (.int .i64 a1_6):=q_ BK282 6 rfl;refine value_ (w1:=w') (v:=.int .i64 a1_5) (by rfl) rfl ?_ ?_
          ·go_simp
           (try simp only [i64_w])
           try rfl
          refine hK.out _ _ ⟨v290,v293,v296,v299,(by rw [ha.out];exact putSel_upk 2 hb_ rfl rfl rfl),Q_BK282,Q_BK287,Q_HB,Q_HO291,fun h0_ _ => absurd ((hoff 5 (by kernel_rfl)).symm.trans h0_) (by decide),fun h0_ => absurd ((hoff 6 (by kernel_rfl)).symm.trans h0_) (by decide),fun h0_ => absurd ((hoff 7 (by kernel_rfl)).symm.trans h0_) (by decide)⟩
         refine steps_cons ?_ ?_
         ·rintro b a w' ⟨v290,v293,v296,v299,ha,Q_BK282,Q_BK287,Q_HB,Q_HO291,Q_HO294,Q_HO297,Q_HO300⟩ hb_ hon hoff;refine ⟨_,rfl,fun K hK => ?_⟩;have e48:a.tmps[48]?=some (.int .i64 a1_5):=by rw [ha];exact putSel_on (e:=(4,48,.int .i64 a1_5)) 2 rfl rfl (hon 4 (by kernel_rfl)) rfl
          replace ha:=Am8_ ha;have BK282:=Am8_ Q_BK282;have BK287:=Am8_ Q_BK287;have HB:=Am8_ Q_HB;refine Kd.R_lit_step (Kd.int .i64) _ 3 ?hg (N:=49) ?hd (xs:=([a1_5]:List Int)) (inner:=[.int .i64 a1_5]) (ok:=fun _ => True) (okp:=fun _ => True) ?hr ?hp (fun _ hk => by first|exact hk|(revert hk;dsimp only;grind)|grind) trivial (Below.refl _ _) (Nat.le_refl _) (by simp) ?_;(case hd => rfl);(case hg => rfl);(case hr => first|(go_simp;done)|(go_simp;rfl));(case hp => exact (Reps.one (show Kd.M (Kd.int .i64) _ _ _ a1_5 [.int .i64 a1_5] from rfl) (Reps.none _ _)));intro v293 w36 ho37 hb hg_ hnew_;clear hg_ hnew_
          (first|rw [← Ny292.out] at ho37|(simp only [Int.reduceToNat] at ho37;rw [← Ny292.out] at ho37))
          have n0_:=Am8_ (Kd.R_lower ho37 (below_size (xe_ HB)));have n1_:=bb_ BK282 hb;have n2_:=bb_ BK287 hb;have n3_:=bs_ HB hb;have z_HO291:=fun (h0_:b 2=true) => (show Kd.R (Kd.int .i64) 3 w36 w.heap.size (fun _ => True) v290 t289 from by first|exact (Kd.R_elder' (by (with_reducible repeat (first|apply Kd.R_alloc|apply Kd.R_drewN|apply Kd.R_drew));exact (Q_HO291 h0_)) (Kd.R_base ho37) hb)|exact Kd.R_mono (Kd.R_elder' (by (with_reducible repeat (first|apply Kd.R_alloc|apply Kd.R_drewN|apply Kd.R_drew));exact (Q_HO291 h0_)) (Kd.R_base ho37) hb) (fun _ h_ => by first|trivial|exact h_|exact h_.1))
          clear BK282;clear BK287;clear HB;have HO294:=n0_;have BK282:=n1_;have BK287:=n2_;have HB:=n3_;clear n0_ n1_ n2_ n3_;clear hb ho37;refine hK.out _ _ ⟨v290,v293,v296,v299,(by rw [ha.out];exact putSel_upk 3 hb_ rfl rfl rfl),(xk_ BK282),(xk_ BK287),(xe_ HB),z_HO291,fun _ _ => (by (with_reducible repeat (first|apply Kd.R_alloc|apply Kd.R_drewN|apply Kd.R_drew));exact HO294.out),fun h0_ => absurd ((hoff 6 (by kernel_rfl)).symm.trans h0_) (by decide),fun h0_ => absurd ((hoff 7 (by kernel_rfl)).symm.trans h0_) (by decide)⟩
         refine steps_cons ?_ ?_
         ·rintro b a w' ⟨v290,v293,v296,v299,ha,Q_BK282,Q_BK287,Q_HB,Q_HO291,Q_HO294,Q_HO297,Q_HO300⟩ hb_ hon hoff;refine ⟨_,rfl,fun K hK => ?_⟩;have e49:a.tmps[49]?=some (v293):=by rw [ha];exact putSel_on (e:=(5,49,v293)) 3 rfl rfl (hon 5 (by kernel_rfl)) rfl
          replace ha:=Am8_ ha;have BK282:=Am8_ Q_BK282;have BK287:=Am8_ Q_BK287;have HB:=Am8_ Q_HB;have HO294:=Am8_ (Q_HO294 (hon 5 (by kernel_rfl)) hb_);obtain ⟨Ao39,co39,eo39⟩:=Kd.R_slice HO294.out
          (first|subst eo39|(injection eo39 with f1_ f2_ f3_;have f4_:=f1_.symm;have f5_:=f3_.symm;clear f1_ f2_ f3_;subst f4_;subst f5_))
          refine Kd.N_lit_step (Kd.slice 3 (Kd.int .i64)) _ 47 ?hg (N':=50) ?hd (xs:=([y292]:List (List Int))) (inner:=[.slice Ao39 y292.length co39]) (ok:=(fun k_ => k_ ≠ gb282∧k_ ≠ gb287)) (okp:=(fun k_ => k_ ≠ gb282∧k_ ≠ gb287)) ?hr ?hp (fun _ hk => by first|exact hk|(revert hk;dsimp only;grind)|grind) ((show ∀ k_,w'.heap.size ≤ k_ → (fun k_ => k_ ≠ gb282∧k_ ≠ gb287) k_ from fun k_ hk => ⟨Kd.freshB (xk_ BK282) k_ hk,Kd.freshB (xk_ BK287) k_ hk⟩) _ (Nat.le_refl _)) (Below.refl _ _) (Nat.le_refl _) (by simp) ?_;(case hd => rfl);(case hg => rfl);(case hr => first|(go_simp;done)|(go_simp;rfl));(case hp => exact (Reps.one (show Kd.FK (Kd.slice 3 (Kd.int .i64)) _ _ y292 [.slice Ao39 y292.length co39] from (Kd.FK_slice_mk (Kd.R_reads' (Kd.R_mono (ok':=(fun k_ => k_ ≠ gb282∧k_ ≠ gb287)) (Kd.R_types (Kd.R_types (HO294.out) BK282.out (by decide)) BK287.out (by decide)) (fun k_ hk => by first|exact ⟨hk.1.2,hk.2⟩|(revert hk;dsimp only;grind)|grind))).2.1 (Kd.R_F (Kd.R_mono (ok':=(fun k_ => k_ ≠ gb282∧k_ ≠ gb287)) (Kd.R_types (Kd.R_types (HO294.out) BK282.out (by decide)) BK287.out (by decide)) (fun k_ hk => by first|exact ⟨hk.1.2,hk.2⟩|(revert hk;dsimp only;grind)|grind))))) (Reps.none _ _)));intro v296 w40 ho41 hb hg_ hnew_;clear hg_ hnew_
          (first|rw [← Ny295.out] at ho41|(simp only [Int.reduceToNat] at ho41;rw [← Ny295.out] at ho41))
          have n0_:=Am8_ (Kd.N_lower ho41 (below_size (xe_ HB)));have n1_:=bb_ BK282 hb;have n2_:=bb_ BK287 hb;have n3_:=bs_ HB hb;have z_HO291:=fun (h0_:b 2=true) => (show Kd.R (Kd.int .i64) 3 w40 w.heap.size (fun _ => True) v290 t289 from by first|exact (Kd.R_below (by (with_reducible repeat (first|apply Kd.R_alloc|apply Kd.R_drewN|apply Kd.R_drew));exact (Q_HO291 h0_)) hb)|exact Kd.R_mono (Kd.R_below (by (with_reducible repeat (first|apply Kd.R_alloc|apply Kd.R_drewN|apply Kd.R_drew));exact (Q_HO291 h0_)) hb) (fun _ h_ => by first|trivial|exact h_|exact h_.1))
          clear BK282;clear BK287;clear HB;clear HO294;have HO297:=n0_;have BK282:=n1_;have BK287:=n2_;have HB:=n3_;clear n0_ n1_ n2_ n3_;clear hb ho41;refine hK.out _ _ ⟨v290,.slice Ao39 y292.length co39,v296,v299,(by rw [ha.out];exact putSel_upk 4 hb_ rfl rfl rfl),(xk_ BK282),(xk_ BK287),(xe_ HB),z_HO291,fun _ h1_ => absurd ((up_self b 6).symm.trans h1_) (by decide),fun _ => (by (with_reducible repeat (first|apply Kd.N_alloc|apply Kd.N_drewN|apply Kd.N_drew));exact HO297.out),fun h0_ => absurd ((hoff 7 (by kernel_rfl)).symm.trans h0_) (by decide)⟩
         refine steps_cons ?_ ?_
         ·rintro b a w' ⟨v290,v293,v296,v299,ha,Q_BK282,Q_BK287,Q_HB,Q_HO291,Q_HO294,Q_HO297,Q_HO300⟩ hb_ hon hoff;refine ⟨_,rfl,fun K hK => ?_⟩;have e46:a.tmps[46]?=some (v290):=by rw [ha];exact putSel_on (e:=(2,46,v290)) 1 rfl rfl (hon 2 (by kernel_rfl)) rfl
          have e50:a.tmps[50]?=some (v296):=by rw [ha];exact putSel_on (e:=(6,50,v296)) 4 rfl rfl (hon 6 (by kernel_rfl)) rfl
          replace ha:=Am8_ ha;have BK282:=Am8_ Q_BK282;have BK287:=Am8_ Q_BK287;have HB:=Am8_ Q_HB;have HO291:=Am8_ (Q_HO291 (hon 2 (by kernel_rfl)));have HO297:=Am8_ (Q_HO297 (hon 6 (by kernel_rfl)));obtain ⟨Ao43,co43,eo43⟩:=Kd.R_slice HO291.out
          (first|subst eo43|(injection eo43 with f1_ f2_ f3_;have f4_:=f1_.symm;have f5_:=f3_.symm;clear f1_ f2_ f3_;subst f4_;subst f5_))
          obtain ⟨Ao44,co44,eo44⟩:=Kd.N_slice HO297.out
          (first|subst eo44|(injection eo44 with f1_ f2_ f3_;have f4_:=f1_.symm;have f5_:=f3_.symm;clear f1_ f2_ f3_;subst f4_;subst f5_))
          refine goes_ Tryz.func42 (by kernel_rfl) rfl #[.slice Ao43 t289.length co43,.slice Ao44 y295.length co44] (by rfl) rfl rfl (by simp only [List.map_toArray,List.map_cons,List.map_nil,Act.eval,Array.getD_eq_getD_getElem?,Option.getD_some,e46,e50] <;> rfl) ?_;with_reducible refine (impl_joined.calls kj6 _ _ t289 _ _ y295 t298 _ ?side1 ?side2 ?side3 ?side4 A29.out).mono ?_
          (case side1 => repeat (first|exact (Kd.R_reads' HO291.out).2.2|(with_reducible refine Kd.C_alloc ?_ _)|(with_reducible refine Kd.C_drewN ?_ _)|(with_reducible refine Kd.C_drew ?_)))
          (case side2 => exact (Kd.R_reads' HO291.out).2.1)
          (case side3 => repeat (first|exact (Kd.N_reads' HO297.out).2.2|(with_reducible refine Kd.C_alloc ?_ _)|(with_reducible refine Kd.C_drewN ?_ _)|(with_reducible refine Kd.C_drew ?_)))
          (case side4 => exact (Kd.N_reads' HO297.out).2.1)
          rintro e w45 ⟨v299,rfl,ho0,hb⟩;refine ⟨_,rfl,?_⟩;have HO300:=Am8_ (Kd.R_lower (Kd.R_new' ho0 (Kd.R_lt (by (with_reducible repeat (first|apply Kd.R_alloc|apply Kd.R_drewN|apply Kd.R_drew));exact HO291.out))) (below_size (xe_ HB)));replace HO291:=Am8_ (Kd.R_elder' (by (with_reducible repeat (first|apply Kd.R_alloc|apply Kd.R_drewN|apply Kd.R_drew));exact HO291.out) (Kd.R_base ho0) hb);replace HO297:=Am8_ (Kd.N_elder' (by (with_reducible repeat (first|apply Kd.N_alloc|apply Kd.N_drewN|apply Kd.N_drew));exact HO297.out) (Kd.R_base ho0) hb);replace BK282:=bb_ BK282 hb;replace BK287:=bb_ BK287 hb;replace HB:=bs_ HB hb;(try clear hb);(try clear hb2);(try clear hk);(try clear hi);(try clear ho0);refine hK.out _ _ ⟨.slice Ao43 t289.length co43,v293,.slice Ao44 y295.length co44,v299,(by rw [ha.out];exact putSel_upk 5 hb_ rfl rfl rfl),(xk_ BK282),(xk_ BK287),(xe_ HB),fun _ => (by (with_reducible repeat (first|apply Kd.R_alloc|apply Kd.R_drewN|apply Kd.R_drew));exact Kd.R_mono HO291.out (fun _ hk => by first|exact hk.2|(revert hk;dsimp only;grind)|grind)),fun _ h1_ => absurd ((hon 6 (by kernel_rfl)).symm.trans h1_) (by decide),fun _ => (by (with_reducible repeat (first|apply Kd.N_alloc|apply Kd.N_drewN|apply Kd.N_drew));exact Kd.N_mono HO297.out (fun _ hk => by first|exact ⟨hk.1.1,⟨hk.2,⟨hk.1.2.1,hk.1.2.2⟩⟩⟩|(revert hk;dsimp only;grind)|grind)),fun _ => (by (with_reducible repeat (first|apply Kd.R_alloc|apply Kd.R_drewN|apply Kd.R_drew));exact Kd.R_mono HO300.out (fun _ hk => by first|exact hk.2|(revert hk;dsimp only;grind)|grind))⟩
         refine steps_cons ?_ ?_
         ·rintro b a w' ⟨v290,v293,v296,v299,ha,Q_BK282,Q_BK287,Q_HB,Q_HO291,Q_HO294,Q_HO297,Q_HO300⟩ hb_ hon hoff;refine ⟨_,rfl,fun K hK => ?_⟩;have e52:a.tmps[52]?=some (.pointer (some ⟨gb282,6,none⟩)):=by rw [ha];exact (putSel_off rfl).trans rfl
          replace ha:=Am8_ ha;have BK282:=Am8_ Q_BK282;have BK287:=Am8_ Q_BK287;have HB:=Am8_ Q_HB;have hc0_:w'.cell? ⟨gb282,0,none⟩=some (.string a1_0):=q_ BK282 0 rfl;have hc1_:w'.cell? ⟨gb282,1,none⟩=some (.string a1_1):=q_ BK282 1 rfl;have hc2_:w'.cell? ⟨gb282,2,none⟩=some (.int .i64 a1_2):=q_ BK282 2 rfl;have hc3_:w'.cell? ⟨gb282,3,none⟩=some (.int .i64 a1_3):=q_ BK282 3 rfl;have hc4_:w'.cell? ⟨gb282,4,none⟩=some (.bool true):=q_ BK282 4 rfl;have hc5_:w'.cell? ⟨gb282,5,none⟩=some (.int .i64 a1_5):=q_ BK282 5 rfl;have hc6_:w'.cell? ⟨gb282,6,none⟩=some (.int .i64 a1_6):=q_ BK282 6 rfl;refine value_ (w1:=w') (v:=.int .i64 a1_6) (by rfl) rfl ?_ ?_
          ·go_simp
           (try simp only [i64_w])
           try rfl
          refine hK.out _ _ ⟨v290,v293,v296,v299,(by rw [ha.out];exact putSel_upk 6 hb_ rfl rfl rfl),Q_BK282,Q_BK287,Q_HB,Q_HO291,Q_HO294,Q_HO297,Q_HO300⟩
         refine steps_cons ?_ ?_
         ·rintro b a w' ⟨v290,v293,v296,v299,ha,Q_BK282,Q_BK287,Q_HB,Q_HO291,Q_HO294,Q_HO297,Q_HO300⟩ hb_ hon hoff;refine ⟨_,rfl,fun K hK => ?_⟩;have e44:a.tmps[44]?=some (.int .i64 a0):=by rw [ha];exact (putSel_off rfl).trans rfl
          have e51:a.tmps[51]?=some (v299):=by rw [ha];exact putSel_on (e:=(7,51,v299)) 5 rfl rfl (hon 7 (by kernel_rfl)) rfl
          have e53:a.tmps[53]?=some (.int .i64 a1_6):=by rw [ha];exact putSel_on (e:=(9,53,.int .i64 a1_6)) 6 rfl rfl (hon 9 (by kernel_rfl)) rfl
          replace ha:=Am8_ ha;have BK282:=Am8_ Q_BK282;have BK287:=Am8_ Q_BK287;have HB:=Am8_ Q_HB;have HO291:=Am8_ (Q_HO291 (hon 2 (by kernel_rfl)));have HO297:=Am8_ (Q_HO297 (hon 6 (by kernel_rfl)));have HO300:=Am8_ (Q_HO300 (hon 7 (by kernel_rfl)));obtain ⟨Ao46,co46,eo46⟩:=Kd.R_slice HO300.out
          (first|subst eo46|(injection eo46 with f1_ f2_ f3_;have f4_:=f1_.symm;have f5_:=f3_.symm;clear f1_ f2_ f3_;subst f4_;subst f5_))
          refine goes_ Tryz.func41 (by kernel_rfl) rfl #[.int .i64 a0,.slice Ao46 t298.length co46,.int .i64 a1_6] (by rfl) rfl rfl (by simp only [List.map_toArray,List.map_cons,List.map_nil,Act.eval,Array.getD_eq_getD_getElem?,Option.getD_some,e44,e51,e53] <;> rfl) ?_;with_reducible refine (impl_VerifySignature.calls kj6 a0 _ _ t298 a1_6 true _ ?side1 ?side2 A30.out).mono ?_
          (case side1 => repeat (first|exact (Kd.R_reads' HO300.out).2.2|(with_reducible refine Kd.C_alloc ?_ _)|(with_reducible refine Kd.C_drewN ?_ _)|(with_reducible refine Kd.C_drew ?_)))
          (case side2 => exact (Kd.R_reads' HO300.out).2.1)
          rintro e w47 ⟨rfl,hb⟩;refine ⟨_,rfl,?_⟩;replace HO291:=Am8_ (Kd.R_below (by (with_reducible repeat (first|apply Kd.R_alloc|apply Kd.R_drewN|apply Kd.R_drew));exact HO291.out) hb);replace HO297:=Am8_ (Kd.N_below (by (with_reducible repeat (first|apply Kd.N_alloc|apply Kd.N_drewN|apply Kd.N_drew));exact HO297.out) hb);replace HO300:=Am8_ (Kd.R_below (by (with_reducible repeat (first|apply Kd.R_alloc|apply Kd.R_drewN|apply Kd.R_drew));exact HO300.out) hb);replace BK282:=bb_ BK282 hb;replace BK287:=bb_ BK287 hb;replace HB:=bs_ HB hb;(try clear hb);(try clear hb2);(try clear hk);(try clear hi);refine hK.out _ _ ⟨v290,v293,v296,.slice Ao46 t298.length co46,(by rw [ha.out];exact putSel_upk 7 hb_ rfl rfl rfl),(xk_ BK282),(xk_ BK287),(xe_ HB),fun _ => (by (with_reducible repeat (first|apply Kd.R_alloc|apply Kd.R_drewN|apply Kd.R_drew));exact HO291.out),fun _ h1_ => absurd ((hon 6 (by kernel_rfl)).symm.trans h1_) (by decide),fun _ => (by (with_reducible repeat (first|apply Kd.N_alloc|apply Kd.N_drewN|apply Kd.N_drew));exact HO297.out),fun _ => (by (with_reducible repeat (first|apply Kd.R_alloc|apply Kd.R_drewN|apply Kd.R_drew));exact HO300.out)⟩
         refine steps_cons ?_ ?_
         ·rintro b a w' ⟨v290,v293,v296,v299,ha,Q_BK282,Q_BK287,Q_HB,Q_HO291,Q_HO294,Q_HO297,Q_HO300⟩ hb_ hon hoff;refine ⟨_,rfl,fun K hK => ?_⟩;have e54:a.tmps[54]?=some (.bool true):=by rw [ha];exact putSel_on (e:=(10,54,.bool true)) 7 rfl rfl (hon 10 (by kernel_rfl)) rfl
          replace ha:=Am8_ ha;have BK282:=Am8_ Q_BK282;have BK287:=Am8_ Q_BK287;have HB:=Am8_ Q_HB;have HO291:=Am8_ (Q_HO291 (hon 2 (by kernel_rfl)));have HO297:=Am8_ (Q_HO297 (hon 6 (by kernel_rfl)));have HO300:=Am8_ (Q_HO300 (hon 7 (by kernel_rfl)));refine value_ (w1:=w') (v:=.bool (!true)) (by rfl) rfl ?_ ?_
          ·go_simp
           (try simp only [i64_w])
           try rfl
          refine hK.out _ _ ⟨v290,v293,v296,v299,(by rw [ha.out];exact putSel_upk 8 hb_ rfl rfl rfl),Q_BK282,Q_BK287,Q_HB,Q_HO291,fun _ h1_ => absurd ((hon 6 (by kernel_rfl)).symm.trans h1_) (by decide),Q_HO297,Q_HO300⟩
         refine steps_cons ?_ ?_
         ·rintro b a w' ⟨v290,v293,v296,v299,ha,Q_BK282,Q_BK287,Q_HB,Q_HO291,Q_HO294,Q_HO297,Q_HO300⟩ hb_ hon hoff;refine ⟨_,rfl,fun K hK => ?_⟩;have e55:a.tmps[55]?=some (.bool (!true)):=by rw [ha];exact putSel_on (e:=(11,55,.bool (!true))) 8 rfl rfl (hon 11 (by kernel_rfl)) rfl
          replace ha:=Am8_ ha;have BK282:=Am8_ Q_BK282;have BK287:=Am8_ Q_BK287;have HB:=Am8_ Q_HB;have HO291:=Am8_ (Q_HO291 (hon 2 (by kernel_rfl)));have HO297:=Am8_ (Q_HO297 (hon 6 (by kernel_rfl)));have HO300:=Am8_ (Q_HO300 (hon 7 (by kernel_rfl)));refine value_ (w1:=w') (v:=.bool (!true)) (by rfl) rfl ?_ ?_
          ·go_simp
           (try simp only [i64_w])
           try rfl
          refine hK.out _ _ ⟨v290,v293,v296,v299,(by rw [ha.out];exact putSel_upk 9 hb_ rfl rfl rfl),Q_BK282,Q_BK287,Q_HB,Q_HO291,fun _ h1_ => absurd ((hon 6 (by kernel_rfl)).symm.trans h1_) (by decide),Q_HO297,Q_HO300⟩
         exact steps_nil
        rintro b a w47 hall ⟨v290,v293,v296,v299,ha,Q_BK282,Q_BK287,Q_HB,Q_HO291,Q_HO294,Q_HO297,Q_HO300⟩;clear BK282 BK287 HB;have hb1_:=hall 1 (by kernel_rfl);have hb2_:=hall 2 (by kernel_rfl);have hb4_:=hall 4 (by kernel_rfl);have hb5_:=hall 5 (by kernel_rfl);have hb6_:=hall 6 (by kernel_rfl);have hb7_:=hall 7 (by kernel_rfl);have hb9_:=hall 9 (by kernel_rfl);have hb10_:=hall 10 (by kernel_rfl);have hb11_:=hall 11 (by kernel_rfl);have hb12_:=hall 12 (by kernel_rfl);subst ha;simp only [putSel,hb1_,hb2_,hb4_,hb5_,hb6_,hb7_,hb9_,hb10_,hb11_,hb12_,if_true,Act.put,Sa_,Sb_,Sc_];have BK282:=Am8_ Q_BK282;clear Q_BK282;have BK287:=Am8_ Q_BK287;clear Q_BK287;have HB:=Am8_ Q_HB;clear Q_HB;have HO291:=Am8_ (Q_HO291 hb2_);clear Q_HO291;clear Q_HO294;have HO297:=Am8_ (Q_HO297 hb6_);clear Q_HO297;have HO300:=Am8_ (Q_HO300 hb7_);clear Q_HO300;clear hall hb1_ hb2_ hb4_ hb5_ hb6_ hb7_ hb9_ hb10_ hb11_ hb12_;have hcz48_0:w47.cell? ⟨gb282,0,none⟩=some (.string a1_0):=q_ BK282 0 rfl;have hcz48_1:w47.cell? ⟨gb282,1,none⟩=some (.string a1_1):=q_ BK282 1 rfl;have hcz48_2:w47.cell? ⟨gb282,2,none⟩=some (.int .i64 a1_2):=q_ BK282 2 rfl;have hcz48_3:w47.cell? ⟨gb282,3,none⟩=some (.int .i64 a1_3):=q_ BK282 3 rfl;have hcz48_4:w47.cell? ⟨gb282,4,none⟩=some (.bool true):=q_ BK282 4 rfl;have hcz48_5:w47.cell? ⟨gb282,5,none⟩=some (.int .i64 a1_5):=q_ BK282 5 rfl;have hcz48_6:w47.cell? ⟨gb282,6,none⟩=some (.int .i64 a1_6):=q_ BK282 6 rfl;have hfz48_0:=blk_frozen BK282.out 0;have hfz48_1:=blk_frozen BK282.out 1;have hfz48_2:=blk_frozen BK282.out 2;have hfz48_3:=blk_frozen BK282.out 3;have hfz48_4:=blk_frozen BK282.out 4;have hfz48_5:=blk_frozen BK282.out 5;have hfz48_6:=blk_frozen BK282.out 6
        try go_wp2
        go_ret
        exact ⟨by first|rfl|(simp [errW_none,errW_some] <;> rfl)|(simp [*,errW_none,errW_some] <;> rfl),by repeat (first|(with_reducible first|exact HB.out|apply below_alloc|apply pw_below_drewN|apply below_drew1|refine below_set ?_ GE282.out|refine below_set ?_ GE287.out)|exact HB.out)⟩
       ·rw [if_neg c32] at H
        have c32b0:decide (a1_5 ≤ a4)=false:=decide_eq_false c32;clear c32;obtain rfl:=Option.some.inj H;have hnb49:=NB282_287.out;have hnc49:=NB287_282.out;have hcz50_0:wc.cell? ⟨gb282,0,none⟩=some (.string a1_0):=q_ BK282 0 rfl;have hcz50_1:wc.cell? ⟨gb282,1,none⟩=some (.string a1_1):=q_ BK282 1 rfl;have hcz50_2:wc.cell? ⟨gb282,2,none⟩=some (.int .i64 a1_2):=q_ BK282 2 rfl;have hcz50_3:wc.cell? ⟨gb282,3,none⟩=some (.int .i64 a1_3):=q_ BK282 3 rfl;have hcz50_4:wc.cell? ⟨gb282,4,none⟩=some (.bool true):=q_ BK282 4 rfl;have hcz50_5:wc.cell? ⟨gb282,5,none⟩=some (.int .i64 a1_5):=q_ BK282 5 rfl;have hcz50_6:wc.cell? ⟨gb282,6,none⟩=some (.int .i64 a1_6):=q_ BK282 6 rfl;have hfz50_0:=blk_frozen BK282.out 0;have hfz50_1:=blk_frozen BK282.out 1;have hfz50_2:=blk_frozen BK282.out 2;have hfz50_3:=blk_frozen BK282.out 3;have hfz50_4:=blk_frozen BK282.out 4;have hfz50_5:=blk_frozen BK282.out 5;have hfz50_6:=blk_frozen BK282.out 6
        try go_wp2
        replace BK282:=Am8_ (blk_drew BK282.out);replace BK287:=Am8_ (blk_drew BK287.out);replace HB:=Am8_ (below_drew1 HB.out);refine start_ (n:=13) (S:=fun w' => True) (ds:=[]) #[false,false,false,false,false,false,false,false,false,false,false,false,false] (by kernel_rfl) rfl rfl trivial (fun hHeld => ?_);refine with_tabW impl_CheckAssertion.tab8 impl_CheckAssertion.bits8 (fun HT_ HW_ => ?_);generalize wc.drew=w51 at BK282 BK287 HB hHeld ⊢;refine pure_ (i:=0) (N:=some 44) (v:=?_) (a':=?_) #[true,false,false,false,false,false,false,false,false,false,false,false,false] rfl rfl (any_of HT_.out (by kernel_rfl)) (fun _ _ _ h => h) (Or.inl ⟨by rfl,?_⟩) ?_ ?_;rotate_left
        ·intro w'
         go_simp
         with_reducible rfl
        rotate_left
        ·simp only [Act.put,Sa_,Sb_,Sc_,i64_w,i32_w]
         rfl
        refine pure_ (i:=3) (N:=some 47) (v:=?_) (a':=?_) #[true,false,false,true,false,false,false,false,false,false,false,false,false] rfl rfl (any_of HT_.out (by kernel_rfl)) (fun _ _ _ h => h) (Or.inl ⟨by rfl,?_⟩) ?_ ?_;rotate_left
        ·intro w'
         go_simp
         with_reducible rfl
        rotate_left
        ·simp only [Act.put,Sa_,Sb_,Sc_,i64_w,i32_w]
         rfl
        refine pure_ (i:=8) (N:=some 52) (v:=?_) (a':=?_) #[true,false,false,true,false,false,false,false,true,false,false,false,false] rfl rfl (any_of HT_.out (by kernel_rfl)) (fun _ _ _ h => h) (Or.inl ⟨by rfl,?_⟩) ?_ ?_;rotate_left
        ·intro w'
         go_simp
         with_reducible rfl
        rotate_left
        ·simp only [Act.put,Sa_,Sb_,Sc_,i64_w,i32_w]
         rfl
        refine inv_at [1,2,4,5,6,7,9,10,11,12] (fun a0_ b a w' => ∃ (v290:Value) (v293:Value) (v296:Value) (v299:Value),a=putSel a0_ b [(1,45,.agg #[.string a1_0,.string a1_1,.int .i64 a1_2,.int .i64 a1_3,.bool true,.int .i64 a1_5,.int .i64 a1_6]),(2,46,v290),(4,48,.int .i64 a1_5),(5,49,v293),(6,50,v296),(7,51,v299),(9,53,.int .i64 a1_6),(10,54,.bool true),(11,55,.bool (!true)),(12,43,.bool (!true))]∧(w'.heap[gb282]?=some (.cells #[.string a1_0,.string a1_1,.int .i64 a1_2,.int .i64 a1_3,.bool true,.int .i64 a1_5,.int .i64 a1_6] 30 (0,0)))∧(w'.heap[gb287]?=some (.cells #[.bool t283,.string t284,.int .i64 t285] 28 (0,0)))∧(Below w.heap.size w w')∧(b 2=true → Kd.R (Kd.int .i64) 3 w' w.heap.size (fun _ => True) v290 t289)∧(b 5=true → b 6=false → Kd.R (Kd.int .i64) 3 w' w.heap.size (fun _ => True) v293 y292)∧(b 6=true → Kd.N (Kd.slice 3 (Kd.int .i64)) 47 w' w.heap.size (fun k_ => k_ ≠ gb282∧k_ ≠ gb287) v296 y295)∧(b 7=true → Kd.R (Kd.int .i64) 3 w' w.heap.size (fun _ => True) v299 t298)) HT_.out HW_.out (by kernel_rfl) (by kernel_rfl) ?_ ?_ ?_
        ·exact ⟨.bool false,.bool false,.bool false,.bool false,by simp only [putSel,Bool.false_eq_true,if_false],BK282.out,BK287.out,HB.out,fun h_ => absurd h_ (by decide),fun h_ => absurd h_ (by decide),fun h_ => absurd h_ (by decide),fun h_ => absurd h_ (by decide)⟩
        ·skip
         clear BK282 BK287 HB;refine steps_cons ?_ ?_
         ·rintro b a w' ⟨v290,v293,v296,v299,ha,Q_BK282,Q_BK287,Q_HB,Q_HO291,Q_HO294,Q_HO297,Q_HO300⟩ hb_ hon hoff;refine ⟨_,rfl,fun K hK => ?_⟩;have e6:a.tmps[6]?=some (.pointer (some ⟨gb282,0,none⟩)):=by rw [ha];exact (putSel_off rfl).trans rfl
          replace ha:=Am8_ ha;have BK282:=Am8_ Q_BK282;have BK287:=Am8_ Q_BK287;have HB:=Am8_ Q_HB;have hc0_:w'.cell? ⟨gb282,0,none⟩=some (.string a1_0):=q_ BK282 0 rfl;have hc1_:w'.cell? ⟨gb282,1,none⟩=some (.string a1_1):=q_ BK282 1 rfl;have hc2_:w'.cell? ⟨gb282,2,none⟩=some (.int .i64 a1_2):=q_ BK282 2 rfl;have hc3_:w'.cell? ⟨gb282,3,none⟩=some (.int .i64 a1_3):=q_ BK282 3 rfl;have hc4_:w'.cell? ⟨gb282,4,none⟩=some (.bool true):=q_ BK282 4 rfl;have hc5_:w'.cell? ⟨gb282,5,none⟩=some (.int .i64 a1_5):=q_ BK282 5 rfl;have hc6_:w'.cell? ⟨gb282,6,none⟩=some (.int .i64 a1_6):=q_ BK282 6 rfl;refine value_ (w1:=w') (v:=.agg #[.string a1_0,.string a1_1,.int .i64 a1_2,.int .i64 a1_3,.bool true,.int .i64 a1_5,.int .i64 a1_6]) (by rfl) rfl ?_ ?_
          ·go_simp
           (try simp only [i64_w])
           try rfl
          refine hK.out _ _ ⟨v290,v293,v296,v299,(by rw [ha.out];exact putSel_upk 0 hb_ rfl rfl rfl),Q_BK282,Q_BK287,Q_HB,fun h0_ => absurd ((hoff 2 (by kernel_rfl)).symm.trans h0_) (by decide),Q_HO294,Q_HO297,fun h0_ => absurd ((hoff 7 (by kernel_rfl)).symm.trans h0_) (by decide)⟩
         refine steps_cons ?_ ?_
         ·rintro b a w' ⟨v290,v293,v296,v299,ha,Q_BK282,Q_BK287,Q_HB,Q_HO291,Q_HO294,Q_HO297,Q_HO300⟩ hb_ hon hoff;refine ⟨_,rfl,fun K hK => ?_⟩;have e45:a.tmps[45]?=some (.agg #[.string a1_0,.string a1_1,.int .i64 a1_2,.int .i64 a1_3,.bool true,.int .i64 a1_5,.int .i64 a1_6]):=by rw [ha];exact putSel_on (e:=(1,45,.agg #[.string a1_0,.string a1_1,.int .i64 a1_2,.int .i64 a1_3,.bool true,.int .i64 a1_5,.int .i64 a1_6])) 0 rfl rfl (hon 1 (by kernel_rfl)) rfl
          replace ha:=Am8_ ha;have BK282:=Am8_ Q_BK282;have BK287:=Am8_ Q_BK287;have HB:=Am8_ Q_HB;refine goes_ Tryz.func22 (by kernel_rfl) rfl #[.agg #[.string a1_0,.string a1_1,.int .i64 a1_2,.int .i64 a1_3,.bool true,.int .i64 a1_5,.int .i64 a1_6]] (by rfl) rfl rfl (by simp only [List.map_toArray,List.map_cons,List.map_nil,Act.eval,Array.getD_eq_getD_getElem?,Option.getD_some,e45] <;> rfl) ?_;with_reducible refine (impl_AssertionMessage.calls kj6 a1_0 a1_1 a1_2 a1_3 true a1_5 a1_6 t289 _ A28.out).mono ?_;rintro e w52 ⟨v290,rfl,ho0,hb⟩;refine ⟨_,rfl,?_⟩;have n0_:=Am8_ (Kd.R_lower ho0 (below_size (xe_ HB)));have n1_:=bb_ BK282 hb;have n2_:=bb_ BK287 hb;have n3_:=bs_ HB hb;have z_HO294:=fun (h0_:b 5=true) (h1_:b 6=false) => (show Kd.R (Kd.int .i64) 3 w52 w.heap.size (fun _ => True) v293 y292 from by first|exact (Kd.R_elder' (by (with_reducible repeat (first|apply Kd.R_alloc|apply Kd.R_drewN|apply Kd.R_drew));exact (Q_HO294 h0_ h1_)) (Kd.R_base ho0) hb)|exact Kd.R_mono (Kd.R_elder' (by (with_reducible repeat (first|apply Kd.R_alloc|apply Kd.R_drewN|apply Kd.R_drew));exact (Q_HO294 h0_ h1_)) (Kd.R_base ho0) hb) (fun _ h_ => by first|trivial|exact h_|exact h_.1))
          have z_HO297:=fun (h0_:b 6=true) => (show Kd.N (Kd.slice 3 (Kd.int .i64)) 47 w52 w.heap.size (fun k_ => k_ ≠ gb282∧k_ ≠ gb287) v296 y295 from by first|exact (Kd.N_elder' (by (with_reducible repeat (first|apply Kd.N_alloc|apply Kd.N_drewN|apply Kd.N_drew));exact (Q_HO297 h0_)) (Kd.R_base ho0) hb)|exact Kd.N_mono (Kd.N_elder' (by (with_reducible repeat (first|apply Kd.N_alloc|apply Kd.N_drewN|apply Kd.N_drew));exact (Q_HO297 h0_)) (Kd.R_base ho0) hb) (fun _ h_ => by first|trivial|exact h_|exact h_.1))
          clear BK282;clear BK287;clear HB;have HO291:=n0_;have BK282:=n1_;have BK287:=n2_;have HB:=n3_;clear n0_ n1_ n2_ n3_;(try clear hb);(try clear hb2);(try clear hk);(try clear hi);(try clear ho0);refine hK.out _ _ ⟨v290,v293,v296,v299,(by rw [ha.out];exact putSel_upk 1 hb_ rfl rfl rfl),(xk_ BK282),(xk_ BK287),(xe_ HB),fun _ => (by (with_reducible repeat (first|apply Kd.R_alloc|apply Kd.R_drewN|apply Kd.R_drew));exact HO291.out),z_HO294,z_HO297,fun h0_ => absurd ((hoff 7 (by kernel_rfl)).symm.trans h0_) (by decide)⟩
         refine steps_cons ?_ ?_
         ·rintro b a w' ⟨v290,v293,v296,v299,ha,Q_BK282,Q_BK287,Q_HB,Q_HO291,Q_HO294,Q_HO297,Q_HO300⟩ hb_ hon hoff;refine ⟨_,rfl,fun K hK => ?_⟩;have e47:a.tmps[47]?=some (.pointer (some ⟨gb282,5,none⟩)):=by rw [ha];exact (putSel_off rfl).trans rfl
          replace ha:=Am8_ ha;have BK282:=Am8_ Q_BK282;have BK287:=Am8_ Q_BK287;have HB:=Am8_ Q_HB;have hc0_:w'.cell? ⟨gb282,0,none⟩=some (.string a1_0):=q_ BK282 0 rfl;have hc1_:w'.cell? ⟨gb282,1,none⟩=some (.string a1_1):=q_ BK282 1 rfl;have hc2_:w'.cell? ⟨gb282,2,none⟩=some (.int .i64 a1_2):=q_ BK282 2 rfl;have hc3_:w'.cell? ⟨gb282,3,none⟩=some (.int .i64 a1_3):=q_ BK282 3 rfl;have hc4_:w'.cell? ⟨gb282,4,none⟩=some (.bool true):=q_ BK282 4 rfl;have hc5_:w'.cell? ⟨gb282,5,none⟩=some (.int .i64 a1_5):=q_ BK282 5 rfl;have hc6_:w'.cell? ⟨gb282,6,none⟩=some (.int .i64 a1_6):=q_ BK282 6 rfl;refine value_ (w1:=w') (v:=.int .i64 a1_5) (by rfl) rfl ?_ ?_
          ·go_simp
           (try simp only [i64_w])
           try rfl
          refine hK.out _ _ ⟨v290,v293,v296,v299,(by rw [ha.out];exact putSel_upk 2 hb_ rfl rfl rfl),Q_BK282,Q_BK287,Q_HB,Q_HO291,fun h0_ _ => absurd ((hoff 5 (by kernel_rfl)).symm.trans h0_) (by decide),fun h0_ => absurd ((hoff 6 (by kernel_rfl)).symm.trans h0_) (by decide),fun h0_ => absurd ((hoff 7 (by kernel_rfl)).symm.trans h0_) (by decide)⟩
         refine steps_cons ?_ ?_
         ·rintro b a w' ⟨v290,v293,v296,v299,ha,Q_BK282,Q_BK287,Q_HB,Q_HO291,Q_HO294,Q_HO297,Q_HO300⟩ hb_ hon hoff;refine ⟨_,rfl,fun K hK => ?_⟩;have e48:a.tmps[48]?=some (.int .i64 a1_5):=by rw [ha];exact putSel_on (e:=(4,48,.int .i64 a1_5)) 2 rfl rfl (hon 4 (by kernel_rfl)) rfl
          replace ha:=Am8_ ha;have BK282:=Am8_ Q_BK282;have BK287:=Am8_ Q_BK287;have HB:=Am8_ Q_HB;refine Kd.R_lit_step (Kd.int .i64) _ 3 ?hg (N:=49) ?hd (xs:=([a1_5]:List Int)) (inner:=[.int .i64 a1_5]) (ok:=fun _ => True) (okp:=fun _ => True) ?hr ?hp (fun _ hk => by first|exact hk|(revert hk;dsimp only;grind)|grind) trivial (Below.refl _ _) (Nat.le_refl _) (by simp) ?_;(case hd => rfl);(case hg => rfl);(case hr => first|(go_simp;done)|(go_simp;rfl));(case hp => exact (Reps.one (show Kd.M (Kd.int .i64) _ _ _ a1_5 [.int .i64 a1_5] from rfl) (Reps.none _ _)));intro v293 w52 ho53 hb hg_ hnew_;clear hg_ hnew_
          (first|rw [← Ny292.out] at ho53|(simp only [Int.reduceToNat] at ho53;rw [← Ny292.out] at ho53))
          have n0_:=Am8_ (Kd.R_lower ho53 (below_size (xe_ HB)));have n1_:=bb_ BK282 hb;have n2_:=bb_ BK287 hb;have n3_:=bs_ HB hb;have z_HO291:=fun (h0_:b 2=true) => (show Kd.R (Kd.int .i64) 3 w52 w.heap.size (fun _ => True) v290 t289 from by first|exact (Kd.R_elder' (by (with_reducible repeat (first|apply Kd.R_alloc|apply Kd.R_drewN|apply Kd.R_drew));exact (Q_HO291 h0_)) (Kd.R_base ho53) hb)|exact Kd.R_mono (Kd.R_elder' (by (with_reducible repeat (first|apply Kd.R_alloc|apply Kd.R_drewN|apply Kd.R_drew));exact (Q_HO291 h0_)) (Kd.R_base ho53) hb) (fun _ h_ => by first|trivial|exact h_|exact h_.1))
          clear BK282;clear BK287;clear HB;have HO294:=n0_;have BK282:=n1_;have BK287:=n2_;have HB:=n3_;clear n0_ n1_ n2_ n3_;clear hb ho53;refine hK.out _ _ ⟨v290,v293,v296,v299,(by rw [ha.out];exact putSel_upk 3 hb_ rfl rfl rfl),(xk_ BK282),(xk_ BK287),(xe_ HB),z_HO291,fun _ _ => (by (with_reducible repeat (first|apply Kd.R_alloc|apply Kd.R_drewN|apply Kd.R_drew));exact HO294.out),fun h0_ => absurd ((hoff 6 (by kernel_rfl)).symm.trans h0_) (by decide),fun h0_ => absurd ((hoff 7 (by kernel_rfl)).symm.trans h0_) (by decide)⟩
         refine steps_cons ?_ ?_
         ·rintro b a w' ⟨v290,v293,v296,v299,ha,Q_BK282,Q_BK287,Q_HB,Q_HO291,Q_HO294,Q_HO297,Q_HO300⟩ hb_ hon hoff;refine ⟨_,rfl,fun K hK => ?_⟩;have e49:a.tmps[49]?=some (v293):=by rw [ha];exact putSel_on (e:=(5,49,v293)) 3 rfl rfl (hon 5 (by kernel_rfl)) rfl
          replace ha:=Am8_ ha;have BK282:=Am8_ Q_BK282;have BK287:=Am8_ Q_BK287;have HB:=Am8_ Q_HB;have HO294:=Am8_ (Q_HO294 (hon 5 (by kernel_rfl)) hb_);obtain ⟨Ao55,co55,eo55⟩:=Kd.R_slice HO294.out
          (first|subst eo55|(injection eo55 with f1_ f2_ f3_;have f4_:=f1_.symm;have f5_:=f3_.symm;clear f1_ f2_ f3_;subst f4_;subst f5_))
          refine Kd.N_lit_step (Kd.slice 3 (Kd.int .i64)) _ 47 ?hg (N':=50) ?hd (xs:=([y292]:List (List Int))) (inner:=[.slice Ao55 y292.length co55]) (ok:=(fun k_ => k_ ≠ gb282∧k_ ≠ gb287)) (okp:=(fun k_ => k_ ≠ gb282∧k_ ≠ gb287)) ?hr ?hp (fun _ hk => by first|exact hk|(revert hk;dsimp only;grind)|grind) ((show ∀ k_,w'.heap.size ≤ k_ → (fun k_ => k_ ≠ gb282∧k_ ≠ gb287) k_ from fun k_ hk => ⟨Kd.freshB (xk_ BK282) k_ hk,Kd.freshB (xk_ BK287) k_ hk⟩) _ (Nat.le_refl _)) (Below.refl _ _) (Nat.le_refl _) (by simp) ?_;(case hd => rfl);(case hg => rfl);(case hr => first|(go_simp;done)|(go_simp;rfl));(case hp => exact (Reps.one (show Kd.FK (Kd.slice 3 (Kd.int .i64)) _ _ y292 [.slice Ao55 y292.length co55] from (Kd.FK_slice_mk (Kd.R_reads' (Kd.R_mono (ok':=(fun k_ => k_ ≠ gb282∧k_ ≠ gb287)) (Kd.R_types (Kd.R_types (HO294.out) BK282.out (by decide)) BK287.out (by decide)) (fun k_ hk => by first|exact ⟨hk.1.2,hk.2⟩|(revert hk;dsimp only;grind)|grind))).2.1 (Kd.R_F (Kd.R_mono (ok':=(fun k_ => k_ ≠ gb282∧k_ ≠ gb287)) (Kd.R_types (Kd.R_types (HO294.out) BK282.out (by decide)) BK287.out (by decide)) (fun k_ hk => by first|exact ⟨hk.1.2,hk.2⟩|(revert hk;dsimp only;grind)|grind))))) (Reps.none _ _)));intro v296 w56 ho57 hb hg_ hnew_;clear hg_ hnew_
          (first|rw [← Ny295.out] at ho57|(simp only [Int.reduceToNat] at ho57;rw [← Ny295.out] at ho57))
          have n0_:=Am8_ (Kd.N_lower ho57 (below_size (xe_ HB)));have n1_:=bb_ BK282 hb;have n2_:=bb_ BK287 hb;have n3_:=bs_ HB hb;have z_HO291:=fun (h0_:b 2=true) => (show Kd.R (Kd.int .i64) 3 w56 w.heap.size (fun _ => True) v290 t289 from by first|exact (Kd.R_below (by (with_reducible repeat (first|apply Kd.R_alloc|apply Kd.R_drewN|apply Kd.R_drew));exact (Q_HO291 h0_)) hb)|exact Kd.R_mono (Kd.R_below (by (with_reducible repeat (first|apply Kd.R_alloc|apply Kd.R_drewN|apply Kd.R_drew));exact (Q_HO291 h0_)) hb) (fun _ h_ => by first|trivial|exact h_|exact h_.1))
          clear BK282;clear BK287;clear HB;clear HO294;have HO297:=n0_;have BK282:=n1_;have BK287:=n2_;have HB:=n3_;clear n0_ n1_ n2_ n3_;clear hb ho57;refine hK.out _ _ ⟨v290,.slice Ao55 y292.length co55,v296,v299,(by rw [ha.out];exact putSel_upk 4 hb_ rfl rfl rfl),(xk_ BK282),(xk_ BK287),(xe_ HB),z_HO291,fun _ h1_ => absurd ((up_self b 6).symm.trans h1_) (by decide),fun _ => (by (with_reducible repeat (first|apply Kd.N_alloc|apply Kd.N_drewN|apply Kd.N_drew));exact HO297.out),fun h0_ => absurd ((hoff 7 (by kernel_rfl)).symm.trans h0_) (by decide)⟩
         refine steps_cons ?_ ?_
         ·rintro b a w' ⟨v290,v293,v296,v299,ha,Q_BK282,Q_BK287,Q_HB,Q_HO291,Q_HO294,Q_HO297,Q_HO300⟩ hb_ hon hoff;refine ⟨_,rfl,fun K hK => ?_⟩;have e46:a.tmps[46]?=some (v290):=by rw [ha];exact putSel_on (e:=(2,46,v290)) 1 rfl rfl (hon 2 (by kernel_rfl)) rfl
          have e50:a.tmps[50]?=some (v296):=by rw [ha];exact putSel_on (e:=(6,50,v296)) 4 rfl rfl (hon 6 (by kernel_rfl)) rfl
          replace ha:=Am8_ ha;have BK282:=Am8_ Q_BK282;have BK287:=Am8_ Q_BK287;have HB:=Am8_ Q_HB;have HO291:=Am8_ (Q_HO291 (hon 2 (by kernel_rfl)));have HO297:=Am8_ (Q_HO297 (hon 6 (by kernel_rfl)));obtain ⟨Ao59,co59,eo59⟩:=Kd.R_slice HO291.out
          (first|subst eo59|(injection eo59 with f1_ f2_ f3_;have f4_:=f1_.symm;have f5_:=f3_.symm;clear f1_ f2_ f3_;subst f4_;subst f5_))
          obtain ⟨Ao60,co60,eo60⟩:=Kd.N_slice HO297.out
          (first|subst eo60|(injection eo60 with f1_ f2_ f3_;have f4_:=f1_.symm;have f5_:=f3_.symm;clear f1_ f2_ f3_;subst f4_;subst f5_))
          refine goes_ Tryz.func42 (by kernel_rfl) rfl #[.slice Ao59 t289.length co59,.slice Ao60 y295.length co60] (by rfl) rfl rfl (by simp only [List.map_toArray,List.map_cons,List.map_nil,Act.eval,Array.getD_eq_getD_getElem?,Option.getD_some,e46,e50] <;> rfl) ?_;with_reducible refine (impl_joined.calls kj6 _ _ t289 _ _ y295 t298 _ ?side1 ?side2 ?side3 ?side4 A29.out).mono ?_
          (case side1 => repeat (first|exact (Kd.R_reads' HO291.out).2.2|(with_reducible refine Kd.C_alloc ?_ _)|(with_reducible refine Kd.C_drewN ?_ _)|(with_reducible refine Kd.C_drew ?_)))
          (case side2 => exact (Kd.R_reads' HO291.out).2.1)
          (case side3 => repeat (first|exact (Kd.N_reads' HO297.out).2.2|(with_reducible refine Kd.C_alloc ?_ _)|(with_reducible refine Kd.C_drewN ?_ _)|(with_reducible refine Kd.C_drew ?_)))
          (case side4 => exact (Kd.N_reads' HO297.out).2.1)
          rintro e w61 ⟨v299,rfl,ho0,hb⟩;refine ⟨_,rfl,?_⟩;have HO300:=Am8_ (Kd.R_lower (Kd.R_new' ho0 (Kd.R_lt (by (with_reducible repeat (first|apply Kd.R_alloc|apply Kd.R_drewN|apply Kd.R_drew));exact HO291.out))) (below_size (xe_ HB)));replace HO291:=Am8_ (Kd.R_elder' (by (with_reducible repeat (first|apply Kd.R_alloc|apply Kd.R_drewN|apply Kd.R_drew));exact HO291.out) (Kd.R_base ho0) hb);replace HO297:=Am8_ (Kd.N_elder' (by (with_reducible repeat (first|apply Kd.N_alloc|apply Kd.N_drewN|apply Kd.N_drew));exact HO297.out) (Kd.R_base ho0) hb);replace BK282:=bb_ BK282 hb;replace BK287:=bb_ BK287 hb;replace HB:=bs_ HB hb;(try clear hb);(try clear hb2);(try clear hk);(try clear hi);(try clear ho0);refine hK.out _ _ ⟨.slice Ao59 t289.length co59,v293,.slice Ao60 y295.length co60,v299,(by rw [ha.out];exact putSel_upk 5 hb_ rfl rfl rfl),(xk_ BK282),(xk_ BK287),(xe_ HB),fun _ => (by (with_reducible repeat (first|apply Kd.R_alloc|apply Kd.R_drewN|apply Kd.R_drew));exact Kd.R_mono HO291.out (fun _ hk => by first|exact hk.2|(revert hk;dsimp only;grind)|grind)),fun _ h1_ => absurd ((hon 6 (by kernel_rfl)).symm.trans h1_) (by decide),fun _ => (by (with_reducible repeat (first|apply Kd.N_alloc|apply Kd.N_drewN|apply Kd.N_drew));exact Kd.N_mono HO297.out (fun _ hk => by first|exact ⟨hk.1.1,⟨hk.2,⟨hk.1.2.1,hk.1.2.2⟩⟩⟩|(revert hk;dsimp only;grind)|grind)),fun _ => (by (with_reducible repeat (first|apply Kd.R_alloc|apply Kd.R_drewN|apply Kd.R_drew));exact Kd.R_mono HO300.out (fun _ hk => by first|exact hk.2|(revert hk;dsimp only;grind)|grind))⟩
         refine steps_cons ?_ ?_
         ·rintro b a w' ⟨v290,v293,v296,v299,ha,Q_BK282,Q_BK287,Q_HB,Q_HO291,Q_HO294,Q_HO297,Q_HO300⟩ hb_ hon hoff;refine ⟨_,rfl,fun K hK => ?_⟩;have e52:a.tmps[52]?=some (.pointer (some ⟨gb282,6,none⟩)):=by rw [ha];exact (putSel_off rfl).trans rfl
          replace ha:=Am8_ ha;have BK282:=Am8_ Q_BK282;have BK287:=Am8_ Q_BK287;have HB:=Am8_ Q_HB;have hc0_:w'.cell? ⟨gb282,0,none⟩=some (.string a1_0):=q_ BK282 0 rfl;have hc1_:w'.cell? ⟨gb282,1,none⟩=some (.string a1_1):=q_ BK282 1 rfl;have hc2_:w'.cell? ⟨gb282,2,none⟩=some (.int .i64 a1_2):=q_ BK282 2 rfl;have hc3_:w'.cell? ⟨gb282,3,none⟩=some (.int .i64 a1_3):=q_ BK282 3 rfl;have hc4_:w'.cell? ⟨gb282,4,none⟩=some (.bool true):=q_ BK282 4 rfl;have hc5_:w'.cell? ⟨gb282,5,none⟩=some (.int .i64 a1_5):=q_ BK282 5 rfl;have hc6_:w'.cell? ⟨gb282,6,none⟩=some (.int .i64 a1_6):=q_ BK282 6 rfl;refine value_ (w1:=w') (v:=.int .i64 a1_6) (by rfl) rfl ?_ ?_
          ·go_simp
           (try simp only [i64_w])
           try rfl
          refine hK.out _ _ ⟨v290,v293,v296,v299,(by rw [ha.out];exact putSel_upk 6 hb_ rfl rfl rfl),Q_BK282,Q_BK287,Q_HB,Q_HO291,Q_HO294,Q_HO297,Q_HO300⟩
         refine steps_cons ?_ ?_
         ·rintro b a w' ⟨v290,v293,v296,v299,ha,Q_BK282,Q_BK287,Q_HB,Q_HO291,Q_HO294,Q_HO297,Q_HO300⟩ hb_ hon hoff;refine ⟨_,rfl,fun K hK => ?_⟩;have e44:a.tmps[44]?=some (.int .i64 a0):=by rw [ha];exact (putSel_off rfl).trans rfl
          have e51:a.tmps[51]?=some (v299):=by rw [ha];exact putSel_on (e:=(7,51,v299)) 5 rfl rfl (hon 7 (by kernel_rfl)) rfl
          have e53:a.tmps[53]?=some (.int .i64 a1_6):=by rw [ha];exact putSel_on (e:=(9,53,.int .i64 a1_6)) 6 rfl rfl (hon 9 (by kernel_rfl)) rfl
          replace ha:=Am8_ ha;have BK282:=Am8_ Q_BK282;have BK287:=Am8_ Q_BK287;have HB:=Am8_ Q_HB;have HO291:=Am8_ (Q_HO291 (hon 2 (by kernel_rfl)));have HO297:=Am8_ (Q_HO297 (hon 6 (by kernel_rfl)));have HO300:=Am8_ (Q_HO300 (hon 7 (by kernel_rfl)));obtain ⟨Ao62,co62,eo62⟩:=Kd.R_slice HO300.out
          (first|subst eo62|(injection eo62 with f1_ f2_ f3_;have f4_:=f1_.symm;have f5_:=f3_.symm;clear f1_ f2_ f3_;subst f4_;subst f5_))
          refine goes_ Tryz.func41 (by kernel_rfl) rfl #[.int .i64 a0,.slice Ao62 t298.length co62,.int .i64 a1_6] (by rfl) rfl rfl (by simp only [List.map_toArray,List.map_cons,List.map_nil,Act.eval,Array.getD_eq_getD_getElem?,Option.getD_some,e44,e51,e53] <;> rfl) ?_;with_reducible refine (impl_VerifySignature.calls kj6 a0 _ _ t298 a1_6 true _ ?side1 ?side2 A30.out).mono ?_
          (case side1 => repeat (first|exact (Kd.R_reads' HO300.out).2.2|(with_reducible refine Kd.C_alloc ?_ _)|(with_reducible refine Kd.C_drewN ?_ _)|(with_reducible refine Kd.C_drew ?_)))
          (case side2 => exact (Kd.R_reads' HO300.out).2.1)
          rintro e w63 ⟨rfl,hb⟩;refine ⟨_,rfl,?_⟩;replace HO291:=Am8_ (Kd.R_below (by (with_reducible repeat (first|apply Kd.R_alloc|apply Kd.R_drewN|apply Kd.R_drew));exact HO291.out) hb);replace HO297:=Am8_ (Kd.N_below (by (with_reducible repeat (first|apply Kd.N_alloc|apply Kd.N_drewN|apply Kd.N_drew));exact HO297.out) hb);replace HO300:=Am8_ (Kd.R_below (by (with_reducible repeat (first|apply Kd.R_alloc|apply Kd.R_drewN|apply Kd.R_drew));exact HO300.out) hb);replace BK282:=bb_ BK282 hb;replace BK287:=bb_ BK287 hb;replace HB:=bs_ HB hb;(try clear hb);(try clear hb2);(try clear hk);(try clear hi);refine hK.out _ _ ⟨v290,v293,v296,.slice Ao62 t298.length co62,(by rw [ha.out];exact putSel_upk 7 hb_ rfl rfl rfl),(xk_ BK282),(xk_ BK287),(xe_ HB),fun _ => (by (with_reducible repeat (first|apply Kd.R_alloc|apply Kd.R_drewN|apply Kd.R_drew));exact HO291.out),fun _ h1_ => absurd ((hon 6 (by kernel_rfl)).symm.trans h1_) (by decide),fun _ => (by (with_reducible repeat (first|apply Kd.N_alloc|apply Kd.N_drewN|apply Kd.N_drew));exact HO297.out),fun _ => (by (with_reducible repeat (first|apply Kd.R_alloc|apply Kd.R_drewN|apply Kd.R_drew));exact HO300.out)⟩
         refine steps_cons ?_ ?_
         ·rintro b a w' ⟨v290,v293,v296,v299,ha,Q_BK282,Q_BK287,Q_HB,Q_HO291,Q_HO294,Q_HO297,Q_HO300⟩ hb_ hon hoff;refine ⟨_,rfl,fun K hK => ?_⟩;have e54:a.tmps[54]?=some (.bool true):=by rw [ha];exact putSel_on (e:=(10,54,.bool true)) 7 rfl rfl (hon 10 (by kernel_rfl)) rfl
          replace ha:=Am8_ ha;have BK282:=Am8_ Q_BK282;have BK287:=Am8_ Q_BK287;have HB:=Am8_ Q_HB;have HO291:=Am8_ (Q_HO291 (hon 2 (by kernel_rfl)));have HO297:=Am8_ (Q_HO297 (hon 6 (by kernel_rfl)));have HO300:=Am8_ (Q_HO300 (hon 7 (by kernel_rfl)));refine value_ (w1:=w') (v:=.bool (!true)) (by rfl) rfl ?_ ?_
          ·go_simp
           (try simp only [i64_w])
           try rfl
          refine hK.out _ _ ⟨v290,v293,v296,v299,(by rw [ha.out];exact putSel_upk 8 hb_ rfl rfl rfl),Q_BK282,Q_BK287,Q_HB,Q_HO291,fun _ h1_ => absurd ((hon 6 (by kernel_rfl)).symm.trans h1_) (by decide),Q_HO297,Q_HO300⟩
         refine steps_cons ?_ ?_
         ·rintro b a w' ⟨v290,v293,v296,v299,ha,Q_BK282,Q_BK287,Q_HB,Q_HO291,Q_HO294,Q_HO297,Q_HO300⟩ hb_ hon hoff;refine ⟨_,rfl,fun K hK => ?_⟩;have e55:a.tmps[55]?=some (.bool (!true)):=by rw [ha];exact putSel_on (e:=(11,55,.bool (!true))) 8 rfl rfl (hon 11 (by kernel_rfl)) rfl
          replace ha:=Am8_ ha;have BK282:=Am8_ Q_BK282;have BK287:=Am8_ Q_BK287;have HB:=Am8_ Q_HB;have HO291:=Am8_ (Q_HO291 (hon 2 (by kernel_rfl)));have HO297:=Am8_ (Q_HO297 (hon 6 (by kernel_rfl)));have HO300:=Am8_ (Q_HO300 (hon 7 (by kernel_rfl)));refine value_ (w1:=w') (v:=.bool (!true)) (by rfl) rfl ?_ ?_
          ·go_simp
           (try simp only [i64_w])
           try rfl
          refine hK.out _ _ ⟨v290,v293,v296,v299,(by rw [ha.out];exact putSel_upk 9 hb_ rfl rfl rfl),Q_BK282,Q_BK287,Q_HB,Q_HO291,fun _ h1_ => absurd ((hon 6 (by kernel_rfl)).symm.trans h1_) (by decide),Q_HO297,Q_HO300⟩
         exact steps_nil
        rintro b a w63 hall ⟨v290,v293,v296,v299,ha,Q_BK282,Q_BK287,Q_HB,Q_HO291,Q_HO294,Q_HO297,Q_HO300⟩;clear BK282 BK287 HB;have hb1_:=hall 1 (by kernel_rfl);have hb2_:=hall 2 (by kernel_rfl);have hb4_:=hall 4 (by kernel_rfl);have hb5_:=hall 5 (by kernel_rfl);have hb6_:=hall 6 (by kernel_rfl);have hb7_:=hall 7 (by kernel_rfl);have hb9_:=hall 9 (by kernel_rfl);have hb10_:=hall 10 (by kernel_rfl);have hb11_:=hall 11 (by kernel_rfl);have hb12_:=hall 12 (by kernel_rfl);subst ha;simp only [putSel,hb1_,hb2_,hb4_,hb5_,hb6_,hb7_,hb9_,hb10_,hb11_,hb12_,if_true,Act.put,Sa_,Sb_,Sc_];have BK282:=Am8_ Q_BK282;clear Q_BK282;have BK287:=Am8_ Q_BK287;clear Q_BK287;have HB:=Am8_ Q_HB;clear Q_HB;have HO291:=Am8_ (Q_HO291 hb2_);clear Q_HO291;clear Q_HO294;have HO297:=Am8_ (Q_HO297 hb6_);clear Q_HO297;have HO300:=Am8_ (Q_HO300 hb7_);clear Q_HO300;clear hall hb1_ hb2_ hb4_ hb5_ hb6_ hb7_ hb9_ hb10_ hb11_ hb12_;have hcz64_0:w63.cell? ⟨gb282,0,none⟩=some (.string a1_0):=q_ BK282 0 rfl;have hcz64_1:w63.cell? ⟨gb282,1,none⟩=some (.string a1_1):=q_ BK282 1 rfl;have hcz64_2:w63.cell? ⟨gb282,2,none⟩=some (.int .i64 a1_2):=q_ BK282 2 rfl;have hcz64_3:w63.cell? ⟨gb282,3,none⟩=some (.int .i64 a1_3):=q_ BK282 3 rfl;have hcz64_4:w63.cell? ⟨gb282,4,none⟩=some (.bool true):=q_ BK282 4 rfl;have hcz64_5:w63.cell? ⟨gb282,5,none⟩=some (.int .i64 a1_5):=q_ BK282 5 rfl;have hcz64_6:w63.cell? ⟨gb282,6,none⟩=some (.int .i64 a1_6):=q_ BK282 6 rfl;have hfz64_0:=blk_frozen BK282.out 0;have hfz64_1:=blk_frozen BK282.out 1;have hfz64_2:=blk_frozen BK282.out 2;have hfz64_3:=blk_frozen BK282.out 3;have hfz64_4:=blk_frozen BK282.out 4;have hfz64_5:=blk_frozen BK282.out 5;have hfz64_6:=blk_frozen BK282.out 6
        try go_wp2
        go_ret
        exact ⟨by first|rfl|(simp [errW_none,errW_some] <;> rfl)|(simp [*,errW_none,errW_some] <;> rfl),by repeat (first|(with_reducible first|exact HB.out|apply below_alloc|apply pw_below_drewN|apply below_drew1|refine below_set ?_ GE282.out|refine below_set ?_ GE287.out)|exact HB.out)⟩
      ·replace c31:=Bool.eq_false_iff.mpr c31;subst c31
       rw [if_neg (show ¬ (false=true) by decide)] at H
       obtain rfl:=Option.some.inj H;have hnb65:=NB282_287.out;have hnc65:=NB287_282.out;have hcz66_0:wc.cell? ⟨gb282,0,none⟩=some (.string a1_0):=q_ BK282 0 rfl;have hcz66_1:wc.cell? ⟨gb282,1,none⟩=some (.string a1_1):=q_ BK282 1 rfl;have hcz66_2:wc.cell? ⟨gb282,2,none⟩=some (.int .i64 a1_2):=q_ BK282 2 rfl;have hcz66_3:wc.cell? ⟨gb282,3,none⟩=some (.int .i64 a1_3):=q_ BK282 3 rfl;have hcz66_4:wc.cell? ⟨gb282,4,none⟩=some (.bool true):=q_ BK282 4 rfl;have hcz66_5:wc.cell? ⟨gb282,5,none⟩=some (.int .i64 a1_5):=q_ BK282 5 rfl;have hcz66_6:wc.cell? ⟨gb282,6,none⟩=some (.int .i64 a1_6):=q_ BK282 6 rfl;have hfz66_0:=blk_frozen BK282.out 0;have hfz66_1:=blk_frozen BK282.out 1;have hfz66_2:=blk_frozen BK282.out 2;have hfz66_3:=blk_frozen BK282.out 3;have hfz66_4:=blk_frozen BK282.out 4;have hfz66_5:=blk_frozen BK282.out 5;have hfz66_6:=blk_frozen BK282.out 6
       try go_wp2
       replace BK282:=Am8_ (blk_drew BK282.out);replace BK287:=Am8_ (blk_drew BK287.out);replace HB:=Am8_ (below_drew1 HB.out);refine start_ (n:=13) (S:=fun w' => True) (ds:=[]) #[false,false,false,false,false,false,false,false,false,false,false,false,false] (by kernel_rfl) rfl rfl trivial (fun hHeld => ?_);refine with_tabW impl_CheckAssertion.tab8 impl_CheckAssertion.bits8 (fun HT_ HW_ => ?_);generalize wc.drew=w67 at BK282 BK287 HB hHeld ⊢;refine pure_ (i:=0) (N:=some 44) (v:=?_) (a':=?_) #[true,false,false,false,false,false,false,false,false,false,false,false,false] rfl rfl (any_of HT_.out (by kernel_rfl)) (fun _ _ _ h => h) (Or.inl ⟨by rfl,?_⟩) ?_ ?_;rotate_left
       ·intro w'
        go_simp
        with_reducible rfl
       rotate_left
       ·simp only [Act.put,Sa_,Sb_,Sc_,i64_w,i32_w]
        rfl
       refine pure_ (i:=3) (N:=some 47) (v:=?_) (a':=?_) #[true,false,false,true,false,false,false,false,false,false,false,false,false] rfl rfl (any_of HT_.out (by kernel_rfl)) (fun _ _ _ h => h) (Or.inl ⟨by rfl,?_⟩) ?_ ?_;rotate_left
       ·intro w'
        go_simp
        with_reducible rfl
       rotate_left
       ·simp only [Act.put,Sa_,Sb_,Sc_,i64_w,i32_w]
        rfl
       refine pure_ (i:=8) (N:=some 52) (v:=?_) (a':=?_) #[true,false,false,true,false,false,false,false,true,false,false,false,false] rfl rfl (any_of HT_.out (by kernel_rfl)) (fun _ _ _ h => h) (Or.inl ⟨by rfl,?_⟩) ?_ ?_;rotate_left
       ·intro w'
        go_simp
        with_reducible rfl
       rotate_left
       ·simp only [Act.put,Sa_,Sb_,Sc_,i64_w,i32_w]
        rfl
       refine inv_at [1,2,4,5,6,7,9,10,11,12] (fun a0_ b a w' => ∃ (v290:Value) (v293:Value) (v296:Value) (v299:Value),a=putSel a0_ b [(1,45,.agg #[.string a1_0,.string a1_1,.int .i64 a1_2,.int .i64 a1_3,.bool true,.int .i64 a1_5,.int .i64 a1_6]),(2,46,v290),(4,48,.int .i64 a1_5),(5,49,v293),(6,50,v296),(7,51,v299),(9,53,.int .i64 a1_6),(10,54,.bool false),(11,55,.bool (!false)),(12,43,.bool (!false))]∧(w'.heap[gb282]?=some (.cells #[.string a1_0,.string a1_1,.int .i64 a1_2,.int .i64 a1_3,.bool true,.int .i64 a1_5,.int .i64 a1_6] 30 (0,0)))∧(w'.heap[gb287]?=some (.cells #[.bool t283,.string t284,.int .i64 t285] 28 (0,0)))∧(Below w.heap.size w w')∧(b 2=true → Kd.R (Kd.int .i64) 3 w' w.heap.size (fun _ => True) v290 t289)∧(b 5=true → b 6=false → Kd.R (Kd.int .i64) 3 w' w.heap.size (fun _ => True) v293 y292)∧(b 6=true → Kd.N (Kd.slice 3 (Kd.int .i64)) 47 w' w.heap.size (fun k_ => k_ ≠ gb282∧k_ ≠ gb287) v296 y295)∧(b 7=true → Kd.R (Kd.int .i64) 3 w' w.heap.size (fun _ => True) v299 t298)) HT_.out HW_.out (by kernel_rfl) (by kernel_rfl) ?_ ?_ ?_
       ·exact ⟨.bool false,.bool false,.bool false,.bool false,by simp only [putSel,Bool.false_eq_true,if_false],BK282.out,BK287.out,HB.out,fun h_ => absurd h_ (by decide),fun h_ => absurd h_ (by decide),fun h_ => absurd h_ (by decide),fun h_ => absurd h_ (by decide)⟩
       ·skip
        clear BK282 BK287 HB;refine steps_cons ?_ ?_
        ·rintro b a w' ⟨v290,v293,v296,v299,ha,Q_BK282,Q_BK287,Q_HB,Q_HO291,Q_HO294,Q_HO297,Q_HO300⟩ hb_ hon hoff;refine ⟨_,rfl,fun K hK => ?_⟩;have e6:a.tmps[6]?=some (.pointer (some ⟨gb282,0,none⟩)):=by rw [ha];exact (putSel_off rfl).trans rfl
         replace ha:=Am8_ ha;have BK282:=Am8_ Q_BK282;have BK287:=Am8_ Q_BK287;have HB:=Am8_ Q_HB;have hc0_:w'.cell? ⟨gb282,0,none⟩=some (.string a1_0):=q_ BK282 0 rfl;have hc1_:w'.cell? ⟨gb282,1,none⟩=some (.string a1_1):=q_ BK282 1 rfl;have hc2_:w'.cell? ⟨gb282,2,none⟩=some (.int .i64 a1_2):=q_ BK282 2 rfl;have hc3_:w'.cell? ⟨gb282,3,none⟩=some (.int .i64 a1_3):=q_ BK282 3 rfl;have hc4_:w'.cell? ⟨gb282,4,none⟩=some (.bool true):=q_ BK282 4 rfl;have hc5_:w'.cell? ⟨gb282,5,none⟩=some (.int .i64 a1_5):=q_ BK282 5 rfl;have hc6_:w'.cell? ⟨gb282,6,none⟩=some (.int .i64 a1_6):=q_ BK282 6 rfl;refine value_ (w1:=w') (v:=.agg #[.string a1_0,.string a1_1,.int .i64 a1_2,.int .i64 a1_3,.bool true,.int .i64 a1_5,.int .i64 a1_6]) (by rfl) rfl ?_ ?_
         ·go_simp
          (try simp only [i64_w])
          try rfl
         refine hK.out _ _ ⟨v290,v293,v296,v299,(by rw [ha.out];exact putSel_upk 0 hb_ rfl rfl rfl),Q_BK282,Q_BK287,Q_HB,fun h0_ => absurd ((hoff 2 (by kernel_rfl)).symm.trans h0_) (by decide),Q_HO294,Q_HO297,fun h0_ => absurd ((hoff 7 (by kernel_rfl)).symm.trans h0_) (by decide)⟩
        refine steps_cons ?_ ?_
        ·rintro b a w' ⟨v290,v293,v296,v299,ha,Q_BK282,Q_BK287,Q_HB,Q_HO291,Q_HO294,Q_HO297,Q_HO300⟩ hb_ hon hoff;refine ⟨_,rfl,fun K hK => ?_⟩;have e45:a.tmps[45]?=some (.agg #[.string a1_0,.string a1_1,.int .i64 a1_2,.int .i64 a1_3,.bool true,.int .i64 a1_5,.int .i64 a1_6]):=by rw [ha];exact putSel_on (e:=(1,45,.agg #[.string a1_0,.string a1_1,.int .i64 a1_2,.int .i64 a1_3,.bool true,.int .i64 a1_5,.int .i64 a1_6])) 0 rfl rfl (hon 1 (by kernel_rfl)) rfl
         replace ha:=Am8_ ha;have BK282:=Am8_ Q_BK282;have BK287:=Am8_ Q_BK287;have HB:=Am8_ Q_HB;refine goes_ Tryz.func22 (by kernel_rfl) rfl #[.agg #[.string a1_0,.string a1_1,.int .i64 a1_2,.int .i64 a1_3,.bool true,.int .i64 a1_5,.int .i64 a1_6]] (by rfl) rfl rfl (by simp only [List.map_toArray,List.map_cons,List.map_nil,Act.eval,Array.getD_eq_getD_getElem?,Option.getD_some,e45] <;> rfl) ?_;with_reducible refine (impl_AssertionMessage.calls kj6 a1_0 a1_1 a1_2 a1_3 true a1_5 a1_6 t289 _ A28.out).mono ?_;rintro e w68 ⟨v290,rfl,ho0,hb⟩;refine ⟨_,rfl,?_⟩;have n0_:=Am8_ (Kd.R_lower ho0 (below_size (xe_ HB)));have n1_:=bb_ BK282 hb;have n2_:=bb_ BK287 hb;have n3_:=bs_ HB hb;have z_HO294:=fun (h0_:b 5=true) (h1_:b 6=false) => (show Kd.R (Kd.int .i64) 3 w68 w.heap.size (fun _ => True) v293 y292 from by first|exact (Kd.R_elder' (by (with_reducible repeat (first|apply Kd.R_alloc|apply Kd.R_drewN|apply Kd.R_drew));exact (Q_HO294 h0_ h1_)) (Kd.R_base ho0) hb)|exact Kd.R_mono (Kd.R_elder' (by (with_reducible repeat (first|apply Kd.R_alloc|apply Kd.R_drewN|apply Kd.R_drew));exact (Q_HO294 h0_ h1_)) (Kd.R_base ho0) hb) (fun _ h_ => by first|trivial|exact h_|exact h_.1))
         have z_HO297:=fun (h0_:b 6=true) => (show Kd.N (Kd.slice 3 (Kd.int .i64)) 47 w68 w.heap.size (fun k_ => k_ ≠ gb282∧k_ ≠ gb287) v296 y295 from by first|exact (Kd.N_elder' (by (with_reducible repeat (first|apply Kd.N_alloc|apply Kd.N_drewN|apply Kd.N_drew));exact (Q_HO297 h0_)) (Kd.R_base ho0) hb)|exact Kd.N_mono (Kd.N_elder' (by (with_reducible repeat (first|apply Kd.N_alloc|apply Kd.N_drewN|apply Kd.N_drew));exact (Q_HO297 h0_)) (Kd.R_base ho0) hb) (fun _ h_ => by first|trivial|exact h_|exact h_.1))
         clear BK282;clear BK287;clear HB;have HO291:=n0_;have BK282:=n1_;have BK287:=n2_;have HB:=n3_;clear n0_ n1_ n2_ n3_;(try clear hb);(try clear hb2);(try clear hk);(try clear hi);(try clear ho0);refine hK.out _ _ ⟨v290,v293,v296,v299,(by rw [ha.out];exact putSel_upk 1 hb_ rfl rfl rfl),(xk_ BK282),(xk_ BK287),(xe_ HB),fun _ => (by (with_reducible repeat (first|apply Kd.R_alloc|apply Kd.R_drewN|apply Kd.R_drew));exact HO291.out),z_HO294,z_HO297,fun h0_ => absurd ((hoff 7 (by kernel_rfl)).symm.trans h0_) (by decide)⟩
        refine steps_cons ?_ ?_
        ·rintro b a w' ⟨v290,v293,v296,v299,ha,Q_BK282,Q_BK287,Q_HB,Q_HO291,Q_HO294,Q_HO297,Q_HO300⟩ hb_ hon hoff;refine ⟨_,rfl,fun K hK => ?_⟩;have e47:a.tmps[47]?=some (.pointer (some ⟨gb282,5,none⟩)):=by rw [ha];exact (putSel_off rfl).trans rfl
         replace ha:=Am8_ ha;have BK282:=Am8_ Q_BK282;have BK287:=Am8_ Q_BK287;have HB:=Am8_ Q_HB;have hc0_:w'.cell? ⟨gb282,0,none⟩=some (.string a1_0):=q_ BK282 0 rfl;have hc1_:w'.cell? ⟨gb282,1,none⟩=some (.string a1_1):=q_ BK282 1 rfl;have hc2_:w'.cell? ⟨gb282,2,none⟩=some (.int .i64 a1_2):=q_ BK282 2 rfl;have hc3_:w'.cell? ⟨gb282,3,none⟩=some (.int .i64 a1_3):=q_ BK282 3 rfl;have hc4_:w'.cell? ⟨gb282,4,none⟩=some (.bool true):=q_ BK282 4 rfl;have hc5_:w'.cell? ⟨gb282,5,none⟩=some (.int .i64 a1_5):=q_ BK282 5 rfl;have hc6_:w'.cell? ⟨gb282,6,none⟩=some (.int .i64 a1_6):=q_ BK282 6 rfl;refine value_ (w1:=w') (v:=.int .i64 a1_5) (by rfl) rfl ?_ ?_
         ·go_simp
          (try simp only [i64_w])
          try rfl
         refine hK.out _ _ ⟨v290,v293,v296,v299,(by rw [ha.out];exact putSel_upk 2 hb_ rfl rfl rfl),Q_BK282,Q_BK287,Q_HB,Q_HO291,fun h0_ _ => absurd ((hoff 5 (by kernel_rfl)).symm.trans h0_) (by decide),fun h0_ => absurd ((hoff 6 (by kernel_rfl)).symm.trans h0_) (by decide),fun h0_ => absurd ((hoff 7 (by kernel_rfl)).symm.trans h0_) (by decide)⟩
        refine steps_cons ?_ ?_
        ·rintro b a w' ⟨v290,v293,v296,v299,ha,Q_BK282,Q_BK287,Q_HB,Q_HO291,Q_HO294,Q_HO297,Q_HO300⟩ hb_ hon hoff;refine ⟨_,rfl,fun K hK => ?_⟩;have e48:a.tmps[48]?=some (.int .i64 a1_5):=by rw [ha];exact putSel_on (e:=(4,48,.int .i64 a1_5)) 2 rfl rfl (hon 4 (by kernel_rfl)) rfl
         replace ha:=Am8_ ha;have BK282:=Am8_ Q_BK282;have BK287:=Am8_ Q_BK287;have HB:=Am8_ Q_HB;refine Kd.R_lit_step (Kd.int .i64) _ 3 ?hg (N:=49) ?hd (xs:=([a1_5]:List Int)) (inner:=[.int .i64 a1_5]) (ok:=fun _ => True) (okp:=fun _ => True) ?hr ?hp (fun _ hk => by first|exact hk|(revert hk;dsimp only;grind)|grind) trivial (Below.refl _ _) (Nat.le_refl _) (by simp) ?_;(case hd => rfl);(case hg => rfl);(case hr => first|(go_simp;done)|(go_simp;rfl));(case hp => exact (Reps.one (show Kd.M (Kd.int .i64) _ _ _ a1_5 [.int .i64 a1_5] from rfl) (Reps.none _ _)));intro v293 w68 ho69 hb hg_ hnew_;clear hg_ hnew_
         (first|rw [← Ny292.out] at ho69|(simp only [Int.reduceToNat] at ho69;rw [← Ny292.out] at ho69))
         have n0_:=Am8_ (Kd.R_lower ho69 (below_size (xe_ HB)));have n1_:=bb_ BK282 hb;have n2_:=bb_ BK287 hb;have n3_:=bs_ HB hb;have z_HO291:=fun (h0_:b 2=true) => (show Kd.R (Kd.int .i64) 3 w68 w.heap.size (fun _ => True) v290 t289 from by first|exact (Kd.R_elder' (by (with_reducible repeat (first|apply Kd.R_alloc|apply Kd.R_drewN|apply Kd.R_drew));exact (Q_HO291 h0_)) (Kd.R_base ho69) hb)|exact Kd.R_mono (Kd.R_elder' (by (with_reducible repeat (first|apply Kd.R_alloc|apply Kd.R_drewN|apply Kd.R_drew));exact (Q_HO291 h0_)) (Kd.R_base ho69) hb) (fun _ h_ => by first|trivial|exact h_|exact h_.1))
         clear BK282;clear BK287;clear HB;have HO294:=n0_;have BK282:=n1_;have BK287:=n2_;have HB:=n3_;clear n0_ n1_ n2_ n3_;clear hb ho69;refine hK.out _ _ ⟨v290,v293,v296,v299,(by rw [ha.out];exact putSel_upk 3 hb_ rfl rfl rfl),(xk_ BK282),(xk_ BK287),(xe_ HB),z_HO291,fun _ _ => (by (with_reducible repeat (first|apply Kd.R_alloc|apply Kd.R_drewN|apply Kd.R_drew));exact HO294.out),fun h0_ => absurd ((hoff 6 (by kernel_rfl)).symm.trans h0_) (by decide),fun h0_ => absurd ((hoff 7 (by kernel_rfl)).symm.trans h0_) (by decide)⟩
        refine steps_cons ?_ ?_
        ·rintro b a w' ⟨v290,v293,v296,v299,ha,Q_BK282,Q_BK287,Q_HB,Q_HO291,Q_HO294,Q_HO297,Q_HO300⟩ hb_ hon hoff;refine ⟨_,rfl,fun K hK => ?_⟩;have e49:a.tmps[49]?=some (v293):=by rw [ha];exact putSel_on (e:=(5,49,v293)) 3 rfl rfl (hon 5 (by kernel_rfl)) rfl
         replace ha:=Am8_ ha;have BK282:=Am8_ Q_BK282;have BK287:=Am8_ Q_BK287;have HB:=Am8_ Q_HB;have HO294:=Am8_ (Q_HO294 (hon 5 (by kernel_rfl)) hb_);obtain ⟨Ao71,co71,eo71⟩:=Kd.R_slice HO294.out
         (first|subst eo71|(injection eo71 with f1_ f2_ f3_;have f4_:=f1_.symm;have f5_:=f3_.symm;clear f1_ f2_ f3_;subst f4_;subst f5_))
         refine Kd.N_lit_step (Kd.slice 3 (Kd.int .i64)) _ 47 ?hg (N':=50) ?hd (xs:=([y292]:List (List Int))) (inner:=[.slice Ao71 y292.length co71]) (ok:=(fun k_ => k_ ≠ gb282∧k_ ≠ gb287)) (okp:=(fun k_ => k_ ≠ gb282∧k_ ≠ gb287)) ?hr ?hp (fun _ hk => by first|exact hk|(revert hk;dsimp only;grind)|grind) ((show ∀ k_,w'.heap.size ≤ k_ → (fun k_ => k_ ≠ gb282∧k_ ≠ gb287) k_ from fun k_ hk => ⟨Kd.freshB (xk_ BK282) k_ hk,Kd.freshB (xk_ BK287) k_ hk⟩) _ (Nat.le_refl _)) (Below.refl _ _) (Nat.le_refl _) (by simp) ?_;(case hd => rfl);(case hg => rfl);(case hr => first|(go_simp;done)|(go_simp;rfl));(case hp => exact (Reps.one (show Kd.FK (Kd.slice 3 (Kd.int .i64)) _ _ y292 [.slice Ao71 y292.length co71] from (Kd.FK_slice_mk (Kd.R_reads' (Kd.R_mono (ok':=(fun k_ => k_ ≠ gb282∧k_ ≠ gb287)) (Kd.R_types (Kd.R_types (HO294.out) BK282.out (by decide)) BK287.out (by decide)) (fun k_ hk => by first|exact ⟨hk.1.2,hk.2⟩|(revert hk;dsimp only;grind)|grind))).2.1 (Kd.R_F (Kd.R_mono (ok':=(fun k_ => k_ ≠ gb282∧k_ ≠ gb287)) (Kd.R_types (Kd.R_types (HO294.out) BK282.out (by decide)) BK287.out (by decide)) (fun k_ hk => by first|exact ⟨hk.1.2,hk.2⟩|(revert hk;dsimp only;grind)|grind))))) (Reps.none _ _)));intro v296 w72 ho73 hb hg_ hnew_;clear hg_ hnew_
         (first|rw [← Ny295.out] at ho73|(simp only [Int.reduceToNat] at ho73;rw [← Ny295.out] at ho73))
         have n0_:=Am8_ (Kd.N_lower ho73 (below_size (xe_ HB)));have n1_:=bb_ BK282 hb;have n2_:=bb_ BK287 hb;have n3_:=bs_ HB hb;have z_HO291:=fun (h0_:b 2=true) => (show Kd.R (Kd.int .i64) 3 w72 w.heap.size (fun _ => True) v290 t289 from by first|exact (Kd.R_below (by (with_reducible repeat (first|apply Kd.R_alloc|apply Kd.R_drewN|apply Kd.R_drew));exact (Q_HO291 h0_)) hb)|exact Kd.R_mono (Kd.R_below (by (with_reducible repeat (first|apply Kd.R_alloc|apply Kd.R_drewN|apply Kd.R_drew));exact (Q_HO291 h0_)) hb) (fun _ h_ => by first|trivial|exact h_|exact h_.1))
         clear BK282;clear BK287;clear HB;clear HO294;have HO297:=n0_;have BK282:=n1_;have BK287:=n2_;have HB:=n3_;clear n0_ n1_ n2_ n3_;clear hb ho73;refine hK.out _ _ ⟨v290,.slice Ao71 y292.length co71,v296,v299,(by rw [ha.out];exact putSel_upk 4 hb_ rfl rfl rfl),(xk_ BK282),(xk_ BK287),(xe_ HB),z_HO291,fun _ h1_ => absurd ((up_self b 6).symm.trans h1_) (by decide),fun _ => (by (with_reducible repeat (first|apply Kd.N_alloc|apply Kd.N_drewN|apply Kd.N_drew));exact HO297.out),fun h0_ => absurd ((hoff 7 (by kernel_rfl)).symm.trans h0_) (by decide)⟩
        refine steps_cons ?_ ?_
        ·rintro b a w' ⟨v290,v293,v296,v299,ha,Q_BK282,Q_BK287,Q_HB,Q_HO291,Q_HO294,Q_HO297,Q_HO300⟩ hb_ hon hoff;refine ⟨_,rfl,fun K hK => ?_⟩;have e46:a.tmps[46]?=some (v290):=by rw [ha];exact putSel_on (e:=(2,46,v290)) 1 rfl rfl (hon 2 (by kernel_rfl)) rfl
         have e50:a.tmps[50]?=some (v296):=by rw [ha];exact putSel_on (e:=(6,50,v296)) 4 rfl rfl (hon 6 (by kernel_rfl)) rfl
         replace ha:=Am8_ ha;have BK282:=Am8_ Q_BK282;have BK287:=Am8_ Q_BK287;have HB:=Am8_ Q_HB;have HO291:=Am8_ (Q_HO291 (hon 2 (by kernel_rfl)));have HO297:=Am8_ (Q_HO297 (hon 6 (by kernel_rfl)));obtain ⟨Ao75,co75,eo75⟩:=Kd.R_slice HO291.out
         (first|subst eo75|(injection eo75 with f1_ f2_ f3_;have f4_:=f1_.symm;have f5_:=f3_.symm;clear f1_ f2_ f3_;subst f4_;subst f5_))
         obtain ⟨Ao76,co76,eo76⟩:=Kd.N_slice HO297.out
         (first|subst eo76|(injection eo76 with f1_ f2_ f3_;have f4_:=f1_.symm;have f5_:=f3_.symm;clear f1_ f2_ f3_;subst f4_;subst f5_))
         refine goes_ Tryz.func42 (by kernel_rfl) rfl #[.slice Ao75 t289.length co75,.slice Ao76 y295.length co76] (by rfl) rfl rfl (by simp only [List.map_toArray,List.map_cons,List.map_nil,Act.eval,Array.getD_eq_getD_getElem?,Option.getD_some,e46,e50] <;> rfl) ?_;with_reducible refine (impl_joined.calls kj6 _ _ t289 _ _ y295 t298 _ ?side1 ?side2 ?side3 ?side4 A29.out).mono ?_
         (case side1 => repeat (first|exact (Kd.R_reads' HO291.out).2.2|(with_reducible refine Kd.C_alloc ?_ _)|(with_reducible refine Kd.C_drewN ?_ _)|(with_reducible refine Kd.C_drew ?_)))
         (case side2 => exact (Kd.R_reads' HO291.out).2.1)
         (case side3 => repeat (first|exact (Kd.N_reads' HO297.out).2.2|(with_reducible refine Kd.C_alloc ?_ _)|(with_reducible refine Kd.C_drewN ?_ _)|(with_reducible refine Kd.C_drew ?_)))
         (case side4 => exact (Kd.N_reads' HO297.out).2.1)
         rintro e w77 ⟨v299,rfl,ho0,hb⟩;refine ⟨_,rfl,?_⟩;have HO300:=Am8_ (Kd.R_lower (Kd.R_new' ho0 (Kd.R_lt (by (with_reducible repeat (first|apply Kd.R_alloc|apply Kd.R_drewN|apply Kd.R_drew));exact HO291.out))) (below_size (xe_ HB)));replace HO291:=Am8_ (Kd.R_elder' (by (with_reducible repeat (first|apply Kd.R_alloc|apply Kd.R_drewN|apply Kd.R_drew));exact HO291.out) (Kd.R_base ho0) hb);replace HO297:=Am8_ (Kd.N_elder' (by (with_reducible repeat (first|apply Kd.N_alloc|apply Kd.N_drewN|apply Kd.N_drew));exact HO297.out) (Kd.R_base ho0) hb);replace BK282:=bb_ BK282 hb;replace BK287:=bb_ BK287 hb;replace HB:=bs_ HB hb;(try clear hb);(try clear hb2);(try clear hk);(try clear hi);(try clear ho0);refine hK.out _ _ ⟨.slice Ao75 t289.length co75,v293,.slice Ao76 y295.length co76,v299,(by rw [ha.out];exact putSel_upk 5 hb_ rfl rfl rfl),(xk_ BK282),(xk_ BK287),(xe_ HB),fun _ => (by (with_reducible repeat (first|apply Kd.R_alloc|apply Kd.R_drewN|apply Kd.R_drew));exact Kd.R_mono HO291.out (fun _ hk => by first|exact hk.2|(revert hk;dsimp only;grind)|grind)),fun _ h1_ => absurd ((hon 6 (by kernel_rfl)).symm.trans h1_) (by decide),fun _ => (by (with_reducible repeat (first|apply Kd.N_alloc|apply Kd.N_drewN|apply Kd.N_drew));exact Kd.N_mono HO297.out (fun _ hk => by first|exact ⟨hk.1.1,⟨hk.2,⟨hk.1.2.1,hk.1.2.2⟩⟩⟩|(revert hk;dsimp only;grind)|grind)),fun _ => (by (with_reducible repeat (first|apply Kd.R_alloc|apply Kd.R_drewN|apply Kd.R_drew));exact Kd.R_mono HO300.out (fun _ hk => by first|exact hk.2|(revert hk;dsimp only;grind)|grind))⟩
        refine steps_cons ?_ ?_
        ·rintro b a w' ⟨v290,v293,v296,v299,ha,Q_BK282,Q_BK287,Q_HB,Q_HO291,Q_HO294,Q_HO297,Q_HO300⟩ hb_ hon hoff;refine ⟨_,rfl,fun K hK => ?_⟩;have e52:a.tmps[52]?=some (.pointer (some ⟨gb282,6,none⟩)):=by rw [ha];exact (putSel_off rfl).trans rfl
         replace ha:=Am8_ ha;have BK282:=Am8_ Q_BK282;have BK287:=Am8_ Q_BK287;have HB:=Am8_ Q_HB;have hc0_:w'.cell? ⟨gb282,0,none⟩=some (.string a1_0):=q_ BK282 0 rfl;have hc1_:w'.cell? ⟨gb282,1,none⟩=some (.string a1_1):=q_ BK282 1 rfl;have hc2_:w'.cell? ⟨gb282,2,none⟩=some (.int .i64 a1_2):=q_ BK282 2 rfl;have hc3_:w'.cell? ⟨gb282,3,none⟩=some (.int .i64 a1_3):=q_ BK282 3 rfl;have hc4_:w'.cell? ⟨gb282,4,none⟩=some (.bool true):=q_ BK282 4 rfl;have hc5_:w'.cell? ⟨gb282,5,none⟩=some (.int .i64 a1_5):=q_ BK282 5 rfl;have hc6_:w'.cell? ⟨gb282,6,none⟩=some (.int .i64 a1_6):=q_ BK282 6 rfl;refine value_ (w1:=w') (v:=.int .i64 a1_6) (by rfl) rfl ?_ ?_
         ·go_simp
          (try simp only [i64_w])
          try rfl
         refine hK.out _ _ ⟨v290,v293,v296,v299,(by rw [ha.out];exact putSel_upk 6 hb_ rfl rfl rfl),Q_BK282,Q_BK287,Q_HB,Q_HO291,Q_HO294,Q_HO297,Q_HO300⟩
        refine steps_cons ?_ ?_
        ·rintro b a w' ⟨v290,v293,v296,v299,ha,Q_BK282,Q_BK287,Q_HB,Q_HO291,Q_HO294,Q_HO297,Q_HO300⟩ hb_ hon hoff;refine ⟨_,rfl,fun K hK => ?_⟩;have e44:a.tmps[44]?=some (.int .i64 a0):=by rw [ha];exact (putSel_off rfl).trans rfl
         have e51:a.tmps[51]?=some (v299):=by rw [ha];exact putSel_on (e:=(7,51,v299)) 5 rfl rfl (hon 7 (by kernel_rfl)) rfl
         have e53:a.tmps[53]?=some (.int .i64 a1_6):=by rw [ha];exact putSel_on (e:=(9,53,.int .i64 a1_6)) 6 rfl rfl (hon 9 (by kernel_rfl)) rfl
         replace ha:=Am8_ ha;have BK282:=Am8_ Q_BK282;have BK287:=Am8_ Q_BK287;have HB:=Am8_ Q_HB;have HO291:=Am8_ (Q_HO291 (hon 2 (by kernel_rfl)));have HO297:=Am8_ (Q_HO297 (hon 6 (by kernel_rfl)));have HO300:=Am8_ (Q_HO300 (hon 7 (by kernel_rfl)));obtain ⟨Ao78,co78,eo78⟩:=Kd.R_slice HO300.out
         (first|subst eo78|(injection eo78 with f1_ f2_ f3_;have f4_:=f1_.symm;have f5_:=f3_.symm;clear f1_ f2_ f3_;subst f4_;subst f5_))
         refine goes_ Tryz.func41 (by kernel_rfl) rfl #[.int .i64 a0,.slice Ao78 t298.length co78,.int .i64 a1_6] (by rfl) rfl rfl (by simp only [List.map_toArray,List.map_cons,List.map_nil,Act.eval,Array.getD_eq_getD_getElem?,Option.getD_some,e44,e51,e53] <;> rfl) ?_;with_reducible refine (impl_VerifySignature.calls kj6 a0 _ _ t298 a1_6 false _ ?side1 ?side2 A30.out).mono ?_
         (case side1 => repeat (first|exact (Kd.R_reads' HO300.out).2.2|(with_reducible refine Kd.C_alloc ?_ _)|(with_reducible refine Kd.C_drewN ?_ _)|(with_reducible refine Kd.C_drew ?_)))
         (case side2 => exact (Kd.R_reads' HO300.out).2.1)
         rintro e w79 ⟨rfl,hb⟩;refine ⟨_,rfl,?_⟩;replace HO291:=Am8_ (Kd.R_below (by (with_reducible repeat (first|apply Kd.R_alloc|apply Kd.R_drewN|apply Kd.R_drew));exact HO291.out) hb);replace HO297:=Am8_ (Kd.N_below (by (with_reducible repeat (first|apply Kd.N_alloc|apply Kd.N_drewN|apply Kd.N_drew));exact HO297.out) hb);replace HO300:=Am8_ (Kd.R_below (by (with_reducible repeat (first|apply Kd.R_alloc|apply Kd.R_drewN|apply Kd.R_drew));exact HO300.out) hb);replace BK282:=bb_ BK282 hb;replace BK287:=bb_ BK287 hb;replace HB:=bs_ HB hb;(try clear hb);(try clear hb2);(try clear hk);(try clear hi);refine hK.out _ _ ⟨v290,v293,v296,.slice Ao78 t298.length co78,(by rw [ha.out];exact putSel_upk 7 hb_ rfl rfl rfl),(xk_ BK282),(xk_ BK287),(xe_ HB),fun _ => (by (with_reducible repeat (first|apply Kd.R_alloc|apply Kd.R_drewN|apply Kd.R_drew));exact HO291.out),fun _ h1_ => absurd ((hon 6 (by kernel_rfl)).symm.trans h1_) (by decide),fun _ => (by (with_reducible repeat (first|apply Kd.N_alloc|apply Kd.N_drewN|apply Kd.N_drew));exact HO297.out),fun _ => (by (with_reducible repeat (first|apply Kd.R_alloc|apply Kd.R_drewN|apply Kd.R_drew));exact HO300.out)⟩
        refine steps_cons ?_ ?_
        ·rintro b a w' ⟨v290,v293,v296,v299,ha,Q_BK282,Q_BK287,Q_HB,Q_HO291,Q_HO294,Q_HO297,Q_HO300⟩ hb_ hon hoff;refine ⟨_,rfl,fun K hK => ?_⟩;have e54:a.tmps[54]?=some (.bool false):=by rw [ha];exact putSel_on (e:=(10,54,.bool false)) 7 rfl rfl (hon 10 (by kernel_rfl)) rfl
         replace ha:=Am8_ ha;have BK282:=Am8_ Q_BK282;have BK287:=Am8_ Q_BK287;have HB:=Am8_ Q_HB;have HO291:=Am8_ (Q_HO291 (hon 2 (by kernel_rfl)));have HO297:=Am8_ (Q_HO297 (hon 6 (by kernel_rfl)));have HO300:=Am8_ (Q_HO300 (hon 7 (by kernel_rfl)));refine value_ (w1:=w') (v:=.bool (!false)) (by rfl) rfl ?_ ?_
         ·go_simp
          (try simp only [i64_w])
          try rfl
         refine hK.out _ _ ⟨v290,v293,v296,v299,(by rw [ha.out];exact putSel_upk 8 hb_ rfl rfl rfl),Q_BK282,Q_BK287,Q_HB,Q_HO291,fun _ h1_ => absurd ((hon 6 (by kernel_rfl)).symm.trans h1_) (by decide),Q_HO297,Q_HO300⟩
        refine steps_cons ?_ ?_
        ·rintro b a w' ⟨v290,v293,v296,v299,ha,Q_BK282,Q_BK287,Q_HB,Q_HO291,Q_HO294,Q_HO297,Q_HO300⟩ hb_ hon hoff;refine ⟨_,rfl,fun K hK => ?_⟩;have e55:a.tmps[55]?=some (.bool (!false)):=by rw [ha];exact putSel_on (e:=(11,55,.bool (!false))) 8 rfl rfl (hon 11 (by kernel_rfl)) rfl
         replace ha:=Am8_ ha;have BK282:=Am8_ Q_BK282;have BK287:=Am8_ Q_BK287;have HB:=Am8_ Q_HB;have HO291:=Am8_ (Q_HO291 (hon 2 (by kernel_rfl)));have HO297:=Am8_ (Q_HO297 (hon 6 (by kernel_rfl)));have HO300:=Am8_ (Q_HO300 (hon 7 (by kernel_rfl)));refine value_ (w1:=w') (v:=.bool (!false)) (by rfl) rfl ?_ ?_
         ·go_simp
          (try simp only [i64_w])
          try rfl
         refine hK.out _ _ ⟨v290,v293,v296,v299,(by rw [ha.out];exact putSel_upk 9 hb_ rfl rfl rfl),Q_BK282,Q_BK287,Q_HB,Q_HO291,fun _ h1_ => absurd ((hon 6 (by kernel_rfl)).symm.trans h1_) (by decide),Q_HO297,Q_HO300⟩
        exact steps_nil
       rintro b a w79 hall ⟨v290,v293,v296,v299,ha,Q_BK282,Q_BK287,Q_HB,Q_HO291,Q_HO294,Q_HO297,Q_HO300⟩;clear BK282 BK287 HB;have hb1_:=hall 1 (by kernel_rfl);have hb2_:=hall 2 (by kernel_rfl);have hb4_:=hall 4 (by kernel_rfl);have hb5_:=hall 5 (by kernel_rfl);have hb6_:=hall 6 (by kernel_rfl);have hb7_:=hall 7 (by kernel_rfl);have hb9_:=hall 9 (by kernel_rfl);have hb10_:=hall 10 (by kernel_rfl);have hb11_:=hall 11 (by kernel_rfl);have hb12_:=hall 12 (by kernel_rfl);subst ha;simp only [putSel,hb1_,hb2_,hb4_,hb5_,hb6_,hb7_,hb9_,hb10_,hb11_,hb12_,if_true,Act.put,Sa_,Sb_,Sc_];have BK282:=Am8_ Q_BK282;clear Q_BK282;have BK287:=Am8_ Q_BK287;clear Q_BK287;have HB:=Am8_ Q_HB;clear Q_HB;have HO291:=Am8_ (Q_HO291 hb2_);clear Q_HO291;clear Q_HO294;have HO297:=Am8_ (Q_HO297 hb6_);clear Q_HO297;have HO300:=Am8_ (Q_HO300 hb7_);clear Q_HO300;clear hall hb1_ hb2_ hb4_ hb5_ hb6_ hb7_ hb9_ hb10_ hb11_ hb12_
       try go_wp2
       go_ret
       exact ⟨by first|rfl|(simp [errW_none,errW_some] <;> rfl)|(simp [*,errW_none,errW_some] <;> rfl),by repeat (first|(with_reducible first|exact HB.out|apply below_alloc|apply pw_below_drewN|apply below_drew1|refine below_set ?_ GE282.out|refine below_set ?_ GE287.out)|exact HB.out)⟩
     ·rw [if_neg c27] at H
      have c27b0:(a1_2 == a3)=false:=beq_eq_false_iff_ne.mpr c27;have c27b1:(a1_2 != a3)=true:=bne_iff_ne.mpr c27;obtain rfl:=Option.some.inj H;have hnb80:=NB282_287.out;have hnc80:=NB287_282.out;have hcz81_0:wc.cell? ⟨gb282,0,none⟩=some (.string a1_0):=q_ BK282 0 rfl;have hcz81_1:wc.cell? ⟨gb282,1,none⟩=some (.string a1_1):=q_ BK282 1 rfl;have hcz81_2:wc.cell? ⟨gb282,2,none⟩=some (.int .i64 a1_2):=q_ BK282 2 rfl;have hcz81_3:wc.cell? ⟨gb282,3,none⟩=some (.int .i64 a1_3):=q_ BK282 3 rfl;have hcz81_4:wc.cell? ⟨gb282,4,none⟩=some (.bool true):=q_ BK282 4 rfl;have hcz81_5:wc.cell? ⟨gb282,5,none⟩=some (.int .i64 a1_5):=q_ BK282 5 rfl;have hcz81_6:wc.cell? ⟨gb282,6,none⟩=some (.int .i64 a1_6):=q_ BK282 6 rfl;have hfz81_0:=blk_frozen BK282.out 0;have hfz81_1:=blk_frozen BK282.out 1;have hfz81_2:=blk_frozen BK282.out 2;have hfz81_3:=blk_frozen BK282.out 3;have hfz81_4:=blk_frozen BK282.out 4;have hfz81_5:=blk_frozen BK282.out 5;have hfz81_6:=blk_frozen BK282.out 6
      go_wp2
      go_ret
      exact ⟨by first|rfl|(simp [errW_none,errW_some] <;> rfl)|(simp [*,errW_none,errW_some] <;> rfl),by repeat (first|(with_reducible first|exact HB.out|apply below_alloc|apply pw_below_drewN|apply below_drew1|refine below_set ?_ GE282.out|refine below_set ?_ GE287.out)|exact HB.out)⟩
    ·replace c26:=Bool.eq_false_iff.mpr c26;subst c26
     rw [if_neg (show ¬ (false=true) by decide)] at H
     obtain rfl:=Option.some.inj H;have hnb82:=NB282_287.out;have hnc82:=NB287_282.out;have hcz83_0:wc.cell? ⟨gb282,0,none⟩=some (.string a1_0):=q_ BK282 0 rfl;have hcz83_1:wc.cell? ⟨gb282,1,none⟩=some (.string a1_1):=q_ BK282 1 rfl;have hcz83_2:wc.cell? ⟨gb282,2,none⟩=some (.int .i64 a1_2):=q_ BK282 2 rfl;have hcz83_3:wc.cell? ⟨gb282,3,none⟩=some (.int .i64 a1_3):=q_ BK282 3 rfl;have hcz83_4:wc.cell? ⟨gb282,4,none⟩=some (.bool false):=q_ BK282 4 rfl;have hcz83_5:wc.cell? ⟨gb282,5,none⟩=some (.int .i64 a1_5):=q_ BK282 5 rfl;have hcz83_6:wc.cell? ⟨gb282,6,none⟩=some (.int .i64 a1_6):=q_ BK282 6 rfl;have hfz83_0:=blk_frozen BK282.out 0;have hfz83_1:=blk_frozen BK282.out 1;have hfz83_2:=blk_frozen BK282.out 2;have hfz83_3:=blk_frozen BK282.out 3;have hfz83_4:=blk_frozen BK282.out 4;have hfz83_5:=blk_frozen BK282.out 5;have hfz83_6:=blk_frozen BK282.out 6
     go_wp2
     go_ret
     exact ⟨by first|rfl|(simp [errW_none,errW_some] <;> rfl)|(simp [*,errW_none,errW_some] <;> rfl),by repeat (first|(with_reducible first|exact HB.out|apply below_alloc|apply pw_below_drewN|apply below_drew1|refine below_set ?_ GE282.out|refine below_set ?_ GE287.out)|exact HB.out)⟩

end Go.Proofs.YtogcoedmagoogaaGreatDoor.PFnAssertions
