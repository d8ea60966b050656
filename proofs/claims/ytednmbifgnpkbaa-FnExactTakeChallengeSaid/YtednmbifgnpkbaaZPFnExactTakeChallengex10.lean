/- Functions and contracts of a law's callees, written by a program of this session (a changed print): each contract says that the machine's call answers what the plain function says. Conditions: the plain function's own answer. -/
import Derived.Test.YtednmbifgnpkbaaZPFnExactTakeChallengex0
import Derived.Test.YtednmbifgnpkbaaZPFnExactTakeChallengex1
import Derived.Test.YtednmbifgnpkbaaZPFnExactTakeChallengex2
import Derived.Test.YtednmbifgnpkbaaZPFnExactTakeChallengex5
import Derived.Test.YtednmbifgnpkbaaZPFnExactTakeChallengex9
namespace Go.Proofs.Ytednmbifgnpkbaa.PFnExactTakeChallenge
open Go.RowKit Go.Proofs.YtednmbifgnpkbaaW.PrintWords Go.Proofs.YtednmbifgnpkbaaW.PrintLast Go.Proofs.YtednmbifgnpkbaaW.PrintMore
attribute [local go_sem] max2_int min2_int max_two min_two max_three min_three max_four min_four   -- for this text's walks alone
set_option linter.unusedVariables false
set_option linter.unusedSimpArgs false
abbrev Am10_ {p : Prop} (h : p) : Aside0 p := Aside0.mk h

/-! ### laws_FnExactTakeChallenge: function 6 -/
mutual
def laws_FnExactTakeChallenge.j0:Nat → Int → Int → Int → Bool → Bool → Bool → Int → Int → List (S141) → Int → Int → List (S35) → Int → Int → List (S35) → Int → Int → List (S35) → Option (Bool)
|0,_,_,_,_,_,_,_,_,_,_,_,_,_,_,_,_,_,_ => none
|k + 1,x1,x2,x3,x11,x14,x52,x245000,x245001,x245002,x258000,x258001,x258002,x264000,x264001,x264002,x271000,x271001,x271002 => if x52=true then (some false) else ((laws_toChallengeBook.f k x245000 x245001 x245002).bind fun bt272 => ((laws_eqChallengeBook.f k x264000 x264001 x264002 bt272.1 bt272.2.1 bt272.2.2).bind fun t277 => (if t277=true then ((laws_markChallengeBook.f k x264000 x264001 x264002 1).bind fun bt278 => (if bt278.1 < 0 then (laws_FnExactTakeChallenge.j1 k x1 x2 x3 x11 true x245000 x245001 x245002 x258000 x258001 x258002 x271000 x271001 x271002) else ((laws_eqChallengeBook.f k x271000 x271001 x271002 x258000 x258001 x258002).bind fun t280 => (if t280=true then (laws_FnExactTakeChallenge.j1 k x1 x2 x3 x11 (x14 != x11) x245000 x245001 x245002 x258000 x258001 x258002 x271000 x271001 x271002) else (laws_FnExactTakeChallenge.j1 k x1 x2 x3 x11 true x245000 x245001 x245002 x258000 x258001 x258002 x271000 x271001 x271002))))) else (some false))))
def laws_FnExactTakeChallenge.j1:Nat → Int → Int → Int → Bool → Bool → Int → Int → List (S141) → Int → Int → List (S35) → Int → Int → List (S35) → Option (Bool)
|0,_,_,_,_,_,_,_,_,_,_,_,_,_,_ => none
|k + 1,x1,x2,x3,x11,x73,x245000,x245001,x245002,x258000,x258001,x258002,x271000,x271001,x271002 => if x73=true then (some false) else ((laws_markChallengeBook.f k x271000 x271001 x271002 1).bind fun bt281 => ((laws_heldChallengeBook.f k x271000 x271001 bt281.2 1).bind fun t283 => (if t283 < 0 then (some false) else (if t283=bt281.1 then ((laws_toChallengeBook.f k x245000 x245001 x245002).bind fun bt284 => ((impl_TakeChallenge.f k bt284.1 bt284.2.1 bt284.2.2 x1 x2 x3).bind fun bt289 => ((laws_eqChallengeBook.f k bt289.1 bt289.2.1 bt289.2.2.1 x258000 x258001 x258002).bind fun t296 => (if t296=true then (laws_FnExactTakeChallenge.j2 k bt281.1 (bt289.2.2.2 != x11) x271000 x271001 bt281.2) else (laws_FnExactTakeChallenge.j2 k bt281.1 true x271000 x271001 bt281.2))))) else (some false)))))
def laws_FnExactTakeChallenge.j2:Nat → Int → Bool → Int → Int → List (S35) → Option (Bool)
|0,_,_,_,_,_ => none
|k + 1,x16,x102,x271000,x271001,x271002 => if x102=true then (some false) else ((laws_heldChallengeBook.f k x271000 x271001 x271002 1).bind fun t297 => (if t297 < 0 then (some false) else (if t297=x16 then (some true) else (some false))))
end
def laws_FnExactTakeChallenge.f (k:Nat) (a0_0:Int) (a0_1:Int) (l0_2:List (S141)) (a1:Int) (a2:Int) (a3:Int):Option (Bool):=(laws_szChallengeBook.f a0_0 a0_1 l0_2 1048576).bind fun t245 => (if t245 < 0 then (some true) else ((laws_toChallengeBook.f k a0_0 a0_1 l0_2).bind fun bt246 => ((spec_TakeChallenge.f k bt246.1 bt246.2.1 bt246.2.2 a1 a2 a3).bind fun bt251 => ((laws_toChallengeBook.f k a0_0 a0_1 l0_2).bind fun bt258 => ((impl_TakeChallenge.f k bt258.1 bt258.2.1 bt258.2.2 a1 a2 a3).bind fun bt264 => ((laws_eqChallengeBook.f k bt264.1 bt264.2.1 bt264.2.2.1 bt251.1 bt251.2.1 bt251.2.2.1).bind fun t271 => (if t271=true then (laws_FnExactTakeChallenge.j0 k a1 a2 a3 bt251.2.2.2 bt264.2.2.2 (bt264.2.2.2 != bt251.2.2.2) a0_0 a0_1 l0_2 bt251.1 bt251.2.1 bt251.2.2.1 bt258.1 bt258.2.1 bt258.2.2 bt264.1 bt264.2.1 bt264.2.2.1) else (laws_FnExactTakeChallenge.j0 k a1 a2 a3 bt251.2.2.2 bt264.2.2.2 true a0_0 a0_1 l0_2 bt251.1 bt251.2.1 bt251.2.2.1 bt258.1 bt258.2.1 bt258.2.2 bt264.1 bt264.2.1 bt264.2.2.1))))))))
theorem laws_FnExactTakeChallenge.mono_l:∀ k,(∀ y0 y1 y2 y3 y4 y5 y6 y7 y8 y9 y10 y11 y12 y13 y14 y15 y16 y17,LeO (laws_FnExactTakeChallenge.j0 k y0 y1 y2 y3 y4 y5 y6 y7 y8 y9 y10 y11 y12 y13 y14 y15 y16 y17) (laws_FnExactTakeChallenge.j0 (k + 1) y0 y1 y2 y3 y4 y5 y6 y7 y8 y9 y10 y11 y12 y13 y14 y15 y16 y17))∧(∀ y0 y1 y2 y3 y4 y5 y6 y7 y8 y9 y10 y11 y12 y13,LeO (laws_FnExactTakeChallenge.j1 k y0 y1 y2 y3 y4 y5 y6 y7 y8 y9 y10 y11 y12 y13) (laws_FnExactTakeChallenge.j1 (k + 1) y0 y1 y2 y3 y4 y5 y6 y7 y8 y9 y10 y11 y12 y13))∧(∀ y0 y1 y2 y3 y4,LeO (laws_FnExactTakeChallenge.j2 k y0 y1 y2 y3 y4) (laws_FnExactTakeChallenge.j2 (k + 1) y0 y1 y2 y3 y4))
|0 => ⟨fun _ _ _ _ _ _ _ _ _ _ _ _ _ _ _ _ _ _ r h => by simp [laws_FnExactTakeChallenge.j0] at h,fun _ _ _ _ _ _ _ _ _ _ _ _ _ _ r h => by simp [laws_FnExactTakeChallenge.j1] at h,fun _ _ _ _ _ r h => by simp [laws_FnExactTakeChallenge.j2] at h⟩
|k + 1 => by
  obtain ⟨ih0,ih1,ih2⟩:=laws_FnExactTakeChallenge.mono_l k
  refine ⟨?_,?_,?_⟩
  ·intro y0 y1 y2 y3 y4 y5 y6 y7 y8 y9 y10 y11 y12 y13 y14 y15 y16 y17
   unfold laws_FnExactTakeChallenge.j0
   repeat' first
  |(with_reducible exact ih0 _ _ _ _ _ _ _ _ _ _ _ _ _ _ _ _ _ _)
  |(with_reducible exact ih1 _ _ _ _ _ _ _ _ _ _ _ _ _ _)
  |(with_reducible exact ih2 _ _ _ _ _)
  |(with_reducible exact impl_TakeChallenge.mono _ _ _ _ _ _ _)
  |(with_reducible exact laws_eqChallengeBook.mono _ _ _ _ _ _ _)
  |(with_reducible exact laws_heldChallengeBook.mono _ _ _ _ _)
  |(with_reducible exact laws_markChallengeBook.mono _ _ _ _ _)
  |(with_reducible exact laws_toChallengeBook.mono _ _ _ _)
  |(with_reducible exact spec_TakeChallenge.mono _ _ _ _ _ _ _)
  |(with_reducible exact LeO.refl _)
  |(with_reducible exact LeO.none _)
  |(with_reducible refine LeO.ite ?_ ?_)
  |(with_reducible refine LeO.bind ?_ (fun _ => ?_))
  |exact ih0 _ _ _ _ _ _ _ _ _ _ _ _ _ _ _ _ _ _
  |exact ih1 _ _ _ _ _ _ _ _ _ _ _ _ _ _
  |exact ih2 _ _ _ _ _
  |exact impl_TakeChallenge.mono _ _ _ _ _ _ _
  |exact laws_eqChallengeBook.mono _ _ _ _ _ _ _
  |exact laws_heldChallengeBook.mono _ _ _ _ _
  |exact laws_markChallengeBook.mono _ _ _ _ _
  |exact laws_toChallengeBook.mono _ _ _ _
  |exact spec_TakeChallenge.mono _ _ _ _ _ _ _
  |exact LeO.none _
  |refine LeO.ite ?_ ?_
  |refine LeO.bind ?_ (fun _ => ?_)
  ·intro y0 y1 y2 y3 y4 y5 y6 y7 y8 y9 y10 y11 y12 y13
   unfold laws_FnExactTakeChallenge.j1
   repeat' first
  |(with_reducible exact ih0 _ _ _ _ _ _ _ _ _ _ _ _ _ _ _ _ _ _)
  |(with_reducible exact ih1 _ _ _ _ _ _ _ _ _ _ _ _ _ _)
  |(with_reducible exact ih2 _ _ _ _ _)
  |(with_reducible exact impl_TakeChallenge.mono _ _ _ _ _ _ _)
  |(with_reducible exact laws_eqChallengeBook.mono _ _ _ _ _ _ _)
  |(with_reducible exact laws_heldChallengeBook.mono _ _ _ _ _)
  |(with_reducible exact laws_markChallengeBook.mono _ _ _ _ _)
  |(with_reducible exact laws_toChallengeBook.mono _ _ _ _)
  |(with_reducible exact spec_TakeChallenge.mono _ _ _ _ _ _ _)
  |(with_reducible exact LeO.refl _)
  |(with_reducible exact LeO.none _)
  |(with_reducible refine LeO.ite ?_ ?_)
  |(with_reducible refine LeO.bind ?_ (fun _ => ?_))
  |exact ih0 _ _ _ _ _ _ _ _ _ _ _ _ _ _ _ _ _ _
  |exact ih1 _ _ _ _ _ _ _ _ _ _ _ _ _ _
  |exact ih2 _ _ _ _ _
  |exact impl_TakeChallenge.mono _ _ _ _ _ _ _
  |exact laws_eqChallengeBook.mono _ _ _ _ _ _ _
  |exact laws_heldChallengeBook.mono _ _ _ _ _
  |exact laws_markChallengeBook.mono _ _ _ _ _
  |exact laws_toChallengeBook.mono _ _ _ _
  |exact spec_TakeChallenge.mono _ _ _ _ _ _ _
  |exact LeO.none _
  |refine LeO.ite ?_ ?_
  |refine LeO.bind ?_ (fun _ => ?_)
  ·intro y0 y1 y2 y3 y4
   unfold laws_FnExactTakeChallenge.j2
   repeat' first
  |(with_reducible exact ih0 _ _ _ _ _ _ _ _ _ _ _ _ _ _ _ _ _ _)
  |(with_reducible exact ih1 _ _ _ _ _ _ _ _ _ _ _ _ _ _)
  |(with_reducible exact ih2 _ _ _ _ _)
  |(with_reducible exact impl_TakeChallenge.mono _ _ _ _ _ _ _)
  |(with_reducible exact laws_eqChallengeBook.mono _ _ _ _ _ _ _)
  |(with_reducible exact laws_heldChallengeBook.mono _ _ _ _ _)
  |(with_reducible exact laws_markChallengeBook.mono _ _ _ _ _)
  |(with_reducible exact laws_toChallengeBook.mono _ _ _ _)
  |(with_reducible exact spec_TakeChallenge.mono _ _ _ _ _ _ _)
  |(with_reducible exact LeO.refl _)
  |(with_reducible exact LeO.none _)
  |(with_reducible refine LeO.ite ?_ ?_)
  |(with_reducible refine LeO.bind ?_ (fun _ => ?_))
  |exact ih0 _ _ _ _ _ _ _ _ _ _ _ _ _ _ _ _ _ _
  |exact ih1 _ _ _ _ _ _ _ _ _ _ _ _ _ _
  |exact ih2 _ _ _ _ _
  |exact impl_TakeChallenge.mono _ _ _ _ _ _ _
  |exact laws_eqChallengeBook.mono _ _ _ _ _ _ _
  |exact laws_heldChallengeBook.mono _ _ _ _ _
  |exact laws_markChallengeBook.mono _ _ _ _ _
  |exact laws_toChallengeBook.mono _ _ _ _
  |exact spec_TakeChallenge.mono _ _ _ _ _ _ _
  |exact LeO.none _
  |refine LeO.ite ?_ ?_
  |refine LeO.bind ?_ (fun _ => ?_)
theorem laws_FnExactTakeChallenge.mono:∀ a0 a1 a2 a3 a4 a5 k,LeO (laws_FnExactTakeChallenge.f k a0 a1 a2 a3 a4 a5) (laws_FnExactTakeChallenge.f (k + 1) a0 a1 a2 a3 a4 a5):=by
 intro a0 a1 a2 a3 a4 a5 k
 obtain ⟨ih0,ih1,ih2⟩:=laws_FnExactTakeChallenge.mono_l k
 unfold laws_FnExactTakeChallenge.f
 repeat' first
  |(with_reducible exact ih0 _ _ _ _ _ _ _ _ _ _ _ _ _ _ _ _ _ _)
  |(with_reducible exact ih1 _ _ _ _ _ _ _ _ _ _ _ _ _ _)
  |(with_reducible exact ih2 _ _ _ _ _)
  |(with_reducible exact impl_TakeChallenge.mono _ _ _ _ _ _ _)
  |(with_reducible exact laws_eqChallengeBook.mono _ _ _ _ _ _ _)
  |(with_reducible exact laws_heldChallengeBook.mono _ _ _ _ _)
  |(with_reducible exact laws_markChallengeBook.mono _ _ _ _ _)
  |(with_reducible exact laws_toChallengeBook.mono _ _ _ _)
  |(with_reducible exact spec_TakeChallenge.mono _ _ _ _ _ _ _)
  |(with_reducible exact LeO.refl _)
  |(with_reducible exact LeO.none _)
  |(with_reducible refine LeO.ite ?_ ?_)
  |(with_reducible refine LeO.bind ?_ (fun _ => ?_))
  |exact ih0 _ _ _ _ _ _ _ _ _ _ _ _ _ _ _ _ _ _
  |exact ih1 _ _ _ _ _ _ _ _ _ _ _ _ _ _
  |exact ih2 _ _ _ _ _
  |exact impl_TakeChallenge.mono _ _ _ _ _ _ _
  |exact laws_eqChallengeBook.mono _ _ _ _ _ _ _
  |exact laws_heldChallengeBook.mono _ _ _ _ _
  |exact laws_markChallengeBook.mono _ _ _ _ _
  |exact laws_toChallengeBook.mono _ _ _ _
  |exact spec_TakeChallenge.mono _ _ _ _ _ _ _
  |exact LeO.none _
  |refine LeO.ite ?_ ?_
  |refine LeO.bind ?_ (fun _ => ?_)
set_option maxHeartbeats 8000000 in
set_option maxRecDepth 100000 in
theorem laws_FnExactTakeChallenge.calls (k:Nat) (a0_0:Int) (a0_1:Int) (A0_2:Option Addr) (c0_2:Nat) (l0_2:List (S141)) (a1:Int) (a2:Int) (a3:Int) (r:Bool) (hr_:r=true) (w:World) (hr0_2:Kd.C k141 w A0_2 l0_2.length l0_2) (hc0_2:l0_2.length ≤ c0_2) (h:laws_FnExactTakeChallenge.f k a0_0 a0_1 l0_2 a1 a2 a3=some r) :
  Calls Try.prog 6 #[.agg #[.int .i64 a0_0,.int .i64 a0_1,.slice A0_2 l0_2.length c0_2],.int .i64 a1,.int .i64 a2,.int .i64 a3] w fun e w' => e=.returned (.bool r)∧Below w.heap.size w w':=by
 subst hr_
 have hu24:=Try.underlying24
 have hu28:=Try.underlying28
 have HR0_2:=Am10_ hr0_2
 have HC0_2:=Am10_ hc0_2
 clear hr0_2 hc0_2
 have HB:=Am10_ (Below.refl w.heap.size w)
 have H:((laws_szChallengeBook.f a0_0 a0_1 l0_2 1048576).bind fun t245 => (if t245 < 0 then (some true) else ((laws_toChallengeBook.f k a0_0 a0_1 l0_2).bind fun bt246 => ((spec_TakeChallenge.f k bt246.1 bt246.2.1 bt246.2.2 a1 a2 a3).bind fun bt251 => ((laws_toChallengeBook.f k a0_0 a0_1 l0_2).bind fun bt258 => ((impl_TakeChallenge.f k bt258.1 bt258.2.1 bt258.2.2 a1 a2 a3).bind fun bt264 => ((laws_eqChallengeBook.f k bt264.1 bt264.2.1 bt264.2.2.1 bt251.1 bt251.2.1 bt251.2.2.1).bind fun t271 => (if t271=true then (laws_FnExactTakeChallenge.j0 k a1 a2 a3 bt251.2.2.2 bt264.2.2.2 (bt264.2.2.2 != bt251.2.2.2) a0_0 a0_1 l0_2 bt251.1 bt251.2.1 bt251.2.2.1 bt258.1 bt258.2.1 bt258.2.2 bt264.1 bt264.2.1 bt264.2.2.1) else (laws_FnExactTakeChallenge.j0 k a1 a2 a3 bt251.2.2.2 bt264.2.2.2 true a0_0 a0_1 l0_2 bt251.1 bt251.2.1 bt251.2.2.1 bt258.1 bt258.2.1 bt258.2.2 bt264.1 bt264.2.1 bt264.2.2.1)))))))))=some true:=h
 clear h
 replace H:=Option.bind_eq_some_iff.mp H
 obtain ⟨t245,A50,H⟩:=H
 replace H:(if t245 < 0 then (some true) else ((laws_toChallengeBook.f k a0_0 a0_1 l0_2).bind fun bt246 => ((spec_TakeChallenge.f k bt246.1 bt246.2.1 bt246.2.2 a1 a2 a3).bind fun bt251 => ((laws_toChallengeBook.f k a0_0 a0_1 l0_2).bind fun bt258 => ((impl_TakeChallenge.f k bt258.1 bt258.2.1 bt258.2.2 a1 a2 a3).bind fun bt264 => ((laws_eqChallengeBook.f k bt264.1 bt264.2.1 bt264.2.2.1 bt251.1 bt251.2.1 bt251.2.2.1).bind fun t271 => (if t271=true then (laws_FnExactTakeChallenge.j0 k a1 a2 a3 bt251.2.2.2 bt264.2.2.2 (bt264.2.2.2 != bt251.2.2.2) a0_0 a0_1 l0_2 bt251.1 bt251.2.1 bt251.2.2.1 bt258.1 bt258.2.1 bt258.2.2 bt264.1 bt264.2.1 bt264.2.2.1) else (laws_FnExactTakeChallenge.j0 k a1 a2 a3 bt251.2.2.2 bt264.2.2.2 true a0_0 a0_1 l0_2 bt251.1 bt251.2.1 bt251.2.2.1 bt258.1 bt258.2.1 bt258.2.2 bt264.1 bt264.2.1 bt264.2.2.1))))))))=some true:=H
 have A5:=Am10_ A50
 clear A50
 by_cases c6:t245 < 0
 ·rw [if_pos c6] at H
  have c6b0:decide (t245 < 0)=true:=decide_eq_true c6
  clear c6
  clear H
  go_enter Try.func6,Try.ntmps6
  go_wp2_with (first|((with_reducible refine gate_dst (N:=4) rfl ?_);refine box_event ?hg (N:=4) ?hd (cs:=#[.int .i64 a0_0,.int .i64 a0_1,.slice A0_2 l0_2.length c0_2]) (t:=24) ?hr ?_;(case hd => rfl);(case hg => rfl);(case hr => first|(go_simp;done)|(go_simp;rfl));intro gb244 hg w7 hbox hb;have n0_:=Am10_ (below_step (by repeat (first|(with_reducible first|exact HB.out|apply below_alloc|apply pw_below_drewN|apply below_drew1)|exact HB.out)) hb);have n1_:=Am10_ (hbox);have n2_:=Am10_ ((by rw [hg];exact (below_size (by repeat (first|(with_reducible first|exact HB.out|apply below_alloc|apply pw_below_drewN|apply below_drew1)|exact HB.out))):w.heap.size ≤ gb244));have n3_:=Am10_ ((by rw [hg];exact (below_size (by repeat (first|(with_reducible first|exact HB.out|apply below_alloc|apply pw_below_drewN|apply below_drew1)|exact HB.out))):w.heap.size ≤ gb244));clear HB;have HB:=n0_;have BK244:=n1_;have GW244:=n2_;have GE244:=n3_;clear n0_ n1_ n2_ n3_;clear hb hbox hg;have hcz8_0:w7.cell? ⟨gb244,0,none⟩=some (.int .i64 a0_0):=(blk_cell BK244.out 0).trans rfl;have hcz8_1:w7.cell? ⟨gb244,1,none⟩=some (.int .i64 a0_1):=(blk_cell BK244.out 1).trans rfl;have hcz8_2:w7.cell? ⟨gb244,2,none⟩=some (.slice A0_2 l0_2.length c0_2):=(blk_cell BK244.out 2).trans rfl;have hfz8_0:=blk_frozen BK244.out 0;have hfz8_1:=blk_frozen BK244.out 1;have hfz8_2:=blk_frozen BK244.out 2)|((with_reducible refine gate_callee (f:=15) rfl ?_);refine goesL_ (some 22) rfl rfl Try.func15 (by kernel_rfl) rfl #[.agg #[.int .i64 a0_0,.int .i64 a0_1,.slice A0_2 l0_2.length c0_2],.int .i64 1048576] rfl (by (try simp only [List.map_toArray,List.map_cons,List.map_nil]);first|done|rfl|(simp only [List.length_drop,List.length_take];rfl)) ?_;(with_reducible refine (laws_szChallengeBook.calls a0_0 a0_1 _ _ l0_2 1048576 t245 _ ?side1 ?side2 A5.out).mono ?_);(case side1 => repeat (first|exact (Kd.C_below HR0_2.out HB.out)|(with_reducible refine Kd.C_alloc ?_ _)|(with_reducible refine Kd.C_drewN ?_ _)|(with_reducible refine Kd.C_drew ?_)));(case side2 => exact HC0_2.out);rintro e w9 ⟨rfl,hb⟩;refine ⟨_,rfl,?_⟩;have n0_:=Am10_ (blk_below (g:=gb244) (o:=.cells #[.int .i64 a0_0,.int .i64 a0_1,.slice A0_2 l0_2.length c0_2] 24 (0,0)) (by (with_reducible repeat (first|refine blk_drewN ?_ _|refine blk_drew ?_|refine blk_alloc ?_ _));exact BK244.out) hb);have n1_:=Am10_ (below_step (by repeat (first|(with_reducible first|exact HB.out|apply below_alloc|apply pw_below_drewN|apply below_drew1|refine below_set ?_ GE244.out)|exact HB.out)) hb);clear BK244;clear HB;have BK244:=n0_;have HB:=n1_;clear n0_ n1_;(try clear hb);(try clear hb2);(try clear hk);(try clear hi)))
  go_ret
  exact ⟨by first|rfl|(simp [errW_none,errW_some] <;> rfl)|(simp [*,errW_none,errW_some] <;> rfl),by repeat (first|(with_reducible first|exact HB.out|apply below_alloc|apply pw_below_drewN|apply below_drew1|refine below_set ?_ GE244.out)|exact HB.out)⟩
 ·rw [if_neg c6] at H
  have c6b0:decide (t245 < 0)=false:=decide_eq_false c6
  clear c6
  replace H:=Option.bind_eq_some_iff.mp H
  obtain ⟨⟨t246,t247,t248⟩,A100,H⟩:=H
  replace H:((spec_TakeChallenge.f k t246 t247 t248 a1 a2 a3).bind fun bt251 => ((laws_toChallengeBook.f k a0_0 a0_1 l0_2).bind fun bt258 => ((impl_TakeChallenge.f k bt258.1 bt258.2.1 bt258.2.2 a1 a2 a3).bind fun bt264 => ((laws_eqChallengeBook.f k bt264.1 bt264.2.1 bt264.2.2.1 bt251.1 bt251.2.1 bt251.2.2.1).bind fun t271 => (if t271=true then (laws_FnExactTakeChallenge.j0 k a1 a2 a3 bt251.2.2.2 bt264.2.2.2 (bt264.2.2.2 != bt251.2.2.2) a0_0 a0_1 l0_2 bt251.1 bt251.2.1 bt251.2.2.1 bt258.1 bt258.2.1 bt258.2.2 bt264.1 bt264.2.1 bt264.2.2.1) else (laws_FnExactTakeChallenge.j0 k a1 a2 a3 bt251.2.2.2 bt264.2.2.2 true a0_0 a0_1 l0_2 bt251.1 bt251.2.1 bt251.2.2.1 bt258.1 bt258.2.1 bt258.2.2 bt264.1 bt264.2.1 bt264.2.2.1))))))=some true:=H
  have A10:=Am10_ A100
  clear A100
  replace H:=Option.bind_eq_some_iff.mp H
  obtain ⟨⟨t251,t252,t253,t256⟩,A110,H⟩:=H
  replace H:((laws_toChallengeBook.f k a0_0 a0_1 l0_2).bind fun bt258 => ((impl_TakeChallenge.f k bt258.1 bt258.2.1 bt258.2.2 a1 a2 a3).bind fun bt264 => ((laws_eqChallengeBook.f k bt264.1 bt264.2.1 bt264.2.2.1 t251 t252 t253).bind fun t271 => (if t271=true then (laws_FnExactTakeChallenge.j0 k a1 a2 a3 t256 bt264.2.2.2 (bt264.2.2.2 != t256) a0_0 a0_1 l0_2 t251 t252 t253 bt258.1 bt258.2.1 bt258.2.2 bt264.1 bt264.2.1 bt264.2.2.1) else (laws_FnExactTakeChallenge.j0 k a1 a2 a3 t256 bt264.2.2.2 true a0_0 a0_1 l0_2 t251 t252 t253 bt258.1 bt258.2.1 bt258.2.2 bt264.1 bt264.2.1 bt264.2.2.1)))))=some true:=H
  have A11:=Am10_ A110
  clear A110
  replace H:=Option.bind_eq_some_iff.mp H
  obtain ⟨⟨t258,t259,t260⟩,A120,H⟩:=H
  replace H:((impl_TakeChallenge.f k t258 t259 t260 a1 a2 a3).bind fun bt264 => ((laws_eqChallengeBook.f k bt264.1 bt264.2.1 bt264.2.2.1 t251 t252 t253).bind fun t271 => (if t271=true then (laws_FnExactTakeChallenge.j0 k a1 a2 a3 t256 bt264.2.2.2 (bt264.2.2.2 != t256) a0_0 a0_1 l0_2 t251 t252 t253 t258 t259 t260 bt264.1 bt264.2.1 bt264.2.2.1) else (laws_FnExactTakeChallenge.j0 k a1 a2 a3 t256 bt264.2.2.2 true a0_0 a0_1 l0_2 t251 t252 t253 t258 t259 t260 bt264.1 bt264.2.1 bt264.2.2.1))))=some true:=H
  have A12:=Am10_ A120
  clear A120
  replace H:=Option.bind_eq_some_iff.mp H
  obtain ⟨⟨t264,t265,t266,t269⟩,A130,H⟩:=H
  replace H:((laws_eqChallengeBook.f k t264 t265 t266 t251 t252 t253).bind fun t271 => (if t271=true then (laws_FnExactTakeChallenge.j0 k a1 a2 a3 t256 t269 (t269 != t256) a0_0 a0_1 l0_2 t251 t252 t253 t258 t259 t260 t264 t265 t266) else (laws_FnExactTakeChallenge.j0 k a1 a2 a3 t256 t269 true a0_0 a0_1 l0_2 t251 t252 t253 t258 t259 t260 t264 t265 t266)))=some true:=H
  have A13:=Am10_ A130
  clear A130
  have HC14:=Am10_ H
  clear H
  go_enter Try.func6,Try.ntmps6
  go_upto_region 8 with (first|((with_reducible refine gate_dst (N:=4) rfl ?_);refine box_event ?hg (N:=4) ?hd (cs:=#[.int .i64 a0_0,.int .i64 a0_1,.slice A0_2 l0_2.length c0_2]) (t:=24) ?hr ?_;(case hd => rfl);(case hg => rfl);(case hr => first|(go_simp;done)|(go_simp;rfl));intro gb244 hg w15 hbox hb;have n0_:=Am10_ (below_step (by repeat (first|(with_reducible first|exact HB.out|apply below_alloc|apply pw_below_drewN|apply below_drew1)|exact HB.out)) hb);have n1_:=Am10_ (hbox);have n2_:=Am10_ ((by rw [hg];exact (below_size (by repeat (first|(with_reducible first|exact HB.out|apply below_alloc|apply pw_below_drewN|apply below_drew1)|exact HB.out))):w.heap.size ≤ gb244));have n3_:=Am10_ ((by rw [hg];exact (below_size (by repeat (first|(with_reducible first|exact HB.out|apply below_alloc|apply pw_below_drewN|apply below_drew1)|exact HB.out))):w.heap.size ≤ gb244));clear HB;have HB:=n0_;have BK244:=n1_;have GW244:=n2_;have GE244:=n3_;clear n0_ n1_ n2_ n3_;clear hb hbox hg;have hcz16_0:w15.cell? ⟨gb244,0,none⟩=some (.int .i64 a0_0):=(blk_cell BK244.out 0).trans rfl;have hcz16_1:w15.cell? ⟨gb244,1,none⟩=some (.int .i64 a0_1):=(blk_cell BK244.out 1).trans rfl;have hcz16_2:w15.cell? ⟨gb244,2,none⟩=some (.slice A0_2 l0_2.length c0_2):=(blk_cell BK244.out 2).trans rfl;have hfz16_0:=blk_frozen BK244.out 0;have hfz16_1:=blk_frozen BK244.out 1;have hfz16_2:=blk_frozen BK244.out 2)|((with_reducible refine gate_callee (f:=15) rfl ?_);refine goesL_ (some 22) rfl rfl Try.func15 (by kernel_rfl) rfl #[.agg #[.int .i64 a0_0,.int .i64 a0_1,.slice A0_2 l0_2.length c0_2],.int .i64 1048576] rfl (by (try simp only [List.map_toArray,List.map_cons,List.map_nil]);first|done|rfl|(simp only [List.length_drop,List.length_take];rfl)) ?_;(with_reducible refine (laws_szChallengeBook.calls a0_0 a0_1 _ _ l0_2 1048576 t245 _ ?side1 ?side2 A5.out).mono ?_);(case side1 => repeat (first|exact (Kd.C_below HR0_2.out HB.out)|(with_reducible refine Kd.C_alloc ?_ _)|(with_reducible refine Kd.C_drewN ?_ _)|(with_reducible refine Kd.C_drew ?_)));(case side2 => exact HC0_2.out);rintro e w17 ⟨rfl,hb⟩;refine ⟨_,rfl,?_⟩;have n0_:=Am10_ (blk_below (g:=gb244) (o:=.cells #[.int .i64 a0_0,.int .i64 a0_1,.slice A0_2 l0_2.length c0_2] 24 (0,0)) (by (with_reducible repeat (first|refine blk_drewN ?_ _|refine blk_drew ?_|refine blk_alloc ?_ _));exact BK244.out) hb);have n1_:=Am10_ (below_step (by repeat (first|(with_reducible first|exact HB.out|apply below_alloc|apply pw_below_drewN|apply below_drew1|refine below_set ?_ GE244.out)|exact HB.out)) hb);clear BK244;clear HB;have BK244:=n0_;have HB:=n1_;clear n0_ n1_;(try clear hb);(try clear hb2);(try clear hk);(try clear hi);have hcz18_0:w17.cell? ⟨gb244,0,none⟩=some (.int .i64 a0_0):=(blk_cell BK244.out 0).trans rfl;have hcz18_1:w17.cell? ⟨gb244,1,none⟩=some (.int .i64 a0_1):=(blk_cell BK244.out 1).trans rfl;have hcz18_2:w17.cell? ⟨gb244,2,none⟩=some (.slice A0_2 l0_2.length c0_2):=(blk_cell BK244.out 2).trans rfl;have hfz18_0:=blk_frozen BK244.out 0;have hfz18_1:=blk_frozen BK244.out 1;have hfz18_2:=blk_frozen BK244.out 2)|((with_reducible refine gate_callee (f:=17) rfl ?_);refine goesL_ (some 27) rfl rfl Try.func17 (by kernel_rfl) rfl #[.agg #[.int .i64 a0_0,.int .i64 a0_1,.slice A0_2 l0_2.length c0_2]] rfl (by (try simp only [List.map_toArray,List.map_cons,List.map_nil]);first|done|rfl|(simp only [List.length_drop,List.length_take];rfl)) ?_;(with_reducible refine (laws_toChallengeBook.calls k a0_0 a0_1 _ _ l0_2 t246 t247 t248 _ ?side1 ?side2 A10.out).mono ?_);(case side1 => repeat (first|exact (Kd.C_below HR0_2.out HB.out)|(with_reducible refine Kd.C_alloc ?_ _)|(with_reducible refine Kd.C_drewN ?_ _)|(with_reducible refine Kd.C_drew ?_)));(case side2 => exact HC0_2.out);rintro e w19 ⟨v249,rfl,ho0,hb⟩;refine ⟨_,rfl,?_⟩;have n0_:=Am10_ (Kd.R_lower ho0 (below_size (by repeat (first|(with_reducible first|exact HB.out|apply below_alloc|apply pw_below_drewN|apply below_drew1|refine below_set ?_ GE244.out)|exact HB.out))));have n1_:=Am10_ (blk_below (g:=gb244) (o:=.cells #[.int .i64 a0_0,.int .i64 a0_1,.slice A0_2 l0_2.length c0_2] 24 (0,0)) (by (with_reducible repeat (first|refine blk_drewN ?_ _|refine blk_drew ?_|refine blk_alloc ?_ _));exact BK244.out) hb);have n2_:=Am10_ (below_step (by repeat (first|(with_reducible first|exact HB.out|apply below_alloc|apply pw_below_drewN|apply below_drew1|refine below_set ?_ GE244.out)|exact HB.out)) hb);clear BK244;clear HB;have HO250:=n0_;have BK244:=n1_;have HB:=n2_;clear n0_ n1_ n2_;(try clear hb);(try clear hb2);(try clear hk);(try clear hi);(try clear ho0);obtain ⟨Ao20,co20,eo20⟩:=Kd.R_slice HO250.out;subst eo20)|((with_reducible refine gate_callee (f:=31) rfl ?_);refine goesL_ (some 31) rfl rfl Try.func31 (by kernel_rfl) rfl #[.agg #[.int .i64 t246,.int .i64 t247,.slice Ao20 t248.length co20],.int .i64 a1,.int .i64 a2,.int .i64 a3] rfl (by (try simp only [List.map_toArray,List.map_cons,List.map_nil]);first|done|rfl|(simp only [List.length_drop,List.length_take];rfl)) ?_;(with_reducible refine (spec_TakeChallenge.calls k t246 t247 _ _ t248 a1 a2 a3 t251 t252 t253 t256 _ ?side1 ?side2 A11.out).mono ?_);(case side1 => repeat (first|exact (Kd.R_reads' HO250.out).2.2|(with_reducible refine Kd.C_alloc ?_ _)|(with_reducible refine Kd.C_drewN ?_ _)|(with_reducible refine Kd.C_drew ?_)));(case side2 => exact (Kd.R_reads' HO250.out).2.1);rintro e w21 ⟨v254,rfl,ho0,hb⟩;refine ⟨_,rfl,?_⟩;have n0_:=Am10_ (Kd.R_elder' (by (with_reducible repeat (first|apply Kd.R_alloc|apply Kd.R_drewN|apply Kd.R_drew));exact HO250.out) (Kd.R_base ho0) hb);have n1_:=Am10_ (Kd.R_lower (Kd.R_new' ho0 (Kd.R_lt (by (with_reducible repeat (first|apply Kd.R_alloc|apply Kd.R_drewN|apply Kd.R_drew));exact HO250.out))) (below_size (by repeat (first|(with_reducible first|exact HB.out|apply below_alloc|apply pw_below_drewN|apply below_drew1|refine below_set ?_ GE244.out)|exact HB.out))));have n2_:=Am10_ (blk_below (g:=gb244) (o:=.cells #[.int .i64 a0_0,.int .i64 a0_1,.slice A0_2 l0_2.length c0_2] 24 (0,0)) (by (with_reducible repeat (first|refine blk_drewN ?_ _|refine blk_drew ?_|refine blk_alloc ?_ _));exact BK244.out) hb);have n3_:=Am10_ (below_step (by repeat (first|(with_reducible first|exact HB.out|apply below_alloc|apply pw_below_drewN|apply below_drew1|refine below_set ?_ GE244.out)|exact HB.out)) hb);clear HO250;clear BK244;clear HB;have HO250:=n0_;have HO255:=n1_;have BK244:=n2_;have HB:=n3_;clear n0_ n1_ n2_ n3_;(try clear hb);(try clear hb2);(try clear hk);(try clear hi);(try clear ho0))|((with_reducible refine gate_dst (N:=10) rfl ?_);refine box_event ?hg (N:=10) ?hd (cs:=#[.int .i64 0,.int .i64 0,.slice none 0 0]) (t:=28) ?hr ?_;(case hd => rfl);(case hg => rfl);(case hr => first|(go_simp;done)|(go_simp;rfl));intro gb257 hg w22 hbox hb;have n0_:=Am10_ (Kd.R_below (by (with_reducible repeat (first|apply Kd.R_alloc|apply Kd.R_drewN|apply Kd.R_drew));exact HO250.out) hb);have n1_:=Am10_ (Kd.R_below (by (with_reducible repeat (first|apply Kd.R_alloc|apply Kd.R_drewN|apply Kd.R_drew));exact HO255.out) hb);have n2_:=Am10_ (blk_below (g:=gb244) (o:=.cells #[.int .i64 a0_0,.int .i64 a0_1,.slice A0_2 l0_2.length c0_2] 24 (0,0)) (by (with_reducible repeat (first|refine blk_drewN ?_ _|refine blk_drew ?_|refine blk_alloc ?_ _));exact BK244.out) hb);have n3_:=Am10_ (below_step (by repeat (first|(with_reducible first|exact HB.out|apply below_alloc|apply pw_below_drewN|apply below_drew1|refine below_set ?_ GE244.out)|exact HB.out)) hb);have n4_:=Am10_ (hbox);have n5_:=Am10_ ((by rw [hg];exact (below_size (by repeat (first|(with_reducible first|exact HB.out|apply below_alloc|apply pw_below_drewN|apply below_drew1|refine below_set ?_ GE244.out)|exact HB.out))):w.heap.size ≤ gb257));have n6_:=Am10_ ((by rw [hg];exact (below_size (by repeat (first|(with_reducible first|exact HB.out|apply below_alloc|apply pw_below_drewN|apply below_drew1|refine below_set ?_ GE244.out)|exact HB.out))):w.heap.size ≤ gb257));have n7_:=Am10_ ((by rw [hg];exact Nat.ne_of_lt (blk_lt (g:=gb244) (o:=.cells #[.int .i64 a0_0,.int .i64 a0_1,.slice A0_2 l0_2.length c0_2] 24 (0,0)) (by (with_reducible repeat (first|refine blk_drewN ?_ _|refine blk_drew ?_|refine blk_alloc ?_ _));exact BK244.out)):gb244 ≠ gb257));have n8_:=Am10_ ((by rw [hg];exact Nat.ne_of_gt (blk_lt (g:=gb244) (o:=.cells #[.int .i64 a0_0,.int .i64 a0_1,.slice A0_2 l0_2.length c0_2] 24 (0,0)) (by (with_reducible repeat (first|refine blk_drewN ?_ _|refine blk_drew ?_|refine blk_alloc ?_ _));exact BK244.out)):gb257 ≠ gb244));clear HO250;clear HO255;clear BK244;clear HB;have HO250:=n0_;have HO255:=n1_;have BK244:=n2_;have HB:=n3_;have BK257:=n4_;have GW257:=n5_;have GE257:=n6_;have NB244_257:=n7_;have NB257_244:=n8_;clear n0_ n1_ n2_ n3_ n4_ n5_ n6_ n7_ n8_;clear hb hbox hg;have hnb23:=NB257_244.out;have hnc23:=NB244_257.out;have hcz24_0:w22.cell? ⟨gb257,0,none⟩=some (.int .i64 0):=(blk_cell BK257.out 0).trans rfl;have hcz24_1:w22.cell? ⟨gb257,1,none⟩=some (.int .i64 0):=(blk_cell BK257.out 1).trans rfl;have hcz24_2:w22.cell? ⟨gb257,2,none⟩=some (.slice none 0 0):=(blk_cell BK257.out 2).trans rfl;have hfz24_0:=blk_frozen BK257.out 0;have hfz24_1:=blk_frozen BK257.out 1;have hfz24_2:=blk_frozen BK257.out 2;obtain ⟨Ao25,co25,eo25⟩:=Kd.R_slice HO255.out;subst eo25;have hcz26_0:w22.cell? ⟨gb244,0,none⟩=some (.int .i64 a0_0):=(blk_cell BK244.out 0).trans rfl;have hcz26_1:w22.cell? ⟨gb244,1,none⟩=some (.int .i64 a0_1):=(blk_cell BK244.out 1).trans rfl;have hcz26_2:w22.cell? ⟨gb244,2,none⟩=some (.slice A0_2 l0_2.length c0_2):=(blk_cell BK244.out 2).trans rfl;have hfz26_0:=blk_frozen BK244.out 0;have hfz26_1:=blk_frozen BK244.out 1;have hfz26_2:=blk_frozen BK244.out 2)|((with_reducible refine gate_callee (f:=17) rfl ?_);refine goesL_ (some 35) rfl rfl Try.func17 (by kernel_rfl) rfl #[.agg #[.int .i64 a0_0,.int .i64 a0_1,.slice A0_2 l0_2.length c0_2]] rfl (by (try simp only [List.map_toArray,List.map_cons,List.map_nil]);first|done|rfl|(simp only [List.length_drop,List.length_take];rfl)) ?_;(with_reducible refine (laws_toChallengeBook.calls k a0_0 a0_1 _ _ l0_2 t258 t259 t260 _ ?side1 ?side2 A12.out).mono ?_);(case side1 => exact Kd.C_below HR0_2.out (by repeat (first|(with_reducible first|exact HB.out|apply below_alloc|apply pw_below_drewN|apply below_drew1|refine below_set ?_ GE244.out|refine below_set ?_ GE257.out)|exact HB.out)));(case side2 => exact HC0_2.out);rintro e w27 ⟨v261,rfl,ho0,hb⟩;refine ⟨_,rfl,?_⟩;have n0_:=Am10_ (Kd.R_elder' (by (with_reducible repeat (first|apply Kd.R_alloc|apply Kd.R_drewN|apply Kd.R_drew));exact (Kd.R_mono (Kd.R_far (p:=⟨gb257,2,none⟩) (Kd.R_far (p:=⟨gb257,1,none⟩) (Kd.R_far (p:=⟨gb257,0,none⟩) (Kd.R_types HO250.out BK257.out (by decide)) (fun _ hk => hk.2) (.int .i64 t251)) (fun _ hk => hk.2) (.int .i64 t252)) (fun _ hk => hk.2) (.slice Ao25 t253.length co25)) (fun _ h_ => h_.1))) (Kd.R_base ho0) hb);have n1_:=Am10_ (Kd.R_elder' (by (with_reducible repeat (first|apply Kd.R_alloc|apply Kd.R_drewN|apply Kd.R_drew));exact (Kd.R_mono (Kd.R_far (p:=⟨gb257,2,none⟩) (Kd.R_far (p:=⟨gb257,1,none⟩) (Kd.R_far (p:=⟨gb257,0,none⟩) (Kd.R_types HO255.out BK257.out (by decide)) (fun _ hk => hk.2) (.int .i64 t251)) (fun _ hk => hk.2) (.int .i64 t252)) (fun _ hk => hk.2) (.slice Ao25 t253.length co25)) (fun _ h_ => h_.1))) (Kd.R_base ho0) hb);have n2_:=Am10_ (Kd.R_lower (Kd.R_new' (Kd.R_new' ho0 (Kd.R_lt (by (with_reducible repeat (first|apply Kd.R_alloc|apply Kd.R_drewN|apply Kd.R_drew));exact (Kd.R_mono (Kd.R_far (p:=⟨gb257,2,none⟩) (Kd.R_far (p:=⟨gb257,1,none⟩) (Kd.R_far (p:=⟨gb257,0,none⟩) (Kd.R_types HO250.out BK257.out (by decide)) (fun _ hk => hk.2) (.int .i64 t251)) (fun _ hk => hk.2) (.int .i64 t252)) (fun _ hk => hk.2) (.slice Ao25 t253.length co25)) (fun _ h_ => h_.1))))) (Kd.R_lt (by (with_reducible repeat (first|apply Kd.R_alloc|apply Kd.R_drewN|apply Kd.R_drew));exact (Kd.R_mono (Kd.R_far (p:=⟨gb257,2,none⟩) (Kd.R_far (p:=⟨gb257,1,none⟩) (Kd.R_far (p:=⟨gb257,0,none⟩) (Kd.R_types HO255.out BK257.out (by decide)) (fun _ hk => hk.2) (.int .i64 t251)) (fun _ hk => hk.2) (.int .i64 t252)) (fun _ hk => hk.2) (.slice Ao25 t253.length co25)) (fun _ h_ => h_.1))))) (below_size (by repeat (first|(with_reducible first|exact HB.out|apply below_alloc|apply pw_below_drewN|apply below_drew1|refine below_set ?_ GE244.out|refine below_set ?_ GE257.out)|exact HB.out))));have n3_:=Am10_ (blk_below (g:=gb244) (o:=.cells #[.int .i64 a0_0,.int .i64 a0_1,.slice A0_2 l0_2.length c0_2] 24 (0,0)) (by (with_reducible repeat (first|refine blk_drewN ?_ _|refine blk_drew ?_|refine blk_alloc ?_ _));refine blk_far ?_ NB244_257.out _;(with_reducible repeat (first|refine blk_drewN ?_ _|refine blk_drew ?_|refine blk_alloc ?_ _));refine blk_far ?_ NB244_257.out _;(with_reducible repeat (first|refine blk_drewN ?_ _|refine blk_drew ?_|refine blk_alloc ?_ _));refine blk_far ?_ NB244_257.out _;(with_reducible repeat (first|refine blk_drewN ?_ _|refine blk_drew ?_|refine blk_alloc ?_ _));exact BK244.out) hb);have n4_:=Am10_ (blk_below (g:=gb257) (o:=.cells #[.int .i64 t251,.int .i64 t252,.slice Ao25 t253.length co25] 28 (0,0)) (by (with_reducible repeat (first|refine blk_drewN ?_ _|refine blk_drew ?_|refine blk_alloc ?_ _));refine blk_put (cs:=#[.int .i64 t251,.int .i64 t252,.slice none 0 0]) ?_ 2 _ rfl;(with_reducible repeat (first|refine blk_drewN ?_ _|refine blk_drew ?_|refine blk_alloc ?_ _));refine blk_put (cs:=#[.int .i64 t251,.int .i64 0,.slice none 0 0]) ?_ 1 _ rfl;(with_reducible repeat (first|refine blk_drewN ?_ _|refine blk_drew ?_|refine blk_alloc ?_ _));refine blk_put (cs:=#[.int .i64 0,.int .i64 0,.slice none 0 0]) ?_ 0 _ rfl;(with_reducible repeat (first|refine blk_drewN ?_ _|refine blk_drew ?_|refine blk_alloc ?_ _));exact BK257.out) hb);have n5_:=Am10_ (below_step (by repeat (first|(with_reducible first|exact HB.out|apply below_alloc|apply pw_below_drewN|apply below_drew1|refine below_set ?_ GE244.out|refine below_set ?_ GE257.out)|exact HB.out)) hb);clear HO250;clear HO255;clear BK244;clear BK257;clear HB;have HO250:=n0_;have HO255:=n1_;have HO262:=n2_;have BK244:=n3_;have BK257:=n4_;have HB:=n5_;clear n0_ n1_ n2_ n3_ n4_ n5_;(try clear hb);(try clear hb2);(try clear hk);(try clear hi);(try clear ho0))|((with_reducible refine gate_dst (N:=12) rfl ?_);refine box_event ?hg (N:=12) ?hd (cs:=#[.int .i64 0,.int .i64 0,.slice none 0 0]) (t:=28) ?hr ?_;(case hd => rfl);(case hg => rfl);(case hr => first|(go_simp;done)|(go_simp;rfl));intro gb263 hg w28 hbox hb;have n0_:=Am10_ (Kd.R_below (by (with_reducible repeat (first|apply Kd.R_alloc|apply Kd.R_drewN|apply Kd.R_drew));exact HO250.out) hb);have n1_:=Am10_ (Kd.R_below (by (with_reducible repeat (first|apply Kd.R_alloc|apply Kd.R_drewN|apply Kd.R_drew));exact HO255.out) hb);have n2_:=Am10_ (Kd.R_below (by (with_reducible repeat (first|apply Kd.R_alloc|apply Kd.R_drewN|apply Kd.R_drew));exact HO262.out) hb);have n3_:=Am10_ (blk_below (g:=gb244) (o:=.cells #[.int .i64 a0_0,.int .i64 a0_1,.slice A0_2 l0_2.length c0_2] 24 (0,0)) (by (with_reducible repeat (first|refine blk_drewN ?_ _|refine blk_drew ?_|refine blk_alloc ?_ _));exact BK244.out) hb);have n4_:=Am10_ (blk_below (g:=gb257) (o:=.cells #[.int .i64 t251,.int .i64 t252,.slice Ao25 t253.length co25] 28 (0,0)) (by (with_reducible repeat (first|refine blk_drewN ?_ _|refine blk_drew ?_|refine blk_alloc ?_ _));exact BK257.out) hb);have n5_:=Am10_ (below_step (by repeat (first|(with_reducible first|exact HB.out|apply below_alloc|apply pw_below_drewN|apply below_drew1|refine below_set ?_ GE244.out|refine below_set ?_ GE257.out)|exact HB.out)) hb);have n6_:=Am10_ (hbox);have n7_:=Am10_ ((by rw [hg];exact (below_size (by repeat (first|(with_reducible first|exact HB.out|apply below_alloc|apply pw_below_drewN|apply below_drew1|refine below_set ?_ GE244.out|refine below_set ?_ GE257.out)|exact HB.out))):w.heap.size ≤ gb263));have n8_:=Am10_ ((by rw [hg];exact (below_size (by repeat (first|(with_reducible first|exact HB.out|apply below_alloc|apply pw_below_drewN|apply below_drew1|refine below_set ?_ GE244.out|refine below_set ?_ GE257.out)|exact HB.out))):w.heap.size ≤ gb263));have n9_:=Am10_ ((by rw [hg];exact Nat.ne_of_lt (blk_lt (g:=gb244) (o:=.cells #[.int .i64 a0_0,.int .i64 a0_1,.slice A0_2 l0_2.length c0_2] 24 (0,0)) (by (with_reducible repeat (first|refine blk_drewN ?_ _|refine blk_drew ?_|refine blk_alloc ?_ _));exact BK244.out)):gb244 ≠ gb263));have n10_:=Am10_ ((by rw [hg];exact Nat.ne_of_gt (blk_lt (g:=gb244) (o:=.cells #[.int .i64 a0_0,.int .i64 a0_1,.slice A0_2 l0_2.length c0_2] 24 (0,0)) (by (with_reducible repeat (first|refine blk_drewN ?_ _|refine blk_drew ?_|refine blk_alloc ?_ _));exact BK244.out)):gb263 ≠ gb244));have n11_:=Am10_ ((by rw [hg];exact Nat.ne_of_lt (blk_lt (g:=gb257) (o:=.cells #[.int .i64 t251,.int .i64 t252,.slice Ao25 t253.length co25] 28 (0,0)) (by (with_reducible repeat (first|refine blk_drewN ?_ _|refine blk_drew ?_|refine blk_alloc ?_ _));exact BK257.out)):gb257 ≠ gb263));have n12_:=Am10_ ((by rw [hg];exact Nat.ne_of_gt (blk_lt (g:=gb257) (o:=.cells #[.int .i64 t251,.int .i64 t252,.slice Ao25 t253.length co25] 28 (0,0)) (by (with_reducible repeat (first|refine blk_drewN ?_ _|refine blk_drew ?_|refine blk_alloc ?_ _));exact BK257.out)):gb263 ≠ gb257));clear HO250;clear HO255;clear HO262;clear BK244;clear BK257;clear HB;have HO250:=n0_;have HO255:=n1_;have HO262:=n2_;have BK244:=n3_;have BK257:=n4_;have HB:=n5_;have BK263:=n6_;have GW263:=n7_;have GE263:=n8_;have NB244_263:=n9_;have NB263_244:=n10_;have NB257_263:=n11_;have NB263_257:=n12_;clear n0_ n1_ n2_ n3_ n4_ n5_ n6_ n7_ n8_ n9_ n10_ n11_ n12_;clear hb hbox hg;have hnb29:=NB263_244.out;have hnc29:=NB244_263.out;have hnb30:=NB263_257.out;have hnc30:=NB257_263.out;have hcz31_0:w28.cell? ⟨gb263,0,none⟩=some (.int .i64 0):=(blk_cell BK263.out 0).trans rfl;have hcz31_1:w28.cell? ⟨gb263,1,none⟩=some (.int .i64 0):=(blk_cell BK263.out 1).trans rfl;have hcz31_2:w28.cell? ⟨gb263,2,none⟩=some (.slice none 0 0):=(blk_cell BK263.out 2).trans rfl;have hfz31_0:=blk_frozen BK263.out 0;have hfz31_1:=blk_frozen BK263.out 1;have hfz31_2:=blk_frozen BK263.out 2;obtain ⟨Ao32,co32,eo32⟩:=Kd.R_slice HO262.out;subst eo32)|((with_reducible refine gate_callee (f:=32) rfl ?_);refine goesL_ (some 41) rfl rfl Try.func32 (by kernel_rfl) rfl #[.agg #[.int .i64 t258,.int .i64 t259,.slice Ao32 t260.length co32],.int .i64 a1,.int .i64 a2,.int .i64 a3] rfl (by (try simp only [List.map_toArray,List.map_cons,List.map_nil]);first|done|rfl|(simp only [List.length_drop,List.length_take];rfl)) ?_;(with_reducible refine (impl_TakeChallenge.calls k t258 t259 _ _ t260 a1 a2 a3 t264 t265 t266 t269 _ ?side1 ?side2 A13.out).mono ?_);(case side1 => refine (Kd.R_reads' (e:=35) (base:=w.heap.size) (ok:=fun k_ => ((True∧some k_ ≠ (.slice Ao20 t248.length co20:Value).ownBlock)∧some k_ ≠ (.slice Ao25 t253.length co25:Value).ownBlock)) (n:=t260.length) (c:=co32) ?_).2.2;exact (by (with_reducible repeat (first|apply Kd.R_alloc|apply Kd.R_drewN|apply Kd.R_drew));exact (Kd.R_mono (Kd.R_far (p:=⟨gb263,2,none⟩) (Kd.R_far (p:=⟨gb263,1,none⟩) (Kd.R_far (p:=⟨gb263,0,none⟩) (Kd.R_types HO262.out BK263.out (by decide)) (fun _ hk => hk.2) (.int .i64 t258)) (fun _ hk => hk.2) (.int .i64 t259)) (fun _ hk => hk.2) (.slice Ao32 t260.length co32)) (fun _ h_ => h_.1))));(case side2 => exact (Kd.R_reads' HO262.out).2.1);rintro e w33 ⟨v267,rfl,ho0,hb⟩;refine ⟨_,rfl,?_⟩;have n0_:=Am10_ (Kd.R_elder' (by (with_reducible repeat (first|apply Kd.R_alloc|apply Kd.R_drewN|apply Kd.R_drew));exact (Kd.R_mono (Kd.R_far (p:=⟨gb263,2,none⟩) (Kd.R_far (p:=⟨gb263,1,none⟩) (Kd.R_far (p:=⟨gb263,0,none⟩) (Kd.R_types HO250.out BK263.out (by decide)) (fun _ hk => hk.2) (.int .i64 t258)) (fun _ hk => hk.2) (.int .i64 t259)) (fun _ hk => hk.2) (.slice Ao32 t260.length co32)) (fun _ h_ => h_.1))) (Kd.R_base ho0) hb);have n1_:=Am10_ (Kd.R_elder' (by (with_reducible repeat (first|apply Kd.R_alloc|apply Kd.R_drewN|apply Kd.R_drew));exact (Kd.R_mono (Kd.R_far (p:=⟨gb263,2,none⟩) (Kd.R_far (p:=⟨gb263,1,none⟩) (Kd.R_far (p:=⟨gb263,0,none⟩) (Kd.R_types HO255.out BK263.out (by decide)) (fun _ hk => hk.2) (.int .i64 t258)) (fun _ hk => hk.2) (.int .i64 t259)) (fun _ hk => hk.2) (.slice Ao32 t260.length co32)) (fun _ h_ => h_.1))) (Kd.R_base ho0) hb);have n2_:=Am10_ (Kd.R_elder' (by (with_reducible repeat (first|apply Kd.R_alloc|apply Kd.R_drewN|apply Kd.R_drew));exact (Kd.R_mono (Kd.R_far (p:=⟨gb263,2,none⟩) (Kd.R_far (p:=⟨gb263,1,none⟩) (Kd.R_far (p:=⟨gb263,0,none⟩) (Kd.R_types HO262.out BK263.out (by decide)) (fun _ hk => hk.2) (.int .i64 t258)) (fun _ hk => hk.2) (.int .i64 t259)) (fun _ hk => hk.2) (.slice Ao32 t260.length co32)) (fun _ h_ => h_.1))) (Kd.R_base ho0) hb);have n3_:=Am10_ (Kd.R_lower (Kd.R_new' (Kd.R_new' (Kd.R_new' ho0 (Kd.R_lt (by (with_reducible repeat (first|apply Kd.R_alloc|apply Kd.R_drewN|apply Kd.R_drew));exact (Kd.R_mono (Kd.R_far (p:=⟨gb263,2,none⟩) (Kd.R_far (p:=⟨gb263,1,none⟩) (Kd.R_far (p:=⟨gb263,0,none⟩) (Kd.R_types HO250.out BK263.out (by decide)) (fun _ hk => hk.2) (.int .i64 t258)) (fun _ hk => hk.2) (.int .i64 t259)) (fun _ hk => hk.2) (.slice Ao32 t260.length co32)) (fun _ h_ => h_.1))))) (Kd.R_lt (by (with_reducible repeat (first|apply Kd.R_alloc|apply Kd.R_drewN|apply Kd.R_drew));exact (Kd.R_mono (Kd.R_far (p:=⟨gb263,2,none⟩) (Kd.R_far (p:=⟨gb263,1,none⟩) (Kd.R_far (p:=⟨gb263,0,none⟩) (Kd.R_types HO255.out BK263.out (by decide)) (fun _ hk => hk.2) (.int .i64 t258)) (fun _ hk => hk.2) (.int .i64 t259)) (fun _ hk => hk.2) (.slice Ao32 t260.length co32)) (fun _ h_ => h_.1))))) (Kd.R_lt (by (with_reducible repeat (first|apply Kd.R_alloc|apply Kd.R_drewN|apply Kd.R_drew));exact (Kd.R_mono (Kd.R_far (p:=⟨gb263,2,none⟩) (Kd.R_far (p:=⟨gb263,1,none⟩) (Kd.R_far (p:=⟨gb263,0,none⟩) (Kd.R_types HO262.out BK263.out (by decide)) (fun _ hk => hk.2) (.int .i64 t258)) (fun _ hk => hk.2) (.int .i64 t259)) (fun _ hk => hk.2) (.slice Ao32 t260.length co32)) (fun _ h_ => h_.1))))) (below_size (by repeat (first|(with_reducible first|exact HB.out|apply below_alloc|apply pw_below_drewN|apply below_drew1|refine below_set ?_ GE244.out|refine below_set ?_ GE257.out|refine below_set ?_ GE263.out)|exact HB.out))));have n4_:=Am10_ (blk_below (g:=gb244) (o:=.cells #[.int .i64 a0_0,.int .i64 a0_1,.slice A0_2 l0_2.length c0_2] 24 (0,0)) (by (with_reducible repeat (first|refine blk_drewN ?_ _|refine blk_drew ?_|refine blk_alloc ?_ _));refine blk_far ?_ NB244_263.out _;(with_reducible repeat (first|refine blk_drewN ?_ _|refine blk_drew ?_|refine blk_alloc ?_ _));refine blk_far ?_ NB244_263.out _;(with_reducible repeat (first|refine blk_drewN ?_ _|refine blk_drew ?_|refine blk_alloc ?_ _));refine blk_far ?_ NB244_263.out _;(with_reducible repeat (first|refine blk_drewN ?_ _|refine blk_drew ?_|refine blk_alloc ?_ _));exact BK244.out) hb);have n5_:=Am10_ (blk_below (g:=gb257) (o:=.cells #[.int .i64 t251,.int .i64 t252,.slice Ao25 t253.length co25] 28 (0,0)) (by (with_reducible repeat (first|refine blk_drewN ?_ _|refine blk_drew ?_|refine blk_alloc ?_ _));refine blk_far ?_ NB257_263.out _;(with_reducible repeat (first|refine blk_drewN ?_ _|refine blk_drew ?_|refine blk_alloc ?_ _));refine blk_far ?_ NB257_263.out _;(with_reducible repeat (first|refine blk_drewN ?_ _|refine blk_drew ?_|refine blk_alloc ?_ _));refine blk_far ?_ NB257_263.out _;(with_reducible repeat (first|refine blk_drewN ?_ _|refine blk_drew ?_|refine blk_alloc ?_ _));exact BK257.out) hb);have n6_:=Am10_ (blk_below (g:=gb263) (o:=.cells #[.int .i64 t258,.int .i64 t259,.slice Ao32 t260.length co32] 28 (0,0)) (by (with_reducible repeat (first|refine blk_drewN ?_ _|refine blk_drew ?_|refine blk_alloc ?_ _));refine blk_put (cs:=#[.int .i64 t258,.int .i64 t259,.slice none 0 0]) ?_ 2 _ rfl;(with_reducible repeat (first|refine blk_drewN ?_ _|refine blk_drew ?_|refine blk_alloc ?_ _));refine blk_put (cs:=#[.int .i64 t258,.int .i64 0,.slice none 0 0]) ?_ 1 _ rfl;(with_reducible repeat (first|refine blk_drewN ?_ _|refine blk_drew ?_|refine blk_alloc ?_ _));refine blk_put (cs:=#[.int .i64 0,.int .i64 0,.slice none 0 0]) ?_ 0 _ rfl;(with_reducible repeat (first|refine blk_drewN ?_ _|refine blk_drew ?_|refine blk_alloc ?_ _));exact BK263.out) hb);have n7_:=Am10_ (below_step (by repeat (first|(with_reducible first|exact HB.out|apply below_alloc|apply pw_below_drewN|apply below_drew1|refine below_set ?_ GE244.out|refine below_set ?_ GE257.out|refine below_set ?_ GE263.out)|exact HB.out)) hb);clear HO250;clear HO255;clear HO262;clear BK244;clear BK257;clear BK263;clear HB;have HO250:=n0_;have HO255:=n1_;have HO262:=n2_;have HO268:=n3_;have BK244:=n4_;have BK257:=n5_;have BK263:=n6_;have HB:=n7_;clear n0_ n1_ n2_ n3_ n4_ n5_ n6_ n7_;(try clear hb);(try clear hb2);(try clear hk);(try clear hi);(try clear ho0))|((with_reducible refine gate_dst (N:=13) rfl ?_);refine box_event ?hg (N:=13) ?hd (cs:=#[.int .i64 0,.int .i64 0,.slice none 0 0]) (t:=28) ?hr ?_;(case hd => rfl);(case hg => rfl);(case hr => first|(go_simp;done)|(go_simp;rfl));intro gb270 hg w34 hbox hb;have n0_:=Am10_ (Kd.R_below (by (with_reducible repeat (first|apply Kd.R_alloc|apply Kd.R_drewN|apply Kd.R_drew));exact HO250.out) hb);have n1_:=Am10_ (Kd.R_below (by (with_reducible repeat (first|apply Kd.R_alloc|apply Kd.R_drewN|apply Kd.R_drew));exact HO255.out) hb);have n2_:=Am10_ (Kd.R_below (by (with_reducible repeat (first|apply Kd.R_alloc|apply Kd.R_drewN|apply Kd.R_drew));exact HO262.out) hb);have n3_:=Am10_ (Kd.R_below (by (with_reducible repeat (first|apply Kd.R_alloc|apply Kd.R_drewN|apply Kd.R_drew));exact HO268.out) hb);have n4_:=Am10_ (blk_below (g:=gb244) (o:=.cells #[.int .i64 a0_0,.int .i64 a0_1,.slice A0_2 l0_2.length c0_2] 24 (0,0)) (by (with_reducible repeat (first|refine blk_drewN ?_ _|refine blk_drew ?_|refine blk_alloc ?_ _));exact BK244.out) hb);have n5_:=Am10_ (blk_below (g:=gb257) (o:=.cells #[.int .i64 t251,.int .i64 t252,.slice Ao25 t253.length co25] 28 (0,0)) (by (with_reducible repeat (first|refine blk_drewN ?_ _|refine blk_drew ?_|refine blk_alloc ?_ _));exact BK257.out) hb);have n6_:=Am10_ (blk_below (g:=gb263) (o:=.cells #[.int .i64 t258,.int .i64 t259,.slice Ao32 t260.length co32] 28 (0,0)) (by (with_reducible repeat (first|refine blk_drewN ?_ _|refine blk_drew ?_|refine blk_alloc ?_ _));exact BK263.out) hb);have n7_:=Am10_ (below_step (by repeat (first|(with_reducible first|exact HB.out|apply below_alloc|apply pw_below_drewN|apply below_drew1|refine below_set ?_ GE244.out|refine below_set ?_ GE257.out|refine below_set ?_ GE263.out)|exact HB.out)) hb);have n8_:=Am10_ (hbox);have n9_:=Am10_ ((by rw [hg];exact (below_size (by repeat (first|(with_reducible first|exact HB.out|apply below_alloc|apply pw_below_drewN|apply below_drew1|refine below_set ?_ GE244.out|refine below_set ?_ GE257.out|refine below_set ?_ GE263.out)|exact HB.out))):w.heap.size ≤ gb270));have n10_:=Am10_ ((by rw [hg];exact (below_size (by repeat (first|(with_reducible first|exact HB.out|apply below_alloc|apply pw_below_drewN|apply below_drew1|refine below_set ?_ GE244.out|refine below_set ?_ GE257.out|refine below_set ?_ GE263.out)|exact HB.out))):w.heap.size ≤ gb270));have n11_:=Am10_ ((by rw [hg];exact Nat.ne_of_lt (blk_lt (g:=gb244) (o:=.cells #[.int .i64 a0_0,.int .i64 a0_1,.slice A0_2 l0_2.length c0_2] 24 (0,0)) (by (with_reducible repeat (first|refine blk_drewN ?_ _|refine blk_drew ?_|refine blk_alloc ?_ _));exact BK244.out)):gb244 ≠ gb270));have n12_:=Am10_ ((by rw [hg];exact Nat.ne_of_gt (blk_lt (g:=gb244) (o:=.cells #[.int .i64 a0_0,.int .i64 a0_1,.slice A0_2 l0_2.length c0_2] 24 (0,0)) (by (with_reducible repeat (first|refine blk_drewN ?_ _|refine blk_drew ?_|refine blk_alloc ?_ _));exact BK244.out)):gb270 ≠ gb244));have n13_:=Am10_ ((by rw [hg];exact Nat.ne_of_lt (blk_lt (g:=gb257) (o:=.cells #[.int .i64 t251,.int .i64 t252,.slice Ao25 t253.length co25] 28 (0,0)) (by (with_reducible repeat (first|refine blk_drewN ?_ _|refine blk_drew ?_|refine blk_alloc ?_ _));exact BK257.out)):gb257 ≠ gb270));have n14_:=Am10_ ((by rw [hg];exact Nat.ne_of_gt (blk_lt (g:=gb257) (o:=.cells #[.int .i64 t251,.int .i64 t252,.slice Ao25 t253.length co25] 28 (0,0)) (by (with_reducible repeat (first|refine blk_drewN ?_ _|refine blk_drew ?_|refine blk_alloc ?_ _));exact BK257.out)):gb270 ≠ gb257));have n15_:=Am10_ ((by rw [hg];exact Nat.ne_of_lt (blk_lt (g:=gb263) (o:=.cells #[.int .i64 t258,.int .i64 t259,.slice Ao32 t260.length co32] 28 (0,0)) (by (with_reducible repeat (first|refine blk_drewN ?_ _|refine blk_drew ?_|refine blk_alloc ?_ _));exact BK263.out)):gb263 ≠ gb270));have n16_:=Am10_ ((by rw [hg];exact Nat.ne_of_gt (blk_lt (g:=gb263) (o:=.cells #[.int .i64 t258,.int .i64 t259,.slice Ao32 t260.length co32] 28 (0,0)) (by (with_reducible repeat (first|refine blk_drewN ?_ _|refine blk_drew ?_|refine blk_alloc ?_ _));exact BK263.out)):gb270 ≠ gb263));clear HO250;clear HO255;clear HO262;clear HO268;clear BK244;clear BK257;clear BK263;clear HB;have HO250:=n0_;have HO255:=n1_;have HO262:=n2_;have HO268:=n3_;have BK244:=n4_;have BK257:=n5_;have BK263:=n6_;have HB:=n7_;have BK270:=n8_;have GW270:=n9_;have GE270:=n10_;have NB244_270:=n11_;have NB270_244:=n12_;have NB257_270:=n13_;have NB270_257:=n14_;have NB263_270:=n15_;have NB270_263:=n16_;clear n0_ n1_ n2_ n3_ n4_ n5_ n6_ n7_ n8_ n9_ n10_ n11_ n12_ n13_ n14_ n15_ n16_;clear hb hbox hg;have hnb35:=NB270_244.out;have hnc35:=NB244_270.out;have hnb36:=NB270_257.out;have hnc36:=NB257_270.out;have hnb37:=NB270_263.out;have hnc37:=NB263_270.out;have hcz38_0:w34.cell? ⟨gb270,0,none⟩=some (.int .i64 0):=(blk_cell BK270.out 0).trans rfl;have hcz38_1:w34.cell? ⟨gb270,1,none⟩=some (.int .i64 0):=(blk_cell BK270.out 1).trans rfl;have hcz38_2:w34.cell? ⟨gb270,2,none⟩=some (.slice none 0 0):=(blk_cell BK270.out 2).trans rfl;have hfz38_0:=blk_frozen BK270.out 0;have hfz38_1:=blk_frozen BK270.out 1;have hfz38_2:=blk_frozen BK270.out 2;obtain ⟨Ao39,co39,eo39⟩:=Kd.R_slice HO268.out;subst eo39))
  (try simp only [Act.put,List.setIfInBounds_toArray,List.set_cons_zero,List.set_cons_succ])
  go_cut [52] (fun v52 wc => ∃ (kq:Nat) (x52_13:Bool),v52=.bool x52_13∧Aside0 (laws_FnExactTakeChallenge.j0 kq a1 a2 a3 t256 t269 x52_13 a0_0 a0_1 l0_2 t251 t252 t253 t258 t259 t260 t264 t265 t266=some true)∧Aside0 (kq ≤ k)∧Aside0 (Kd.R k35 35 wc w.heap.size (fun k_ => some k_ ≠ ((.slice Ao32 t260.length co32):Value).ownBlock∧some k_ ≠ ((.slice Ao39 t266.length co39):Value).ownBlock) (.slice Ao25 t253.length co25) t253)∧Aside0 (Kd.R k35 35 wc w.heap.size (fun k_ => some k_ ≠ ((.slice Ao25 t253.length co25):Value).ownBlock∧some k_ ≠ ((.slice Ao39 t266.length co39):Value).ownBlock) (.slice Ao32 t260.length co32) t260)∧Aside0 (Kd.R k35 35 wc w.heap.size (fun k_ => some k_ ≠ ((.slice Ao25 t253.length co25):Value).ownBlock∧some k_ ≠ ((.slice Ao32 t260.length co32):Value).ownBlock) (.slice Ao39 t266.length co39) t266)∧Aside0 (wc.heap[gb244]?=some (.cells #[.int .i64 a0_0,.int .i64 a0_1,(.slice A0_2 l0_2.length c0_2)] 24 (0,0)))∧Aside0 (wc.heap[gb257]?=some (.cells #[.int .i64 t251,.int .i64 t252,(.slice Ao25 t253.length co25)] 28 (0,0)))∧Aside0 (wc.heap[gb263]?=some (.cells #[.int .i64 t258,.int .i64 t259,(.slice Ao32 t260.length co32)] 28 (0,0)))∧Aside0 (wc.heap[gb270]?=some (.cells #[.int .i64 t264,.int .i64 t265,(.slice Ao39 t266.length co39)] 28 (0,0)))∧Aside0 (Below w.heap.size w wc))
  case first =>
   have H:=HC14.out
   clear HC14
   replace H:=Option.bind_eq_some_iff.mp H
   obtain ⟨t271,A400,H⟩:=H
   replace H:(if t271=true then (laws_FnExactTakeChallenge.j0 k a1 a2 a3 t256 t269 (t269 != t256) a0_0 a0_1 l0_2 t251 t252 t253 t258 t259 t260 t264 t265 t266) else (laws_FnExactTakeChallenge.j0 k a1 a2 a3 t256 t269 true a0_0 a0_1 l0_2 t251 t252 t253 t258 t259 t260 t264 t265 t266))=some true:=H
   have A40:=Am10_ A400
   clear A400
   by_cases c41:t271=true
   ·subst c41
    have H1:(laws_FnExactTakeChallenge.j0 k a1 a2 a3 t256 t269 (t269 != t256) a0_0 a0_1 l0_2 t251 t252 t253 t258 t259 t260 t264 t265 t266)=some true:=by rw [if_pos rfl] at H;exact H
    clear H
    have H:=H1
    clear H1
    have H':=Am10_ H
    clear H
    have hnb42:=NB270_244.out
    have hnc42:=NB244_270.out
    have hnb43:=NB270_257.out
    have hnc43:=NB257_270.out
    have hnb44:=NB270_263.out
    have hnc44:=NB263_270.out
    have hcz45_0:w34.cell? ⟨gb270,0,none⟩=some (.int .i64 0):=(blk_cell BK270.out 0).trans rfl
    have hcz45_1:w34.cell? ⟨gb270,1,none⟩=some (.int .i64 0):=(blk_cell BK270.out 1).trans rfl
    have hcz45_2:w34.cell? ⟨gb270,2,none⟩=some (.slice none 0 0):=(blk_cell BK270.out 2).trans rfl
    have hfz45_0:=blk_frozen BK270.out 0
    have hfz45_1:=blk_frozen BK270.out 1
    have hfz45_2:=blk_frozen BK270.out 2
    have hnb46:=NB257_244.out
    have hnc46:=NB244_257.out
    have hnb47:=NB257_263.out
    have hnc47:=NB263_257.out
    have hcz48_0:w34.cell? ⟨gb257,0,none⟩=some (.int .i64 t251):=(blk_cell BK257.out 0).trans rfl
    have hcz48_1:w34.cell? ⟨gb257,1,none⟩=some (.int .i64 t252):=(blk_cell BK257.out 1).trans rfl
    have hcz48_2:w34.cell? ⟨gb257,2,none⟩=some (.slice Ao25 t253.length co25):=(blk_cell BK257.out 2).trans rfl
    have hfz48_0:=blk_frozen BK257.out 0
    have hfz48_1:=blk_frozen BK257.out 1
    have hfz48_2:=blk_frozen BK257.out 2
    go_wp2_with (first|((with_reducible refine gate_callee (f:=19) rfl ?_);refine goesL_ (some 46) rfl rfl Try.func19 (by kernel_rfl) rfl #[.agg #[.int .i64 t264,.int .i64 t265,.slice Ao39 t266.length co39],.agg #[.int .i64 t251,.int .i64 t252,.slice Ao25 t253.length co25]] rfl (by (try simp only [List.map_toArray,List.map_cons,List.map_nil]);first|done|rfl|(simp only [List.length_drop,List.length_take];rfl)) ?_;(with_reducible refine (laws_eqChallengeBook.calls k t264 t265 _ _ t266 t251 t252 _ _ t253 true _ ?side1 ?side2 ?side3 ?side4 A40.out).mono ?_);(case side1 => refine (Kd.R_reads' (e:=35) (base:=w.heap.size) (ok:=fun k_ => (((True∧some k_ ≠ (.slice Ao20 t248.length co20:Value).ownBlock)∧some k_ ≠ (.slice Ao25 t253.length co25:Value).ownBlock)∧some k_ ≠ (.slice Ao32 t260.length co32:Value).ownBlock)) (n:=t266.length) (c:=co39) ?_).2.2;exact (by (with_reducible repeat (first|apply Kd.R_alloc|apply Kd.R_drewN|apply Kd.R_drew));exact (Kd.R_mono (Kd.R_far (p:=⟨gb270,2,none⟩) (Kd.R_far (p:=⟨gb270,1,none⟩) (Kd.R_far (p:=⟨gb270,0,none⟩) (Kd.R_types HO268.out BK270.out (by decide)) (fun _ hk => hk.2) (.int .i64 t264)) (fun _ hk => hk.2) (.int .i64 t265)) (fun _ hk => hk.2) (.slice Ao39 t266.length co39)) (fun _ h_ => h_.1))));(case side2 => exact (Kd.R_reads' HO268.out).2.1);(case side3 => refine (Kd.R_reads' (e:=35) (base:=w.heap.size) (ok:=fun k_ => (((True∧some k_ ≠ (.slice Ao20 t248.length co20:Value).ownBlock)∧some k_ ≠ (.slice Ao32 t260.length co32:Value).ownBlock)∧some k_ ≠ (.slice Ao39 t266.length co39:Value).ownBlock)) (n:=t253.length) (c:=co25) ?_).2.2;exact (by (with_reducible repeat (first|apply Kd.R_alloc|apply Kd.R_drewN|apply Kd.R_drew));exact (Kd.R_mono (Kd.R_far (p:=⟨gb270,2,none⟩) (Kd.R_far (p:=⟨gb270,1,none⟩) (Kd.R_far (p:=⟨gb270,0,none⟩) (Kd.R_types HO255.out BK270.out (by decide)) (fun _ hk => hk.2) (.int .i64 t264)) (fun _ hk => hk.2) (.int .i64 t265)) (fun _ hk => hk.2) (.slice Ao39 t266.length co39)) (fun _ h_ => h_.1))));(case side4 => exact (Kd.R_reads' HO255.out).2.1);rintro e w49 ⟨rfl,hb⟩;refine ⟨_,rfl,?_⟩;have n0_:=Am10_ (Kd.R_below (by (with_reducible repeat (first|apply Kd.R_alloc|apply Kd.R_drewN|apply Kd.R_drew));exact (Kd.R_mono (Kd.R_far (p:=⟨gb270,2,none⟩) (Kd.R_far (p:=⟨gb270,1,none⟩) (Kd.R_far (p:=⟨gb270,0,none⟩) (Kd.R_types HO250.out BK270.out (by decide)) (fun _ hk => hk.2) (.int .i64 t264)) (fun _ hk => hk.2) (.int .i64 t265)) (fun _ hk => hk.2) (.slice Ao39 t266.length co39)) (fun _ h_ => h_.1))) hb);have n1_:=Am10_ (Kd.R_below (by (with_reducible repeat (first|apply Kd.R_alloc|apply Kd.R_drewN|apply Kd.R_drew));exact (Kd.R_mono (Kd.R_far (p:=⟨gb270,2,none⟩) (Kd.R_far (p:=⟨gb270,1,none⟩) (Kd.R_far (p:=⟨gb270,0,none⟩) (Kd.R_types HO255.out BK270.out (by decide)) (fun _ hk => hk.2) (.int .i64 t264)) (fun _ hk => hk.2) (.int .i64 t265)) (fun _ hk => hk.2) (.slice Ao39 t266.length co39)) (fun _ h_ => h_.1))) hb);have n2_:=Am10_ (Kd.R_below (by (with_reducible repeat (first|apply Kd.R_alloc|apply Kd.R_drewN|apply Kd.R_drew));exact (Kd.R_mono (Kd.R_far (p:=⟨gb270,2,none⟩) (Kd.R_far (p:=⟨gb270,1,none⟩) (Kd.R_far (p:=⟨gb270,0,none⟩) (Kd.R_types HO262.out BK270.out (by decide)) (fun _ hk => hk.2) (.int .i64 t264)) (fun _ hk => hk.2) (.int .i64 t265)) (fun _ hk => hk.2) (.slice Ao39 t266.length co39)) (fun _ h_ => h_.1))) hb);have n3_:=Am10_ (Kd.R_below (by (with_reducible repeat (first|apply Kd.R_alloc|apply Kd.R_drewN|apply Kd.R_drew));exact (Kd.R_mono (Kd.R_far (p:=⟨gb270,2,none⟩) (Kd.R_far (p:=⟨gb270,1,none⟩) (Kd.R_far (p:=⟨gb270,0,none⟩) (Kd.R_types HO268.out BK270.out (by decide)) (fun _ hk => hk.2) (.int .i64 t264)) (fun _ hk => hk.2) (.int .i64 t265)) (fun _ hk => hk.2) (.slice Ao39 t266.length co39)) (fun _ h_ => h_.1))) hb);have n4_:=Am10_ (blk_below (g:=gb244) (o:=.cells #[.int .i64 a0_0,.int .i64 a0_1,.slice A0_2 l0_2.length c0_2] 24 (0,0)) (by (with_reducible repeat (first|refine blk_drewN ?_ _|refine blk_drew ?_|refine blk_alloc ?_ _));refine blk_far ?_ NB244_270.out _;(with_reducible repeat (first|refine blk_drewN ?_ _|refine blk_drew ?_|refine blk_alloc ?_ _));refine blk_far ?_ NB244_270.out _;(with_reducible repeat (first|refine blk_drewN ?_ _|refine blk_drew ?_|refine blk_alloc ?_ _));refine blk_far ?_ NB244_270.out _;(with_reducible repeat (first|refine blk_drewN ?_ _|refine blk_drew ?_|refine blk_alloc ?_ _));exact BK244.out) hb);have n5_:=Am10_ (blk_below (g:=gb257) (o:=.cells #[.int .i64 t251,.int .i64 t252,.slice Ao25 t253.length co25] 28 (0,0)) (by (with_reducible repeat (first|refine blk_drewN ?_ _|refine blk_drew ?_|refine blk_alloc ?_ _));refine blk_far ?_ NB257_270.out _;(with_reducible repeat (first|refine blk_drewN ?_ _|refine blk_drew ?_|refine blk_alloc ?_ _));refine blk_far ?_ NB257_270.out _;(with_reducible repeat (first|refine blk_drewN ?_ _|refine blk_drew ?_|refine blk_alloc ?_ _));refine blk_far ?_ NB257_270.out _;(with_reducible repeat (first|refine blk_drewN ?_ _|refine blk_drew ?_|refine blk_alloc ?_ _));exact BK257.out) hb);have n6_:=Am10_ (blk_below (g:=gb263) (o:=.cells #[.int .i64 t258,.int .i64 t259,.slice Ao32 t260.length co32] 28 (0,0)) (by (with_reducible repeat (first|refine blk_drewN ?_ _|refine blk_drew ?_|refine blk_alloc ?_ _));refine blk_far ?_ NB263_270.out _;(with_reducible repeat (first|refine blk_drewN ?_ _|refine blk_drew ?_|refine blk_alloc ?_ _));refine blk_far ?_ NB263_270.out _;(with_reducible repeat (first|refine blk_drewN ?_ _|refine blk_drew ?_|refine blk_alloc ?_ _));refine blk_far ?_ NB263_270.out _;(with_reducible repeat (first|refine blk_drewN ?_ _|refine blk_drew ?_|refine blk_alloc ?_ _));exact BK263.out) hb);have n7_:=Am10_ (blk_below (g:=gb270) (o:=.cells #[.int .i64 t264,.int .i64 t265,.slice Ao39 t266.length co39] 28 (0,0)) (by (with_reducible repeat (first|refine blk_drewN ?_ _|refine blk_drew ?_|refine blk_alloc ?_ _));refine blk_put (cs:=#[.int .i64 t264,.int .i64 t265,.slice none 0 0]) ?_ 2 _ rfl;(with_reducible repeat (first|refine blk_drewN ?_ _|refine blk_drew ?_|refine blk_alloc ?_ _));refine blk_put (cs:=#[.int .i64 t264,.int .i64 0,.slice none 0 0]) ?_ 1 _ rfl;(with_reducible repeat (first|refine blk_drewN ?_ _|refine blk_drew ?_|refine blk_alloc ?_ _));refine blk_put (cs:=#[.int .i64 0,.int .i64 0,.slice none 0 0]) ?_ 0 _ rfl;(with_reducible repeat (first|refine blk_drewN ?_ _|refine blk_drew ?_|refine blk_alloc ?_ _));exact BK270.out) hb);have n8_:=Am10_ (below_step (by repeat (first|(with_reducible first|exact HB.out|apply below_alloc|apply pw_below_drewN|apply below_drew1|refine below_set ?_ GE244.out|refine below_set ?_ GE257.out|refine below_set ?_ GE263.out|refine below_set ?_ GE270.out)|exact HB.out)) hb);clear HO250;clear HO255;clear HO262;clear HO268;clear BK244;clear BK257;clear BK263;clear BK270;clear HB;have HO250:=n0_;have HO255:=n1_;have HO262:=n2_;have HO268:=n3_;have BK244:=n4_;have BK257:=n5_;have BK263:=n6_;have BK270:=n7_;have HB:=n8_;clear n0_ n1_ n2_ n3_ n4_ n5_ n6_ n7_ n8_;(try clear hb);(try clear hb2);(try clear hk);(try clear hi)))
    go_meet
    case rel => exact ⟨_,((t269 != t256)),(by first|rfl|(simp;done)|(simp [*];done)),H',⟨by first|omega|exact Nat.le_refl _⟩,⟨by (with_reducible repeat (first|apply Kd.R_alloc|apply Kd.R_drewN|apply Kd.R_drew));exact Kd.R_mono HO255.out (fun _ hk => ⟨hk.1.2,hk.2⟩)⟩,⟨by (with_reducible repeat (first|apply Kd.R_alloc|apply Kd.R_drewN|apply Kd.R_drew));exact Kd.R_mono HO262.out (fun _ hk => ⟨hk.1.2,hk.2⟩)⟩,⟨by (with_reducible repeat (first|apply Kd.R_alloc|apply Kd.R_drewN|apply Kd.R_drew));exact Kd.R_mono HO268.out (fun _ hk => ⟨hk.1.2,hk.2⟩)⟩,⟨by (with_reducible repeat (first|refine blk_drewN ?_ _|refine blk_drew ?_|refine blk_alloc ?_ _));exact BK244.out⟩,⟨by (with_reducible repeat (first|refine blk_drewN ?_ _|refine blk_drew ?_|refine blk_alloc ?_ _));exact BK257.out⟩,⟨by (with_reducible repeat (first|refine blk_drewN ?_ _|refine blk_drew ?_|refine blk_alloc ?_ _));exact BK263.out⟩,⟨by (with_reducible repeat (first|refine blk_drewN ?_ _|refine blk_drew ?_|refine blk_alloc ?_ _));exact BK270.out⟩,⟨by repeat (first|(with_reducible first|exact HB.out|apply below_alloc|apply pw_below_drewN|apply below_drew1|refine below_set ?_ GE244.out|refine below_set ?_ GE257.out|refine below_set ?_ GE263.out|refine below_set ?_ GE270.out)|exact HB.out)⟩⟩
   ·replace c41:=Bool.eq_false_iff.mpr c41
    subst c41
    have H1:(laws_FnExactTakeChallenge.j0 k a1 a2 a3 t256 t269 true a0_0 a0_1 l0_2 t251 t252 t253 t258 t259 t260 t264 t265 t266)=some true:=by rw [if_neg (show ¬ (false=true) by decide)] at H;exact H
    clear H
    have H:=H1
    clear H1
    have H':=Am10_ H
    clear H
    have hnb50:=NB270_244.out
    have hnc50:=NB244_270.out
    have hnb51:=NB270_257.out
    have hnc51:=NB257_270.out
    have hnb52:=NB270_263.out
    have hnc52:=NB263_270.out
    have hcz53_0:w34.cell? ⟨gb270,0,none⟩=some (.int .i64 0):=(blk_cell BK270.out 0).trans rfl
    have hcz53_1:w34.cell? ⟨gb270,1,none⟩=some (.int .i64 0):=(blk_cell BK270.out 1).trans rfl
    have hcz53_2:w34.cell? ⟨gb270,2,none⟩=some (.slice none 0 0):=(blk_cell BK270.out 2).trans rfl
    have hfz53_0:=blk_frozen BK270.out 0
    have hfz53_1:=blk_frozen BK270.out 1
    have hfz53_2:=blk_frozen BK270.out 2
    have hnb54:=NB257_244.out
    have hnc54:=NB244_257.out
    have hnb55:=NB257_263.out
    have hnc55:=NB263_257.out
    have hcz56_0:w34.cell? ⟨gb257,0,none⟩=some (.int .i64 t251):=(blk_cell BK257.out 0).trans rfl
    have hcz56_1:w34.cell? ⟨gb257,1,none⟩=some (.int .i64 t252):=(blk_cell BK257.out 1).trans rfl
    have hcz56_2:w34.cell? ⟨gb257,2,none⟩=some (.slice Ao25 t253.length co25):=(blk_cell BK257.out 2).trans rfl
    have hfz56_0:=blk_frozen BK257.out 0
    have hfz56_1:=blk_frozen BK257.out 1
    have hfz56_2:=blk_frozen BK257.out 2
    go_wp2_with (first|((with_reducible refine gate_callee (f:=19) rfl ?_);refine goesL_ (some 46) rfl rfl Try.func19 (by kernel_rfl) rfl #[.agg #[.int .i64 t264,.int .i64 t265,.slice Ao39 t266.length co39],.agg #[.int .i64 t251,.int .i64 t252,.slice Ao25 t253.length co25]] rfl (by (try simp only [List.map_toArray,List.map_cons,List.map_nil]);first|done|rfl|(simp only [List.length_drop,List.length_take];rfl)) ?_;(with_reducible refine (laws_eqChallengeBook.calls k t264 t265 _ _ t266 t251 t252 _ _ t253 false _ ?side1 ?side2 ?side3 ?side4 A40.out).mono ?_);(case side1 => refine (Kd.R_reads' (e:=35) (base:=w.heap.size) (ok:=fun k_ => (((True∧some k_ ≠ (.slice Ao20 t248.length co20:Value).ownBlock)∧some k_ ≠ (.slice Ao25 t253.length co25:Value).ownBlock)∧some k_ ≠ (.slice Ao32 t260.length co32:Value).ownBlock)) (n:=t266.length) (c:=co39) ?_).2.2;exact (by (with_reducible repeat (first|apply Kd.R_alloc|apply Kd.R_drewN|apply Kd.R_drew));exact (Kd.R_mono (Kd.R_far (p:=⟨gb270,2,none⟩) (Kd.R_far (p:=⟨gb270,1,none⟩) (Kd.R_far (p:=⟨gb270,0,none⟩) (Kd.R_types HO268.out BK270.out (by decide)) (fun _ hk => hk.2) (.int .i64 t264)) (fun _ hk => hk.2) (.int .i64 t265)) (fun _ hk => hk.2) (.slice Ao39 t266.length co39)) (fun _ h_ => h_.1))));(case side2 => exact (Kd.R_reads' HO268.out).2.1);(case side3 => refine (Kd.R_reads' (e:=35) (base:=w.heap.size) (ok:=fun k_ => (((True∧some k_ ≠ (.slice Ao20 t248.length co20:Value).ownBlock)∧some k_ ≠ (.slice Ao32 t260.length co32:Value).ownBlock)∧some k_ ≠ (.slice Ao39 t266.length co39:Value).ownBlock)) (n:=t253.length) (c:=co25) ?_).2.2;exact (by (with_reducible repeat (first|apply Kd.R_alloc|apply Kd.R_drewN|apply Kd.R_drew));exact (Kd.R_mono (Kd.R_far (p:=⟨gb270,2,none⟩) (Kd.R_far (p:=⟨gb270,1,none⟩) (Kd.R_far (p:=⟨gb270,0,none⟩) (Kd.R_types HO255.out BK270.out (by decide)) (fun _ hk => hk.2) (.int .i64 t264)) (fun _ hk => hk.2) (.int .i64 t265)) (fun _ hk => hk.2) (.slice Ao39 t266.length co39)) (fun _ h_ => h_.1))));(case side4 => exact (Kd.R_reads' HO255.out).2.1);rintro e w57 ⟨rfl,hb⟩;refine ⟨_,rfl,?_⟩;have n0_:=Am10_ (Kd.R_below (by (with_reducible repeat (first|apply Kd.R_alloc|apply Kd.R_drewN|apply Kd.R_drew));exact (Kd.R_mono (Kd.R_far (p:=⟨gb270,2,none⟩) (Kd.R_far (p:=⟨gb270,1,none⟩) (Kd.R_far (p:=⟨gb270,0,none⟩) (Kd.R_types HO250.out BK270.out (by decide)) (fun _ hk => hk.2) (.int .i64 t264)) (fun _ hk => hk.2) (.int .i64 t265)) (fun _ hk => hk.2) (.slice Ao39 t266.length co39)) (fun _ h_ => h_.1))) hb);have n1_:=Am10_ (Kd.R_below (by (with_reducible repeat (first|apply Kd.R_alloc|apply Kd.R_drewN|apply Kd.R_drew));exact (Kd.R_mono (Kd.R_far (p:=⟨gb270,2,none⟩) (Kd.R_far (p:=⟨gb270,1,none⟩) (Kd.R_far (p:=⟨gb270,0,none⟩) (Kd.R_types HO255.out BK270.out (by decide)) (fun _ hk => hk.2) (.int .i64 t264)) (fun _ hk => hk.2) (.int .i64 t265)) (fun _ hk => hk.2) (.slice Ao39 t266.length co39)) (fun _ h_ => h_.1))) hb);have n2_:=Am10_ (Kd.R_below (by (with_reducible repeat (first|apply Kd.R_alloc|apply Kd.R_drewN|apply Kd.R_drew));exact (Kd.R_mono (Kd.R_far (p:=⟨gb270,2,none⟩) (Kd.R_far (p:=⟨gb270,1,none⟩) (Kd.R_far (p:=⟨gb270,0,none⟩) (Kd.R_types HO262.out BK270.out (by decide)) (fun _ hk => hk.2) (.int .i64 t264)) (fun _ hk => hk.2) (.int .i64 t265)) (fun _ hk => hk.2) (.slice Ao39 t266.length co39)) (fun _ h_ => h_.1))) hb);have n3_:=Am10_ (Kd.R_below (by (with_reducible repeat (first|apply Kd.R_alloc|apply Kd.R_drewN|apply Kd.R_drew));exact (Kd.R_mono (Kd.R_far (p:=⟨gb270,2,none⟩) (Kd.R_far (p:=⟨gb270,1,none⟩) (Kd.R_far (p:=⟨gb270,0,none⟩) (Kd.R_types HO268.out BK270.out (by decide)) (fun _ hk => hk.2) (.int .i64 t264)) (fun _ hk => hk.2) (.int .i64 t265)) (fun _ hk => hk.2) (.slice Ao39 t266.length co39)) (fun _ h_ => h_.1))) hb);have n4_:=Am10_ (blk_below (g:=gb244) (o:=.cells #[.int .i64 a0_0,.int .i64 a0_1,.slice A0_2 l0_2.length c0_2] 24 (0,0)) (by (with_reducible repeat (first|refine blk_drewN ?_ _|refine blk_drew ?_|refine blk_alloc ?_ _));refine blk_far ?_ NB244_270.out _;(with_reducible repeat (first|refine blk_drewN ?_ _|refine blk_drew ?_|refine blk_alloc ?_ _));refine blk_far ?_ NB244_270.out _;(with_reducible repeat (first|refine blk_drewN ?_ _|refine blk_drew ?_|refine blk_alloc ?_ _));refine blk_far ?_ NB244_270.out _;(with_reducible repeat (first|refine blk_drewN ?_ _|refine blk_drew ?_|refine blk_alloc ?_ _));exact BK244.out) hb);have n5_:=Am10_ (blk_below (g:=gb257) (o:=.cells #[.int .i64 t251,.int .i64 t252,.slice Ao25 t253.length co25] 28 (0,0)) (by (with_reducible repeat (first|refine blk_drewN ?_ _|refine blk_drew ?_|refine blk_alloc ?_ _));refine blk_far ?_ NB257_270.out _;(with_reducible repeat (first|refine blk_drewN ?_ _|refine blk_drew ?_|refine blk_alloc ?_ _));refine blk_far ?_ NB257_270.out _;(with_reducible repeat (first|refine blk_drewN ?_ _|refine blk_drew ?_|refine blk_alloc ?_ _));refine blk_far ?_ NB257_270.out _;(with_reducible repeat (first|refine blk_drewN ?_ _|refine blk_drew ?_|refine blk_alloc ?_ _));exact BK257.out) hb);have n6_:=Am10_ (blk_below (g:=gb263) (o:=.cells #[.int .i64 t258,.int .i64 t259,.slice Ao32 t260.length co32] 28 (0,0)) (by (with_reducible repeat (first|refine blk_drewN ?_ _|refine blk_drew ?_|refine blk_alloc ?_ _));refine blk_far ?_ NB263_270.out _;(with_reducible repeat (first|refine blk_drewN ?_ _|refine blk_drew ?_|refine blk_alloc ?_ _));refine blk_far ?_ NB263_270.out _;(with_reducible repeat (first|refine blk_drewN ?_ _|refine blk_drew ?_|refine blk_alloc ?_ _));refine blk_far ?_ NB263_270.out _;(with_reducible repeat (first|refine blk_drewN ?_ _|refine blk_drew ?_|refine blk_alloc ?_ _));exact BK263.out) hb);have n7_:=Am10_ (blk_below (g:=gb270) (o:=.cells #[.int .i64 t264,.int .i64 t265,.slice Ao39 t266.length co39] 28 (0,0)) (by (with_reducible repeat (first|refine blk_drewN ?_ _|refine blk_drew ?_|refine blk_alloc ?_ _));refine blk_put (cs:=#[.int .i64 t264,.int .i64 t265,.slice none 0 0]) ?_ 2 _ rfl;(with_reducible repeat (first|refine blk_drewN ?_ _|refine blk_drew ?_|refine blk_alloc ?_ _));refine blk_put (cs:=#[.int .i64 t264,.int .i64 0,.slice none 0 0]) ?_ 1 _ rfl;(with_reducible repeat (first|refine blk_drewN ?_ _|refine blk_drew ?_|refine blk_alloc ?_ _));refine blk_put (cs:=#[.int .i64 0,.int .i64 0,.slice none 0 0]) ?_ 0 _ rfl;(with_reducible repeat (first|refine blk_drewN ?_ _|refine blk_drew ?_|refine blk_alloc ?_ _));exact BK270.out) hb);have n8_:=Am10_ (below_step (by repeat (first|(with_reducible first|exact HB.out|apply below_alloc|apply pw_below_drewN|apply below_drew1|refine below_set ?_ GE244.out|refine below_set ?_ GE257.out|refine below_set ?_ GE263.out|refine below_set ?_ GE270.out)|exact HB.out)) hb);clear HO250;clear HO255;clear HO262;clear HO268;clear BK244;clear BK257;clear BK263;clear BK270;clear HB;have HO250:=n0_;have HO255:=n1_;have HO262:=n2_;have HO268:=n3_;have BK244:=n4_;have BK257:=n5_;have BK263:=n6_;have BK270:=n7_;have HB:=n8_;clear n0_ n1_ n2_ n3_ n4_ n5_ n6_ n7_ n8_;(try clear hb);(try clear hb2);(try clear hk);(try clear hi)))
    go_meet
    case rel => exact ⟨_,(true),(by first|rfl|(simp;done)|(simp [*];done)),H',⟨by first|omega|exact Nat.le_refl _⟩,⟨by (with_reducible repeat (first|apply Kd.R_alloc|apply Kd.R_drewN|apply Kd.R_drew));exact Kd.R_mono HO255.out (fun _ hk => ⟨hk.1.2,hk.2⟩)⟩,⟨by (with_reducible repeat (first|apply Kd.R_alloc|apply Kd.R_drewN|apply Kd.R_drew));exact Kd.R_mono HO262.out (fun _ hk => ⟨hk.1.2,hk.2⟩)⟩,⟨by (with_reducible repeat (first|apply Kd.R_alloc|apply Kd.R_drewN|apply Kd.R_drew));exact Kd.R_mono HO268.out (fun _ hk => ⟨hk.1.2,hk.2⟩)⟩,⟨by (with_reducible repeat (first|refine blk_drewN ?_ _|refine blk_drew ?_|refine blk_alloc ?_ _));exact BK244.out⟩,⟨by (with_reducible repeat (first|refine blk_drewN ?_ _|refine blk_drew ?_|refine blk_alloc ?_ _));exact BK257.out⟩,⟨by (with_reducible repeat (first|refine blk_drewN ?_ _|refine blk_drew ?_|refine blk_alloc ?_ _));exact BK263.out⟩,⟨by (with_reducible repeat (first|refine blk_drewN ?_ _|refine blk_drew ?_|refine blk_alloc ?_ _));exact BK270.out⟩,⟨by repeat (first|(with_reducible first|exact HB.out|apply below_alloc|apply pw_below_drewN|apply below_drew1|refine below_set ?_ GE244.out|refine below_set ?_ GE257.out|refine below_set ?_ GE263.out|refine below_set ?_ GE270.out)|exact HB.out)⟩⟩
  case rest =>
   clear HC14
   try clear c1
   try clear c2
   try clear p2
   try clear c3
   try clear c4
   try clear c5
   try clear c6
   try clear c6b0
   try clear c15
   try clear c17
   try clear c19
   try clear c23
   try clear c29
   try clear c30
   try clear c31
   try clear c32
   try clear c35
   try clear c36
   try clear c37
   try clear c41
   try clear c42
   try clear c43
   try clear c44
   try clear c46
   try clear c47
   try clear c50
   try clear c51
   try clear c52
   try clear c54
   try clear c55
   try clear hcz16_0
   try clear hcz16_1
   try clear hcz16_2
   try clear hcz18_0
   try clear hcz18_1
   try clear hcz18_2
   try clear hcz24_0
   try clear hcz24_1
   try clear hcz24_2
   try clear hcz26_0
   try clear hcz26_1
   try clear hcz26_2
   try clear hcz31_0
   try clear hcz31_1
   try clear hcz31_2
   try clear hcz38_0
   try clear hcz38_1
   try clear hcz38_2
   try clear hcz45_0
   try clear hcz45_1
   try clear hcz45_2
   try clear hcz48_0
   try clear hcz48_1
   try clear hcz48_2
   try clear hcz53_0
   try clear hcz53_1
   try clear hcz53_2
   try clear hcz56_0
   try clear hcz56_1
   try clear hcz56_2
   try clear hcz8_0
   try clear hcz8_1
   try clear hcz8_2
   try clear hfz16_0
   try clear hfz16_1
   try clear hfz16_2
   try clear hfz18_0
   try clear hfz18_1
   try clear hfz18_2
   try clear hfz24_0
   try clear hfz24_1
   try clear hfz24_2
   try clear hfz26_0
   try clear hfz26_1
   try clear hfz26_2
   try clear hfz31_0
   try clear hfz31_1
   try clear hfz31_2
   try clear hfz38_0
   try clear hfz38_1
   try clear hfz38_2
   try clear hfz45_0
   try clear hfz45_1
   try clear hfz45_2
   try clear hfz48_0
   try clear hfz48_1
   try clear hfz48_2
   try clear hfz53_0
   try clear hfz53_1
   try clear hfz53_2
   try clear hfz56_0
   try clear hfz56_1
   try clear hfz56_2
   try clear hfz8_0
   try clear hfz8_1
   try clear hfz8_2
   obtain ⟨kq,x52_13,rfl,HA,HJ13,HO_258002,HO_264002,HO_271002,BK244,BK257,BK263,BK270,HB⟩:=hcut
   cases kq with
  |zero => exact absurd HA.out (by simp [laws_FnExactTakeChallenge.j0])
  |succ kj13 =>
    have H:=HA.out
    clear HA
    simp only [laws_FnExactTakeChallenge.j0] at H
    by_cases c58:x52_13=true
    ·subst c58
     have H1:(some false)=some true:=by rw [if_pos rfl] at H;exact H
     clear H
     have H:=H1
     clear H1
     exact absurd H (by simp)
    ·replace c58:=Bool.eq_false_iff.mpr c58
     subst c58
     have H1:((laws_toChallengeBook.f kj13 a0_0 a0_1 l0_2).bind fun bt272 => ((laws_eqChallengeBook.f kj13 t258 t259 t260 bt272.1 bt272.2.1 bt272.2.2).bind fun t277 => (if t277=true then ((laws_markChallengeBook.f kj13 t258 t259 t260 1).bind fun bt278 => (if bt278.1 < 0 then (laws_FnExactTakeChallenge.j1 kj13 a1 a2 a3 t256 true a0_0 a0_1 l0_2 t251 t252 t253 t264 t265 t266) else ((laws_eqChallengeBook.f kj13 t264 t265 t266 t251 t252 t253).bind fun t280 => (if t280=true then (laws_FnExactTakeChallenge.j1 kj13 a1 a2 a3 t256 (t269 != t256) a0_0 a0_1 l0_2 t251 t252 t253 t264 t265 t266) else (laws_FnExactTakeChallenge.j1 kj13 a1 a2 a3 t256 true a0_0 a0_1 l0_2 t251 t252 t253 t264 t265 t266))))) else (some false))))=some true:=by rw [if_neg (show ¬ (false=true) by decide)] at H;exact H
     clear H
     have H:=H1
     clear H1
     replace H:=Option.bind_eq_some_iff.mp H
     obtain ⟨⟨t272,t273,t274⟩,A590,H⟩:=H
     replace H:((laws_eqChallengeBook.f kj13 t258 t259 t260 t272 t273 t274).bind fun t277 => (if t277=true then ((laws_markChallengeBook.f kj13 t258 t259 t260 1).bind fun bt278 => (if bt278.1 < 0 then (laws_FnExactTakeChallenge.j1 kj13 a1 a2 a3 t256 true a0_0 a0_1 l0_2 t251 t252 t253 t264 t265 t266) else ((laws_eqChallengeBook.f kj13 t264 t265 t266 t251 t252 t253).bind fun t280 => (if t280=true then (laws_FnExactTakeChallenge.j1 kj13 a1 a2 a3 t256 (t269 != t256) a0_0 a0_1 l0_2 t251 t252 t253 t264 t265 t266) else (laws_FnExactTakeChallenge.j1 kj13 a1 a2 a3 t256 true a0_0 a0_1 l0_2 t251 t252 t253 t264 t265 t266))))) else (some false)))=some true:=H
     have A59:=Am10_ A590
     clear A590
     replace H:=Option.bind_eq_some_iff.mp H
     obtain ⟨t277,A600,H⟩:=H
     replace H:(if t277=true then ((laws_markChallengeBook.f kj13 t258 t259 t260 1).bind fun bt278 => (if bt278.1 < 0 then (laws_FnExactTakeChallenge.j1 kj13 a1 a2 a3 t256 true a0_0 a0_1 l0_2 t251 t252 t253 t264 t265 t266) else ((laws_eqChallengeBook.f kj13 t264 t265 t266 t251 t252 t253).bind fun t280 => (if t280=true then (laws_FnExactTakeChallenge.j1 kj13 a1 a2 a3 t256 (t269 != t256) a0_0 a0_1 l0_2 t251 t252 t253 t264 t265 t266) else (laws_FnExactTakeChallenge.j1 kj13 a1 a2 a3 t256 true a0_0 a0_1 l0_2 t251 t252 t253 t264 t265 t266))))) else (some false))=some true:=H
     have A60:=Am10_ A600
     clear A600
     by_cases c61:t277=true
     ·subst c61
      have H1:((laws_markChallengeBook.f kj13 t258 t259 t260 1).bind fun bt278 => (if bt278.1 < 0 then (laws_FnExactTakeChallenge.j1 kj13 a1 a2 a3 t256 true a0_0 a0_1 l0_2 t251 t252 t253 t264 t265 t266) else ((laws_eqChallengeBook.f kj13 t264 t265 t266 t251 t252 t253).bind fun t280 => (if t280=true then (laws_FnExactTakeChallenge.j1 kj13 a1 a2 a3 t256 (t269 != t256) a0_0 a0_1 l0_2 t251 t252 t253 t264 t265 t266) else (laws_FnExactTakeChallenge.j1 kj13 a1 a2 a3 t256 true a0_0 a0_1 l0_2 t251 t252 t253 t264 t265 t266)))))=some true:=by rw [if_pos rfl] at H;exact H
      clear H
      have H:=H1
      clear H1
      replace H:=Option.bind_eq_some_iff.mp H
      obtain ⟨⟨t278,t279⟩,A620,H⟩:=H
      replace H:(if t278 < 0 then (laws_FnExactTakeChallenge.j1 kj13 a1 a2 a3 t256 true a0_0 a0_1 l0_2 t251 t252 t253 t264 t265 t266) else ((laws_eqChallengeBook.f kj13 t264 t265 t266 t251 t252 t253).bind fun t280 => (if t280=true then (laws_FnExactTakeChallenge.j1 kj13 a1 a2 a3 t256 (t269 != t256) a0_0 a0_1 l0_2 t251 t252 t253 t264 t265 t266) else (laws_FnExactTakeChallenge.j1 kj13 a1 a2 a3 t256 true a0_0 a0_1 l0_2 t251 t252 t253 t264 t265 t266))))=some true:=H
      have A62:=Am10_ A620
      clear A620
      have HC63:=Am10_ H
      clear H
      try go_wp2
      have n0_:=Am10_ (Kd.R_drew HO_258002.out)
      have n1_:=Am10_ (Kd.R_drew HO_264002.out)
      have n2_:=Am10_ (Kd.R_drew HO_271002.out)
      have n3_:=Am10_ (blk_drew BK244.out)
      have n4_:=Am10_ (blk_drew BK257.out)
      have n5_:=Am10_ (blk_drew BK263.out)
      have n6_:=Am10_ (blk_drew BK270.out)
      have n7_:=Am10_ (below_drew1 HB.out)
      clear HO_258002
      clear HO_264002
      clear HO_271002
      clear BK244
      clear BK257
      clear BK263
      clear BK270
      clear HB
      have HO_258002:=n0_
      have HO_264002:=n1_
      have HO_271002:=n2_
      have BK244:=n3_
      have BK257:=n4_
      have BK263:=n5_
      have BK270:=n6_
      have HB:=n7_
      clear n0_ n1_ n2_ n3_ n4_ n5_ n6_ n7_
      refine start_ (n:=5) (S:=fun w' => w'.cell? ⟨gb263,0,none⟩=some (.int .i64 t258)∧w'.cell? ⟨gb263,1,none⟩=some (.int .i64 t259)∧w'.cell? ⟨gb263,2,none⟩=some (.slice Ao32 t260.length co32)∧w'.cell? ⟨gb244,0,none⟩=some (.int .i64 a0_0)∧w'.cell? ⟨gb244,1,none⟩=some (.int .i64 a0_1)∧w'.cell? ⟨gb244,2,none⟩=some (.slice A0_2 l0_2.length c0_2)) (ds:=[]) #[false,false,false,false,false] (by kernel_rfl) rfl rfl ⟨(blk_cell BK263.out 0).trans rfl,(blk_cell BK263.out 1).trans rfl,(blk_cell BK263.out 2).trans rfl,(blk_cell BK244.out 0).trans rfl,(blk_cell BK244.out 1).trans rfl,(blk_cell BK244.out 2).trans rfl⟩ (fun hHeld => ?_)
      generalize wc.drew=w64 at HO_258002 HO_264002 HO_271002 BK244 BK257 BK263 BK270 HB hHeld ⊢
      refine take_ (i:=0) (N:=some 53) (v:=?_) (a':=?_) #[true,false,false,false,false] rfl rfl (by kernel_rfl) (fun _ _ _ h => h) (Or.inl ⟨by rfl,?_⟩) hHeld ?_ ?_
      rotate_left
      ·rintro w' ⟨s0,s1,s2,s3,s4,s5⟩
       go_simp
       with_reducible rfl
      rotate_left
      ·simp only [Act.put,List.setIfInBounds_toArray,List.set_cons_zero,List.set_cons_succ,i64_w,i32_w]
       rfl
      refine take_ (i:=1) (N:=some 54) (v:=?_) (a':=?_) #[true,true,false,false,false] rfl rfl (by kernel_rfl) (fun _ _ _ h => h) (Or.inl ⟨by rfl,?_⟩) hHeld ?_ ?_
      rotate_left
      ·rintro w' ⟨s0,s1,s2,s3,s4,s5⟩
       go_simp
       with_reducible rfl
      rotate_left
      ·simp only [Act.put,List.setIfInBounds_toArray,List.set_cons_zero,List.set_cons_succ,i64_w,i32_w]
       rfl
      refine one_ (i:=2) (N:=some 55) #[true,true,true,false,false] rfl rfl (by kernel_rfl) (by decide) (fun K hK => ?_)
      refine goes_ Try.func17 (by kernel_rfl) rfl #[.agg #[.int .i64 a0_0,.int .i64 a0_1,.slice A0_2 l0_2.length c0_2]] (by rfl) rfl rfl (by (try simp only [List.map_toArray,List.map_cons,List.map_nil]);first|done|rfl|(simp only [List.length_drop,List.length_take];rfl)) ?_
      with_reducible refine (laws_toChallengeBook.calls kj13 a0_0 a0_1 _ _ l0_2 t272 t273 t274 _ ?side1 ?side2 A59.out).mono ?_
      (case side1 => repeat (first|exact (Kd.C_below HR0_2.out HB.out)|(with_reducible refine Kd.C_alloc ?_ _)|(with_reducible refine Kd.C_drewN ?_ _)|(with_reducible refine Kd.C_drew ?_)))
      (case side2 => exact HC0_2.out)
      rintro e w65 ⟨v275,rfl,ho0,hb⟩
      refine ⟨_,rfl,?_⟩
      have n0_:=Am10_ (Kd.R_elder' (by (with_reducible repeat (first|apply Kd.R_alloc|apply Kd.R_drewN|apply Kd.R_drew));exact HO_258002.out) (Kd.R_base ho0) hb)
      have n1_:=Am10_ (Kd.R_elder' (by (with_reducible repeat (first|apply Kd.R_alloc|apply Kd.R_drewN|apply Kd.R_drew));exact HO_264002.out) (Kd.R_base ho0) hb)
      have n2_:=Am10_ (Kd.R_elder' (by (with_reducible repeat (first|apply Kd.R_alloc|apply Kd.R_drewN|apply Kd.R_drew));exact HO_271002.out) (Kd.R_base ho0) hb)
      have n3_:=Am10_ (Kd.R_lower (Kd.R_new' (Kd.R_new' (Kd.R_new' ho0 (Kd.R_lt (by (with_reducible repeat (first|apply Kd.R_alloc|apply Kd.R_drewN|apply Kd.R_drew));exact HO_258002.out))) (Kd.R_lt (by (with_reducible repeat (first|apply Kd.R_alloc|apply Kd.R_drewN|apply Kd.R_drew));exact HO_264002.out))) (Kd.R_lt (by (with_reducible repeat (first|apply Kd.R_alloc|apply Kd.R_drewN|apply Kd.R_drew));exact HO_271002.out))) (below_size (by repeat (first|(with_reducible first|exact HB.out|apply below_alloc|apply pw_below_drewN|apply below_drew1|refine below_set ?_ GE244.out|refine below_set ?_ GE257.out|refine below_set ?_ GE263.out|refine below_set ?_ GE270.out)|exact HB.out))))
      have n4_:=Am10_ (blk_below (g:=gb244) (o:=.cells #[.int .i64 a0_0,.int .i64 a0_1,.slice A0_2 l0_2.length c0_2] 24 (0,0)) (by (with_reducible repeat (first|refine blk_drewN ?_ _|refine blk_drew ?_|refine blk_alloc ?_ _));exact BK244.out) hb)
      have n5_:=Am10_ (blk_below (g:=gb257) (o:=.cells #[.int .i64 t251,.int .i64 t252,.slice Ao25 t253.length co25] 28 (0,0)) (by (with_reducible repeat (first|refine blk_drewN ?_ _|refine blk_drew ?_|refine blk_alloc ?_ _));exact BK257.out) hb)
      have n6_:=Am10_ (blk_below (g:=gb263) (o:=.cells #[.int .i64 t258,.int .i64 t259,.slice Ao32 t260.length co32] 28 (0,0)) (by (with_reducible repeat (first|refine blk_drewN ?_ _|refine blk_drew ?_|refine blk_alloc ?_ _));exact BK263.out) hb)
      have n7_:=Am10_ (blk_below (g:=gb270) (o:=.cells #[.int .i64 t264,.int .i64 t265,.slice Ao39 t266.length co39] 28 (0,0)) (by (with_reducible repeat (first|refine blk_drewN ?_ _|refine blk_drew ?_|refine blk_alloc ?_ _));exact BK270.out) hb)
      have n8_:=Am10_ (below_step (by repeat (first|(with_reducible first|exact HB.out|apply below_alloc|apply pw_below_drewN|apply below_drew1|refine below_set ?_ GE244.out|refine below_set ?_ GE257.out|refine below_set ?_ GE263.out|refine below_set ?_ GE270.out)|exact HB.out)) hb)
      clear HO_258002
      clear HO_264002
      clear HO_271002
      clear BK244
      clear BK257
      clear BK263
      clear BK270
      clear HB
      have HO_258002:=n0_
      have HO_264002:=n1_
      have HO_271002:=n2_
      have HO276:=n3_
      have BK244:=n4_
      have BK257:=n5_
      have BK263:=n6_
      have BK270:=n7_
      have HB:=n8_
      clear n0_ n1_ n2_ n3_ n4_ n5_ n6_ n7_ n8_
      (try clear hb)
      (try clear hb2)
      (try clear hk)
      (try clear hi)
      (try clear ho0)
      obtain ⟨Ao66,co66,eo66⟩:=Kd.R_slice HO276.out
      (first|subst eo66|(injection eo66 with f1_ f2_ f3_;have f4_:=f1_.symm;have f5_:=f3_.symm;clear f1_ f2_ f3_;subst f4_;subst f5_))
      refine hK.out _ _ ⟨(blk_cell BK263.out 0).trans rfl,(blk_cell BK263.out 1).trans rfl,(blk_cell BK263.out 2).trans rfl,(blk_cell BK244.out 0).trans rfl,(blk_cell BK244.out 1).trans rfl,(blk_cell BK244.out 2).trans rfl⟩ (fun hHeld => ?_)
      clear hK K
      refine norm_ (a':=?_) ?_ ?_
      rotate_left
      ·show Act.put _ (some 55) _=_
       simp only [Act.put,List.setIfInBounds_toArray,List.set_cons_zero,List.set_cons_succ,i64_w,i32_w]
       rfl
      refine one_ (i:=3) (N:=some 56) #[true,true,true,true,false] rfl rfl (by kernel_rfl) (by decide) (fun K hK => ?_)
      refine goes_ Try.func19 (by kernel_rfl) rfl #[.agg #[.int .i64 t258,.int .i64 t259,.slice Ao32 t260.length co32],.agg #[.int .i64 t272,.int .i64 t273,.slice Ao66 t274.length co66]] (by rfl) rfl rfl (by (try simp only [List.map_toArray,List.map_cons,List.map_nil]);first|done|rfl|(simp only [List.length_drop,List.length_take];rfl)) ?_
      with_reducible refine (laws_eqChallengeBook.calls kj13 t258 t259 _ _ t260 t272 t273 _ _ t274 true _ ?side1 ?side2 ?side3 ?side4 A60.out).mono ?_
      (case side1 => repeat (first|exact (Kd.R_reads' HO_264002.out).2.2|(with_reducible refine Kd.C_alloc ?_ _)|(with_reducible refine Kd.C_drewN ?_ _)|(with_reducible refine Kd.C_drew ?_)))
      (case side2 => exact (Kd.R_reads' HO_264002.out).2.1)
      (case side3 => repeat (first|exact (Kd.R_reads' HO276.out).2.2|(with_reducible refine Kd.C_alloc ?_ _)|(with_reducible refine Kd.C_drewN ?_ _)|(with_reducible refine Kd.C_drew ?_)))
      (case side4 => exact (Kd.R_reads' HO276.out).2.1)
      rintro e w67 ⟨rfl,hb⟩
      refine ⟨_,rfl,?_⟩
      have n0_:=Am10_ (Kd.R_below (by (with_reducible repeat (first|apply Kd.R_alloc|apply Kd.R_drewN|apply Kd.R_drew));exact HO_258002.out) hb)
      have n1_:=Am10_ (Kd.R_below (by (with_reducible repeat (first|apply Kd.R_alloc|apply Kd.R_drewN|apply Kd.R_drew));exact HO_264002.out) hb)
      have n2_:=Am10_ (Kd.R_below (by (with_reducible repeat (first|apply Kd.R_alloc|apply Kd.R_drewN|apply Kd.R_drew));exact HO_271002.out) hb)
      have n3_:=Am10_ (Kd.R_below (by (with_reducible repeat (first|apply Kd.R_alloc|apply Kd.R_drewN|apply Kd.R_drew));exact HO276.out) hb)
      have n4_:=Am10_ (blk_below (g:=gb244) (o:=.cells #[.int .i64 a0_0,.int .i64 a0_1,.slice A0_2 l0_2.length c0_2] 24 (0,0)) (by (with_reducible repeat (first|refine blk_drewN ?_ _|refine blk_drew ?_|refine blk_alloc ?_ _));exact BK244.out) hb)
      have n5_:=Am10_ (blk_below (g:=gb257) (o:=.cells #[.int .i64 t251,.int .i64 t252,.slice Ao25 t253.length co25] 28 (0,0)) (by (with_reducible repeat (first|refine blk_drewN ?_ _|refine blk_drew ?_|refine blk_alloc ?_ _));exact BK257.out) hb)
      have n6_:=Am10_ (blk_below (g:=gb263) (o:=.cells #[.int .i64 t258,.int .i64 t259,.slice Ao32 t260.length co32] 28 (0,0)) (by (with_reducible repeat (first|refine blk_drewN ?_ _|refine blk_drew ?_|refine blk_alloc ?_ _));exact BK263.out) hb)
      have n7_:=Am10_ (blk_below (g:=gb270) (o:=.cells #[.int .i64 t264,.int .i64 t265,.slice Ao39 t266.length co39] 28 (0,0)) (by (with_reducible repeat (first|refine blk_drewN ?_ _|refine blk_drew ?_|refine blk_alloc ?_ _));exact BK270.out) hb)
      have n8_:=Am10_ (below_step (by repeat (first|(with_reducible first|exact HB.out|apply below_alloc|apply pw_below_drewN|apply below_drew1|refine below_set ?_ GE244.out|refine below_set ?_ GE257.out|refine below_set ?_ GE263.out|refine below_set ?_ GE270.out)|exact HB.out)) hb)
      clear HO_258002
      clear HO_264002
      clear HO_271002
      clear HO276
      clear BK244
      clear BK257
      clear BK263
      clear BK270
      clear HB
      have HO_258002:=n0_
      have HO_264002:=n1_
      have HO_271002:=n2_
      have HO276:=n3_
      have BK244:=n4_
      have BK257:=n5_
      have BK263:=n6_
      have BK270:=n7_
      have HB:=n8_
      clear n0_ n1_ n2_ n3_ n4_ n5_ n6_ n7_ n8_
      (try clear hb)
      (try clear hb2)
      (try clear hk)
      (try clear hi)
      refine hK.out _ _ ⟨(blk_cell BK263.out 0).trans rfl,(blk_cell BK263.out 1).trans rfl,(blk_cell BK263.out 2).trans rfl,(blk_cell BK244.out 0).trans rfl,(blk_cell BK244.out 1).trans rfl,(blk_cell BK244.out 2).trans rfl⟩ (fun hHeld => ?_)
      clear hK K
      refine norm_ (a':=?_) ?_ ?_
      rotate_left
      ·show Act.put _ (some 56) _=_
       simp only [Act.put,List.setIfInBounds_toArray,List.set_cons_zero,List.set_cons_succ,i64_w,i32_w]
       rfl
      refine pure_ (i:=4) (N:=some 57) (v:=?_) (a':=?_) #[true,true,true,true,true] rfl rfl (by kernel_rfl) (fun _ _ _ h => h) (Or.inl ⟨by rfl,?_⟩) ?_ ?_
      rotate_left
      ·intro w'
       go_simp
       with_reducible rfl
      rotate_left
      ·simp only [Act.put,List.setIfInBounds_toArray,List.set_cons_zero,List.set_cons_succ,i64_w,i32_w]
       rfl
      refine done_ (by kernel_rfl) ?_
      have hnb68:=NB263_244.out
      have hnc68:=NB244_263.out
      have hnb69:=NB263_257.out
      have hnc69:=NB257_263.out
      have hnb70:=NB263_270.out
      have hnc70:=NB270_263.out
      have hcz71_0:w67.cell? ⟨gb263,0,none⟩=some (.int .i64 t258):=(blk_cell BK263.out 0).trans rfl
      have hcz71_1:w67.cell? ⟨gb263,1,none⟩=some (.int .i64 t259):=(blk_cell BK263.out 1).trans rfl
      have hcz71_2:w67.cell? ⟨gb263,2,none⟩=some (.slice Ao32 t260.length co32):=(blk_cell BK263.out 2).trans rfl
      have hfz71_0:=blk_frozen BK263.out 0
      have hfz71_1:=blk_frozen BK263.out 1
      have hfz71_2:=blk_frozen BK263.out 2
      go_upto_region 14 with (first|((with_reducible refine gate_callee (f:=20) rfl ?_);refine goesL_ (some 60) rfl rfl Try.func20 (by kernel_rfl) rfl #[.agg #[.int .i64 t258,.int .i64 t259,.slice Ao32 t260.length co32],.int .i64 1] rfl (by (try simp only [List.map_toArray,List.map_cons,List.map_nil]);first|done|rfl|(simp only [List.length_drop,List.length_take];rfl)) ?_;(with_reducible refine (laws_markChallengeBook.calls kj13 t258 t259 (fun k_ => some k_=(.slice Ao32 t260.length co32:Value).ownBlock) (.slice Ao32 t260.length co32) t260 1 t278 t279 w _ ?side1 ?side2 A62.out).mono ?_);(case side1 => repeat (first|(with_reducible first|exact HB.out|apply below_alloc|apply pw_below_drewN|apply below_drew1|refine below_set ?_ GE244.out|refine below_set ?_ GE257.out|refine below_set ?_ GE263.out|refine below_set ?_ GE270.out)|exact HB.out));(case side2 => exact Kd.R_tight rfl HO_264002.out);rintro e w72 ⟨rfl,hy0,hb,hkp⟩;refine ⟨_,rfl,?_⟩;have n0_:=Am10_ (Kd.R_mono (ok':=fun k_ => some k_ ≠ (.slice Ao32 t260.length co32:Value).ownBlock∧some k_ ≠ (.slice Ao39 t266.length co39:Value).ownBlock∧some k_ ≠ (.slice Ao66 t274.length co66:Value).ownBlock) (Kd.R_keptB (HO_258002.out) hkp (fun k_ hk_ hs_ => (hk_.1.1) hs_)) (fun k_ hk_ => ⟨hk_.1.1.1,hk_.1.1.2,hk_.1.2⟩));have n1_:=Am10_ (Kd.R_reok rfl hy0 (fun k_ e_ => HO_264002.out.1 k_ e_));have n2_:=Am10_ (Kd.R_mono (ok':=fun k_ => some k_ ≠ (.slice Ao25 t253.length co25:Value).ownBlock∧some k_ ≠ (.slice Ao32 t260.length co32:Value).ownBlock∧some k_ ≠ (.slice Ao66 t274.length co66:Value).ownBlock) (Kd.R_keptB (HO_271002.out) hkp (fun k_ hk_ hs_ => (hk_.1.2) hs_)) (fun k_ hk_ => ⟨hk_.1.1.1,hk_.1.1.2,hk_.1.2⟩));have n3_:=Am10_ (blk_kept (by (with_reducible repeat (first|refine blk_drewN ?_ _|refine blk_drew ?_|refine blk_alloc ?_ _));exact BK244.out) hkp (fun hs_ => (fun e_ => (Kd.R_ne HO_264002.out BK244.out (by decide)) e_) hs_));have n4_:=Am10_ (blk_kept (by (with_reducible repeat (first|refine blk_drewN ?_ _|refine blk_drew ?_|refine blk_alloc ?_ _));exact BK257.out) hkp (fun hs_ => (fun e_ => (Kd.R_ne HO_264002.out BK257.out (by decide)) e_) hs_));have n5_:=Am10_ (blk_kept (by (with_reducible repeat (first|refine blk_drewN ?_ _|refine blk_drew ?_|refine blk_alloc ?_ _));exact BK263.out) hkp (fun hs_ => (fun e_ => (Kd.R_ne HO_264002.out BK263.out (by decide)) e_) hs_));have n6_:=Am10_ (blk_kept (by (with_reducible repeat (first|refine blk_drewN ?_ _|refine blk_drew ?_|refine blk_alloc ?_ _));exact BK270.out) hkp (fun hs_ => (fun e_ => (Kd.R_ne HO_264002.out BK270.out (by decide)) e_) hs_));have n7_:=Am10_ (Kd.R_mono (ok':=fun k_ => some k_ ≠ (.slice Ao25 t253.length co25:Value).ownBlock∧some k_ ≠ (.slice Ao32 t260.length co32:Value).ownBlock∧some k_ ≠ (.slice Ao39 t266.length co39:Value).ownBlock) (Kd.R_keptB (HO276.out) hkp (fun k_ hk_ hs_ => (hk_.1.2) hs_)) (fun k_ hk_ => ⟨hk_.1.1.1.2,hk_.1.1.2,hk_.1.2⟩));have n8_:=Am10_ (hb);clear HO_258002;clear HO_264002;clear HO_271002;clear BK244;clear BK257;clear BK263;clear BK270;clear HO276;clear HB;have HO_258002:=n0_;have HO_264002:=n1_;have HO_271002:=n2_;have BK244:=n3_;have BK257:=n4_;have BK263:=n5_;have BK270:=n6_;have HO276:=n7_;have HB:=n8_;clear n0_ n1_ n2_ n3_ n4_ n5_ n6_ n7_ n8_;(try clear hb);(try clear hkp);(try clear hy0)))
      (try simp only [Act.put,List.setIfInBounds_toArray,List.set_cons_zero,List.set_cons_succ])
      go_cut [73] (fun v73 wc => ∃ (kq:Nat) (x73_62:Bool),v73=.bool x73_62∧Aside0 (laws_FnExactTakeChallenge.j1 kq a1 a2 a3 t256 x73_62 a0_0 a0_1 l0_2 t251 t252 t253 t264 t265 t266=some true)∧Aside0 (kq ≤ kj13)∧Aside0 (Kd.R k35 35 wc w.heap.size (fun k_ => some k_ ≠ ((.slice Ao32 t260.length co32):Value).ownBlock∧some k_ ≠ ((.slice Ao39 t266.length co39):Value).ownBlock) (.slice Ao25 t253.length co25) t253)∧Aside0 (Kd.R k35 35 wc w.heap.size (fun k_ => some k_ ≠ ((.slice Ao25 t253.length co25):Value).ownBlock∧some k_ ≠ ((.slice Ao39 t266.length co39):Value).ownBlock) (.slice Ao32 t260.length co32) t279)∧Aside0 (Kd.R k35 35 wc w.heap.size (fun k_ => some k_ ≠ ((.slice Ao25 t253.length co25):Value).ownBlock∧some k_ ≠ ((.slice Ao32 t260.length co32):Value).ownBlock) (.slice Ao39 t266.length co39) t266)∧Aside0 (wc.heap[gb244]?=some (.cells #[.int .i64 a0_0,.int .i64 a0_1,(.slice A0_2 l0_2.length c0_2)] 24 (0,0)))∧Aside0 (wc.heap[gb257]?=some (.cells #[.int .i64 t251,.int .i64 t252,(.slice Ao25 t253.length co25)] 28 (0,0)))∧Aside0 (wc.heap[gb263]?=some (.cells #[.int .i64 t258,.int .i64 t259,(.slice Ao32 t260.length co32)] 28 (0,0)))∧Aside0 (wc.heap[gb270]?=some (.cells #[.int .i64 t264,.int .i64 t265,(.slice Ao39 t266.length co39)] 28 (0,0)))∧Aside0 (Below w.heap.size w wc))
      case first =>
       have H:=HC63.out
       clear HC63
       by_cases c73:t278 < 0
       ·rw [if_pos c73] at H
        have c73b0:decide (t278 < 0)=true:=decide_eq_true c73
        clear c73
        (first|rw [c73b0]|(simp only [i64_w,i32_w];rw [c73b0])|skip)
        have H':=Am10_ H
        clear H
        go_wp2
        go_meet
        case rel => exact ⟨_,(true),(by first|rfl|(simp;done)|(simp [*];done)),H',⟨by have:=HJ13.out;first|omega|exact Nat.le_refl _⟩,⟨by (with_reducible repeat (first|apply Kd.R_alloc|apply Kd.R_drewN|apply Kd.R_drew));exact Kd.R_mono HO_258002.out (fun _ hk => ⟨hk.1,hk.2.1⟩)⟩,⟨by (with_reducible repeat (first|apply Kd.R_alloc|apply Kd.R_drewN|apply Kd.R_drew));exact Kd.R_mono HO_264002.out (fun _ hk => ⟨hk.1.1,hk.1.2⟩)⟩,⟨by (with_reducible repeat (first|apply Kd.R_alloc|apply Kd.R_drewN|apply Kd.R_drew));exact Kd.R_mono HO_271002.out (fun _ hk => ⟨hk.1,hk.2.1⟩)⟩,⟨by (with_reducible repeat (first|refine blk_drewN ?_ _|refine blk_drew ?_|refine blk_alloc ?_ _));exact BK244.out⟩,⟨by (with_reducible repeat (first|refine blk_drewN ?_ _|refine blk_drew ?_|refine blk_alloc ?_ _));exact BK257.out⟩,⟨by (with_reducible repeat (first|refine blk_drewN ?_ _|refine blk_drew ?_|refine blk_alloc ?_ _));exact BK263.out⟩,⟨by (with_reducible repeat (first|refine blk_drewN ?_ _|refine blk_drew ?_|refine blk_alloc ?_ _));exact BK270.out⟩,⟨by repeat (first|(with_reducible first|exact HB.out|apply below_alloc|apply pw_below_drewN|apply below_drew1|refine below_set ?_ GE244.out|refine below_set ?_ GE257.out|refine below_set ?_ GE263.out|refine below_set ?_ GE270.out)|exact HB.out)⟩⟩
       ·rw [if_neg c73] at H
        have c73b0:decide (t278 < 0)=false:=decide_eq_false c73
        clear c73
        (first|rw [c73b0]|(simp only [i64_w,i32_w];rw [c73b0])|skip)
        replace H:=Option.bind_eq_some_iff.mp H
        obtain ⟨t280,A740,H⟩:=H
        replace H:(if t280=true then (laws_FnExactTakeChallenge.j1 kj13 a1 a2 a3 t256 (t269 != t256) a0_0 a0_1 l0_2 t251 t252 t253 t264 t265 t266) else (laws_FnExactTakeChallenge.j1 kj13 a1 a2 a3 t256 true a0_0 a0_1 l0_2 t251 t252 t253 t264 t265 t266))=some true:=H
        have A74:=Am10_ A740
        clear A740
        by_cases c75:t280=true
        ·subst c75
         have H1:(laws_FnExactTakeChallenge.j1 kj13 a1 a2 a3 t256 (t269 != t256) a0_0 a0_1 l0_2 t251 t252 t253 t264 t265 t266)=some true:=by rw [if_pos rfl] at H;exact H
         clear H
         have H:=H1
         clear H1
         have H':=Am10_ H
         clear H
         have hnb76:=NB270_244.out
         have hnc76:=NB244_270.out
         have hnb77:=NB270_257.out
         have hnc77:=NB257_270.out
         have hnb78:=NB270_263.out
         have hnc78:=NB263_270.out
         have hcz79_0:w72.cell? ⟨gb270,0,none⟩=some (.int .i64 t264):=(blk_cell BK270.out 0).trans rfl
         have hcz79_1:w72.cell? ⟨gb270,1,none⟩=some (.int .i64 t265):=(blk_cell BK270.out 1).trans rfl
         have hcz79_2:w72.cell? ⟨gb270,2,none⟩=some (.slice Ao39 t266.length co39):=(blk_cell BK270.out 2).trans rfl
         have hfz79_0:=blk_frozen BK270.out 0
         have hfz79_1:=blk_frozen BK270.out 1
         have hfz79_2:=blk_frozen BK270.out 2
         have hnb80:=NB257_244.out
         have hnc80:=NB244_257.out
         have hnb81:=NB257_263.out
         have hnc81:=NB263_257.out
         have hcz82_0:w72.cell? ⟨gb257,0,none⟩=some (.int .i64 t251):=(blk_cell BK257.out 0).trans rfl
         have hcz82_1:w72.cell? ⟨gb257,1,none⟩=some (.int .i64 t252):=(blk_cell BK257.out 1).trans rfl
         have hcz82_2:w72.cell? ⟨gb257,2,none⟩=some (.slice Ao25 t253.length co25):=(blk_cell BK257.out 2).trans rfl
         have hfz82_0:=blk_frozen BK257.out 0
         have hfz82_1:=blk_frozen BK257.out 1
         have hfz82_2:=blk_frozen BK257.out 2
         go_wp2_with (first|(go_at_call 19;(with_reducible refine (laws_eqChallengeBook.calls kj13 t264 t265 _ _ t266 t251 t252 _ _ t253 true _ ?side1 ?side2 ?side3 ?side4 A74.out).mono ?_);(case side1 => repeat (first|exact (Kd.R_reads' HO_271002.out).2.2|(with_reducible refine Kd.C_alloc ?_ _)|(with_reducible refine Kd.C_drewN ?_ _)|(with_reducible refine Kd.C_drew ?_)));(case side2 => exact (Kd.R_reads' HO_271002.out).2.1);(case side3 => repeat (first|exact (Kd.R_reads' HO_258002.out).2.2|(with_reducible refine Kd.C_alloc ?_ _)|(with_reducible refine Kd.C_drewN ?_ _)|(with_reducible refine Kd.C_drew ?_)));(case side4 => exact (Kd.R_reads' HO_258002.out).2.1);rintro e w83 ⟨rfl,hb⟩;have n0_:=Am10_ (Kd.R_below (by (with_reducible repeat (first|apply Kd.R_alloc|apply Kd.R_drewN|apply Kd.R_drew));exact HO_258002.out) hb);have n1_:=Am10_ (Kd.R_below (by (with_reducible repeat (first|apply Kd.R_alloc|apply Kd.R_drewN|apply Kd.R_drew));exact HO_264002.out) hb);have n2_:=Am10_ (Kd.R_below (by (with_reducible repeat (first|apply Kd.R_alloc|apply Kd.R_drewN|apply Kd.R_drew));exact HO_271002.out) hb);have n3_:=Am10_ (Kd.R_below (by (with_reducible repeat (first|apply Kd.R_alloc|apply Kd.R_drewN|apply Kd.R_drew));exact HO276.out) hb);have n4_:=Am10_ (blk_below (g:=gb244) (o:=.cells #[.int .i64 a0_0,.int .i64 a0_1,.slice A0_2 l0_2.length c0_2] 24 (0,0)) (by (with_reducible repeat (first|refine blk_drewN ?_ _|refine blk_drew ?_|refine blk_alloc ?_ _));exact BK244.out) hb);have n5_:=Am10_ (blk_below (g:=gb257) (o:=.cells #[.int .i64 t251,.int .i64 t252,.slice Ao25 t253.length co25] 28 (0,0)) (by (with_reducible repeat (first|refine blk_drewN ?_ _|refine blk_drew ?_|refine blk_alloc ?_ _));exact BK257.out) hb);have n6_:=Am10_ (blk_below (g:=gb263) (o:=.cells #[.int .i64 t258,.int .i64 t259,.slice Ao32 t260.length co32] 28 (0,0)) (by (with_reducible repeat (first|refine blk_drewN ?_ _|refine blk_drew ?_|refine blk_alloc ?_ _));exact BK263.out) hb);have n7_:=Am10_ (blk_below (g:=gb270) (o:=.cells #[.int .i64 t264,.int .i64 t265,.slice Ao39 t266.length co39] 28 (0,0)) (by (with_reducible repeat (first|refine blk_drewN ?_ _|refine blk_drew ?_|refine blk_alloc ?_ _));exact BK270.out) hb);have n8_:=Am10_ (below_step (by repeat (first|(with_reducible first|exact HB.out|apply below_alloc|apply pw_below_drewN|apply below_drew1|refine below_set ?_ GE244.out|refine below_set ?_ GE257.out|refine below_set ?_ GE263.out|refine below_set ?_ GE270.out)|exact HB.out)) hb);clear HO_258002;clear HO_264002;clear HO_271002;clear HO276;clear BK244;clear BK257;clear BK263;clear BK270;clear HB;have HO_258002:=n0_;have HO_264002:=n1_;have HO_271002:=n2_;have HO276:=n3_;have BK244:=n4_;have BK257:=n5_;have BK263:=n6_;have BK270:=n7_;have HB:=n8_;clear n0_ n1_ n2_ n3_ n4_ n5_ n6_ n7_ n8_;(try clear hb);(try clear hb2);(try clear hk);(try clear hi)))
         go_meet
         case rel => exact ⟨_,((t269 != t256)),(by first|rfl|(simp;done)|(simp [*];done)),H',⟨by have:=HJ13.out;first|omega|exact Nat.le_refl _⟩,⟨by (with_reducible repeat (first|apply Kd.R_alloc|apply Kd.R_drewN|apply Kd.R_drew));exact Kd.R_mono HO_258002.out (fun _ hk => ⟨hk.1,hk.2.1⟩)⟩,⟨by (with_reducible repeat (first|apply Kd.R_alloc|apply Kd.R_drewN|apply Kd.R_drew));exact Kd.R_mono HO_264002.out (fun _ hk => ⟨hk.1.1,hk.1.2⟩)⟩,⟨by (with_reducible repeat (first|apply Kd.R_alloc|apply Kd.R_drewN|apply Kd.R_drew));exact Kd.R_mono HO_271002.out (fun _ hk => ⟨hk.1,hk.2.1⟩)⟩,⟨by (with_reducible repeat (first|refine blk_drewN ?_ _|refine blk_drew ?_|refine blk_alloc ?_ _));exact BK244.out⟩,⟨by (with_reducible repeat (first|refine blk_drewN ?_ _|refine blk_drew ?_|refine blk_alloc ?_ _));exact BK257.out⟩,⟨by (with_reducible repeat (first|refine blk_drewN ?_ _|refine blk_drew ?_|refine blk_alloc ?_ _));exact BK263.out⟩,⟨by (with_reducible repeat (first|refine blk_drewN ?_ _|refine blk_drew ?_|refine blk_alloc ?_ _));exact BK270.out⟩,⟨by repeat (first|(with_reducible first|exact HB.out|apply below_alloc|apply pw_below_drewN|apply below_drew1|refine below_set ?_ GE244.out|refine below_set ?_ GE257.out|refine below_set ?_ GE263.out|refine below_set ?_ GE270.out)|exact HB.out)⟩⟩
        ·replace c75:=Bool.eq_false_iff.mpr c75
         subst c75
         have H1:(laws_FnExactTakeChallenge.j1 kj13 a1 a2 a3 t256 true a0_0 a0_1 l0_2 t251 t252 t253 t264 t265 t266)=some true:=by rw [if_neg (show ¬ (false=true) by decide)] at H;exact H
         clear H
         have H:=H1
         clear H1
         have H':=Am10_ H
         clear H
         have hnb84:=NB270_244.out
         have hnc84:=NB244_270.out
         have hnb85:=NB270_257.out
         have hnc85:=NB257_270.out
         have hnb86:=NB270_263.out
         have hnc86:=NB263_270.out
         have hcz87_0:w72.cell? ⟨gb270,0,none⟩=some (.int .i64 t264):=(blk_cell BK270.out 0).trans rfl
         have hcz87_1:w72.cell? ⟨gb270,1,none⟩=some (.int .i64 t265):=(blk_cell BK270.out 1).trans rfl
         have hcz87_2:w72.cell? ⟨gb270,2,none⟩=some (.slice Ao39 t266.length co39):=(blk_cell BK270.out 2).trans rfl
         have hfz87_0:=blk_frozen BK270.out 0
         have hfz87_1:=blk_frozen BK270.out 1
         have hfz87_2:=blk_frozen BK270.out 2
         have hnb88:=NB257_244.out
         have hnc88:=NB244_257.out
         have hnb89:=NB257_263.out
         have hnc89:=NB263_257.out
         have hcz90_0:w72.cell? ⟨gb257,0,none⟩=some (.int .i64 t251):=(blk_cell BK257.out 0).trans rfl
         have hcz90_1:w72.cell? ⟨gb257,1,none⟩=some (.int .i64 t252):=(blk_cell BK257.out 1).trans rfl
         have hcz90_2:w72.cell? ⟨gb257,2,none⟩=some (.slice Ao25 t253.length co25):=(blk_cell BK257.out 2).trans rfl
         have hfz90_0:=blk_frozen BK257.out 0
         have hfz90_1:=blk_frozen BK257.out 1
         have hfz90_2:=blk_frozen BK257.out 2
         go_wp2_with (first|(go_at_call 19;(with_reducible refine (laws_eqChallengeBook.calls kj13 t264 t265 _ _ t266 t251 t252 _ _ t253 false _ ?side1 ?side2 ?side3 ?side4 A74.out).mono ?_);(case side1 => repeat (first|exact (Kd.R_reads' HO_271002.out).2.2|(with_reducible refine Kd.C_alloc ?_ _)|(with_reducible refine Kd.C_drewN ?_ _)|(with_reducible refine Kd.C_drew ?_)));(case side2 => exact (Kd.R_reads' HO_271002.out).2.1);(case side3 => repeat (first|exact (Kd.R_reads' HO_258002.out).2.2|(with_reducible refine Kd.C_alloc ?_ _)|(with_reducible refine Kd.C_drewN ?_ _)|(with_reducible refine Kd.C_drew ?_)));(case side4 => exact (Kd.R_reads' HO_258002.out).2.1);rintro e w91 ⟨rfl,hb⟩;have n0_:=Am10_ (Kd.R_below (by (with_reducible repeat (first|apply Kd.R_alloc|apply Kd.R_drewN|apply Kd.R_drew));exact HO_258002.out) hb);have n1_:=Am10_ (Kd.R_below (by (with_reducible repeat (first|apply Kd.R_alloc|apply Kd.R_drewN|apply Kd.R_drew));exact HO_264002.out) hb);have n2_:=Am10_ (Kd.R_below (by (with_reducible repeat (first|apply Kd.R_alloc|apply Kd.R_drewN|apply Kd.R_drew));exact HO_271002.out) hb);have n3_:=Am10_ (Kd.R_below (by (with_reducible repeat (first|apply Kd.R_alloc|apply Kd.R_drewN|apply Kd.R_drew));exact HO276.out) hb);have n4_:=Am10_ (blk_below (g:=gb244) (o:=.cells #[.int .i64 a0_0,.int .i64 a0_1,.slice A0_2 l0_2.length c0_2] 24 (0,0)) (by (with_reducible repeat (first|refine blk_drewN ?_ _|refine blk_drew ?_|refine blk_alloc ?_ _));exact BK244.out) hb);have n5_:=Am10_ (blk_below (g:=gb257) (o:=.cells #[.int .i64 t251,.int .i64 t252,.slice Ao25 t253.length co25] 28 (0,0)) (by (with_reducible repeat (first|refine blk_drewN ?_ _|refine blk_drew ?_|refine blk_alloc ?_ _));exact BK257.out) hb);have n6_:=Am10_ (blk_below (g:=gb263) (o:=.cells #[.int .i64 t258,.int .i64 t259,.slice Ao32 t260.length co32] 28 (0,0)) (by (with_reducible repeat (first|refine blk_drewN ?_ _|refine blk_drew ?_|refine blk_alloc ?_ _));exact BK263.out) hb);have n7_:=Am10_ (blk_below (g:=gb270) (o:=.cells #[.int .i64 t264,.int .i64 t265,.slice Ao39 t266.length co39] 28 (0,0)) (by (with_reducible repeat (first|refine blk_drewN ?_ _|refine blk_drew ?_|refine blk_alloc ?_ _));exact BK270.out) hb);have n8_:=Am10_ (below_step (by repeat (first|(with_reducible first|exact HB.out|apply below_alloc|apply pw_below_drewN|apply below_drew1|refine below_set ?_ GE244.out|refine below_set ?_ GE257.out|refine below_set ?_ GE263.out|refine below_set ?_ GE270.out)|exact HB.out)) hb);clear HO_258002;clear HO_264002;clear HO_271002;clear HO276;clear BK244;clear BK257;clear BK263;clear BK270;clear HB;have HO_258002:=n0_;have HO_264002:=n1_;have HO_271002:=n2_;have HO276:=n3_;have BK244:=n4_;have BK257:=n5_;have BK263:=n6_;have BK270:=n7_;have HB:=n8_;clear n0_ n1_ n2_ n3_ n4_ n5_ n6_ n7_ n8_;(try clear hb);(try clear hb2);(try clear hk);(try clear hi)))
         go_meet
         case rel => exact ⟨_,(true),(by first|rfl|(simp;done)|(simp [*];done)),H',⟨by have:=HJ13.out;first|omega|exact Nat.le_refl _⟩,⟨by (with_reducible repeat (first|apply Kd.R_alloc|apply Kd.R_drewN|apply Kd.R_drew));exact Kd.R_mono HO_258002.out (fun _ hk => ⟨hk.1,hk.2.1⟩)⟩,⟨by (with_reducible repeat (first|apply Kd.R_alloc|apply Kd.R_drewN|apply Kd.R_drew));exact Kd.R_mono HO_264002.out (fun _ hk => ⟨hk.1.1,hk.1.2⟩)⟩,⟨by (with_reducible repeat (first|apply Kd.R_alloc|apply Kd.R_drewN|apply Kd.R_drew));exact Kd.R_mono HO_271002.out (fun _ hk => ⟨hk.1,hk.2.1⟩)⟩,⟨by (with_reducible repeat (first|refine blk_drewN ?_ _|refine blk_drew ?_|refine blk_alloc ?_ _));exact BK244.out⟩,⟨by (with_reducible repeat (first|refine blk_drewN ?_ _|refine blk_drew ?_|refine blk_alloc ?_ _));exact BK257.out⟩,⟨by (with_reducible repeat (first|refine blk_drewN ?_ _|refine blk_drew ?_|refine blk_alloc ?_ _));exact BK263.out⟩,⟨by (with_reducible repeat (first|refine blk_drewN ?_ _|refine blk_drew ?_|refine blk_alloc ?_ _));exact BK270.out⟩,⟨by repeat (first|(with_reducible first|exact HB.out|apply below_alloc|apply pw_below_drewN|apply below_drew1|refine below_set ?_ GE244.out|refine below_set ?_ GE257.out|refine below_set ?_ GE263.out|refine below_set ?_ GE270.out)|exact HB.out)⟩⟩
      case rest =>
       clear HC63
       try clear c1
       try clear c2
       try clear p2
       try clear c3
       try clear c4
       try clear c5
       try clear c6
       try clear c6b0
       try clear c7
       try clear c8
       try clear c15
       try clear c17
       try clear c19
       try clear c20
       try clear c23
       try clear c29
       try clear c30
       try clear c31
       try clear c32
       try clear c35
       try clear c36
       try clear c37
       try clear c41
       try clear c42
       try clear c43
       try clear c44
       try clear c46
       try clear c47
       try clear c50
       try clear c51
       try clear c52
       try clear c54
       try clear c55
       try clear c58
       try clear c61
       try clear c68
       try clear c69
       try clear c70
       try clear c73
       try clear c73b0
       try clear c75
       try clear c76
       try clear c77
       try clear c78
       try clear c80
       try clear c81
       try clear c84
       try clear c85
       try clear c86
       try clear c88
       try clear c89
       try clear hcz16_0
       try clear hcz16_1
       try clear hcz16_2
       try clear hcz18_0
       try clear hcz18_1
       try clear hcz18_2
       try clear hcz24_0
       try clear hcz24_1
       try clear hcz24_2
       try clear hcz26_0
       try clear hcz26_1
       try clear hcz26_2
       try clear hcz31_0
       try clear hcz31_1
       try clear hcz31_2
       try clear hcz38_0
       try clear hcz38_1
       try clear hcz38_2
       try clear hcz45_0
       try clear hcz45_1
       try clear hcz45_2
       try clear hcz48_0
       try clear hcz48_1
       try clear hcz48_2
       try clear hcz53_0
       try clear hcz53_1
       try clear hcz53_2
       try clear hcz56_0
       try clear hcz56_1
       try clear hcz56_2
       try clear hcz71_0
       try clear hcz71_1
       try clear hcz71_2
       try clear hcz79_0
       try clear hcz79_1
       try clear hcz79_2
       try clear hcz82_0
       try clear hcz82_1
       try clear hcz82_2
       try clear hcz87_0
       try clear hcz87_1
       try clear hcz87_2
       try clear hcz8_0
       try clear hcz8_1
       try clear hcz8_2
       try clear hcz90_0
       try clear hcz90_1
       try clear hcz90_2
       try clear hfz16_0
       try clear hfz16_1
       try clear hfz16_2
       try clear hfz18_0
       try clear hfz18_1
       try clear hfz18_2
       try clear hfz24_0
       try clear hfz24_1
       try clear hfz24_2
       try clear hfz26_0
       try clear hfz26_1
       try clear hfz26_2
       try clear hfz31_0
       try clear hfz31_1
       try clear hfz31_2
       try clear hfz38_0
       try clear hfz38_1
       try clear hfz38_2
       try clear hfz45_0
       try clear hfz45_1
       try clear hfz45_2
       try clear hfz48_0
       try clear hfz48_1
       try clear hfz48_2
       try clear hfz53_0
       try clear hfz53_1
       try clear hfz53_2
       try clear hfz56_0
       try clear hfz56_1
       try clear hfz56_2
       try clear hfz71_0
       try clear hfz71_1
       try clear hfz71_2
       try clear hfz79_0
       try clear hfz79_1
       try clear hfz79_2
       try clear hfz82_0
       try clear hfz82_1
       try clear hfz82_2
       try clear hfz87_0
       try clear hfz87_1
       try clear hfz87_2
       try clear hfz8_0
       try clear hfz8_1
       try clear hfz8_2
       try clear hfz90_0
       try clear hfz90_1
       try clear hfz90_2
       try clear p2
       obtain ⟨kq,x73_62,rfl,HA,HJ62,HO_258002,HO_264002,HO_271002,BK244,BK257,BK263,BK270,HB⟩:=hcut
       have hl264002_62:=(Kd.R_reads' HO_264002.out).1
       rw [hl264002_62] at HO_264002
       (try simp only [hl264002_62])
       (try simp only [hl264002_62] at BK244)
       (try simp only [hl264002_62] at BK257)
       (try simp only [hl264002_62] at BK263)
       (try simp only [hl264002_62] at BK270)
       (try simp only [hl264002_62] at HO_258002)
       (try simp only [hl264002_62] at HO_271002)
       cases kq with
      |zero => exact absurd HA.out (by simp [laws_FnExactTakeChallenge.j1])
      |succ kj62 =>
        have H:=HA.out
        clear HA
        simp only [laws_FnExactTakeChallenge.j1] at H
        by_cases c92:x73_62=true
        ·subst c92
         have H1:(some false)=some true:=by rw [if_pos rfl] at H;exact H
         clear H
         have H:=H1
         clear H1
         exact absurd H (by simp)
        ·replace c92:=Bool.eq_false_iff.mpr c92
         subst c92
         have H1:((laws_markChallengeBook.f kj62 t264 t265 t266 1).bind fun bt281 => ((laws_heldChallengeBook.f kj62 t264 t265 bt281.2 1).bind fun t283 => (if t283 < 0 then (some false) else (if t283=bt281.1 then ((laws_toChallengeBook.f kj62 a0_0 a0_1 l0_2).bind fun bt284 => ((impl_TakeChallenge.f kj62 bt284.1 bt284.2.1 bt284.2.2 a1 a2 a3).bind fun bt289 => ((laws_eqChallengeBook.f kj62 bt289.1 bt289.2.1 bt289.2.2.1 t251 t252 t253).bind fun t296 => (if t296=true then (laws_FnExactTakeChallenge.j2 kj62 bt281.1 (bt289.2.2.2 != t256) t264 t265 bt281.2) else (laws_FnExactTakeChallenge.j2 kj62 bt281.1 true t264 t265 bt281.2))))) else (some false)))))=some true:=by rw [if_neg (show ¬ (false=true) by decide)] at H;exact H
         clear H
         have H:=H1
         clear H1
         replace H:=Option.bind_eq_some_iff.mp H
         obtain ⟨⟨t281,t282⟩,A930,H⟩:=H
         replace H:((laws_heldChallengeBook.f kj62 t264 t265 t282 1).bind fun t283 => (if t283 < 0 then (some false) else (if t283=t281 then ((laws_toChallengeBook.f kj62 a0_0 a0_1 l0_2).bind fun bt284 => ((impl_TakeChallenge.f kj62 bt284.1 bt284.2.1 bt284.2.2 a1 a2 a3).bind fun bt289 => ((laws_eqChallengeBook.f kj62 bt289.1 bt289.2.1 bt289.2.2.1 t251 t252 t253).bind fun t296 => (if t296=true then (laws_FnExactTakeChallenge.j2 kj62 t281 (bt289.2.2.2 != t256) t264 t265 t282) else (laws_FnExactTakeChallenge.j2 kj62 t281 true t264 t265 t282))))) else (some false))))=some true:=H
         have A93:=Am10_ A930
         clear A930
         replace H:=Option.bind_eq_some_iff.mp H
         obtain ⟨t283,A940,H⟩:=H
         replace H:(if t283 < 0 then (some false) else (if t283=t281 then ((laws_toChallengeBook.f kj62 a0_0 a0_1 l0_2).bind fun bt284 => ((impl_TakeChallenge.f kj62 bt284.1 bt284.2.1 bt284.2.2 a1 a2 a3).bind fun bt289 => ((laws_eqChallengeBook.f kj62 bt289.1 bt289.2.1 bt289.2.2.1 t251 t252 t253).bind fun t296 => (if t296=true then (laws_FnExactTakeChallenge.j2 kj62 t281 (bt289.2.2.2 != t256) t264 t265 t282) else (laws_FnExactTakeChallenge.j2 kj62 t281 true t264 t265 t282))))) else (some false)))=some true:=H
         have A94:=Am10_ A940
         clear A940
         by_cases c95:t283 < 0
         ·rw [if_pos c95] at H
          have c95b0:decide (t283 < 0)=true:=decide_eq_true c95
          clear c95
          exact absurd H (by simp)
         ·rw [if_neg c95] at H
          have c95b0:decide (t283 < 0)=false:=decide_eq_false c95
          clear c95
          by_cases c103:t283=t281
          ·rw [if_pos c103] at H
           have c103b0:(t283 == t281)=true:=beq_iff_eq.mpr c103
           have c103b1:(t283 != t281)=false:=bne_eq_false_iff_eq.mpr c103
           clear c103
           replace H:=Option.bind_eq_some_iff.mp H
           obtain ⟨⟨t284,t285,t286⟩,A1040,H⟩:=H
           replace H:((impl_TakeChallenge.f kj62 t284 t285 t286 a1 a2 a3).bind fun bt289 => ((laws_eqChallengeBook.f kj62 bt289.1 bt289.2.1 bt289.2.2.1 t251 t252 t253).bind fun t296 => (if t296=true then (laws_FnExactTakeChallenge.j2 kj62 t281 (bt289.2.2.2 != t256) t264 t265 t282) else (laws_FnExactTakeChallenge.j2 kj62 t281 true t264 t265 t282))))=some true:=H
           have A104:=Am10_ A1040
           clear A1040
           replace H:=Option.bind_eq_some_iff.mp H
           obtain ⟨⟨t289,t290,t291,t294⟩,A1050,H⟩:=H
           replace H:((laws_eqChallengeBook.f kj62 t289 t290 t291 t251 t252 t253).bind fun t296 => (if t296=true then (laws_FnExactTakeChallenge.j2 kj62 t281 (t294 != t256) t264 t265 t282) else (laws_FnExactTakeChallenge.j2 kj62 t281 true t264 t265 t282)))=some true:=H
           have A105:=Am10_ A1050
           clear A1050
           have HC106:=Am10_ H
           clear H
           have hnb107:=NB270_244.out
           have hnc107:=NB244_270.out
           have hnb108:=NB270_257.out
           have hnc108:=NB257_270.out
           have hnb109:=NB270_263.out
           have hnc109:=NB263_270.out
           have hcz110_0:wc.cell? ⟨gb270,0,none⟩=some (.int .i64 t264):=(blk_cell BK270.out 0).trans rfl
           have hcz110_1:wc.cell? ⟨gb270,1,none⟩=some (.int .i64 t265):=(blk_cell BK270.out 1).trans rfl
           have hcz110_2:wc.cell? ⟨gb270,2,none⟩=some (.slice Ao39 t266.length co39):=(blk_cell BK270.out 2).trans rfl
           have hfz110_0:=blk_frozen BK270.out 0
           have hfz110_1:=blk_frozen BK270.out 1
           have hfz110_2:=blk_frozen BK270.out 2
           go_upto_region 25 with (first|((with_reducible refine gate_callee (f:=20) rfl ?_);refine goesL_ (some 76) rfl rfl Try.func20 (by kernel_rfl) rfl #[.agg #[.int .i64 t264,.int .i64 t265,.slice Ao39 t266.length co39],.int .i64 1] rfl (by (try simp only [List.map_toArray,List.map_cons,List.map_nil]);first|done|rfl|(simp only [List.length_drop,List.length_take];rfl)) ?_;(with_reducible refine (laws_markChallengeBook.calls kj62 t264 t265 (fun k_ => some k_=(.slice Ao39 t266.length co39:Value).ownBlock) (.slice Ao39 t266.length co39) t266 1 t281 t282 w _ ?side1 ?side2 A93.out).mono ?_);(case side1 => repeat (first|(with_reducible first|exact HB.out|apply below_alloc|apply pw_below_drewN|apply below_drew1|refine below_set ?_ GE244.out|refine below_set ?_ GE257.out|refine below_set ?_ GE263.out|refine below_set ?_ GE270.out)|exact HB.out));(case side2 => exact Kd.R_tight rfl HO_271002.out);rintro e w111 ⟨rfl,hy0,hb,hkp⟩;refine ⟨_,rfl,?_⟩;have n0_:=Am10_ (Kd.R_mono (ok':=fun k_ => some k_ ≠ (.slice Ao32 t279.length co32:Value).ownBlock∧some k_ ≠ (.slice Ao39 t266.length co39:Value).ownBlock) (Kd.R_keptB (HO_258002.out) hkp (fun k_ hk_ hs_ => (hk_.2) hs_)) (fun k_ hk_ => ⟨hk_.1.1,hk_.1.2⟩));have n1_:=Am10_ (Kd.R_mono (ok':=fun k_ => some k_ ≠ (.slice Ao25 t253.length co25:Value).ownBlock∧some k_ ≠ (.slice Ao39 t266.length co39:Value).ownBlock) (Kd.R_keptB (HO_264002.out) hkp (fun k_ hk_ hs_ => (hk_.2) hs_)) (fun k_ hk_ => ⟨hk_.1.1,hk_.1.2⟩));have n2_:=Am10_ (Kd.R_reok rfl hy0 (fun k_ e_ => HO_271002.out.1 k_ e_));have n3_:=Am10_ (blk_kept (by (with_reducible repeat (first|refine blk_drewN ?_ _|refine blk_drew ?_|refine blk_alloc ?_ _));exact BK244.out) hkp (fun hs_ => (fun e_ => (Kd.R_ne HO_271002.out BK244.out (by decide)) e_) hs_));have n4_:=Am10_ (blk_kept (by (with_reducible repeat (first|refine blk_drewN ?_ _|refine blk_drew ?_|refine blk_alloc ?_ _));exact BK257.out) hkp (fun hs_ => (fun e_ => (Kd.R_ne HO_271002.out BK257.out (by decide)) e_) hs_));have n5_:=Am10_ (blk_kept (by (with_reducible repeat (first|refine blk_drewN ?_ _|refine blk_drew ?_|refine blk_alloc ?_ _));exact BK263.out) hkp (fun hs_ => (fun e_ => (Kd.R_ne HO_271002.out BK263.out (by decide)) e_) hs_));have n6_:=Am10_ (blk_kept (by (with_reducible repeat (first|refine blk_drewN ?_ _|refine blk_drew ?_|refine blk_alloc ?_ _));exact BK270.out) hkp (fun hs_ => (fun e_ => (Kd.R_ne HO_271002.out BK270.out (by decide)) e_) hs_));have n7_:=Am10_ (hb);clear HO_258002;clear HO_264002;clear HO_271002;clear BK244;clear BK257;clear BK263;clear BK270;clear HB;have HO_258002:=n0_;have HO_264002:=n1_;have HO_271002:=n2_;have BK244:=n3_;have BK257:=n4_;have BK263:=n5_;have BK270:=n6_;have HB:=n7_;clear n0_ n1_ n2_ n3_ n4_ n5_ n6_ n7_;(try clear hb);(try clear hkp);(try clear hy0);have hcz112_0:w111.cell? ⟨gb270,0,none⟩=some (.int .i64 t264):=(blk_cell BK270.out 0).trans rfl;have hcz112_1:w111.cell? ⟨gb270,1,none⟩=some (.int .i64 t265):=(blk_cell BK270.out 1).trans rfl;have hcz112_2:w111.cell? ⟨gb270,2,none⟩=some (.slice Ao39 t266.length co39):=(blk_cell BK270.out 2).trans rfl;have hfz112_0:=blk_frozen BK270.out 0;have hfz112_1:=blk_frozen BK270.out 1;have hfz112_2:=blk_frozen BK270.out 2)|((with_reducible refine gate_callee (f:=21) rfl ?_);refine goesL_ (some 79) rfl rfl Try.func21 (by kernel_rfl) rfl #[.agg #[.int .i64 t264,.int .i64 t265,.slice Ao39 t282.length co39],.int .i64 1] rfl (by (try simp only [List.map_toArray,List.map_cons,List.map_nil]);first|done|(rw [show t282.length=t266.length from (Kd.R_reads' HO_271002.out).1.symm] <;> rfl)|rfl|(simp only [List.length_drop,List.length_take];rfl)) ?_;(with_reducible refine (laws_heldChallengeBook.calls kj62 t264 t265 _ _ t282 1 t283 _ ?side1 ?side2 A94.out).mono ?_);(case side1 => repeat (first|exact (Kd.R_reads' HO_271002.out).2.2|(with_reducible refine Kd.C_alloc ?_ _)|(with_reducible refine Kd.C_drewN ?_ _)|(with_reducible refine Kd.C_drew ?_)));(case side2 => rw [show t282.length=t266.length from (Kd.R_reads' HO_271002.out).1.symm];exact (Kd.R_reads' HO_271002.out).2.1);rintro e w113 ⟨rfl,hb⟩;refine ⟨_,rfl,?_⟩;have n0_:=Am10_ (Kd.R_below (by (with_reducible repeat (first|apply Kd.R_alloc|apply Kd.R_drewN|apply Kd.R_drew));exact HO_258002.out) hb);have n1_:=Am10_ (Kd.R_below (by (with_reducible repeat (first|apply Kd.R_alloc|apply Kd.R_drewN|apply Kd.R_drew));exact HO_264002.out) hb);have n2_:=Am10_ (Kd.R_below (by (with_reducible repeat (first|apply Kd.R_alloc|apply Kd.R_drewN|apply Kd.R_drew));exact HO_271002.out) hb);have n3_:=Am10_ (blk_below (g:=gb244) (o:=.cells #[.int .i64 a0_0,.int .i64 a0_1,.slice A0_2 l0_2.length c0_2] 24 (0,0)) (by (with_reducible repeat (first|refine blk_drewN ?_ _|refine blk_drew ?_|refine blk_alloc ?_ _));exact BK244.out) hb);have n4_:=Am10_ (blk_below (g:=gb257) (o:=.cells #[.int .i64 t251,.int .i64 t252,.slice Ao25 t253.length co25] 28 (0,0)) (by (with_reducible repeat (first|refine blk_drewN ?_ _|refine blk_drew ?_|refine blk_alloc ?_ _));exact BK257.out) hb);have n5_:=Am10_ (blk_below (g:=gb263) (o:=.cells #[.int .i64 t258,.int .i64 t259,.slice Ao32 t279.length co32] 28 (0,0)) (by (with_reducible repeat (first|refine blk_drewN ?_ _|refine blk_drew ?_|refine blk_alloc ?_ _));exact BK263.out) hb);have n6_:=Am10_ (blk_below (g:=gb270) (o:=.cells #[.int .i64 t264,.int .i64 t265,.slice Ao39 t266.length co39] 28 (0,0)) (by (with_reducible repeat (first|refine blk_drewN ?_ _|refine blk_drew ?_|refine blk_alloc ?_ _));exact BK270.out) hb);have n7_:=Am10_ (below_step (by repeat (first|(with_reducible first|exact HB.out|apply below_alloc|apply pw_below_drewN|apply below_drew1|refine below_set ?_ GE244.out|refine below_set ?_ GE257.out|refine below_set ?_ GE263.out|refine below_set ?_ GE270.out)|exact HB.out)) hb);clear HO_258002;clear HO_264002;clear HO_271002;clear BK244;clear BK257;clear BK263;clear BK270;clear HB;have HO_258002:=n0_;have HO_264002:=n1_;have HO_271002:=n2_;have BK244:=n3_;have BK257:=n4_;have BK263:=n5_;have BK270:=n6_;have HB:=n7_;clear n0_ n1_ n2_ n3_ n4_ n5_ n6_ n7_;(try clear hb);(try clear hb2);(try clear hk);(try clear hi);have hnb114:=NB244_257.out;have hnc114:=NB257_244.out;have hnb115:=NB244_263.out;have hnc115:=NB263_244.out;have hcz116_0:w113.cell? ⟨gb244,0,none⟩=some (.int .i64 a0_0):=(blk_cell BK244.out 0).trans rfl;have hcz116_1:w113.cell? ⟨gb244,1,none⟩=some (.int .i64 a0_1):=(blk_cell BK244.out 1).trans rfl;have hcz116_2:w113.cell? ⟨gb244,2,none⟩=some (.slice A0_2 l0_2.length c0_2):=(blk_cell BK244.out 2).trans rfl;have hfz116_0:=blk_frozen BK244.out 0;have hfz116_1:=blk_frozen BK244.out 1;have hfz116_2:=blk_frozen BK244.out 2)|((with_reducible refine gate_callee (f:=17) rfl ?_);refine goesL_ (some 87) rfl rfl Try.func17 (by kernel_rfl) rfl #[.agg #[.int .i64 a0_0,.int .i64 a0_1,.slice A0_2 l0_2.length c0_2]] rfl (by (try simp only [List.map_toArray,List.map_cons,List.map_nil]);first|done|rfl|(simp only [List.length_drop,List.length_take];rfl)) ?_;(with_reducible refine (laws_toChallengeBook.calls kj62 a0_0 a0_1 _ _ l0_2 t284 t285 t286 _ ?side1 ?side2 A104.out).mono ?_);(case side1 => repeat (first|exact (Kd.C_below HR0_2.out HB.out)|(with_reducible refine Kd.C_alloc ?_ _)|(with_reducible refine Kd.C_drewN ?_ _)|(with_reducible refine Kd.C_drew ?_)));(case side2 => exact HC0_2.out);rintro e w117 ⟨v287,rfl,ho0,hb⟩;refine ⟨_,rfl,?_⟩;have n0_:=Am10_ (Kd.R_elder' (by (with_reducible repeat (first|apply Kd.R_alloc|apply Kd.R_drewN|apply Kd.R_drew));exact HO_258002.out) (Kd.R_base ho0) hb);have n1_:=Am10_ (Kd.R_elder' (by (with_reducible repeat (first|apply Kd.R_alloc|apply Kd.R_drewN|apply Kd.R_drew));exact HO_264002.out) (Kd.R_base ho0) hb);have n2_:=Am10_ (Kd.R_elder' (by (with_reducible repeat (first|apply Kd.R_alloc|apply Kd.R_drewN|apply Kd.R_drew));exact HO_271002.out) (Kd.R_base ho0) hb);have n3_:=Am10_ (Kd.R_lower (Kd.R_new' (Kd.R_new' (Kd.R_new' ho0 (Kd.R_lt (by (with_reducible repeat (first|apply Kd.R_alloc|apply Kd.R_drewN|apply Kd.R_drew));exact HO_258002.out))) (Kd.R_lt (by (with_reducible repeat (first|apply Kd.R_alloc|apply Kd.R_drewN|apply Kd.R_drew));exact HO_264002.out))) (Kd.R_lt (by (with_reducible repeat (first|apply Kd.R_alloc|apply Kd.R_drewN|apply Kd.R_drew));exact HO_271002.out))) (below_size (by repeat (first|(with_reducible first|exact HB.out|apply below_alloc|apply pw_below_drewN|apply below_drew1|refine below_set ?_ GE244.out|refine below_set ?_ GE257.out|refine below_set ?_ GE263.out|refine below_set ?_ GE270.out)|exact HB.out))));have n4_:=Am10_ (blk_below (g:=gb244) (o:=.cells #[.int .i64 a0_0,.int .i64 a0_1,.slice A0_2 l0_2.length c0_2] 24 (0,0)) (by (with_reducible repeat (first|refine blk_drewN ?_ _|refine blk_drew ?_|refine blk_alloc ?_ _));exact BK244.out) hb);have n5_:=Am10_ (blk_below (g:=gb257) (o:=.cells #[.int .i64 t251,.int .i64 t252,.slice Ao25 t253.length co25] 28 (0,0)) (by (with_reducible repeat (first|refine blk_drewN ?_ _|refine blk_drew ?_|refine blk_alloc ?_ _));exact BK257.out) hb);have n6_:=Am10_ (blk_below (g:=gb263) (o:=.cells #[.int .i64 t258,.int .i64 t259,.slice Ao32 t279.length co32] 28 (0,0)) (by (with_reducible repeat (first|refine blk_drewN ?_ _|refine blk_drew ?_|refine blk_alloc ?_ _));exact BK263.out) hb);have n7_:=Am10_ (blk_below (g:=gb270) (o:=.cells #[.int .i64 t264,.int .i64 t265,.slice Ao39 t266.length co39] 28 (0,0)) (by (with_reducible repeat (first|refine blk_drewN ?_ _|refine blk_drew ?_|refine blk_alloc ?_ _));exact BK270.out) hb);have n8_:=Am10_ (below_step (by repeat (first|(with_reducible first|exact HB.out|apply below_alloc|apply pw_below_drewN|apply below_drew1|refine below_set ?_ GE244.out|refine below_set ?_ GE257.out|refine below_set ?_ GE263.out|refine below_set ?_ GE270.out)|exact HB.out)) hb);clear HO_258002;clear HO_264002;clear HO_271002;clear BK244;clear BK257;clear BK263;clear BK270;clear HB;have HO_258002:=n0_;have HO_264002:=n1_;have HO_271002:=n2_;have HO288:=n3_;have BK244:=n4_;have BK257:=n5_;have BK263:=n6_;have BK270:=n7_;have HB:=n8_;clear n0_ n1_ n2_ n3_ n4_ n5_ n6_ n7_ n8_;(try clear hb);(try clear hb2);(try clear hk);(try clear hi);(try clear ho0);obtain ⟨Ao118,co118,eo118⟩:=Kd.R_slice HO288.out;subst eo118)|((with_reducible refine gate_callee (f:=32) rfl ?_);refine goesL_ (some 91) rfl rfl Try.func32 (by kernel_rfl) rfl #[.agg #[.int .i64 t284,.int .i64 t285,.slice Ao118 t286.length co118],.int .i64 a1,.int .i64 a2,.int .i64 a3] rfl (by (try simp only [List.map_toArray,List.map_cons,List.map_nil]);first|done|rfl|(simp only [List.length_drop,List.length_take];rfl)) ?_;(with_reducible refine (impl_TakeChallenge.calls kj62 t284 t285 _ _ t286 a1 a2 a3 t289 t290 t291 t294 _ ?side1 ?side2 A105.out).mono ?_);(case side1 => repeat (first|exact (Kd.R_reads' HO288.out).2.2|(with_reducible refine Kd.C_alloc ?_ _)|(with_reducible refine Kd.C_drewN ?_ _)|(with_reducible refine Kd.C_drew ?_)));(case side2 => exact (Kd.R_reads' HO288.out).2.1);rintro e w119 ⟨v292,rfl,ho0,hb⟩;refine ⟨_,rfl,?_⟩;have n0_:=Am10_ (Kd.R_elder' (by (with_reducible repeat (first|apply Kd.R_alloc|apply Kd.R_drewN|apply Kd.R_drew));exact HO_258002.out) (Kd.R_base ho0) hb);have n1_:=Am10_ (Kd.R_elder' (by (with_reducible repeat (first|apply Kd.R_alloc|apply Kd.R_drewN|apply Kd.R_drew));exact HO_264002.out) (Kd.R_base ho0) hb);have n2_:=Am10_ (Kd.R_elder' (by (with_reducible repeat (first|apply Kd.R_alloc|apply Kd.R_drewN|apply Kd.R_drew));exact HO_271002.out) (Kd.R_base ho0) hb);have n3_:=Am10_ (Kd.R_elder' (by (with_reducible repeat (first|apply Kd.R_alloc|apply Kd.R_drewN|apply Kd.R_drew));exact HO288.out) (Kd.R_base ho0) hb);have n4_:=Am10_ (Kd.R_lower (Kd.R_new' (Kd.R_new' (Kd.R_new' (Kd.R_new' ho0 (Kd.R_lt (by (with_reducible repeat (first|apply Kd.R_alloc|apply Kd.R_drewN|apply Kd.R_drew));exact HO_258002.out))) (Kd.R_lt (by (with_reducible repeat (first|apply Kd.R_alloc|apply Kd.R_drewN|apply Kd.R_drew));exact HO_264002.out))) (Kd.R_lt (by (with_reducible repeat (first|apply Kd.R_alloc|apply Kd.R_drewN|apply Kd.R_drew));exact HO_271002.out))) (Kd.R_lt (by (with_reducible repeat (first|apply Kd.R_alloc|apply Kd.R_drewN|apply Kd.R_drew));exact HO288.out))) (below_size (by repeat (first|(with_reducible first|exact HB.out|apply below_alloc|apply pw_below_drewN|apply below_drew1|refine below_set ?_ GE244.out|refine below_set ?_ GE257.out|refine below_set ?_ GE263.out|refine below_set ?_ GE270.out)|exact HB.out))));have n5_:=Am10_ (blk_below (g:=gb244) (o:=.cells #[.int .i64 a0_0,.int .i64 a0_1,.slice A0_2 l0_2.length c0_2] 24 (0,0)) (by (with_reducible repeat (first|refine blk_drewN ?_ _|refine blk_drew ?_|refine blk_alloc ?_ _));exact BK244.out) hb);have n6_:=Am10_ (blk_below (g:=gb257) (o:=.cells #[.int .i64 t251,.int .i64 t252,.slice Ao25 t253.length co25] 28 (0,0)) (by (with_reducible repeat (first|refine blk_drewN ?_ _|refine blk_drew ?_|refine blk_alloc ?_ _));exact BK257.out) hb);have n7_:=Am10_ (blk_below (g:=gb263) (o:=.cells #[.int .i64 t258,.int .i64 t259,.slice Ao32 t279.length co32] 28 (0,0)) (by (with_reducible repeat (first|refine blk_drewN ?_ _|refine blk_drew ?_|refine blk_alloc ?_ _));exact BK263.out) hb);have n8_:=Am10_ (blk_below (g:=gb270) (o:=.cells #[.int .i64 t264,.int .i64 t265,.slice Ao39 t266.length co39] 28 (0,0)) (by (with_reducible repeat (first|refine blk_drewN ?_ _|refine blk_drew ?_|refine blk_alloc ?_ _));exact BK270.out) hb);have n9_:=Am10_ (below_step (by repeat (first|(with_reducible first|exact HB.out|apply below_alloc|apply pw_below_drewN|apply below_drew1|refine below_set ?_ GE244.out|refine below_set ?_ GE257.out|refine below_set ?_ GE263.out|refine below_set ?_ GE270.out)|exact HB.out)) hb);clear HO_258002;clear HO_264002;clear HO_271002;clear HO288;clear BK244;clear BK257;clear BK263;clear BK270;clear HB;have HO_258002:=n0_;have HO_264002:=n1_;have HO_271002:=n2_;have HO288:=n3_;have HO293:=n4_;have BK244:=n5_;have BK257:=n6_;have BK263:=n7_;have BK270:=n8_;have HB:=n9_;clear n0_ n1_ n2_ n3_ n4_ n5_ n6_ n7_ n8_ n9_;(try clear hb);(try clear hb2);(try clear hk);(try clear hi);(try clear ho0))|((with_reducible refine gate_dst (N:=18) rfl ?_);refine box_event ?hg (N:=18) ?hd (cs:=#[.int .i64 0,.int .i64 0,.slice none 0 0]) (t:=28) ?hr ?_;(case hd => rfl);(case hg => rfl);(case hr => first|(go_simp;done)|(go_simp;rfl));intro gb295 hg w120 hbox hb;have n0_:=Am10_ (Kd.R_below (by (with_reducible repeat (first|apply Kd.R_alloc|apply Kd.R_drewN|apply Kd.R_drew));exact HO_258002.out) hb);have n1_:=Am10_ (Kd.R_below (by (with_reducible repeat (first|apply Kd.R_alloc|apply Kd.R_drewN|apply Kd.R_drew));exact HO_264002.out) hb);have n2_:=Am10_ (Kd.R_below (by (with_reducible repeat (first|apply Kd.R_alloc|apply Kd.R_drewN|apply Kd.R_drew));exact HO_271002.out) hb);have n3_:=Am10_ (Kd.R_below (by (with_reducible repeat (first|apply Kd.R_alloc|apply Kd.R_drewN|apply Kd.R_drew));exact HO288.out) hb);have n4_:=Am10_ (Kd.R_below (by (with_reducible repeat (first|apply Kd.R_alloc|apply Kd.R_drewN|apply Kd.R_drew));exact HO293.out) hb);have n5_:=Am10_ (blk_below (g:=gb244) (o:=.cells #[.int .i64 a0_0,.int .i64 a0_1,.slice A0_2 l0_2.length c0_2] 24 (0,0)) (by (with_reducible repeat (first|refine blk_drewN ?_ _|refine blk_drew ?_|refine blk_alloc ?_ _));exact BK244.out) hb);have n6_:=Am10_ (blk_below (g:=gb257) (o:=.cells #[.int .i64 t251,.int .i64 t252,.slice Ao25 t253.length co25] 28 (0,0)) (by (with_reducible repeat (first|refine blk_drewN ?_ _|refine blk_drew ?_|refine blk_alloc ?_ _));exact BK257.out) hb);have n7_:=Am10_ (blk_below (g:=gb263) (o:=.cells #[.int .i64 t258,.int .i64 t259,.slice Ao32 t279.length co32] 28 (0,0)) (by (with_reducible repeat (first|refine blk_drewN ?_ _|refine blk_drew ?_|refine blk_alloc ?_ _));exact BK263.out) hb);have n8_:=Am10_ (blk_below (g:=gb270) (o:=.cells #[.int .i64 t264,.int .i64 t265,.slice Ao39 t266.length co39] 28 (0,0)) (by (with_reducible repeat (first|refine blk_drewN ?_ _|refine blk_drew ?_|refine blk_alloc ?_ _));exact BK270.out) hb);have n9_:=Am10_ (below_step (by repeat (first|(with_reducible first|exact HB.out|apply below_alloc|apply pw_below_drewN|apply below_drew1|refine below_set ?_ GE244.out|refine below_set ?_ GE257.out|refine below_set ?_ GE263.out|refine below_set ?_ GE270.out)|exact HB.out)) hb);have n10_:=Am10_ (hbox);have n11_:=Am10_ ((by rw [hg];exact (below_size (by repeat (first|(with_reducible first|exact HB.out|apply below_alloc|apply pw_below_drewN|apply below_drew1|refine below_set ?_ GE244.out|refine below_set ?_ GE257.out|refine below_set ?_ GE263.out|refine below_set ?_ GE270.out)|exact HB.out))):w.heap.size ≤ gb295));have n12_:=Am10_ ((by rw [hg];exact (below_size (by repeat (first|(with_reducible first|exact HB.out|apply below_alloc|apply pw_below_drewN|apply below_drew1|refine below_set ?_ GE244.out|refine below_set ?_ GE257.out|refine below_set ?_ GE263.out|refine below_set ?_ GE270.out)|exact HB.out))):w.heap.size ≤ gb295));have n13_:=Am10_ ((by rw [hg];exact Nat.ne_of_lt (blk_lt (g:=gb244) (o:=.cells #[.int .i64 a0_0,.int .i64 a0_1,.slice A0_2 l0_2.length c0_2] 24 (0,0)) (by (with_reducible repeat (first|refine blk_drewN ?_ _|refine blk_drew ?_|refine blk_alloc ?_ _));exact BK244.out)):gb244 ≠ gb295));have n14_:=Am10_ ((by rw [hg];exact Nat.ne_of_gt (blk_lt (g:=gb244) (o:=.cells #[.int .i64 a0_0,.int .i64 a0_1,.slice A0_2 l0_2.length c0_2] 24 (0,0)) (by (with_reducible repeat (first|refine blk_drewN ?_ _|refine blk_drew ?_|refine blk_alloc ?_ _));exact BK244.out)):gb295 ≠ gb244));have n15_:=Am10_ ((by rw [hg];exact Nat.ne_of_lt (blk_lt (g:=gb257) (o:=.cells #[.int .i64 t251,.int .i64 t252,.slice Ao25 t253.length co25] 28 (0,0)) (by (with_reducible repeat (first|refine blk_drewN ?_ _|refine blk_drew ?_|refine blk_alloc ?_ _));exact BK257.out)):gb257 ≠ gb295));have n16_:=Am10_ ((by rw [hg];exact Nat.ne_of_gt (blk_lt (g:=gb257) (o:=.cells #[.int .i64 t251,.int .i64 t252,.slice Ao25 t253.length co25] 28 (0,0)) (by (with_reducible repeat (first|refine blk_drewN ?_ _|refine blk_drew ?_|refine blk_alloc ?_ _));exact BK257.out)):gb295 ≠ gb257));have n17_:=Am10_ ((by rw [hg];exact Nat.ne_of_lt (blk_lt (g:=gb263) (o:=.cells #[.int .i64 t258,.int .i64 t259,.slice Ao32 t279.length co32] 28 (0,0)) (by (with_reducible repeat (first|refine blk_drewN ?_ _|refine blk_drew ?_|refine blk_alloc ?_ _));exact BK263.out)):gb263 ≠ gb295));have n18_:=Am10_ ((by rw [hg];exact Nat.ne_of_gt (blk_lt (g:=gb263) (o:=.cells #[.int .i64 t258,.int .i64 t259,.slice Ao32 t279.length co32] 28 (0,0)) (by (with_reducible repeat (first|refine blk_drewN ?_ _|refine blk_drew ?_|refine blk_alloc ?_ _));exact BK263.out)):gb295 ≠ gb263));have n19_:=Am10_ ((by rw [hg];exact Nat.ne_of_lt (blk_lt (g:=gb270) (o:=.cells #[.int .i64 t264,.int .i64 t265,.slice Ao39 t266.length co39] 28 (0,0)) (by (with_reducible repeat (first|refine blk_drewN ?_ _|refine blk_drew ?_|refine blk_alloc ?_ _));exact BK270.out)):gb270 ≠ gb295));have n20_:=Am10_ ((by rw [hg];exact Nat.ne_of_gt (blk_lt (g:=gb270) (o:=.cells #[.int .i64 t264,.int .i64 t265,.slice Ao39 t266.length co39] 28 (0,0)) (by (with_reducible repeat (first|refine blk_drewN ?_ _|refine blk_drew ?_|refine blk_alloc ?_ _));exact BK270.out)):gb295 ≠ gb270));clear HO_258002;clear HO_264002;clear HO_271002;clear HO288;clear HO293;clear BK244;clear BK257;clear BK263;clear BK270;clear HB;have HO_258002:=n0_;have HO_264002:=n1_;have HO_271002:=n2_;have HO288:=n3_;have HO293:=n4_;have BK244:=n5_;have BK257:=n6_;have BK263:=n7_;have BK270:=n8_;have HB:=n9_;have BK295:=n10_;have GW295:=n11_;have GE295:=n12_;have NB244_295:=n13_;have NB295_244:=n14_;have NB257_295:=n15_;have NB295_257:=n16_;have NB263_295:=n17_;have NB295_263:=n18_;have NB270_295:=n19_;have NB295_270:=n20_;clear n0_ n1_ n2_ n3_ n4_ n5_ n6_ n7_ n8_ n9_ n10_ n11_ n12_ n13_ n14_ n15_ n16_ n17_ n18_ n19_ n20_;clear hb hbox hg;have hnb121:=NB295_244.out;have hnc121:=NB244_295.out;have hnb122:=NB295_257.out;have hnc122:=NB257_295.out;have hnb123:=NB295_263.out;have hnc123:=NB263_295.out;have hnb124:=NB295_270.out;have hnc124:=NB270_295.out;have hcz125_0:w120.cell? ⟨gb295,0,none⟩=some (.int .i64 0):=(blk_cell BK295.out 0).trans rfl;have hcz125_1:w120.cell? ⟨gb295,1,none⟩=some (.int .i64 0):=(blk_cell BK295.out 1).trans rfl;have hcz125_2:w120.cell? ⟨gb295,2,none⟩=some (.slice none 0 0):=(blk_cell BK295.out 2).trans rfl;have hfz125_0:=blk_frozen BK295.out 0;have hfz125_1:=blk_frozen BK295.out 1;have hfz125_2:=blk_frozen BK295.out 2;obtain ⟨Ao126,co126,eo126⟩:=Kd.R_slice HO293.out;subst eo126))
           (try simp only [Act.put,List.setIfInBounds_toArray,List.set_cons_zero,List.set_cons_succ])
           go_cut [102] (fun v102 wc => ∃ (kq:Nat) (x102_105:Bool),v102=.bool x102_105∧Aside0 (laws_FnExactTakeChallenge.j2 kq t281 x102_105 t264 t265 t282=some true)∧Aside0 (kq ≤ kj62)∧Aside0 (Kd.R k35 35 wc w.heap.size (fun k_ => some k_ ≠ ((.slice Ao32 t279.length co32):Value).ownBlock∧some k_ ≠ ((.slice Ao39 t266.length co39):Value).ownBlock∧some k_ ≠ ((.slice Ao126 t291.length co126):Value).ownBlock) (.slice Ao25 t253.length co25) t253)∧Aside0 (Kd.R k35 35 wc w.heap.size (fun k_ => some k_ ≠ ((.slice Ao25 t253.length co25):Value).ownBlock∧some k_ ≠ ((.slice Ao39 t266.length co39):Value).ownBlock∧some k_ ≠ ((.slice Ao126 t291.length co126):Value).ownBlock) (.slice Ao32 t279.length co32) t279)∧Aside0 (Kd.R k35 35 wc w.heap.size (fun k_ => some k_ ≠ ((.slice Ao25 t253.length co25):Value).ownBlock∧some k_ ≠ ((.slice Ao32 t279.length co32):Value).ownBlock∧some k_ ≠ ((.slice Ao126 t291.length co126):Value).ownBlock) (.slice Ao39 t266.length co39) t282)∧Aside0 (Kd.R k35 35 wc w.heap.size (fun k_ => some k_ ≠ ((.slice Ao25 t253.length co25):Value).ownBlock∧some k_ ≠ ((.slice Ao32 t279.length co32):Value).ownBlock∧some k_ ≠ ((.slice Ao39 t266.length co39):Value).ownBlock) (.slice Ao126 t291.length co126) t291)∧Aside0 (wc.heap[gb244]?=some (.cells #[.int .i64 a0_0,.int .i64 a0_1,(.slice A0_2 l0_2.length c0_2)] 24 (0,0)))∧Aside0 (wc.heap[gb257]?=some (.cells #[.int .i64 t251,.int .i64 t252,(.slice Ao25 t253.length co25)] 28 (0,0)))∧Aside0 (wc.heap[gb263]?=some (.cells #[.int .i64 t258,.int .i64 t259,(.slice Ao32 t279.length co32)] 28 (0,0)))∧Aside0 (wc.heap[gb270]?=some (.cells #[.int .i64 t264,.int .i64 t265,(.slice Ao39 t266.length co39)] 28 (0,0)))∧Aside0 (wc.heap[gb295]?=some (.cells #[.int .i64 t289,.int .i64 t290,(.slice Ao126 t291.length co126)] 28 (0,0)))∧Aside0 (Below w.heap.size w wc))
           case first =>
            have H:=HC106.out
            clear HC106
            replace H:=Option.bind_eq_some_iff.mp H
            obtain ⟨t296,A1270,H⟩:=H
            replace H:(if t296=true then (laws_FnExactTakeChallenge.j2 kj62 t281 (t294 != t256) t264 t265 t282) else (laws_FnExactTakeChallenge.j2 kj62 t281 true t264 t265 t282))=some true:=H
            have A127:=Am10_ A1270
            clear A1270
            by_cases c128:t296=true
            ·subst c128
             have H1:(laws_FnExactTakeChallenge.j2 kj62 t281 (t294 != t256) t264 t265 t282)=some true:=by rw [if_pos rfl] at H;exact H
             clear H
             have H:=H1
             clear H1
             have H':=Am10_ H
             clear H
             have hnb129:=NB295_244.out
             have hnc129:=NB244_295.out
             have hnb130:=NB295_257.out
             have hnc130:=NB257_295.out
             have hnb131:=NB295_263.out
             have hnc131:=NB263_295.out
             have hnb132:=NB295_270.out
             have hnc132:=NB270_295.out
             have hcz133_0:w120.cell? ⟨gb295,0,none⟩=some (.int .i64 0):=(blk_cell BK295.out 0).trans rfl
             have hcz133_1:w120.cell? ⟨gb295,1,none⟩=some (.int .i64 0):=(blk_cell BK295.out 1).trans rfl
             have hcz133_2:w120.cell? ⟨gb295,2,none⟩=some (.slice none 0 0):=(blk_cell BK295.out 2).trans rfl
             have hfz133_0:=blk_frozen BK295.out 0
             have hfz133_1:=blk_frozen BK295.out 1
             have hfz133_2:=blk_frozen BK295.out 2
             have hnb134:=NB257_244.out
             have hnc134:=NB244_257.out
             have hnb135:=NB257_263.out
             have hnc135:=NB263_257.out
             have hnb136:=NB257_270.out
             have hnc136:=NB270_257.out
             have hcz137_0:w120.cell? ⟨gb257,0,none⟩=some (.int .i64 t251):=(blk_cell BK257.out 0).trans rfl
             have hcz137_1:w120.cell? ⟨gb257,1,none⟩=some (.int .i64 t252):=(blk_cell BK257.out 1).trans rfl
             have hcz137_2:w120.cell? ⟨gb257,2,none⟩=some (.slice Ao25 t253.length co25):=(blk_cell BK257.out 2).trans rfl
             have hfz137_0:=blk_frozen BK257.out 0
             have hfz137_1:=blk_frozen BK257.out 1
             have hfz137_2:=blk_frozen BK257.out 2
             go_wp2_with (first|((with_reducible refine gate_callee (f:=19) rfl ?_);refine goesL_ (some 96) rfl rfl Try.func19 (by kernel_rfl) rfl #[.agg #[.int .i64 t289,.int .i64 t290,.slice Ao126 t291.length co126],.agg #[.int .i64 t251,.int .i64 t252,.slice Ao25 t253.length co25]] rfl (by (try simp only [List.map_toArray,List.map_cons,List.map_nil]);first|done|rfl|(simp only [List.length_drop,List.length_take];rfl)) ?_;(with_reducible refine (laws_eqChallengeBook.calls kj62 t289 t290 _ _ t291 t251 t252 _ _ t253 true _ ?side1 ?side2 ?side3 ?side4 A127.out).mono ?_);(case side1 => refine (Kd.R_reads' (e:=35) (base:=w.heap.size) (ok:=fun k_ => ((((True∧some k_ ≠ (.slice Ao25 t253.length co25:Value).ownBlock)∧some k_ ≠ (.slice Ao32 t279.length co32:Value).ownBlock)∧some k_ ≠ (.slice Ao39 t266.length co39:Value).ownBlock)∧some k_ ≠ (.slice Ao118 t286.length co118:Value).ownBlock)) (n:=t291.length) (c:=co126) ?_).2.2;exact (by (with_reducible repeat (first|apply Kd.R_alloc|apply Kd.R_drewN|apply Kd.R_drew));exact (Kd.R_mono (Kd.R_far (p:=⟨gb295,2,none⟩) (Kd.R_far (p:=⟨gb295,1,none⟩) (Kd.R_far (p:=⟨gb295,0,none⟩) (Kd.R_types HO293.out BK295.out (by decide)) (fun _ hk => hk.2) (.int .i64 t289)) (fun _ hk => hk.2) (.int .i64 t290)) (fun _ hk => hk.2) (.slice Ao126 t291.length co126)) (fun _ h_ => h_.1))));(case side2 => exact (Kd.R_reads' HO293.out).2.1);(case side3 => refine (Kd.R_reads' (e:=35) (base:=w.heap.size) (ok:=fun k_ => (((some k_ ≠ (.slice Ao32 t279.length co32:Value).ownBlock∧some k_ ≠ (.slice Ao39 t266.length co39:Value).ownBlock)∧some k_ ≠ (.slice Ao118 t286.length co118:Value).ownBlock)∧some k_ ≠ (.slice Ao126 t291.length co126:Value).ownBlock)) (n:=t253.length) (c:=co25) ?_).2.2;exact (by (with_reducible repeat (first|apply Kd.R_alloc|apply Kd.R_drewN|apply Kd.R_drew));exact (Kd.R_mono (Kd.R_far (p:=⟨gb295,2,none⟩) (Kd.R_far (p:=⟨gb295,1,none⟩) (Kd.R_far (p:=⟨gb295,0,none⟩) (Kd.R_types HO_258002.out BK295.out (by decide)) (fun _ hk => hk.2) (.int .i64 t289)) (fun _ hk => hk.2) (.int .i64 t290)) (fun _ hk => hk.2) (.slice Ao126 t291.length co126)) (fun _ h_ => h_.1))));(case side4 => exact (Kd.R_reads' HO_258002.out).2.1);rintro e w138 ⟨rfl,hb⟩;refine ⟨_,rfl,?_⟩;have n0_:=Am10_ (Kd.R_below (by (with_reducible repeat (first|apply Kd.R_alloc|apply Kd.R_drewN|apply Kd.R_drew));exact (Kd.R_mono (Kd.R_far (p:=⟨gb295,2,none⟩) (Kd.R_far (p:=⟨gb295,1,none⟩) (Kd.R_far (p:=⟨gb295,0,none⟩) (Kd.R_types HO_258002.out BK295.out (by decide)) (fun _ hk => hk.2) (.int .i64 t289)) (fun _ hk => hk.2) (.int .i64 t290)) (fun _ hk => hk.2) (.slice Ao126 t291.length co126)) (fun _ h_ => h_.1))) hb);have n1_:=Am10_ (Kd.R_below (by (with_reducible repeat (first|apply Kd.R_alloc|apply Kd.R_drewN|apply Kd.R_drew));exact (Kd.R_mono (Kd.R_far (p:=⟨gb295,2,none⟩) (Kd.R_far (p:=⟨gb295,1,none⟩) (Kd.R_far (p:=⟨gb295,0,none⟩) (Kd.R_types HO_264002.out BK295.out (by decide)) (fun _ hk => hk.2) (.int .i64 t289)) (fun _ hk => hk.2) (.int .i64 t290)) (fun _ hk => hk.2) (.slice Ao126 t291.length co126)) (fun _ h_ => h_.1))) hb);have n2_:=Am10_ (Kd.R_below (by (with_reducible repeat (first|apply Kd.R_alloc|apply Kd.R_drewN|apply Kd.R_drew));exact (Kd.R_mono (Kd.R_far (p:=⟨gb295,2,none⟩) (Kd.R_far (p:=⟨gb295,1,none⟩) (Kd.R_far (p:=⟨gb295,0,none⟩) (Kd.R_types HO_271002.out BK295.out (by decide)) (fun _ hk => hk.2) (.int .i64 t289)) (fun _ hk => hk.2) (.int .i64 t290)) (fun _ hk => hk.2) (.slice Ao126 t291.length co126)) (fun _ h_ => h_.1))) hb);have n3_:=Am10_ (Kd.R_below (by (with_reducible repeat (first|apply Kd.R_alloc|apply Kd.R_drewN|apply Kd.R_drew));exact (Kd.R_mono (Kd.R_far (p:=⟨gb295,2,none⟩) (Kd.R_far (p:=⟨gb295,1,none⟩) (Kd.R_far (p:=⟨gb295,0,none⟩) (Kd.R_types HO288.out BK295.out (by decide)) (fun _ hk => hk.2) (.int .i64 t289)) (fun _ hk => hk.2) (.int .i64 t290)) (fun _ hk => hk.2) (.slice Ao126 t291.length co126)) (fun _ h_ => h_.1))) hb);have n4_:=Am10_ (Kd.R_below (by (with_reducible repeat (first|apply Kd.R_alloc|apply Kd.R_drewN|apply Kd.R_drew));exact (Kd.R_mono (Kd.R_far (p:=⟨gb295,2,none⟩) (Kd.R_far (p:=⟨gb295,1,none⟩) (Kd.R_far (p:=⟨gb295,0,none⟩) (Kd.R_types HO293.out BK295.out (by decide)) (fun _ hk => hk.2) (.int .i64 t289)) (fun _ hk => hk.2) (.int .i64 t290)) (fun _ hk => hk.2) (.slice Ao126 t291.length co126)) (fun _ h_ => h_.1))) hb);have n5_:=Am10_ (blk_below (g:=gb244) (o:=.cells #[.int .i64 a0_0,.int .i64 a0_1,.slice A0_2 l0_2.length c0_2] 24 (0,0)) (by (with_reducible repeat (first|refine blk_drewN ?_ _|refine blk_drew ?_|refine blk_alloc ?_ _));refine blk_far ?_ NB244_295.out _;(with_reducible repeat (first|refine blk_drewN ?_ _|refine blk_drew ?_|refine blk_alloc ?_ _));refine blk_far ?_ NB244_295.out _;(with_reducible repeat (first|refine blk_drewN ?_ _|refine blk_drew ?_|refine blk_alloc ?_ _));refine blk_far ?_ NB244_295.out _;(with_reducible repeat (first|refine blk_drewN ?_ _|refine blk_drew ?_|refine blk_alloc ?_ _));exact BK244.out) hb);have n6_:=Am10_ (blk_below (g:=gb257) (o:=.cells #[.int .i64 t251,.int .i64 t252,.slice Ao25 t253.length co25] 28 (0,0)) (by (with_reducible repeat (first|refine blk_drewN ?_ _|refine blk_drew ?_|refine blk_alloc ?_ _));refine blk_far ?_ NB257_295.out _;(with_reducible repeat (first|refine blk_drewN ?_ _|refine blk_drew ?_|refine blk_alloc ?_ _));refine blk_far ?_ NB257_295.out _;(with_reducible repeat (first|refine blk_drewN ?_ _|refine blk_drew ?_|refine blk_alloc ?_ _));refine blk_far ?_ NB257_295.out _;(with_reducible repeat (first|refine blk_drewN ?_ _|refine blk_drew ?_|refine blk_alloc ?_ _));exact BK257.out) hb);have n7_:=Am10_ (blk_below (g:=gb263) (o:=.cells #[.int .i64 t258,.int .i64 t259,.slice Ao32 t279.length co32] 28 (0,0)) (by (with_reducible repeat (first|refine blk_drewN ?_ _|refine blk_drew ?_|refine blk_alloc ?_ _));refine blk_far ?_ NB263_295.out _;(with_reducible repeat (first|refine blk_drewN ?_ _|refine blk_drew ?_|refine blk_alloc ?_ _));refine blk_far ?_ NB263_295.out _;(with_reducible repeat (first|refine blk_drewN ?_ _|refine blk_drew ?_|refine blk_alloc ?_ _));refine blk_far ?_ NB263_295.out _;(with_reducible repeat (first|refine blk_drewN ?_ _|refine blk_drew ?_|refine blk_alloc ?_ _));exact BK263.out) hb);have n8_:=Am10_ (blk_below (g:=gb270) (o:=.cells #[.int .i64 t264,.int .i64 t265,.slice Ao39 t266.length co39] 28 (0,0)) (by (with_reducible repeat (first|refine blk_drewN ?_ _|refine blk_drew ?_|refine blk_alloc ?_ _));refine blk_far ?_ NB270_295.out _;(with_reducible repeat (first|refine blk_drewN ?_ _|refine blk_drew ?_|refine blk_alloc ?_ _));refine blk_far ?_ NB270_295.out _;(with_reducible repeat (first|refine blk_drewN ?_ _|refine blk_drew ?_|refine blk_alloc ?_ _));refine blk_far ?_ NB270_295.out _;(with_reducible repeat (first|refine blk_drewN ?_ _|refine blk_drew ?_|refine blk_alloc ?_ _));exact BK270.out) hb);have n9_:=Am10_ (blk_below (g:=gb295) (o:=.cells #[.int .i64 t289,.int .i64 t290,.slice Ao126 t291.length co126] 28 (0,0)) (by (with_reducible repeat (first|refine blk_drewN ?_ _|refine blk_drew ?_|refine blk_alloc ?_ _));refine blk_put (cs:=#[.int .i64 t289,.int .i64 t290,.slice none 0 0]) ?_ 2 _ rfl;(with_reducible repeat (first|refine blk_drewN ?_ _|refine blk_drew ?_|refine blk_alloc ?_ _));refine blk_put (cs:=#[.int .i64 t289,.int .i64 0,.slice none 0 0]) ?_ 1 _ rfl;(with_reducible repeat (first|refine blk_drewN ?_ _|refine blk_drew ?_|refine blk_alloc ?_ _));refine blk_put (cs:=#[.int .i64 0,.int .i64 0,.slice none 0 0]) ?_ 0 _ rfl;(with_reducible repeat (first|refine blk_drewN ?_ _|refine blk_drew ?_|refine blk_alloc ?_ _));exact BK295.out) hb);have n10_:=Am10_ (below_step (by repeat (first|(with_reducible first|exact HB.out|apply below_alloc|apply pw_below_drewN|apply below_drew1|refine below_set ?_ GE244.out|refine below_set ?_ GE257.out|refine below_set ?_ GE263.out|refine below_set ?_ GE270.out|refine below_set ?_ GE295.out)|exact HB.out)) hb);clear HO_258002;clear HO_264002;clear HO_271002;clear HO288;clear HO293;clear BK244;clear BK257;clear BK263;clear BK270;clear BK295;clear HB;have HO_258002:=n0_;have HO_264002:=n1_;have HO_271002:=n2_;have HO288:=n3_;have HO293:=n4_;have BK244:=n5_;have BK257:=n6_;have BK263:=n7_;have BK270:=n8_;have BK295:=n9_;have HB:=n10_;clear n0_ n1_ n2_ n3_ n4_ n5_ n6_ n7_ n8_ n9_ n10_;(try clear hb);(try clear hb2);(try clear hk);(try clear hi)))
             go_meet
             case rel => exact ⟨_,((t294 != t256)),(by first|rfl|(simp;done)|(simp [*];done)),H',⟨by have:=HJ13.out;have:=HJ62.out;first|omega|exact Nat.le_refl _⟩,⟨by (try simp only [hl264002_62]);(with_reducible repeat (first|apply Kd.R_alloc|apply Kd.R_drewN|apply Kd.R_drew));exact Kd.R_mono HO_258002.out (fun _ hk => ⟨hk.1.1.1,⟨hk.1.1.2,hk.2⟩⟩)⟩,⟨by (try simp only [hl264002_62]);(with_reducible repeat (first|apply Kd.R_alloc|apply Kd.R_drewN|apply Kd.R_drew));exact Kd.R_mono HO_264002.out (fun _ hk => ⟨hk.1.1.1,⟨hk.1.1.2,hk.2⟩⟩)⟩,⟨by (try simp only [hl264002_62]);(with_reducible repeat (first|apply Kd.R_alloc|apply Kd.R_drewN|apply Kd.R_drew));exact Kd.R_mono HO_271002.out (fun _ hk => ⟨hk.1.1.1,⟨hk.1.1.2,hk.2⟩⟩)⟩,⟨by (try simp only [hl264002_62]);(with_reducible repeat (first|apply Kd.R_alloc|apply Kd.R_drewN|apply Kd.R_drew));exact Kd.R_mono HO293.out (fun _ hk => ⟨hk.1.1.1.2,⟨hk.1.1.2,hk.1.2⟩⟩)⟩,⟨by (try simp only [hl264002_62]);(with_reducible repeat (first|refine blk_drewN ?_ _|refine blk_drew ?_|refine blk_alloc ?_ _));exact BK244.out⟩,⟨by (try simp only [hl264002_62]);(with_reducible repeat (first|refine blk_drewN ?_ _|refine blk_drew ?_|refine blk_alloc ?_ _));exact BK257.out⟩,⟨by (try simp only [hl264002_62]);(with_reducible repeat (first|refine blk_drewN ?_ _|refine blk_drew ?_|refine blk_alloc ?_ _));exact BK263.out⟩,⟨by (try simp only [hl264002_62]);(with_reducible repeat (first|refine blk_drewN ?_ _|refine blk_drew ?_|refine blk_alloc ?_ _));exact BK270.out⟩,⟨by (try simp only [hl264002_62]);(with_reducible repeat (first|refine blk_drewN ?_ _|refine blk_drew ?_|refine blk_alloc ?_ _));exact BK295.out⟩,⟨by repeat (first|(with_reducible first|exact HB.out|apply below_alloc|apply pw_below_drewN|apply below_drew1|refine below_set ?_ GE244.out|refine below_set ?_ GE257.out|refine below_set ?_ GE263.out|refine below_set ?_ GE270.out|refine below_set ?_ GE295.out)|exact HB.out)⟩⟩
            ·replace c128:=Bool.eq_false_iff.mpr c128
             subst c128
             have H1:(laws_FnExactTakeChallenge.j2 kj62 t281 true t264 t265 t282)=some true:=by rw [if_neg (show ¬ (false=true) by decide)] at H;exact H
             clear H
             have H:=H1
             clear H1
             have H':=Am10_ H
             clear H
             have hnb139:=NB295_244.out
             have hnc139:=NB244_295.out
             have hnb140:=NB295_257.out
             have hnc140:=NB257_295.out
             have hnb141:=NB295_263.out
             have hnc141:=NB263_295.out
             have hnb142:=NB295_270.out
             have hnc142:=NB270_295.out
             have hcz143_0:w120.cell? ⟨gb295,0,none⟩=some (.int .i64 0):=(blk_cell BK295.out 0).trans rfl
             have hcz143_1:w120.cell? ⟨gb295,1,none⟩=some (.int .i64 0):=(blk_cell BK295.out 1).trans rfl
             have hcz143_2:w120.cell? ⟨gb295,2,none⟩=some (.slice none 0 0):=(blk_cell BK295.out 2).trans rfl
             have hfz143_0:=blk_frozen BK295.out 0
             have hfz143_1:=blk_frozen BK295.out 1
             have hfz143_2:=blk_frozen BK295.out 2
             have hnb144:=NB257_244.out
             have hnc144:=NB244_257.out
             have hnb145:=NB257_263.out
             have hnc145:=NB263_257.out
             have hnb146:=NB257_270.out
             have hnc146:=NB270_257.out
             have hcz147_0:w120.cell? ⟨gb257,0,none⟩=some (.int .i64 t251):=(blk_cell BK257.out 0).trans rfl
             have hcz147_1:w120.cell? ⟨gb257,1,none⟩=some (.int .i64 t252):=(blk_cell BK257.out 1).trans rfl
             have hcz147_2:w120.cell? ⟨gb257,2,none⟩=some (.slice Ao25 t253.length co25):=(blk_cell BK257.out 2).trans rfl
             have hfz147_0:=blk_frozen BK257.out 0
             have hfz147_1:=blk_frozen BK257.out 1
             have hfz147_2:=blk_frozen BK257.out 2
             go_wp2_with (first|((with_reducible refine gate_callee (f:=19) rfl ?_);refine goesL_ (some 96) rfl rfl Try.func19 (by kernel_rfl) rfl #[.agg #[.int .i64 t289,.int .i64 t290,.slice Ao126 t291.length co126],.agg #[.int .i64 t251,.int .i64 t252,.slice Ao25 t253.length co25]] rfl (by (try simp only [List.map_toArray,List.map_cons,List.map_nil]);first|done|rfl|(simp only [List.length_drop,List.length_take];rfl)) ?_;(with_reducible refine (laws_eqChallengeBook.calls kj62 t289 t290 _ _ t291 t251 t252 _ _ t253 false _ ?side1 ?side2 ?side3 ?side4 A127.out).mono ?_);(case side1 => refine (Kd.R_reads' (e:=35) (base:=w.heap.size) (ok:=fun k_ => ((((True∧some k_ ≠ (.slice Ao25 t253.length co25:Value).ownBlock)∧some k_ ≠ (.slice Ao32 t279.length co32:Value).ownBlock)∧some k_ ≠ (.slice Ao39 t266.length co39:Value).ownBlock)∧some k_ ≠ (.slice Ao118 t286.length co118:Value).ownBlock)) (n:=t291.length) (c:=co126) ?_).2.2;exact (by (with_reducible repeat (first|apply Kd.R_alloc|apply Kd.R_drewN|apply Kd.R_drew));exact (Kd.R_mono (Kd.R_far (p:=⟨gb295,2,none⟩) (Kd.R_far (p:=⟨gb295,1,none⟩) (Kd.R_far (p:=⟨gb295,0,none⟩) (Kd.R_types HO293.out BK295.out (by decide)) (fun _ hk => hk.2) (.int .i64 t289)) (fun _ hk => hk.2) (.int .i64 t290)) (fun _ hk => hk.2) (.slice Ao126 t291.length co126)) (fun _ h_ => h_.1))));(case side2 => exact (Kd.R_reads' HO293.out).2.1);(case side3 => refine (Kd.R_reads' (e:=35) (base:=w.heap.size) (ok:=fun k_ => (((some k_ ≠ (.slice Ao32 t279.length co32:Value).ownBlock∧some k_ ≠ (.slice Ao39 t266.length co39:Value).ownBlock)∧some k_ ≠ (.slice Ao118 t286.length co118:Value).ownBlock)∧some k_ ≠ (.slice Ao126 t291.length co126:Value).ownBlock)) (n:=t253.length) (c:=co25) ?_).2.2;exact (by (with_reducible repeat (first|apply Kd.R_alloc|apply Kd.R_drewN|apply Kd.R_drew));exact (Kd.R_mono (Kd.R_far (p:=⟨gb295,2,none⟩) (Kd.R_far (p:=⟨gb295,1,none⟩) (Kd.R_far (p:=⟨gb295,0,none⟩) (Kd.R_types HO_258002.out BK295.out (by decide)) (fun _ hk => hk.2) (.int .i64 t289)) (fun _ hk => hk.2) (.int .i64 t290)) (fun _ hk => hk.2) (.slice Ao126 t291.length co126)) (fun _ h_ => h_.1))));(case side4 => exact (Kd.R_reads' HO_258002.out).2.1);rintro e w148 ⟨rfl,hb⟩;refine ⟨_,rfl,?_⟩;have n0_:=Am10_ (Kd.R_below (by (with_reducible repeat (first|apply Kd.R_alloc|apply Kd.R_drewN|apply Kd.R_drew));exact (Kd.R_mono (Kd.R_far (p:=⟨gb295,2,none⟩) (Kd.R_far (p:=⟨gb295,1,none⟩) (Kd.R_far (p:=⟨gb295,0,none⟩) (Kd.R_types HO_258002.out BK295.out (by decide)) (fun _ hk => hk.2) (.int .i64 t289)) (fun _ hk => hk.2) (.int .i64 t290)) (fun _ hk => hk.2) (.slice Ao126 t291.length co126)) (fun _ h_ => h_.1))) hb);have n1_:=Am10_ (Kd.R_below (by (with_reducible repeat (first|apply Kd.R_alloc|apply Kd.R_drewN|apply Kd.R_drew));exact (Kd.R_mono (Kd.R_far (p:=⟨gb295,2,none⟩) (Kd.R_far (p:=⟨gb295,1,none⟩) (Kd.R_far (p:=⟨gb295,0,none⟩) (Kd.R_types HO_264002.out BK295.out (by decide)) (fun _ hk => hk.2) (.int .i64 t289)) (fun _ hk => hk.2) (.int .i64 t290)) (fun _ hk => hk.2) (.slice Ao126 t291.length co126)) (fun _ h_ => h_.1))) hb);have n2_:=Am10_ (Kd.R_below (by (with_reducible repeat (first|apply Kd.R_alloc|apply Kd.R_drewN|apply Kd.R_drew));exact (Kd.R_mono (Kd.R_far (p:=⟨gb295,2,none⟩) (Kd.R_far (p:=⟨gb295,1,none⟩) (Kd.R_far (p:=⟨gb295,0,none⟩) (Kd.R_types HO_271002.out BK295.out (by decide)) (fun _ hk => hk.2) (.int .i64 t289)) (fun _ hk => hk.2) (.int .i64 t290)) (fun _ hk => hk.2) (.slice Ao126 t291.length co126)) (fun _ h_ => h_.1))) hb);have n3_:=Am10_ (Kd.R_below (by (with_reducible repeat (first|apply Kd.R_alloc|apply Kd.R_drewN|apply Kd.R_drew));exact (Kd.R_mono (Kd.R_far (p:=⟨gb295,2,none⟩) (Kd.R_far (p:=⟨gb295,1,none⟩) (Kd.R_far (p:=⟨gb295,0,none⟩) (Kd.R_types HO288.out BK295.out (by decide)) (fun _ hk => hk.2) (.int .i64 t289)) (fun _ hk => hk.2) (.int .i64 t290)) (fun _ hk => hk.2) (.slice Ao126 t291.length co126)) (fun _ h_ => h_.1))) hb);have n4_:=Am10_ (Kd.R_below (by (with_reducible repeat (first|apply Kd.R_alloc|apply Kd.R_drewN|apply Kd.R_drew));exact (Kd.R_mono (Kd.R_far (p:=⟨gb295,2,none⟩) (Kd.R_far (p:=⟨gb295,1,none⟩) (Kd.R_far (p:=⟨gb295,0,none⟩) (Kd.R_types HO293.out BK295.out (by decide)) (fun _ hk => hk.2) (.int .i64 t289)) (fun _ hk => hk.2) (.int .i64 t290)) (fun _ hk => hk.2) (.slice Ao126 t291.length co126)) (fun _ h_ => h_.1))) hb);have n5_:=Am10_ (blk_below (g:=gb244) (o:=.cells #[.int .i64 a0_0,.int .i64 a0_1,.slice A0_2 l0_2.length c0_2] 24 (0,0)) (by (with_reducible repeat (first|refine blk_drewN ?_ _|refine blk_drew ?_|refine blk_alloc ?_ _));refine blk_far ?_ NB244_295.out _;(with_reducible repeat (first|refine blk_drewN ?_ _|refine blk_drew ?_|refine blk_alloc ?_ _));refine blk_far ?_ NB244_295.out _;(with_reducible repeat (first|refine blk_drewN ?_ _|refine blk_drew ?_|refine blk_alloc ?_ _));refine blk_far ?_ NB244_295.out _;(with_reducible repeat (first|refine blk_drewN ?_ _|refine blk_drew ?_|refine blk_alloc ?_ _));exact BK244.out) hb);have n6_:=Am10_ (blk_below (g:=gb257) (o:=.cells #[.int .i64 t251,.int .i64 t252,.slice Ao25 t253.length co25] 28 (0,0)) (by (with_reducible repeat (first|refine blk_drewN ?_ _|refine blk_drew ?_|refine blk_alloc ?_ _));refine blk_far ?_ NB257_295.out _;(with_reducible repeat (first|refine blk_drewN ?_ _|refine blk_drew ?_|refine blk_alloc ?_ _));refine blk_far ?_ NB257_295.out _;(with_reducible repeat (first|refine blk_drewN ?_ _|refine blk_drew ?_|refine blk_alloc ?_ _));refine blk_far ?_ NB257_295.out _;(with_reducible repeat (first|refine blk_drewN ?_ _|refine blk_drew ?_|refine blk_alloc ?_ _));exact BK257.out) hb);have n7_:=Am10_ (blk_below (g:=gb263) (o:=.cells #[.int .i64 t258,.int .i64 t259,.slice Ao32 t279.length co32] 28 (0,0)) (by (with_reducible repeat (first|refine blk_drewN ?_ _|refine blk_drew ?_|refine blk_alloc ?_ _));refine blk_far ?_ NB263_295.out _;(with_reducible repeat (first|refine blk_drewN ?_ _|refine blk_drew ?_|refine blk_alloc ?_ _));refine blk_far ?_ NB263_295.out _;(with_reducible repeat (first|refine blk_drewN ?_ _|refine blk_drew ?_|refine blk_alloc ?_ _));refine blk_far ?_ NB263_295.out _;(with_reducible repeat (first|refine blk_drewN ?_ _|refine blk_drew ?_|refine blk_alloc ?_ _));exact BK263.out) hb);have n8_:=Am10_ (blk_below (g:=gb270) (o:=.cells #[.int .i64 t264,.int .i64 t265,.slice Ao39 t266.length co39] 28 (0,0)) (by (with_reducible repeat (first|refine blk_drewN ?_ _|refine blk_drew ?_|refine blk_alloc ?_ _));refine blk_far ?_ NB270_295.out _;(with_reducible repeat (first|refine blk_drewN ?_ _|refine blk_drew ?_|refine blk_alloc ?_ _));refine blk_far ?_ NB270_295.out _;(with_reducible repeat (first|refine blk_drewN ?_ _|refine blk_drew ?_|refine blk_alloc ?_ _));refine blk_far ?_ NB270_295.out _;(with_reducible repeat (first|refine blk_drewN ?_ _|refine blk_drew ?_|refine blk_alloc ?_ _));exact BK270.out) hb);have n9_:=Am10_ (blk_below (g:=gb295) (o:=.cells #[.int .i64 t289,.int .i64 t290,.slice Ao126 t291.length co126] 28 (0,0)) (by (with_reducible repeat (first|refine blk_drewN ?_ _|refine blk_drew ?_|refine blk_alloc ?_ _));refine blk_put (cs:=#[.int .i64 t289,.int .i64 t290,.slice none 0 0]) ?_ 2 _ rfl;(with_reducible repeat (first|refine blk_drewN ?_ _|refine blk_drew ?_|refine blk_alloc ?_ _));refine blk_put (cs:=#[.int .i64 t289,.int .i64 0,.slice none 0 0]) ?_ 1 _ rfl;(with_reducible repeat (first|refine blk_drewN ?_ _|refine blk_drew ?_|refine blk_alloc ?_ _));refine blk_put (cs:=#[.int .i64 0,.int .i64 0,.slice none 0 0]) ?_ 0 _ rfl;(with_reducible repeat (first|refine blk_drewN ?_ _|refine blk_drew ?_|refine blk_alloc ?_ _));exact BK295.out) hb);have n10_:=Am10_ (below_step (by repeat (first|(with_reducible first|exact HB.out|apply below_alloc|apply pw_below_drewN|apply below_drew1|refine below_set ?_ GE244.out|refine below_set ?_ GE257.out|refine below_set ?_ GE263.out|refine below_set ?_ GE270.out|refine below_set ?_ GE295.out)|exact HB.out)) hb);clear HO_258002;clear HO_264002;clear HO_271002;clear HO288;clear HO293;clear BK244;clear BK257;clear BK263;clear BK270;clear BK295;clear HB;have HO_258002:=n0_;have HO_264002:=n1_;have HO_271002:=n2_;have HO288:=n3_;have HO293:=n4_;have BK244:=n5_;have BK257:=n6_;have BK263:=n7_;have BK270:=n8_;have BK295:=n9_;have HB:=n10_;clear n0_ n1_ n2_ n3_ n4_ n5_ n6_ n7_ n8_ n9_ n10_;(try clear hb);(try clear hb2);(try clear hk);(try clear hi)))
             go_meet
             case rel => exact ⟨_,(true),(by first|rfl|(simp;done)|(simp [*];done)),H',⟨by have:=HJ13.out;have:=HJ62.out;first|omega|exact Nat.le_refl _⟩,⟨by (try simp only [hl264002_62]);(with_reducible repeat (first|apply Kd.R_alloc|apply Kd.R_drewN|apply Kd.R_drew));exact Kd.R_mono HO_258002.out (fun _ hk => ⟨hk.1.1.1,⟨hk.1.1.2,hk.2⟩⟩)⟩,⟨by (try simp only [hl264002_62]);(with_reducible repeat (first|apply Kd.R_alloc|apply Kd.R_drewN|apply Kd.R_drew));exact Kd.R_mono HO_264002.out (fun _ hk => ⟨hk.1.1.1,⟨hk.1.1.2,hk.2⟩⟩)⟩,⟨by (try simp only [hl264002_62]);(with_reducible repeat (first|apply Kd.R_alloc|apply Kd.R_drewN|apply Kd.R_drew));exact Kd.R_mono HO_271002.out (fun _ hk => ⟨hk.1.1.1,⟨hk.1.1.2,hk.2⟩⟩)⟩,⟨by (try simp only [hl264002_62]);(with_reducible repeat (first|apply Kd.R_alloc|apply Kd.R_drewN|apply Kd.R_drew));exact Kd.R_mono HO293.out (fun _ hk => ⟨hk.1.1.1.2,⟨hk.1.1.2,hk.1.2⟩⟩)⟩,⟨by (try simp only [hl264002_62]);(with_reducible repeat (first|refine blk_drewN ?_ _|refine blk_drew ?_|refine blk_alloc ?_ _));exact BK244.out⟩,⟨by (try simp only [hl264002_62]);(with_reducible repeat (first|refine blk_drewN ?_ _|refine blk_drew ?_|refine blk_alloc ?_ _));exact BK257.out⟩,⟨by (try simp only [hl264002_62]);(with_reducible repeat (first|refine blk_drewN ?_ _|refine blk_drew ?_|refine blk_alloc ?_ _));exact BK263.out⟩,⟨by (try simp only [hl264002_62]);(with_reducible repeat (first|refine blk_drewN ?_ _|refine blk_drew ?_|refine blk_alloc ?_ _));exact BK270.out⟩,⟨by (try simp only [hl264002_62]);(with_reducible repeat (first|refine blk_drewN ?_ _|refine blk_drew ?_|refine blk_alloc ?_ _));exact BK295.out⟩,⟨by repeat (first|(with_reducible first|exact HB.out|apply below_alloc|apply pw_below_drewN|apply below_drew1|refine below_set ?_ GE244.out|refine below_set ?_ GE257.out|refine below_set ?_ GE263.out|refine below_set ?_ GE270.out|refine below_set ?_ GE295.out)|exact HB.out)⟩⟩
           case rest =>
            clear HC106
            try clear c1
            try clear c2
            try clear p2
            try clear c3
            try clear c4
            try clear c5
            try clear c6
            try clear c6b0
            try clear c7
            try clear c8
            try clear c9
            try clear c10
            try clear c11
            try clear c12
            try clear c13
            try clear c14
            try clear c15
            try clear c17
            try clear c19
            try clear c20
            try clear c21
            try clear c23
            try clear c29
            try clear c30
            try clear c31
            try clear c32
            try clear c35
            try clear c36
            try clear c37
            try clear c41
            try clear c42
            try clear c43
            try clear c44
            try clear c46
            try clear c47
            try clear c50
            try clear c51
            try clear c52
            try clear c54
            try clear c55
            try clear c58
            try clear c61
            try clear c68
            try clear c69
            try clear c70
            try clear c73
            try clear c73b0
            try clear c75
            try clear c76
            try clear c77
            try clear c78
            try clear c80
            try clear c81
            try clear c84
            try clear c85
            try clear c86
            try clear c88
            try clear c89
            try clear c92
            try clear c95
            try clear c95b0
            try clear c96
            try clear c97
            try clear c98
            try clear c103
            try clear c103b0
            try clear c103b1
            try clear c107
            try clear c108
            try clear c109
            try clear c114
            try clear c115
            try clear c121
            try clear c122
            try clear c123
            try clear c124
            try clear c128
            try clear c129
            try clear c130
            try clear c131
            try clear c132
            try clear c134
            try clear c135
            try clear c136
            try clear c139
            try clear c140
            try clear c141
            try clear c142
            try clear c144
            try clear c145
            try clear c146
            try clear hcz101_0
            try clear hcz101_1
            try clear hcz101_2
            try clear hcz110_0
            try clear hcz110_1
            try clear hcz110_2
            try clear hcz112_0
            try clear hcz112_1
            try clear hcz112_2
            try clear hcz116_0
            try clear hcz116_1
            try clear hcz116_2
            try clear hcz125_0
            try clear hcz125_1
            try clear hcz125_2
            try clear hcz133_0
            try clear hcz133_1
            try clear hcz133_2
            try clear hcz137_0
            try clear hcz137_1
            try clear hcz137_2
            try clear hcz143_0
            try clear hcz143_1
            try clear hcz143_2
            try clear hcz147_0
            try clear hcz147_1
            try clear hcz147_2
            try clear hcz16_0
            try clear hcz16_1
            try clear hcz16_2
            try clear hcz18_0
            try clear hcz18_1
            try clear hcz18_2
            try clear hcz24_0
            try clear hcz24_1
            try clear hcz24_2
            try clear hcz26_0
            try clear hcz26_1
            try clear hcz26_2
            try clear hcz31_0
            try clear hcz31_1
            try clear hcz31_2
            try clear hcz38_0
            try clear hcz38_1
            try clear hcz38_2
            try clear hcz45_0
            try clear hcz45_1
            try clear hcz45_2
            try clear hcz48_0
            try clear hcz48_1
            try clear hcz48_2
            try clear hcz53_0
            try clear hcz53_1
            try clear hcz53_2
            try clear hcz56_0
            try clear hcz56_1
            try clear hcz56_2
            try clear hcz71_0
            try clear hcz71_1
            try clear hcz71_2
            try clear hcz79_0
            try clear hcz79_1
            try clear hcz79_2
            try clear hcz82_0
            try clear hcz82_1
            try clear hcz82_2
            try clear hcz87_0
            try clear hcz87_1
            try clear hcz87_2
            try clear hcz8_0
            try clear hcz8_1
            try clear hcz8_2
            try clear hcz90_0
            try clear hcz90_1
            try clear hcz90_2
            try clear hcz99_0
            try clear hcz99_1
            try clear hcz99_2
            try clear hfz101_0
            try clear hfz101_1
            try clear hfz101_2
            try clear hfz110_0
            try clear hfz110_1
            try clear hfz110_2
            try clear hfz112_0
            try clear hfz112_1
            try clear hfz112_2
            try clear hfz116_0
            try clear hfz116_1
            try clear hfz116_2
            try clear hfz125_0
            try clear hfz125_1
            try clear hfz125_2
            try clear hfz133_0
            try clear hfz133_1
            try clear hfz133_2
            try clear hfz137_0
            try clear hfz137_1
            try clear hfz137_2
            try clear hfz143_0
            try clear hfz143_1
            try clear hfz143_2
            try clear hfz147_0
            try clear hfz147_1
            try clear hfz147_2
            try clear hfz16_0
            try clear hfz16_1
            try clear hfz16_2
            try clear hfz18_0
            try clear hfz18_1
            try clear hfz18_2
            try clear hfz24_0
            try clear hfz24_1
            try clear hfz24_2
            try clear hfz26_0
            try clear hfz26_1
            try clear hfz26_2
            try clear hfz31_0
            try clear hfz31_1
            try clear hfz31_2
            try clear hfz38_0
            try clear hfz38_1
            try clear hfz38_2
            try clear hfz45_0
            try clear hfz45_1
            try clear hfz45_2
            try clear hfz48_0
            try clear hfz48_1
            try clear hfz48_2
            try clear hfz53_0
            try clear hfz53_1
            try clear hfz53_2
            try clear hfz56_0
            try clear hfz56_1
            try clear hfz56_2
            try clear hfz71_0
            try clear hfz71_1
            try clear hfz71_2
            try clear hfz79_0
            try clear hfz79_1
            try clear hfz79_2
            try clear hfz82_0
            try clear hfz82_1
            try clear hfz82_2
            try clear hfz87_0
            try clear hfz87_1
            try clear hfz87_2
            try clear hfz8_0
            try clear hfz8_1
            try clear hfz8_2
            try clear hfz90_0
            try clear hfz90_1
            try clear hfz90_2
            try clear hfz99_0
            try clear hfz99_1
            try clear hfz99_2
            try clear p2
            obtain ⟨kq,x102_105,rfl,HA,HJ105,HO_258002,HO_264002,HO_271002,HO_296002,BK244,BK257,BK263,BK270,BK295,HB⟩:=hcut
            have hl271002_105:=(Kd.R_reads' HO_271002.out).1
            rw [hl271002_105] at HO_271002
            (try simp only [hl271002_105])
            (try simp only [hl271002_105] at BK244)
            (try simp only [hl271002_105] at BK257)
            (try simp only [hl271002_105] at BK263)
            (try simp only [hl271002_105] at BK270)
            (try simp only [hl271002_105] at BK295)
            (try simp only [hl271002_105] at HO_258002)
            (try simp only [hl271002_105] at HO_264002)
            (try simp only [hl271002_105] at HO_296002)
            cases kq with
           |zero => exact absurd HA.out (by simp [laws_FnExactTakeChallenge.j2])
           |succ kj105 =>
             have H:=HA.out
             clear HA
             simp only [laws_FnExactTakeChallenge.j2] at H
             by_cases c149:x102_105=true
             ·subst c149
              have H1:(some false)=some true:=by rw [if_pos rfl] at H;exact H
              clear H
              have H:=H1
              clear H1
              exact absurd H (by simp)
             ·replace c149:=Bool.eq_false_iff.mpr c149
              subst c149
              have H1:((laws_heldChallengeBook.f kj105 t264 t265 t282 1).bind fun t297 => (if t297 < 0 then (some false) else (if t297=t281 then (some true) else (some false))))=some true:=by rw [if_neg (show ¬ (false=true) by decide)] at H;exact H
              clear H
              have H:=H1
              clear H1
              replace H:=Option.bind_eq_some_iff.mp H
              obtain ⟨t297,A1500,H⟩:=H
              replace H:(if t297 < 0 then (some false) else (if t297=t281 then (some true) else (some false)))=some true:=H
              have A150:=Am10_ A1500
              clear A1500
              by_cases c151:t297 < 0
              ·rw [if_pos c151] at H
               have c151b0:decide (t297 < 0)=true:=decide_eq_true c151
               clear c151
               exact absurd H (by simp)
              ·rw [if_neg c151] at H
               have c151b0:decide (t297 < 0)=false:=decide_eq_false c151
               clear c151
               by_cases c158:t297=t281
               ·rw [if_pos c158] at H
                have c158b0:(t297 == t281)=true:=beq_iff_eq.mpr c158
                have c158b1:(t297 != t281)=false:=bne_eq_false_iff_eq.mpr c158
                clear c158
                clear H
                have hnb159:=NB270_244.out
                have hnc159:=NB244_270.out
                have hnb160:=NB270_257.out
                have hnc160:=NB257_270.out
                have hnb161:=NB270_263.out
                have hnc161:=NB263_270.out
                have hnb162:=NB270_295.out
                have hnc162:=NB295_270.out
                have hcz163_0:wc.cell? ⟨gb270,0,none⟩=some (.int .i64 t264):=(blk_cell BK270.out 0).trans rfl
                have hcz163_1:wc.cell? ⟨gb270,1,none⟩=some (.int .i64 t265):=(blk_cell BK270.out 1).trans rfl
                have hcz163_2:wc.cell? ⟨gb270,2,none⟩=some (.slice Ao39 t282.length co39):=(blk_cell BK270.out 2).trans rfl
                have hfz163_0:=blk_frozen BK270.out 0
                have hfz163_1:=blk_frozen BK270.out 1
                have hfz163_2:=blk_frozen BK270.out 2
                go_wp2_with (first|((with_reducible refine gate_callee (f:=21) rfl ?_);refine goesL_ (some 105) rfl rfl Try.func21 (by kernel_rfl) rfl #[.agg #[.int .i64 t264,.int .i64 t265,.slice Ao39 t282.length co39],.int .i64 1] rfl (by (try simp only [List.map_toArray,List.map_cons,List.map_nil]);first|done|rfl|(simp only [List.length_drop,List.length_take];rfl)) ?_;(with_reducible refine (laws_heldChallengeBook.calls kj105 t264 t265 _ _ t282 1 t297 _ ?side1 ?side2 A150.out).mono ?_);(case side1 => repeat (first|exact (Kd.R_reads' HO_271002.out).2.2|(with_reducible refine Kd.C_alloc ?_ _)|(with_reducible refine Kd.C_drewN ?_ _)|(with_reducible refine Kd.C_drew ?_)));(case side2 => exact (Kd.R_reads' HO_271002.out).2.1);rintro e w164 ⟨rfl,hb⟩;refine ⟨_,rfl,?_⟩;have n0_:=Am10_ (Kd.R_below (by (with_reducible repeat (first|apply Kd.R_alloc|apply Kd.R_drewN|apply Kd.R_drew));exact HO_258002.out) hb);have n1_:=Am10_ (Kd.R_below (by (with_reducible repeat (first|apply Kd.R_alloc|apply Kd.R_drewN|apply Kd.R_drew));exact HO_264002.out) hb);have n2_:=Am10_ (Kd.R_below (by (with_reducible repeat (first|apply Kd.R_alloc|apply Kd.R_drewN|apply Kd.R_drew));exact HO_271002.out) hb);have n3_:=Am10_ (Kd.R_below (by (with_reducible repeat (first|apply Kd.R_alloc|apply Kd.R_drewN|apply Kd.R_drew));exact HO_296002.out) hb);have n4_:=Am10_ (blk_below (g:=gb244) (o:=.cells #[.int .i64 a0_0,.int .i64 a0_1,.slice A0_2 l0_2.length c0_2] 24 (0,0)) (by (with_reducible repeat (first|refine blk_drewN ?_ _|refine blk_drew ?_|refine blk_alloc ?_ _));exact BK244.out) hb);have n5_:=Am10_ (blk_below (g:=gb257) (o:=.cells #[.int .i64 t251,.int .i64 t252,.slice Ao25 t253.length co25] 28 (0,0)) (by (with_reducible repeat (first|refine blk_drewN ?_ _|refine blk_drew ?_|refine blk_alloc ?_ _));exact BK257.out) hb);have n6_:=Am10_ (blk_below (g:=gb263) (o:=.cells #[.int .i64 t258,.int .i64 t259,.slice Ao32 t279.length co32] 28 (0,0)) (by (with_reducible repeat (first|refine blk_drewN ?_ _|refine blk_drew ?_|refine blk_alloc ?_ _));exact BK263.out) hb);have n7_:=Am10_ (blk_below (g:=gb270) (o:=.cells #[.int .i64 t264,.int .i64 t265,.slice Ao39 t282.length co39] 28 (0,0)) (by (with_reducible repeat (first|refine blk_drewN ?_ _|refine blk_drew ?_|refine blk_alloc ?_ _));exact BK270.out) hb);have n8_:=Am10_ (blk_below (g:=gb295) (o:=.cells #[.int .i64 t289,.int .i64 t290,.slice Ao126 t291.length co126] 28 (0,0)) (by (with_reducible repeat (first|refine blk_drewN ?_ _|refine blk_drew ?_|refine blk_alloc ?_ _));exact BK295.out) hb);have n9_:=Am10_ (below_step (by repeat (first|(with_reducible first|exact HB.out|apply below_alloc|apply pw_below_drewN|apply below_drew1|refine below_set ?_ GE244.out|refine below_set ?_ GE257.out|refine below_set ?_ GE263.out|refine below_set ?_ GE270.out|refine below_set ?_ GE295.out)|exact HB.out)) hb);clear HO_258002;clear HO_264002;clear HO_271002;clear HO_296002;clear BK244;clear BK257;clear BK263;clear BK270;clear BK295;clear HB;have HO_258002:=n0_;have HO_264002:=n1_;have HO_271002:=n2_;have HO_296002:=n3_;have BK244:=n4_;have BK257:=n5_;have BK263:=n6_;have BK270:=n7_;have BK295:=n8_;have HB:=n9_;clear n0_ n1_ n2_ n3_ n4_ n5_ n6_ n7_ n8_ n9_;(try clear hb);(try clear hb2);(try clear hk);(try clear hi)))
                go_ret
                exact ⟨by first|rfl|(simp [errW_none,errW_some] <;> rfl)|(simp [*,errW_none,errW_some] <;> rfl),by repeat (first|(with_reducible first|exact HB.out|apply below_alloc|apply pw_below_drewN|apply below_drew1|refine below_set ?_ GE244.out|refine below_set ?_ GE257.out|refine below_set ?_ GE263.out|refine below_set ?_ GE270.out|refine below_set ?_ GE295.out)|exact HB.out)⟩
               ·rw [if_neg c158] at H
                have c158b0:(t297 == t281)=false:=beq_eq_false_iff_ne.mpr c158
                have c158b1:(t297 != t281)=true:=bne_iff_ne.mpr c158
                exact absurd H (by simp)
          ·rw [if_neg c103] at H
           have c103b0:(t283 == t281)=false:=beq_eq_false_iff_ne.mpr c103
           have c103b1:(t283 != t281)=true:=bne_iff_ne.mpr c103
           exact absurd H (by simp)
     ·replace c61:=Bool.eq_false_iff.mpr c61
      subst c61
      have H1:(some false)=some true:=by rw [if_neg (show ¬ (false=true) by decide)] at H;exact H
      clear H
      have H:=H1
      clear H1
      exact absurd H (by simp)

end Go.Proofs.Ytednmbifgnpkbaa.PFnExactTakeChallenge
