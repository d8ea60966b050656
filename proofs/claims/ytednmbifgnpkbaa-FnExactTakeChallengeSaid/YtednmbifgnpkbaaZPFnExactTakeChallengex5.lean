/- Functions and contracts of a law's callees, written by a program of this session (a changed print): each contract says that the machine's call answers what the plain function says. Conditions: the plain function's own answer. -/
import Derived.Test.YtednmbifgnpkbaaZPFnExactTakeChallengex0
import Derived.Test.YtednmbifgnpkbaaZPFnExactTakeChallengex3
import Derived.Test.YtednmbifgnpkbaaZPFnExactTakeChallengex4
namespace Go.Proofs.Ytednmbifgnpkbaa.PFnExactTakeChallenge
open Go.RowKit Go.Proofs.YtednmbifgnpkbaaW.PrintWords Go.Proofs.YtednmbifgnpkbaaW.PrintLast Go.Proofs.YtednmbifgnpkbaaW.PrintMore
attribute [local go_sem] max2_int min2_int max_two min_two max_three min_three max_four min_four   -- for this text's walks alone
set_option linter.unusedVariables false
set_option linter.unusedSimpArgs false
abbrev Am5_ {p : Prop} (h : p) : Aside0 p := Aside0.mk h

/-! ### spec_TakeChallenge: function 31 -/
def spec_TakeChallenge.f (k:Nat) (a0_0:Int) (a0_1:Int) (l0_2:List (S35)) (a1:Int) (a2:Int) (a3:Int):Option (Int × Int × (List (S35)) × Bool):=(spec_FindChallenge.f k a0_0 a0_1 l0_2 a1).bind fun t162 => ((spec_IsValidBook.f k a0_0 a0_1 l0_2).bind fun t163 => (if t163=true then (if t162 < 0 then ((spec_l12Copy.f a0_0 a0_1 l0_2).bind fun bt164 => (some (bt164.1,bt164.2.1,bt164.2.2,false))) else ((some (([]:List (S35)):List (S35))).bind fun y170 => (if 0 ≤ t162 then (if t162 ≤ (l0_2.length:Int) then ((some (l0_2.take (t162:Int).toNat:List (S35))).bind fun y173 => (if y170.length + y173.length < 5864062014805 then ((some (y170 ++ y173:List (S35))).bind fun y177 => (if 0 ≤ (wrap64 (t162 + 1)) then (if (wrap64 (t162 + 1)) ≤ (l0_2.length:Int) then ((some (l0_2.drop ((wrap64 (t162 + 1)):Int).toNat:List (S35))).bind fun y180 => (if y177.length + y180.length < 5864062014805 then ((some (y177 ++ y180:List (S35))).bind fun y184 => (if t162 < (l0_2.length:Int) then (if ((rd_T35 l0_2 t162).f1)=a2 then (some (a0_0,a0_1,y184,decide (a3 ≤ ((rd_T35 l0_2 t162).f2)))) else (some (a0_0,a0_1,y184,false))) else (none))) else (none))) else (none)) else (none))) else (none))) else (none)) else (none)))) else ((spec_l12Copy.f a0_0 a0_1 l0_2).bind fun bt189 => (some (bt189.1,bt189.2.1,bt189.2.2,false)))))
theorem spec_TakeChallenge.mono:∀ a0 a1 a2 a3 a4 a5 k,LeO (spec_TakeChallenge.f k a0 a1 a2 a3 a4 a5) (spec_TakeChallenge.f (k + 1) a0 a1 a2 a3 a4 a5):=by
 intro a0 a1 a2 a3 a4 a5 k
 unfold spec_TakeChallenge.f
 repeat' first
  |(with_reducible exact spec_FindChallenge.mono _ _ _ _ _)
  |(with_reducible exact spec_IsValidBook.mono _ _ _ _)
  |(with_reducible exact LeO.refl _)
  |(with_reducible exact LeO.none _)
  |(with_reducible refine LeO.ite ?_ ?_)
  |(with_reducible refine LeO.bind ?_ (fun _ => ?_))
  |exact spec_FindChallenge.mono _ _ _ _ _
  |exact spec_IsValidBook.mono _ _ _ _
  |exact LeO.none _
  |refine LeO.ite ?_ ?_
  |refine LeO.bind ?_ (fun _ => ?_)
def spec_TakeChallenge.T5:Bool × List (List Nat × List Nat):=(true,[([],[]),([],[]),([1],[1]),([],[]),([2,3],[2,3]),([0,4],[0,4]),([],[]),([6],[6]),([],[]),([8],[8]),([7,9],[7,9]),([5,10,5],[5,10]),([0,1,2,3,4,5,6,7,8,9,10,11],[]),([12,11,11,0,1,2,3,4,5,6,7,8,9,10,11],[11,12])])
def spec_TakeChallenge.B5:List Nat:=[0,0,2,0,14,31,0,64,0,256,960,2047,4095,8191]
theorem spec_TakeChallenge.tab5:rtab .any (opsOf Try.f31 5)=spec_TakeChallenge.T5:=by kernel_rfl
theorem spec_TakeChallenge.bits5:waitsOk spec_TakeChallenge.T5.2 spec_TakeChallenge.B5=true:=by kernel_rfl
def spec_TakeChallenge.T6:Bool × List (List Nat × List Nat):=(true,[([],[]),([],[]),([1],[1]),([],[]),([2,3],[2,3]),([4],[4]),([5],[5]),([],[]),([6,7],[6,7]),([8],[8]),([9],[9]),([9],[9]),([11,9],[9,11]),([9],[9]),([12,13,9],[9,12,13]),([14,9],[9,14]),([15,9],[9,15]),([10,16,9],[9,10,16]),([9,17],[9,17]),([0,9,0],[0]),([18,19,0,1,2,3,4,5,6,7,8,9,10,11,12,13,14,15,16,17,18,19],[18])])
def spec_TakeChallenge.B6:List Nat:=[0,0,2,0,14,30,62,0,254,510,1022,1022,3070,1022,15358,31742,64510,131070,262142,1023,1048575]
theorem spec_TakeChallenge.tab6:rtab .any (opsOf Try.f31 6)=spec_TakeChallenge.T6:=by kernel_rfl
theorem spec_TakeChallenge.bits6:waitsOk spec_TakeChallenge.T6.2 spec_TakeChallenge.B6=true:=by kernel_rfl
set_option maxHeartbeats 8000000 in
set_option maxRecDepth 100000 in
theorem spec_TakeChallenge.calls (k:Nat) (a0_0:Int) (a0_1:Int) (A0_2:Option Addr) (c0_2:Nat) (l0_2:List (S35)) (a1:Int) (a2:Int) (a3:Int) (r1:Int) (r2:Int) (r3:List (S35)) (r4:Bool) (w:World) (hr0_2:Kd.C k35 w A0_2 l0_2.length l0_2) (hc0_2:l0_2.length ≤ c0_2) (h:spec_TakeChallenge.f k a0_0 a0_1 l0_2 a1 a2 a3=some (r1,r2,r3,r4)) :
  Calls Try.prog 31 #[.agg #[.int .i64 a0_0,.int .i64 a0_1,.slice A0_2 l0_2.length c0_2],.int .i64 a1,.int .i64 a2,.int .i64 a3] w fun e w' => ∃ v2_:Value,e=.returned (.tuple #[.agg #[.int .i64 r1,.int .i64 r2,v2_],.bool r4])∧Kd.R k35 35 w' w.heap.size (fun _ => True) v2_ r3∧Below w.heap.size w w':=by
 have hu28:=Try.underlying28
 have HR0_2:=Am5_ hr0_2
 have HC0_2:=Am5_ hc0_2
 clear hr0_2 hc0_2
 have HB:=Am5_ (Below.refl w.heap.size w)
 have H:((spec_FindChallenge.f k a0_0 a0_1 l0_2 a1).bind fun t162 => ((spec_IsValidBook.f k a0_0 a0_1 l0_2).bind fun t163 => (if t163=true then (if t162 < 0 then ((spec_l12Copy.f a0_0 a0_1 l0_2).bind fun bt164 => (some (bt164.1,bt164.2.1,bt164.2.2,false))) else ((some (([]:List (S35)):List (S35))).bind fun y170 => (if 0 ≤ t162 then (if t162 ≤ (l0_2.length:Int) then ((some (l0_2.take (t162:Int).toNat:List (S35))).bind fun y173 => (if y170.length + y173.length < 5864062014805 then ((some (y170 ++ y173:List (S35))).bind fun y177 => (if 0 ≤ (wrap64 (t162 + 1)) then (if (wrap64 (t162 + 1)) ≤ (l0_2.length:Int) then ((some (l0_2.drop ((wrap64 (t162 + 1)):Int).toNat:List (S35))).bind fun y180 => (if y177.length + y180.length < 5864062014805 then ((some (y177 ++ y180:List (S35))).bind fun y184 => (if t162 < (l0_2.length:Int) then (if ((rd_T35 l0_2 t162).f1)=a2 then (some (a0_0,a0_1,y184,decide (a3 ≤ ((rd_T35 l0_2 t162).f2)))) else (some (a0_0,a0_1,y184,false))) else (none))) else (none))) else (none)) else (none))) else (none))) else (none)) else (none)))) else ((spec_l12Copy.f a0_0 a0_1 l0_2).bind fun bt189 => (some (bt189.1,bt189.2.1,bt189.2.2,false))))))=some (r1,r2,r3,r4):=h
 clear h
 replace H:=Option.bind_eq_some_iff.mp H
 obtain ⟨t162,A50,H⟩:=H
 replace H:((spec_IsValidBook.f k a0_0 a0_1 l0_2).bind fun t163 => (if t163=true then (if t162 < 0 then ((spec_l12Copy.f a0_0 a0_1 l0_2).bind fun bt164 => (some (bt164.1,bt164.2.1,bt164.2.2,false))) else ((some (([]:List (S35)):List (S35))).bind fun y170 => (if 0 ≤ t162 then (if t162 ≤ (l0_2.length:Int) then ((some (l0_2.take (t162:Int).toNat:List (S35))).bind fun y173 => (if y170.length + y173.length < 5864062014805 then ((some (y170 ++ y173:List (S35))).bind fun y177 => (if 0 ≤ (wrap64 (t162 + 1)) then (if (wrap64 (t162 + 1)) ≤ (l0_2.length:Int) then ((some (l0_2.drop ((wrap64 (t162 + 1)):Int).toNat:List (S35))).bind fun y180 => (if y177.length + y180.length < 5864062014805 then ((some (y177 ++ y180:List (S35))).bind fun y184 => (if t162 < (l0_2.length:Int) then (if ((rd_T35 l0_2 t162).f1)=a2 then (some (a0_0,a0_1,y184,decide (a3 ≤ ((rd_T35 l0_2 t162).f2)))) else (some (a0_0,a0_1,y184,false))) else (none))) else (none))) else (none)) else (none))) else (none))) else (none)) else (none)))) else ((spec_l12Copy.f a0_0 a0_1 l0_2).bind fun bt189 => (some (bt189.1,bt189.2.1,bt189.2.2,false)))))=some (r1,r2,r3,r4):=H
 have A5:=Am5_ A50
 clear A50
 replace H:=Option.bind_eq_some_iff.mp H
 obtain ⟨t163,A60,H⟩:=H
 replace H:(if t163=true then (if t162 < 0 then ((spec_l12Copy.f a0_0 a0_1 l0_2).bind fun bt164 => (some (bt164.1,bt164.2.1,bt164.2.2,false))) else ((some (([]:List (S35)):List (S35))).bind fun y170 => (if 0 ≤ t162 then (if t162 ≤ (l0_2.length:Int) then ((some (l0_2.take (t162:Int).toNat:List (S35))).bind fun y173 => (if y170.length + y173.length < 5864062014805 then ((some (y170 ++ y173:List (S35))).bind fun y177 => (if 0 ≤ (wrap64 (t162 + 1)) then (if (wrap64 (t162 + 1)) ≤ (l0_2.length:Int) then ((some (l0_2.drop ((wrap64 (t162 + 1)):Int).toNat:List (S35))).bind fun y180 => (if y177.length + y180.length < 5864062014805 then ((some (y177 ++ y180:List (S35))).bind fun y184 => (if t162 < (l0_2.length:Int) then (if ((rd_T35 l0_2 t162).f1)=a2 then (some (a0_0,a0_1,y184,decide (a3 ≤ ((rd_T35 l0_2 t162).f2)))) else (some (a0_0,a0_1,y184,false))) else (none))) else (none))) else (none)) else (none))) else (none))) else (none)) else (none)))) else ((spec_l12Copy.f a0_0 a0_1 l0_2).bind fun bt189 => (some (bt189.1,bt189.2.1,bt189.2.2,false))))=some (r1,r2,r3,r4):=H
 have A6:=Am5_ A60
 clear A60
 by_cases c7:t163=true
 ·subst c7
  have H1:(if t162 < 0 then ((spec_l12Copy.f a0_0 a0_1 l0_2).bind fun bt164 => (some (bt164.1,bt164.2.1,bt164.2.2,false))) else ((some (([]:List (S35)):List (S35))).bind fun y170 => (if 0 ≤ t162 then (if t162 ≤ (l0_2.length:Int) then ((some (l0_2.take (t162:Int).toNat:List (S35))).bind fun y173 => (if y170.length + y173.length < 5864062014805 then ((some (y170 ++ y173:List (S35))).bind fun y177 => (if 0 ≤ (wrap64 (t162 + 1)) then (if (wrap64 (t162 + 1)) ≤ (l0_2.length:Int) then ((some (l0_2.drop ((wrap64 (t162 + 1)):Int).toNat:List (S35))).bind fun y180 => (if y177.length + y180.length < 5864062014805 then ((some (y177 ++ y180:List (S35))).bind fun y184 => (if t162 < (l0_2.length:Int) then (if ((rd_T35 l0_2 t162).f1)=a2 then (some (a0_0,a0_1,y184,decide (a3 ≤ ((rd_T35 l0_2 t162).f2)))) else (some (a0_0,a0_1,y184,false))) else (none))) else (none))) else (none)) else (none))) else (none))) else (none)) else (none))))=some (r1,r2,r3,r4):=by rw [if_pos rfl] at H;exact H
  clear H
  have H:=H1
  clear H1
  by_cases c8:t162 < 0
  ·rw [if_pos c8] at H
   have c8b0:decide (t162 < 0)=true:=decide_eq_true c8
   clear c8
   replace H:=Option.bind_eq_some_iff.mp H
   obtain ⟨⟨t164,t165,t166⟩,A90,H⟩:=H
   replace H:(some (t164,t165,t166,false))=some (r1,r2,r3,r4):=H
   have A9:=Am5_ A90
   clear A90
   simp only [Option.some.injEq,Prod.mk.injEq] at H
   obtain ⟨rfl,rfl,rfl,rfl⟩:=H
   go_enter Try.func31,Try.ntmps31
   go_wp2_with (first|((with_reducible refine gate_dst (N:=4) rfl ?_);refine box_event ?hg (N:=4) ?hd (cs:=#[.int .i64 a0_0,.int .i64 a0_1,.slice A0_2 l0_2.length c0_2]) (t:=28) ?hr ?_;(case hd => rfl);(case hg => rfl);(case hr => first|(go_simp;done)|(go_simp;rfl));intro gb160 hg w10 hbox hb;have n0_:=Am5_ (below_step (by repeat (first|(with_reducible first|exact HB.out|apply below_alloc|apply pw_below_drewN|apply below_drew1)|exact HB.out)) hb);have n1_:=Am5_ (hbox);have n2_:=Am5_ ((by rw [hg];exact (below_size (by repeat (first|(with_reducible first|exact HB.out|apply below_alloc|apply pw_below_drewN|apply below_drew1)|exact HB.out))):w.heap.size ≤ gb160));have n3_:=Am5_ ((by rw [hg];exact (below_size (by repeat (first|(with_reducible first|exact HB.out|apply below_alloc|apply pw_below_drewN|apply below_drew1)|exact HB.out))):w.heap.size ≤ gb160));clear HB;have HB:=n0_;have BK160:=n1_;have GW160:=n2_;have GE160:=n3_;clear n0_ n1_ n2_ n3_;clear hb hbox hg)|((with_reducible refine gate_dst (N:=8) rfl ?_);refine box_event ?hg (N:=8) ?hd (cs:=#[.int .i64 0,.int .i64 0,.slice none 0 0]) (t:=28) ?hr ?_;(case hd => rfl);(case hg => rfl);(case hr => first|(go_simp;done)|(go_simp;rfl));intro gb161 hg w11 hbox hb;have n0_:=Am5_ (blk_below (g:=gb160) (o:=.cells #[.int .i64 a0_0,.int .i64 a0_1,.slice A0_2 l0_2.length c0_2] 28 (0,0)) (by (with_reducible repeat (first|refine blk_drewN ?_ _|refine blk_drew ?_|refine blk_alloc ?_ _));exact BK160.out) hb);have n1_:=Am5_ (below_step (by repeat (first|(with_reducible first|exact HB.out|apply below_alloc|apply pw_below_drewN|apply below_drew1|refine below_set ?_ GE160.out)|exact HB.out)) hb);have n2_:=Am5_ (hbox);have n3_:=Am5_ ((by rw [hg];exact (below_size (by repeat (first|(with_reducible first|exact HB.out|apply below_alloc|apply pw_below_drewN|apply below_drew1|refine below_set ?_ GE160.out)|exact HB.out))):w.heap.size ≤ gb161));have n4_:=Am5_ ((by rw [hg];exact (below_size (by repeat (first|(with_reducible first|exact HB.out|apply below_alloc|apply pw_below_drewN|apply below_drew1|refine below_set ?_ GE160.out)|exact HB.out))):w.heap.size ≤ gb161));have n5_:=Am5_ ((by rw [hg];exact Nat.ne_of_lt (blk_lt (g:=gb160) (o:=.cells #[.int .i64 a0_0,.int .i64 a0_1,.slice A0_2 l0_2.length c0_2] 28 (0,0)) (by (with_reducible repeat (first|refine blk_drewN ?_ _|refine blk_drew ?_|refine blk_alloc ?_ _));exact BK160.out)):gb160 ≠ gb161));have n6_:=Am5_ ((by rw [hg];exact Nat.ne_of_gt (blk_lt (g:=gb160) (o:=.cells #[.int .i64 a0_0,.int .i64 a0_1,.slice A0_2 l0_2.length c0_2] 28 (0,0)) (by (with_reducible repeat (first|refine blk_drewN ?_ _|refine blk_drew ?_|refine blk_alloc ?_ _));exact BK160.out)):gb161 ≠ gb160));clear BK160;clear HB;have BK160:=n0_;have HB:=n1_;have BK161:=n2_;have GW161:=n3_;have GE161:=n4_;have NB160_161:=n5_;have NB161_160:=n6_;clear n0_ n1_ n2_ n3_ n4_ n5_ n6_;clear hb hbox hg;have hnb12:=NB160_161.out;have hnc12:=NB161_160.out;have hcz13_0:w11.cell? ⟨gb160,0,none⟩=some (.int .i64 a0_0):=(blk_cell BK160.out 0).trans rfl;have hcz13_1:w11.cell? ⟨gb160,1,none⟩=some (.int .i64 a0_1):=(blk_cell BK160.out 1).trans rfl;have hcz13_2:w11.cell? ⟨gb160,2,none⟩=some (.slice A0_2 l0_2.length c0_2):=(blk_cell BK160.out 2).trans rfl;have hfz13_0:=blk_frozen BK160.out 0;have hfz13_1:=blk_frozen BK160.out 1;have hfz13_2:=blk_frozen BK160.out 2)|((with_reducible refine gate_callee (f:=100) rfl ?_);refine goesL_ (some 14) rfl rfl Try.func100 (by kernel_rfl) rfl #[.agg #[.int .i64 a0_0,.int .i64 a0_1,.slice A0_2 l0_2.length c0_2],.int .i64 a1] rfl (by (try simp only [List.map_toArray,List.map_cons,List.map_nil]);first|done|rfl|(simp only [List.length_drop,List.length_take];rfl)) ?_;(with_reducible refine (spec_FindChallenge.calls k a0_0 a0_1 _ _ l0_2 a1 t162 _ ?side1 ?side2 A5.out).mono ?_);(case side1 => repeat (first|exact (Kd.C_below HR0_2.out HB.out)|(with_reducible refine Kd.C_alloc ?_ _)|(with_reducible refine Kd.C_drewN ?_ _)|(with_reducible refine Kd.C_drew ?_)));(case side2 => exact HC0_2.out);rintro e w14 ⟨rfl,hb⟩;refine ⟨_,rfl,?_⟩;have n0_:=Am5_ (blk_below (g:=gb160) (o:=.cells #[.int .i64 a0_0,.int .i64 a0_1,.slice A0_2 l0_2.length c0_2] 28 (0,0)) (by (with_reducible repeat (first|refine blk_drewN ?_ _|refine blk_drew ?_|refine blk_alloc ?_ _));exact BK160.out) hb);have n1_:=Am5_ (blk_below (g:=gb161) (o:=.cells #[.int .i64 0,.int .i64 0,.slice none 0 0] 28 (0,0)) (by (with_reducible repeat (first|refine blk_drewN ?_ _|refine blk_drew ?_|refine blk_alloc ?_ _));exact BK161.out) hb);have n2_:=Am5_ (below_step (by repeat (first|(with_reducible first|exact HB.out|apply below_alloc|apply pw_below_drewN|apply below_drew1|refine below_set ?_ GE160.out|refine below_set ?_ GE161.out)|exact HB.out)) hb);clear BK160;clear BK161;clear HB;have BK160:=n0_;have BK161:=n1_;have HB:=n2_;clear n0_ n1_ n2_;(try clear hb);(try clear hb2);(try clear hk);(try clear hi);have hcz15_0:w14.cell? ⟨gb160,0,none⟩=some (.int .i64 a0_0):=(blk_cell BK160.out 0).trans rfl;have hcz15_1:w14.cell? ⟨gb160,1,none⟩=some (.int .i64 a0_1):=(blk_cell BK160.out 1).trans rfl;have hcz15_2:w14.cell? ⟨gb160,2,none⟩=some (.slice A0_2 l0_2.length c0_2):=(blk_cell BK160.out 2).trans rfl;have hfz15_0:=blk_frozen BK160.out 0;have hfz15_1:=blk_frozen BK160.out 1;have hfz15_2:=blk_frozen BK160.out 2)|((with_reducible refine gate_callee (f:=86) rfl ?_);refine goesL_ (some 16) rfl rfl Try.func86 (by kernel_rfl) rfl #[.agg #[.int .i64 a0_0,.int .i64 a0_1,.slice A0_2 l0_2.length c0_2]] rfl (by (try simp only [List.map_toArray,List.map_cons,List.map_nil]);first|done|rfl|(simp only [List.length_drop,List.length_take];rfl)) ?_;(with_reducible refine (spec_IsValidBook.calls k a0_0 a0_1 _ _ l0_2 true _ ?side1 ?side2 A6.out).mono ?_);(case side1 => repeat (first|exact (Kd.C_below HR0_2.out HB.out)|(with_reducible refine Kd.C_alloc ?_ _)|(with_reducible refine Kd.C_drewN ?_ _)|(with_reducible refine Kd.C_drew ?_)));(case side2 => exact HC0_2.out);rintro e w16 ⟨rfl,hb⟩;refine ⟨_,rfl,?_⟩;have n0_:=Am5_ (blk_below (g:=gb160) (o:=.cells #[.int .i64 a0_0,.int .i64 a0_1,.slice A0_2 l0_2.length c0_2] 28 (0,0)) (by (with_reducible repeat (first|refine blk_drewN ?_ _|refine blk_drew ?_|refine blk_alloc ?_ _));exact BK160.out) hb);have n1_:=Am5_ (blk_below (g:=gb161) (o:=.cells #[.int .i64 0,.int .i64 0,.slice none 0 0] 28 (0,0)) (by (with_reducible repeat (first|refine blk_drewN ?_ _|refine blk_drew ?_|refine blk_alloc ?_ _));exact BK161.out) hb);have n2_:=Am5_ (below_step (by repeat (first|(with_reducible first|exact HB.out|apply below_alloc|apply pw_below_drewN|apply below_drew1|refine below_set ?_ GE160.out|refine below_set ?_ GE161.out)|exact HB.out)) hb);clear BK160;clear BK161;clear HB;have BK160:=n0_;have BK161:=n1_;have HB:=n2_;clear n0_ n1_ n2_;(try clear hb);(try clear hb2);(try clear hk);(try clear hi);have hcz17_0:w16.cell? ⟨gb160,0,none⟩=some (.int .i64 a0_0):=(blk_cell BK160.out 0).trans rfl;have hcz17_1:w16.cell? ⟨gb160,1,none⟩=some (.int .i64 a0_1):=(blk_cell BK160.out 1).trans rfl;have hcz17_2:w16.cell? ⟨gb160,2,none⟩=some (.slice A0_2 l0_2.length c0_2):=(blk_cell BK160.out 2).trans rfl;have hfz17_0:=blk_frozen BK160.out 0;have hfz17_1:=blk_frozen BK160.out 1;have hfz17_2:=blk_frozen BK160.out 2)|((with_reducible refine gate_callee (f:=87) rfl ?_);refine goesL_ (some 23) rfl rfl Try.func87 (by kernel_rfl) rfl #[.agg #[.int .i64 a0_0,.int .i64 a0_1,.slice A0_2 l0_2.length c0_2]] rfl (by (try simp only [List.map_toArray,List.map_cons,List.map_nil]);first|done|rfl|(simp only [List.length_drop,List.length_take];rfl)) ?_;(with_reducible refine (spec_l12Copy.calls a0_0 a0_1 _ _ l0_2 t164 t165 t166 _ ?side1 ?side2 A9.out).mono ?_);(case side1 => repeat (first|exact (Kd.C_below HR0_2.out HB.out)|(with_reducible refine Kd.C_alloc ?_ _)|(with_reducible refine Kd.C_drewN ?_ _)|(with_reducible refine Kd.C_drew ?_)));(case side2 => exact HC0_2.out);rintro e w18 ⟨v167,rfl,ho0,hb⟩;refine ⟨_,rfl,?_⟩;have n0_:=Am5_ (Kd.R_lower ho0 (below_size (by repeat (first|(with_reducible first|exact HB.out|apply below_alloc|apply pw_below_drewN|apply below_drew1|refine below_set ?_ GE160.out|refine below_set ?_ GE161.out)|exact HB.out))));have n1_:=Am5_ (blk_below (g:=gb160) (o:=.cells #[.int .i64 a0_0,.int .i64 a0_1,.slice A0_2 l0_2.length c0_2] 28 (0,0)) (by (with_reducible repeat (first|refine blk_drewN ?_ _|refine blk_drew ?_|refine blk_alloc ?_ _));exact BK160.out) hb);have n2_:=Am5_ (blk_below (g:=gb161) (o:=.cells #[.int .i64 0,.int .i64 0,.slice none 0 0] 28 (0,0)) (by (with_reducible repeat (first|refine blk_drewN ?_ _|refine blk_drew ?_|refine blk_alloc ?_ _));exact BK161.out) hb);have n3_:=Am5_ (below_step (by repeat (first|(with_reducible first|exact HB.out|apply below_alloc|apply pw_below_drewN|apply below_drew1|refine below_set ?_ GE160.out|refine below_set ?_ GE161.out)|exact HB.out)) hb);clear BK160;clear BK161;clear HB;have HO168:=n0_;have BK160:=n1_;have BK161:=n2_;have HB:=n3_;clear n0_ n1_ n2_ n3_;(try clear hb);(try clear hb2);(try clear hk);(try clear hi);(try clear ho0);have hcz19_0:w18.cell? ⟨gb161,0,none⟩=some (.int .i64 0):=(blk_cell BK161.out 0).trans rfl;have hcz19_1:w18.cell? ⟨gb161,1,none⟩=some (.int .i64 0):=(blk_cell BK161.out 1).trans rfl;have hcz19_2:w18.cell? ⟨gb161,2,none⟩=some (.slice none 0 0):=(blk_cell BK161.out 2).trans rfl;have hfz19_0:=blk_frozen BK161.out 0;have hfz19_1:=blk_frozen BK161.out 1;have hfz19_2:=blk_frozen BK161.out 2;obtain ⟨Ao20,co20,eo20⟩:=Kd.R_slice HO168.out;subst eo20))
   refine bodyPost_ret (results_ct rfl _ _ gb161 28 #[.int .i64 t164,.int .i64 t165,.slice Ao20 t166.length co20] (0,0) _ rfl (by (with_reducible repeat (first|refine blk_drewN ?_ _|refine blk_drew ?_|refine blk_alloc ?_ _));refine blk_put (cs:=#[.int .i64 t164,.int .i64 t165,.slice none 0 0]) ?_ 2 _ rfl;(with_reducible repeat (first|refine blk_drewN ?_ _|refine blk_drew ?_|refine blk_alloc ?_ _));refine blk_put (cs:=#[.int .i64 t164,.int .i64 0,.slice none 0 0]) ?_ 1 _ rfl;(with_reducible repeat (first|refine blk_drewN ?_ _|refine blk_drew ?_|refine blk_alloc ?_ _));refine blk_put (cs:=#[.int .i64 0,.int .i64 0,.slice none 0 0]) ?_ 0 _ rfl;(with_reducible repeat (first|refine blk_drewN ?_ _|refine blk_drew ?_|refine blk_alloc ?_ _));exact BK161.out) Try.underlying28 rfl (by kernel_rfl)) rfl ?_
   exact ⟨_,by first|rfl|(simp [errW_none,errW_some] <;> rfl)|(simp [*,errW_none,errW_some] <;> rfl),by (with_reducible repeat (first|apply Kd.R_alloc|apply Kd.R_drewN|apply Kd.R_drew));exact Kd.R_mono (Kd.R_far (p:=⟨gb161,2,none⟩) (Kd.R_far (p:=⟨gb161,1,none⟩) (Kd.R_far (p:=⟨gb161,0,none⟩) (Kd.R_types HO168.out BK161.out (by decide)) (fun _ hk => hk.2) (.int .i64 t164)) (fun _ hk => hk.2) (.int .i64 t165)) (fun _ hk => hk.2) (.slice Ao20 t166.length co20)) (fun _ hk => trivial),by repeat (first|(with_reducible first|exact HB.out|apply below_alloc|apply pw_below_drewN|apply below_drew1|refine below_set ?_ GE160.out|refine below_set ?_ GE161.out)|exact HB.out)⟩
  ·rw [if_neg c8] at H
   have c8b0:decide (t162 < 0)=false:=decide_eq_false c8
   clear c8
   obtain ⟨y170,hy170⟩:∃ y_:List (S35),y_=(([]:List (S35))):=⟨_,rfl⟩
   replace H:(if 0 ≤ t162 then (if t162 ≤ (l0_2.length:Int) then ((some (l0_2.take (t162:Int).toNat:List (S35))).bind fun y173 => (if y170.length + y173.length < 5864062014805 then ((some (y170 ++ y173:List (S35))).bind fun y177 => (if 0 ≤ (wrap64 (t162 + 1)) then (if (wrap64 (t162 + 1)) ≤ (l0_2.length:Int) then ((some (l0_2.drop ((wrap64 (t162 + 1)):Int).toNat:List (S35))).bind fun y180 => (if y177.length + y180.length < 5864062014805 then ((some (y177 ++ y180:List (S35))).bind fun y184 => (if t162 < (l0_2.length:Int) then (if ((rd_T35 l0_2 t162).f1)=a2 then (some (a0_0,a0_1,y184,decide (a3 ≤ ((rd_T35 l0_2 t162).f2)))) else (some (a0_0,a0_1,y184,false))) else (none))) else (none))) else (none)) else (none))) else (none))) else (none)) else (none))=some (r1,r2,r3,r4):=by first|(rw [hy170];with_reducible exact H)|(have H2_:=(Option.bind_some _ _).symm.trans H;rw [hy170];with_reducible exact H2_)|(have H2_:=(Option.bind_some _ _).symm.trans H;with_reducible exact H2_)|with_reducible exact H|(rw [hy170];exact H)|exact H
   have Ny170:=Am5_ hy170
   clear hy170
   by_cases c21:0 ≤ t162
   ·rw [if_pos c21] at H
    have c21b0:=eq_true c21
    have c21b1:decide (0 ≤ t162)=true:=decide_eq_true c21
    clear c21
    by_cases c22:t162 ≤ (l0_2.length:Int)
    ·rw [if_pos c22] at H
     have c22b0:=eq_true c22
     have c22b1:decide (t162 ≤ (l0_2.length:Int))=true:=decide_eq_true c22
     clear c22
     obtain ⟨y173,hy173⟩:∃ y_:List (S35),y_=(l0_2.take (t162:Int).toNat):=⟨_,rfl⟩
     replace H:(if y170.length + y173.length < 5864062014805 then ((some (y170 ++ y173:List (S35))).bind fun y177 => (if 0 ≤ (wrap64 (t162 + 1)) then (if (wrap64 (t162 + 1)) ≤ (l0_2.length:Int) then ((some (l0_2.drop ((wrap64 (t162 + 1)):Int).toNat:List (S35))).bind fun y180 => (if y177.length + y180.length < 5864062014805 then ((some (y177 ++ y180:List (S35))).bind fun y184 => (if t162 < (l0_2.length:Int) then (if ((rd_T35 l0_2 t162).f1)=a2 then (some (a0_0,a0_1,y184,decide (a3 ≤ ((rd_T35 l0_2 t162).f2)))) else (some (a0_0,a0_1,y184,false))) else (none))) else (none))) else (none)) else (none))) else (none))=some (r1,r2,r3,r4):=by first|(rw [hy173];with_reducible exact H)|(have H2_:=(Option.bind_some _ _).symm.trans H;rw [hy173];with_reducible exact H2_)|(have H2_:=(Option.bind_some _ _).symm.trans H;with_reducible exact H2_)|with_reducible exact H|(rw [hy173];exact H)|exact H
     have Ny173:=Am5_ hy173
     clear hy173
     by_cases c23:y170.length + y173.length < 5864062014805
     ·rw [if_pos c23] at H
      have LMc23:=Am5_ c23
      clear c23
      obtain ⟨y177,hy177⟩:∃ y_:List (S35),y_=(y170 ++ y173):=⟨_,rfl⟩
      replace H:(if 0 ≤ (wrap64 (t162 + 1)) then (if (wrap64 (t162 + 1)) ≤ (l0_2.length:Int) then ((some (l0_2.drop ((wrap64 (t162 + 1)):Int).toNat:List (S35))).bind fun y180 => (if y177.length + y180.length < 5864062014805 then ((some (y177 ++ y180:List (S35))).bind fun y184 => (if t162 < (l0_2.length:Int) then (if ((rd_T35 l0_2 t162).f1)=a2 then (some (a0_0,a0_1,y184,decide (a3 ≤ ((rd_T35 l0_2 t162).f2)))) else (some (a0_0,a0_1,y184,false))) else (none))) else (none))) else (none)) else (none))=some (r1,r2,r3,r4):=by first|(rw [hy177];with_reducible exact H)|(have H2_:=(Option.bind_some _ _).symm.trans H;rw [hy177];with_reducible exact H2_)|(have H2_:=(Option.bind_some _ _).symm.trans H;with_reducible exact H2_)|with_reducible exact H|(rw [hy177];exact H)|exact H
      have Ny177:=Am5_ hy177
      clear hy177
      obtain ⟨ji24,hji24⟩:∃ j_:Int,(wrap64 (t162 + 1))=j_:=⟨_,rfl⟩
      replace H:(if 0 ≤ (ji24) then (if (ji24) ≤ (l0_2.length:Int) then ((some (l0_2.drop ((ji24):Int).toNat:List (S35))).bind fun y180 => (if y177.length + y180.length < 5864062014805 then ((some (y177 ++ y180:List (S35))).bind fun y184 => (if t162 < (l0_2.length:Int) then (if ((rd_T35 l0_2 t162).f1)=a2 then (some (a0_0,a0_1,y184,decide (a3 ≤ ((rd_T35 l0_2 t162).f2)))) else (some (a0_0,a0_1,y184,false))) else (none))) else (none))) else (none)) else (none))=some (r1,r2,r3,r4):=by first|(rw [hji24] at H;exact H)|(simp only [hji24] at H ⊢;exact H)
      (try rw [hji24] at A5)
      (try rw [hji24] at A6)
      have hji24w:(IntKind.i64.wrap (t162 + 1))=ji24:=(i64_w _).trans hji24
      by_cases c25:0 ≤ (ji24)
      ·rw [if_pos c25] at H
       have c25b0:=eq_true c25
       have c25b1:decide (0 ≤ (ji24))=true:=decide_eq_true c25
       clear c25
       by_cases c26:(ji24) ≤ (l0_2.length:Int)
       ·rw [if_pos c26] at H
        have c26b0:=eq_true c26
        have c26b1:decide ((ji24) ≤ (l0_2.length:Int))=true:=decide_eq_true c26
        clear c26
        obtain ⟨y180,hy180⟩:∃ y_:List (S35),y_=(l0_2.drop ((ji24):Int).toNat):=⟨_,rfl⟩
        replace H:(if y177.length + y180.length < 5864062014805 then ((some (y177 ++ y180:List (S35))).bind fun y184 => (if t162 < (l0_2.length:Int) then (if ((rd_T35 l0_2 t162).f1)=a2 then (some (a0_0,a0_1,y184,decide (a3 ≤ ((rd_T35 l0_2 t162).f2)))) else (some (a0_0,a0_1,y184,false))) else (none))) else (none))=some (r1,r2,r3,r4):=by first|(rw [hy180];with_reducible exact H)|(have H2_:=(Option.bind_some _ _).symm.trans H;rw [hy180];with_reducible exact H2_)|(have H2_:=(Option.bind_some _ _).symm.trans H;with_reducible exact H2_)|with_reducible exact H|(rw [hy180];exact H)|exact H
        have Ny180:=Am5_ hy180
        clear hy180
        by_cases c27:y177.length + y180.length < 5864062014805
        ·rw [if_pos c27] at H
         have LMc27:=Am5_ c27
         clear c27
         obtain ⟨y184,hy184⟩:∃ y_:List (S35),y_=(y177 ++ y180):=⟨_,rfl⟩
         replace H:(if t162 < (l0_2.length:Int) then (if ((rd_T35 l0_2 t162).f1)=a2 then (some (a0_0,a0_1,y184,decide (a3 ≤ ((rd_T35 l0_2 t162).f2)))) else (some (a0_0,a0_1,y184,false))) else (none))=some (r1,r2,r3,r4):=by first|(rw [hy184];with_reducible exact H)|(have H2_:=(Option.bind_some _ _).symm.trans H;rw [hy184];with_reducible exact H2_)|(have H2_:=(Option.bind_some _ _).symm.trans H;with_reducible exact H2_)|with_reducible exact H|(rw [hy184];exact H)|exact H
         have Ny184:=Am5_ hy184
         clear hy184
         by_cases c28:t162 < (l0_2.length:Int)
         ·rw [if_pos c28] at H
          have c28b0:decide (t162 < (l0_2.length:Int))=true:=decide_eq_true c28
          clear c28
          by_cases c29:((rd_T35 l0_2 t162).f1)=a2
          ·rw [if_pos c29] at H
           have c29b0:(((rd_T35 l0_2 t162).f1) == a2)=true:=beq_iff_eq.mpr c29
           have c29b1:(((rd_T35 l0_2 t162).f1) != a2)=false:=bne_eq_false_iff_eq.mpr c29
           clear c29
           simp only [Option.some.injEq,Prod.mk.injEq] at H
           obtain ⟨rfl,rfl,rfl,rfl⟩:=H
           go_enter Try.func31,Try.ntmps31
           try go_wp2_with (first|((with_reducible refine gate_dst (N:=4) rfl ?_);refine box_event ?hg (N:=4) ?hd (cs:=#[.int .i64 a0_0,.int .i64 a0_1,.slice A0_2 l0_2.length c0_2]) (t:=28) ?hr ?_;(case hd => rfl);(case hg => rfl);(case hr => first|(go_simp;done)|(go_simp;rfl));intro gb160 hg w30 hbox hb;have n0_:=Am5_ (below_step (by repeat (first|(with_reducible first|exact HB.out|apply below_alloc|apply pw_below_drewN|apply below_drew1)|exact HB.out)) hb);have n1_:=Am5_ (hbox);have n2_:=Am5_ ((by rw [hg];exact (below_size (by repeat (first|(with_reducible first|exact HB.out|apply below_alloc|apply pw_below_drewN|apply below_drew1)|exact HB.out))):w.heap.size ≤ gb160));have n3_:=Am5_ ((by rw [hg];exact (below_size (by repeat (first|(with_reducible first|exact HB.out|apply below_alloc|apply pw_below_drewN|apply below_drew1)|exact HB.out))):w.heap.size ≤ gb160));clear HB;have HB:=n0_;have BK160:=n1_;have GW160:=n2_;have GE160:=n3_;clear n0_ n1_ n2_ n3_;clear hb hbox hg)|((with_reducible refine gate_dst (N:=8) rfl ?_);refine box_event ?hg (N:=8) ?hd (cs:=#[.int .i64 0,.int .i64 0,.slice none 0 0]) (t:=28) ?hr ?_;(case hd => rfl);(case hg => rfl);(case hr => first|(go_simp;done)|(go_simp;rfl));intro gb161 hg w31 hbox hb;have n0_:=Am5_ (blk_below (g:=gb160) (o:=.cells #[.int .i64 a0_0,.int .i64 a0_1,.slice A0_2 l0_2.length c0_2] 28 (0,0)) (by (with_reducible repeat (first|refine blk_drewN ?_ _|refine blk_drew ?_|refine blk_alloc ?_ _));exact BK160.out) hb);have n1_:=Am5_ (below_step (by repeat (first|(with_reducible first|exact HB.out|apply below_alloc|apply pw_below_drewN|apply below_drew1|refine below_set ?_ GE160.out)|exact HB.out)) hb);have n2_:=Am5_ (hbox);have n3_:=Am5_ ((by rw [hg];exact (below_size (by repeat (first|(with_reducible first|exact HB.out|apply below_alloc|apply pw_below_drewN|apply below_drew1|refine below_set ?_ GE160.out)|exact HB.out))):w.heap.size ≤ gb161));have n4_:=Am5_ ((by rw [hg];exact (below_size (by repeat (first|(with_reducible first|exact HB.out|apply below_alloc|apply pw_below_drewN|apply below_drew1|refine below_set ?_ GE160.out)|exact HB.out))):w.heap.size ≤ gb161));have n5_:=Am5_ ((by rw [hg];exact Nat.ne_of_lt (blk_lt (g:=gb160) (o:=.cells #[.int .i64 a0_0,.int .i64 a0_1,.slice A0_2 l0_2.length c0_2] 28 (0,0)) (by (with_reducible repeat (first|refine blk_drewN ?_ _|refine blk_drew ?_|refine blk_alloc ?_ _));exact BK160.out)):gb160 ≠ gb161));have n6_:=Am5_ ((by rw [hg];exact Nat.ne_of_gt (blk_lt (g:=gb160) (o:=.cells #[.int .i64 a0_0,.int .i64 a0_1,.slice A0_2 l0_2.length c0_2] 28 (0,0)) (by (with_reducible repeat (first|refine blk_drewN ?_ _|refine blk_drew ?_|refine blk_alloc ?_ _));exact BK160.out)):gb161 ≠ gb160));clear BK160;clear HB;have BK160:=n0_;have HB:=n1_;have BK161:=n2_;have GW161:=n3_;have GE161:=n4_;have NB160_161:=n5_;have NB161_160:=n6_;clear n0_ n1_ n2_ n3_ n4_ n5_ n6_;clear hb hbox hg;have hnb32:=NB160_161.out;have hnc32:=NB161_160.out;have hcz33_0:w31.cell? ⟨gb160,0,none⟩=some (.int .i64 a0_0):=(blk_cell BK160.out 0).trans rfl;have hcz33_1:w31.cell? ⟨gb160,1,none⟩=some (.int .i64 a0_1):=(blk_cell BK160.out 1).trans rfl;have hcz33_2:w31.cell? ⟨gb160,2,none⟩=some (.slice A0_2 l0_2.length c0_2):=(blk_cell BK160.out 2).trans rfl;have hfz33_0:=blk_frozen BK160.out 0;have hfz33_1:=blk_frozen BK160.out 1;have hfz33_2:=blk_frozen BK160.out 2)|((with_reducible refine gate_callee (f:=100) rfl ?_);refine goesL_ (some 14) rfl rfl Try.func100 (by kernel_rfl) rfl #[.agg #[.int .i64 a0_0,.int .i64 a0_1,.slice A0_2 l0_2.length c0_2],.int .i64 a1] rfl (by (try simp only [List.map_toArray,List.map_cons,List.map_nil]);first|done|rfl|(simp only [List.length_drop,List.length_take];rfl)) ?_;(with_reducible refine (spec_FindChallenge.calls k a0_0 a0_1 _ _ l0_2 a1 t162 _ ?side1 ?side2 A5.out).mono ?_);(case side1 => repeat (first|exact (Kd.C_below HR0_2.out HB.out)|(with_reducible refine Kd.C_alloc ?_ _)|(with_reducible refine Kd.C_drewN ?_ _)|(with_reducible refine Kd.C_drew ?_)));(case side2 => exact HC0_2.out);rintro e w34 ⟨rfl,hb⟩;refine ⟨_,rfl,?_⟩;have n0_:=Am5_ (blk_below (g:=gb160) (o:=.cells #[.int .i64 a0_0,.int .i64 a0_1,.slice A0_2 l0_2.length c0_2] 28 (0,0)) (by (with_reducible repeat (first|refine blk_drewN ?_ _|refine blk_drew ?_|refine blk_alloc ?_ _));exact BK160.out) hb);have n1_:=Am5_ (blk_below (g:=gb161) (o:=.cells #[.int .i64 0,.int .i64 0,.slice none 0 0] 28 (0,0)) (by (with_reducible repeat (first|refine blk_drewN ?_ _|refine blk_drew ?_|refine blk_alloc ?_ _));exact BK161.out) hb);have n2_:=Am5_ (below_step (by repeat (first|(with_reducible first|exact HB.out|apply below_alloc|apply pw_below_drewN|apply below_drew1|refine below_set ?_ GE160.out|refine below_set ?_ GE161.out)|exact HB.out)) hb);clear BK160;clear BK161;clear HB;have BK160:=n0_;have BK161:=n1_;have HB:=n2_;clear n0_ n1_ n2_;(try clear hb);(try clear hb2);(try clear hk);(try clear hi);have hcz35_0:w34.cell? ⟨gb160,0,none⟩=some (.int .i64 a0_0):=(blk_cell BK160.out 0).trans rfl;have hcz35_1:w34.cell? ⟨gb160,1,none⟩=some (.int .i64 a0_1):=(blk_cell BK160.out 1).trans rfl;have hcz35_2:w34.cell? ⟨gb160,2,none⟩=some (.slice A0_2 l0_2.length c0_2):=(blk_cell BK160.out 2).trans rfl;have hfz35_0:=blk_frozen BK160.out 0;have hfz35_1:=blk_frozen BK160.out 1;have hfz35_2:=blk_frozen BK160.out 2)|((with_reducible refine gate_callee (f:=86) rfl ?_);refine goesL_ (some 16) rfl rfl Try.func86 (by kernel_rfl) rfl #[.agg #[.int .i64 a0_0,.int .i64 a0_1,.slice A0_2 l0_2.length c0_2]] rfl (by (try simp only [List.map_toArray,List.map_cons,List.map_nil]);first|done|rfl|(simp only [List.length_drop,List.length_take];rfl)) ?_;(with_reducible refine (spec_IsValidBook.calls k a0_0 a0_1 _ _ l0_2 true _ ?side1 ?side2 A6.out).mono ?_);(case side1 => repeat (first|exact (Kd.C_below HR0_2.out HB.out)|(with_reducible refine Kd.C_alloc ?_ _)|(with_reducible refine Kd.C_drewN ?_ _)|(with_reducible refine Kd.C_drew ?_)));(case side2 => exact HC0_2.out);rintro e w36 ⟨rfl,hb⟩;refine ⟨_,rfl,?_⟩;have n0_:=Am5_ (blk_below (g:=gb160) (o:=.cells #[.int .i64 a0_0,.int .i64 a0_1,.slice A0_2 l0_2.length c0_2] 28 (0,0)) (by (with_reducible repeat (first|refine blk_drewN ?_ _|refine blk_drew ?_|refine blk_alloc ?_ _));exact BK160.out) hb);have n1_:=Am5_ (blk_below (g:=gb161) (o:=.cells #[.int .i64 0,.int .i64 0,.slice none 0 0] 28 (0,0)) (by (with_reducible repeat (first|refine blk_drewN ?_ _|refine blk_drew ?_|refine blk_alloc ?_ _));exact BK161.out) hb);have n2_:=Am5_ (below_step (by repeat (first|(with_reducible first|exact HB.out|apply below_alloc|apply pw_below_drewN|apply below_drew1|refine below_set ?_ GE160.out|refine below_set ?_ GE161.out)|exact HB.out)) hb);clear BK160;clear BK161;clear HB;have BK160:=n0_;have BK161:=n1_;have HB:=n2_;clear n0_ n1_ n2_;(try clear hb);(try clear hb2);(try clear hk);(try clear hi);have hcz37_0:w36.cell? ⟨gb160,0,none⟩=some (.int .i64 a0_0):=(blk_cell BK160.out 0).trans rfl;have hcz37_1:w36.cell? ⟨gb160,1,none⟩=some (.int .i64 a0_1):=(blk_cell BK160.out 1).trans rfl;have hcz37_2:w36.cell? ⟨gb160,2,none⟩=some (.slice A0_2 l0_2.length c0_2):=(blk_cell BK160.out 2).trans rfl;have hfz37_0:=blk_frozen BK160.out 0;have hfz37_1:=blk_frozen BK160.out 1;have hfz37_2:=blk_frozen BK160.out 2)|((with_reducible refine gate_dst (N:=11) rfl ?_);refine box_event ?hg (N:=11) ?hd (cs:=#[.int .i64 0,.int .i64 0,.slice none 0 0]) (t:=28) ?hr ?_;(case hd => rfl);(case hg => rfl);(case hr => first|(go_simp;done)|(go_simp;rfl));intro gb169 hg w38 hbox hb;have n0_:=Am5_ (blk_below (g:=gb160) (o:=.cells #[.int .i64 a0_0,.int .i64 a0_1,.slice A0_2 l0_2.length c0_2] 28 (0,0)) (by (with_reducible repeat (first|refine blk_drewN ?_ _|refine blk_drew ?_|refine blk_alloc ?_ _));exact BK160.out) hb);have n1_:=Am5_ (blk_below (g:=gb161) (o:=.cells #[.int .i64 0,.int .i64 0,.slice none 0 0] 28 (0,0)) (by (with_reducible repeat (first|refine blk_drewN ?_ _|refine blk_drew ?_|refine blk_alloc ?_ _));exact BK161.out) hb);have n2_:=Am5_ (below_step (by repeat (first|(with_reducible first|exact HB.out|apply below_alloc|apply pw_below_drewN|apply below_drew1|refine below_set ?_ GE160.out|refine below_set ?_ GE161.out)|exact HB.out)) hb);have n3_:=Am5_ (hbox);have n4_:=Am5_ ((by rw [hg];exact (below_size (by repeat (first|(with_reducible first|exact HB.out|apply below_alloc|apply pw_below_drewN|apply below_drew1|refine below_set ?_ GE160.out|refine below_set ?_ GE161.out)|exact HB.out))):w.heap.size ≤ gb169));have n5_:=Am5_ ((by rw [hg];exact (below_size (by repeat (first|(with_reducible first|exact HB.out|apply below_alloc|apply pw_below_drewN|apply below_drew1|refine below_set ?_ GE160.out|refine below_set ?_ GE161.out)|exact HB.out))):w.heap.size ≤ gb169));have n6_:=Am5_ ((by rw [hg];exact Nat.ne_of_lt (blk_lt (g:=gb160) (o:=.cells #[.int .i64 a0_0,.int .i64 a0_1,.slice A0_2 l0_2.length c0_2] 28 (0,0)) (by (with_reducible repeat (first|refine blk_drewN ?_ _|refine blk_drew ?_|refine blk_alloc ?_ _));exact BK160.out)):gb160 ≠ gb169));have n7_:=Am5_ ((by rw [hg];exact Nat.ne_of_gt (blk_lt (g:=gb160) (o:=.cells #[.int .i64 a0_0,.int .i64 a0_1,.slice A0_2 l0_2.length c0_2] 28 (0,0)) (by (with_reducible repeat (first|refine blk_drewN ?_ _|refine blk_drew ?_|refine blk_alloc ?_ _));exact BK160.out)):gb169 ≠ gb160));have n8_:=Am5_ ((by rw [hg];exact Nat.ne_of_lt (blk_lt (g:=gb161) (o:=.cells #[.int .i64 0,.int .i64 0,.slice none 0 0] 28 (0,0)) (by (with_reducible repeat (first|refine blk_drewN ?_ _|refine blk_drew ?_|refine blk_alloc ?_ _));exact BK161.out)):gb161 ≠ gb169));have n9_:=Am5_ ((by rw [hg];exact Nat.ne_of_gt (blk_lt (g:=gb161) (o:=.cells #[.int .i64 0,.int .i64 0,.slice none 0 0] 28 (0,0)) (by (with_reducible repeat (first|refine blk_drewN ?_ _|refine blk_drew ?_|refine blk_alloc ?_ _));exact BK161.out)):gb169 ≠ gb161));clear BK160;clear BK161;clear HB;have BK160:=n0_;have BK161:=n1_;have HB:=n2_;have BK169:=n3_;have GW169:=n4_;have GE169:=n5_;have NB160_169:=n6_;have NB169_160:=n7_;have NB161_169:=n8_;have NB169_161:=n9_;clear n0_ n1_ n2_ n3_ n4_ n5_ n6_ n7_ n8_ n9_;clear hb hbox hg;have hnb39:=NB169_160.out;have hnc39:=NB160_169.out;have hnb40:=NB169_161.out;have hnc40:=NB161_169.out;have hcz41_0:w38.cell? ⟨gb169,0,none⟩=some (.int .i64 0):=(blk_cell BK169.out 0).trans rfl;have hcz41_1:w38.cell? ⟨gb169,1,none⟩=some (.int .i64 0):=(blk_cell BK169.out 1).trans rfl;have hcz41_2:w38.cell? ⟨gb169,2,none⟩=some (.slice none 0 0):=(blk_cell BK169.out 2).trans rfl;have hfz41_0:=blk_frozen BK169.out 0;have hfz41_1:=blk_frozen BK169.out 1;have hfz41_2:=blk_frozen BK169.out 2))
           have n0_:Aside0 ((((w38.setCell ⟨gb169,0,none⟩ (.int .i64 a0_0)).setCell ⟨gb169,1,none⟩ (.int .i64 a0_1)).setCell ⟨gb169,2,none⟩ (.slice A0_2 l0_2.length c0_2)).heap[gb160]?=some (.cells #[.int .i64 a0_0,.int .i64 a0_1,.slice A0_2 l0_2.length c0_2] 28 (0,0))):=⟨by (with_reducible repeat (first|refine blk_drewN ?_ _|refine blk_drew ?_|refine blk_alloc ?_ _));refine blk_far ?_ NB160_169.out _;(with_reducible repeat (first|refine blk_drewN ?_ _|refine blk_drew ?_|refine blk_alloc ?_ _));refine blk_far ?_ NB160_169.out _;(with_reducible repeat (first|refine blk_drewN ?_ _|refine blk_drew ?_|refine blk_alloc ?_ _));refine blk_far ?_ NB160_169.out _;(with_reducible repeat (first|refine blk_drewN ?_ _|refine blk_drew ?_|refine blk_alloc ?_ _));exact BK160.out⟩
           have n1_:Aside0 ((((w38.setCell ⟨gb169,0,none⟩ (.int .i64 a0_0)).setCell ⟨gb169,1,none⟩ (.int .i64 a0_1)).setCell ⟨gb169,2,none⟩ (.slice A0_2 l0_2.length c0_2)).heap[gb161]?=some (.cells #[.int .i64 0,.int .i64 0,.slice none 0 0] 28 (0,0))):=⟨by (with_reducible repeat (first|refine blk_drewN ?_ _|refine blk_drew ?_|refine blk_alloc ?_ _));refine blk_far ?_ NB161_169.out _;(with_reducible repeat (first|refine blk_drewN ?_ _|refine blk_drew ?_|refine blk_alloc ?_ _));refine blk_far ?_ NB161_169.out _;(with_reducible repeat (first|refine blk_drewN ?_ _|refine blk_drew ?_|refine blk_alloc ?_ _));refine blk_far ?_ NB161_169.out _;(with_reducible repeat (first|refine blk_drewN ?_ _|refine blk_drew ?_|refine blk_alloc ?_ _));exact BK161.out⟩
           have n2_:Aside0 ((((w38.setCell ⟨gb169,0,none⟩ (.int .i64 a0_0)).setCell ⟨gb169,1,none⟩ (.int .i64 a0_1)).setCell ⟨gb169,2,none⟩ (.slice A0_2 l0_2.length c0_2)).heap[gb169]?=some (.cells #[.int .i64 a0_0,.int .i64 a0_1,.slice A0_2 l0_2.length c0_2] 28 (0,0))):=⟨by (with_reducible repeat (first|refine blk_drewN ?_ _|refine blk_drew ?_|refine blk_alloc ?_ _));refine blk_put (cs:=#[.int .i64 a0_0,.int .i64 a0_1,.slice none 0 0]) ?_ 2 _ rfl;(with_reducible repeat (first|refine blk_drewN ?_ _|refine blk_drew ?_|refine blk_alloc ?_ _));refine blk_put (cs:=#[.int .i64 a0_0,.int .i64 0,.slice none 0 0]) ?_ 1 _ rfl;(with_reducible repeat (first|refine blk_drewN ?_ _|refine blk_drew ?_|refine blk_alloc ?_ _));refine blk_put (cs:=#[.int .i64 0,.int .i64 0,.slice none 0 0]) ?_ 0 _ rfl;(with_reducible repeat (first|refine blk_drewN ?_ _|refine blk_drew ?_|refine blk_alloc ?_ _));exact BK169.out⟩
           have n3_:Aside0 (Below w.heap.size w (((w38.setCell ⟨gb169,0,none⟩ (.int .i64 a0_0)).setCell ⟨gb169,1,none⟩ (.int .i64 a0_1)).setCell ⟨gb169,2,none⟩ (.slice A0_2 l0_2.length c0_2))):=⟨by repeat (first|(with_reducible first|exact HB.out|apply below_alloc|apply pw_below_drewN|apply below_drew1|refine below_set ?_ GE160.out|refine below_set ?_ GE161.out|refine below_set ?_ GE169.out)|exact HB.out)⟩
           (try clear BK160)
           (try clear BK161)
           (try clear BK169)
           (try clear HB)
           generalize (((w38.setCell ⟨gb169,0,none⟩ (.int .i64 a0_0)).setCell ⟨gb169,1,none⟩ (.int .i64 a0_1)).setCell ⟨gb169,2,none⟩ (.slice A0_2 l0_2.length c0_2))=w42 at n0_ n1_ n2_ n3_ ⊢
           have BK160:=n0_
           have BK161:=n1_
           have BK169:=n2_
           have HB:=n3_
           clear n0_ n1_ n2_ n3_
           have n0_:=Am5_ (blk_drew BK160.out)
           have n1_:=Am5_ (blk_drew BK161.out)
           have n2_:=Am5_ (blk_drew BK169.out)
           have n3_:=Am5_ (below_drew1 HB.out)
           clear BK160
           clear BK161
           clear BK169
           clear HB
           have BK160:=n0_
           have BK161:=n1_
           have BK169:=n2_
           have HB:=n3_
           clear n0_ n1_ n2_ n3_
           have q44:(t162:Int) ≤ ((l0_2.length:Int):Int):=of_decide_eq_true (by first|(with_reducible assumption)|assumption)
           obtain ⟨i044,hi044,_,hsz44,_⟩:=info_parts info35
           have hroom44:l0_2.length ≤ c0_2:=HC0_2.out
           have hC44:Kd.C k35 _ A0_2 l0_2.length l0_2:=HR0_2.out
           have hcut44:=cut_to (P:=Try.prog) 26 35 .i64 Try.underlying26 hi044 A0_2 l0_2.length c0_2 t162 (of_decide_eq_true (by first|(with_reducible assumption)|assumption)) q44 hroom44
           have hr44:=Kd.C_take (m:=(t162:Int).toNat) hC44 (by omega)
           have hy44:y173.length=(t162:Int).toNat:=(by rw [Ny173.out,List.length_take];omega)
           rw [← Ny173.out] at hr44
           rw [← hy44] at hcut44
           have HR176:=Am5_ hr44
           have HC176:=Am5_ (show y173.length ≤ c0_2 from by omega)
           clear hr44 hC44 hroom44 hi044 hsz44
           have KY44:=Am5_ hy44
           clear hy44
           replace q44:=eq_true q44
           have q45:((ji24):Int) ≤ ((l0_2.length:Int):Int):=of_decide_eq_true (by first|(with_reducible assumption)|assumption)
           obtain ⟨i045,hi045,_,hsz45,_⟩:=info_parts info35
           have hroom45:l0_2.length ≤ c0_2:=HC0_2.out
           have hC45:Kd.C k35 _ A0_2 l0_2.length l0_2:=HR0_2.out
           have q045:(0:Int) ≤ ((ji24):Int):=of_decide_eq_true (by first|(with_reducible assumption)|assumption)
           have hcut45:=cut_from (P:=Try.prog) 26 35 .i64 Try.underlying26 hi045 3 hsz45 A0_2 l0_2.length c0_2 (ji24) q045 q45
           have hr45:=Kd.C_drop (m:=((ji24):Int).toNat) (c:=c0_2) hC45 (by omega) hroom45
           obtain ⟨A45,hA45⟩:∃ A1,A1=(if c0_2=((ji24):Int).toNat then A0_2 else (A0_2:Option Addr).map (·.add (((ji24):Int).toNat * 3))):=⟨_,rfl⟩
           obtain ⟨c45,hc45⟩:∃ c1,c1=c0_2 - ((ji24):Int).toNat:=⟨_,rfl⟩
           have hy45:y180.length=l0_2.length - ((ji24):Int).toNat:=(by rw [Ny180.out,List.length_drop] <;> omega)
           rw [show (l0_2).drop ((ji24):Int).toNat=y180 from Ny180.out.symm] at hr45
           replace hr45:Kd.C k35 _ A45 y180.length y180:=(by rw [hA45];exact hr45)
           rw [← hy45,← hA45,← hc45] at hcut45
           have HR183:=Am5_ hr45
           have HC183:=Am5_ (show y180.length ≤ c45 from by rw [hy45,hc45];exact Nat.sub_le_sub_right hroom45 _)
           clear hr45 hC45 hroom45 hi045 hsz45 hc45
           have KY45:=Am5_ hy45
           have KA45:=Am5_ hA45
           clear hy45 hA45
           replace q45:=eq_true q45
           refine start_ (n:=14) (S:=fun w' => w'.cell? ⟨gb160,0,none⟩=some (.int .i64 a0_0)∧w'.cell? ⟨gb160,1,none⟩=some (.int .i64 a0_1)∧w'.cell? ⟨gb160,2,none⟩=some (.slice A0_2 l0_2.length c0_2)) (ds:=[]) #[false,false,false,false,false,false,false,false,false,false,false,false,false,false] (by kernel_rfl) rfl rfl ⟨(blk_cell BK160.out 0).trans rfl,(blk_cell BK160.out 1).trans rfl,(blk_cell BK160.out 2).trans rfl⟩ (fun hHeld => ?_);refine with_tabW spec_TakeChallenge.tab5 spec_TakeChallenge.bits5 (fun HT_ HW_ => ?_)
           generalize w42.drew=w43 at BK160 BK161 BK169 HB HR176 HR183 hHeld ⊢
           refine pure_ (i:=1) (N:=some 26) (v:=?_) (a':=?_) #[false,true,false,false,false,false,false,false,false,false,false,false,false,false] rfl rfl (any_of HT_.out (by kernel_rfl)) (fun _ _ _ h => h) (Or.inl ⟨by rfl,?_⟩) ?_ ?_
           rotate_left
           ·intro w'
            go_simp
            with_reducible rfl
           rotate_left
           ·simp only [Act.put,List.setIfInBounds_toArray,List.set_cons_zero,List.set_cons_succ,i64_w,i32_w]
            rfl
           refine pure_ (i:=3) (N:=some 28) (v:=?_) (a':=?_) #[false,true,false,true,false,false,false,false,false,false,false,false,false,false] rfl rfl (any_of HT_.out (by kernel_rfl)) (fun _ _ _ h => h) (Or.inl ⟨by rfl,?_⟩) ?_ ?_
           rotate_left
           ·intro w'
            go_simp
            with_reducible rfl
           rotate_left
           ·simp only [Act.put,List.setIfInBounds_toArray,List.set_cons_zero,List.set_cons_succ,i64_w,i32_w]
            rfl
           refine pure_ (i:=6) (N:=some 31) (v:=?_) (a':=?_) #[false,true,false,true,false,false,true,false,false,false,false,false,false,false] rfl rfl (any_of HT_.out (by kernel_rfl)) (fun _ _ _ h => h) (Or.inl ⟨by rfl,?_⟩) ?_ ?_
           rotate_left
           ·intro w'
            go_simp
            with_reducible rfl
           rotate_left
           ·simp only [Act.put,List.setIfInBounds_toArray,List.set_cons_zero,List.set_cons_succ,i64_w,i32_w]
            rfl
           refine pure_ (i:=8) (N:=some 33) (v:=?_) (a':=?_) #[false,true,false,true,false,false,true,false,true,false,false,false,false,false] rfl rfl (any_of HT_.out (by kernel_rfl)) (fun _ _ _ h => h) (Or.inl ⟨by rfl,?_⟩) ?_ ?_
           rotate_left
           ·intro w'
            go_simp
            with_reducible rfl
           rotate_left
           ·simp only [Act.put,List.setIfInBounds_toArray,List.set_cons_zero,List.set_cons_succ,i64_w,i32_w]
            rfl
           refine pure_ (i:=9) (N:=some 34) (v:=?_) (a':=?_) #[false,true,false,true,false,false,true,false,true,true,false,false,false,false] rfl rfl (any_of HT_.out (by kernel_rfl)) (fun _ _ _ h => h) (Or.inl ⟨by rfl,?_⟩) ?_ ?_
           rotate_left
           ·intro w'
            go_simp
            with_reducible rfl
           rotate_left
           ·simp only [Act.put,List.setIfInBounds_toArray,List.set_cons_zero,List.set_cons_succ,i64_w,i32_w]
            rfl
           refine take_ (i:=2) (N:=some 27) (v:=?_) (a':=?_) #[false,true,true,true,false,false,true,false,true,true,false,false,false,false] rfl rfl (take_ofW HT_.out HW_.out (by kernel_rfl)) (fun _ _ _ h => h) (Or.inl ⟨by rfl,?_⟩) hHeld ?_ ?_
           rotate_left
           ·rintro w' ⟨s0,s1,s2⟩
            go_simp
            with_reducible rfl
           rotate_left
           ·simp only [Act.put,List.setIfInBounds_toArray,List.set_cons_zero,List.set_cons_succ,i64_w,i32_w]
            rfl
           refine pure_ (i:=4) (N:=some 29) (v:=?_) (a':=?_) #[false,true,true,true,true,false,true,false,true,true,false,false,false,false] rfl rfl (any_of HT_.out (by kernel_rfl)) (fun _ _ _ h => h) (Or.inl ⟨by rfl,?_⟩) ?_ ?_
           rotate_left
           ·intro w'
            go_simp
            with_reducible rfl
           rotate_left
           ·simp only [Act.put,List.setIfInBounds_toArray,List.set_cons_zero,List.set_cons_succ,i64_w,i32_w]
            rfl
           refine take_ (i:=7) (N:=some 32) (v:=?_) (a':=?_) #[false,true,true,true,true,false,true,true,true,true,false,false,false,false] rfl rfl (take_ofW HT_.out HW_.out (by kernel_rfl)) (fun _ _ _ h => h) (Or.inl ⟨by rfl,?_⟩) hHeld ?_ ?_
           rotate_left
           ·rintro w' ⟨s0,s1,s2⟩
            go_simp
            with_reducible rfl
           rotate_left
           ·simp only [Act.put,List.setIfInBounds_toArray,List.set_cons_zero,List.set_cons_succ,i64_w,i32_w]
            rfl
           refine pure_ (i:=10) (N:=some 35) (v:=?_) (a':=?_) #[false,true,true,true,true,false,true,true,true,true,true,false,false,false] rfl rfl (any_of HT_.out (by kernel_rfl)) (fun _ _ _ h => h) (Or.inl ⟨by rfl,?_⟩) ?_ ?_
           rotate_left
           ·intro w'
            go_simp
            with_reducible rfl
           rotate_left
           ·simp only [Act.put,List.setIfInBounds_toArray,List.set_cons_zero,List.set_cons_succ,i64_w,i32_w]
            rfl
           refine one_ (i:=0) (N:=some 25) #[true,true,true,true,true,false,true,true,true,true,true,false,false,false] rfl rfl (one_of HT_.out (by kernel_rfl)) (by decide) (fun K hK => ?_)
           refine Kd.R_lit_step k35 _ 35 ?hg (N:=25) ?hd (xs:=([]:List (S35))) (inner:=[]) (ok:=fun _ => True) (okp:=fun _ => True) ?hr ?hp (fun _ hk => hk) trivial (Below.refl _ _) (Nat.le_refl _) (by simp) ?_;(case hd => rfl);(case hg => rfl);(case hr => first|(go_simp;done)|(go_simp;rfl));(case hp => exact (Reps.none _ _))
           intro v171 w46 ho47 hb hg_ hnew_
           clear hg_ hnew_
           (first|rw [← Ny170.out] at ho47|(simp only [Int.reduceToNat] at ho47;rw [← Ny170.out] at ho47))
           have n0_:=Am5_ (Kd.R_lower ho47 (below_size (by repeat (first|(with_reducible first|exact HB.out|apply below_alloc|apply pw_below_drewN|apply below_drew1|refine below_set ?_ GE160.out|refine below_set ?_ GE161.out|refine below_set ?_ GE169.out)|exact HB.out))))
           have n1_:=Am5_ (blk_below (g:=gb160) (o:=.cells #[.int .i64 a0_0,.int .i64 a0_1,.slice A0_2 l0_2.length c0_2] 28 (0,0)) (by (with_reducible repeat (first|refine blk_drewN ?_ _|refine blk_drew ?_|refine blk_alloc ?_ _));exact BK160.out) hb)
           have n2_:=Am5_ (blk_below (g:=gb161) (o:=.cells #[.int .i64 0,.int .i64 0,.slice none 0 0] 28 (0,0)) (by (with_reducible repeat (first|refine blk_drewN ?_ _|refine blk_drew ?_|refine blk_alloc ?_ _));exact BK161.out) hb)
           have n3_:=Am5_ (blk_below (g:=gb169) (o:=.cells #[.int .i64 a0_0,.int .i64 a0_1,.slice A0_2 l0_2.length c0_2] 28 (0,0)) (by (with_reducible repeat (first|refine blk_drewN ?_ _|refine blk_drew ?_|refine blk_alloc ?_ _));exact BK169.out) hb)
           have n4_:=Am5_ (below_step (by repeat (first|(with_reducible first|exact HB.out|apply below_alloc|apply pw_below_drewN|apply below_drew1|refine below_set ?_ GE160.out|refine below_set ?_ GE161.out|refine below_set ?_ GE169.out)|exact HB.out)) hb)
           clear BK160
           clear BK161
           clear BK169
           clear HB
           have HO172:=n0_
           have BK160:=n1_
           have BK161:=n2_
           have BK169:=n3_
           have HB:=n4_
           clear n0_ n1_ n2_ n3_ n4_
           clear hb ho47
           refine hK.out _ _ ⟨(blk_cell BK160.out 0).trans rfl,(blk_cell BK160.out 1).trans rfl,(blk_cell BK160.out 2).trans rfl⟩ (fun hHeld => ?_)
           clear hK K
           refine norm_ (a':=?_) ?_ ?_
           rotate_left
           ·show Act.put _ (some 25) _=_
            simp only [Act.put,List.setIfInBounds_toArray,List.set_cons_zero,List.set_cons_succ,i64_w,i32_w]
            rfl
           refine one_ (i:=5) (N:=some 30) #[true,true,true,true,true,true,true,true,true,true,true,false,false,false] rfl rfl (one_of HT_.out (by kernel_rfl)) (by decide) (fun K hK => ?_)
           refine Kd.R_append_rows_step k35 (w0:=w) w.heap.size (by rfl) (.tmp 25) (.tmp 29) 26 35 (.agg #[(.int .i64 0),(.int .i64 0),(.int .i64 0)]) 24 rfl Try.underlying26 info35 rfl (by decide) (by omega) v171 y170 y173 _ _ _ (fun _ => True) (fun _ => False) rfl rfl ?aO ?aR (fun _ _ h => h) (fun _ h => h.elim) ?aF ?aB ?aS ?aL ?_
           (case aR => repeat (first|exact (Kd.C_below HR176.out HB.out)|(with_reducible refine Kd.C_alloc ?_ _)|(with_reducible refine Kd.C_drewN ?_ _)|(with_reducible refine Kd.C_drew ?_)))
           (case aB => exact (by repeat (first|(with_reducible first|exact HB.out|apply below_alloc|apply pw_below_drewN|apply below_drew1|refine below_set ?_ GE160.out|refine below_set ?_ GE161.out|refine below_set ?_ GE169.out)|exact HB.out)))
           (case aF => exact (fun _ _ => trivial))
           (case aO => exact (by (with_reducible repeat (first|apply Kd.R_alloc|apply Kd.R_drewN|apply Kd.R_drew));exact HO172.out))
           (case aS => exact (below_size (by repeat (first|(with_reducible first|exact HB.out|apply below_alloc|apply pw_below_drewN|apply below_drew1|refine below_set ?_ GE160.out|refine below_set ?_ GE161.out|refine below_set ?_ GE169.out)|exact HB.out))))
           (case aL => have:=LMc23.out;omega)
           intro v178 w48 ho hb hg hat
           rw [← Ny177.out] at ho
           have n0_:=Am5_ (blk_grown (g:=gb160) (o:=.cells #[.int .i64 a0_0,.int .i64 a0_1,.slice A0_2 l0_2.length c0_2] 28 (0,0)) (by (with_reducible repeat (first|refine blk_drewN ?_ _|refine blk_drew ?_|refine blk_alloc ?_ _));exact BK160.out) hg (Kd.R_ne HO172.out BK160.out (by decide)))
           have n1_:=Am5_ (blk_grown (g:=gb161) (o:=.cells #[.int .i64 0,.int .i64 0,.slice none 0 0] 28 (0,0)) (by (with_reducible repeat (first|refine blk_drewN ?_ _|refine blk_drew ?_|refine blk_alloc ?_ _));exact BK161.out) hg (Kd.R_ne HO172.out BK161.out (by decide)))
           have n2_:=Am5_ (blk_grown (g:=gb169) (o:=.cells #[.int .i64 a0_0,.int .i64 a0_1,.slice A0_2 l0_2.length c0_2] 28 (0,0)) (by (with_reducible repeat (first|refine blk_drewN ?_ _|refine blk_drew ?_|refine blk_alloc ?_ _));exact BK169.out) hg (Kd.R_ne HO172.out BK169.out (by decide)))
           have n3_:=Am5_ (hb)
           have n4_:=Am5_ (ho)
           clear BK160
           clear BK161
           clear BK169
           clear HB
           clear HO172
           have BK160:=n0_
           have BK161:=n1_
           have BK169:=n2_
           have HB:=n3_
           have HO179:=n4_
           clear n0_ n1_ n2_ n3_ n4_
           clear ho hb hg hat
           refine hK.out _ _ ⟨(blk_cell BK160.out 0).trans rfl,(blk_cell BK160.out 1).trans rfl,(blk_cell BK160.out 2).trans rfl⟩ (fun hHeld => ?_)
           clear hK K
           refine norm_ (a':=?_) ?_ ?_
           rotate_left
           ·show Act.put _ (some 30) _=_
            simp only [Act.put,List.setIfInBounds_toArray,List.set_cons_zero,List.set_cons_succ,i64_w,i32_w]
            rfl
           refine one_ (i:=11) (N:=some 36) #[true,true,true,true,true,true,true,true,true,true,true,true,false,false] rfl rfl (one_of HT_.out (by kernel_rfl)) (by decide) (fun K hK => ?_)
           refine Kd.R_append_rows_step k35 (w0:=w) w.heap.size (by rfl) (.tmp 30) (.tmp 35) 26 35 (.agg #[(.int .i64 0),(.int .i64 0),(.int .i64 0)]) 24 rfl Try.underlying26 info35 rfl (by decide) (by omega) v178 y177 y180 _ _ _ (fun _ => True) (fun _ => False) rfl rfl ?aO ?aR (fun _ _ h => h) (fun _ h => h.elim) ?aF ?aB ?aS ?aL ?_
           (case aR => repeat (first|exact (Kd.C_below HR183.out HB.out)|(with_reducible refine Kd.C_alloc ?_ _)|(with_reducible refine Kd.C_drewN ?_ _)|(with_reducible refine Kd.C_drew ?_)))
           (case aB => exact (by repeat (first|(with_reducible first|exact HB.out|apply below_alloc|apply pw_below_drewN|apply below_drew1|refine below_set ?_ GE160.out|refine below_set ?_ GE161.out|refine below_set ?_ GE169.out)|exact HB.out)))
           (case aF => exact (fun _ _ => trivial))
           (case aO => exact (by (with_reducible repeat (first|apply Kd.R_alloc|apply Kd.R_drewN|apply Kd.R_drew));exact HO179.out))
           (case aS => exact (below_size (by repeat (first|(with_reducible first|exact HB.out|apply below_alloc|apply pw_below_drewN|apply below_drew1|refine below_set ?_ GE160.out|refine below_set ?_ GE161.out|refine below_set ?_ GE169.out)|exact HB.out))))
           (case aL => have:=LMc27.out;omega)
           intro v185 w49 ho hb hg hat
           rw [← Ny184.out] at ho
           have n0_:=Am5_ (blk_grown (g:=gb160) (o:=.cells #[.int .i64 a0_0,.int .i64 a0_1,.slice A0_2 l0_2.length c0_2] 28 (0,0)) (by (with_reducible repeat (first|refine blk_drewN ?_ _|refine blk_drew ?_|refine blk_alloc ?_ _));exact BK160.out) hg (Kd.R_ne HO179.out BK160.out (by decide)))
           have n1_:=Am5_ (blk_grown (g:=gb161) (o:=.cells #[.int .i64 0,.int .i64 0,.slice none 0 0] 28 (0,0)) (by (with_reducible repeat (first|refine blk_drewN ?_ _|refine blk_drew ?_|refine blk_alloc ?_ _));exact BK161.out) hg (Kd.R_ne HO179.out BK161.out (by decide)))
           have n2_:=Am5_ (blk_grown (g:=gb169) (o:=.cells #[.int .i64 a0_0,.int .i64 a0_1,.slice A0_2 l0_2.length c0_2] 28 (0,0)) (by (with_reducible repeat (first|refine blk_drewN ?_ _|refine blk_drew ?_|refine blk_alloc ?_ _));exact BK169.out) hg (Kd.R_ne HO179.out BK169.out (by decide)))
           have n3_:=Am5_ (hb)
           have n4_:=Am5_ (ho)
           clear BK160
           clear BK161
           clear BK169
           clear HB
           clear HO179
           have BK160:=n0_
           have BK161:=n1_
           have BK169:=n2_
           have HB:=n3_
           have HO186:=n4_
           clear n0_ n1_ n2_ n3_ n4_
           clear ho hb hg hat
           obtain ⟨Ao50,co50,eo50⟩:=Kd.R_slice HO186.out
           (first|subst eo50|(injection eo50 with f1_ f2_ f3_;have f4_:=f1_.symm;have f5_:=f3_.symm;clear f1_ f2_ f3_;subst f4_;subst f5_))
           refine hK.out _ _ ⟨(blk_cell BK160.out 0).trans rfl,(blk_cell BK160.out 1).trans rfl,(blk_cell BK160.out 2).trans rfl⟩ (fun hHeld => ?_)
           clear hK K
           refine norm_ (a':=?_) ?_ ?_
           rotate_left
           ·show Act.put _ (some 36) _=_
            simp only [Act.put,List.setIfInBounds_toArray,List.set_cons_zero,List.set_cons_succ,i64_w,i32_w]
            rfl
           refine pure_ (i:=12) (N:=some 37) (v:=?_) (a':=?_) #[true,true,true,true,true,true,true,true,true,true,true,true,true,false] rfl rfl (any_of HT_.out (by kernel_rfl)) (fun _ _ _ h => h) (Or.inl ⟨by rfl,?_⟩) ?_ ?_
           rotate_left
           ·intro w'
            go_simp
            with_reducible rfl
           rotate_left
           ·simp only [Act.put,List.setIfInBounds_toArray,List.set_cons_zero,List.set_cons_succ,i64_w,i32_w]
            rfl
           refine one_ (i:=13) (N:=none) #[true,true,true,true,true,true,true,true,true,true,true,true,true,true] rfl rfl (one_of HT_.out (by kernel_rfl)) (by decide) (fun K hK => ?_)
           have hs51:w49.cell? ⟨gb169,2,none⟩=some (.slice A0_2 l0_2.length c0_2):=(blk_cell BK169.out 2).trans rfl
           have hfs51:=blk_frozen BK169.out 2
           have hns51_0:=NB160_169.out
           have hns51_1:=NB161_169.out
           have hms51_0:=NB169_160.out
           have hms51_1:=NB169_161.out
           refine skip_ (w1:=?_) (by rfl) rfl ?_ ?_
           rotate_left
           ·go_simp
            rfl
           refine hK.out _ _ ⟨((cell_far (p:=⟨gb169,_,none⟩) NB160_169.out _).trans (hHeld.1)),((cell_far (p:=⟨gb169,_,none⟩) NB160_169.out _).trans (hHeld.2.1)),((cell_far (p:=⟨gb169,_,none⟩) NB160_169.out _).trans (hHeld.2.2))⟩ (fun hHeld => ?_)
           clear hK K
           refine done_ (done_of HT_.out (by kernel_rfl)) ?_
           try go_wp2
           have n0_:Aside0 (Kd.R k35 35 (w49.setCell ⟨gb169,2,none⟩ (.slice Ao50 y184.length co50)) w.heap.size (fun _ => True) (.slice Ao50 y184.length co50) y184):=⟨by (with_reducible repeat (first|apply Kd.R_alloc|apply Kd.R_drewN|apply Kd.R_drew));exact Kd.R_mono (Kd.R_far (p:=⟨gb169,2,none⟩) (Kd.R_types HO186.out BK169.out (by decide)) (fun _ hk => hk.2) (.slice Ao50 y184.length co50)) (fun _ hk => trivial)⟩
           have n1_:Aside0 ((w49.setCell ⟨gb169,2,none⟩ (.slice Ao50 y184.length co50)).heap[gb160]?=some (.cells #[.int .i64 a0_0,.int .i64 a0_1,.slice A0_2 l0_2.length c0_2] 28 (0,0))):=⟨by (with_reducible repeat (first|refine blk_drewN ?_ _|refine blk_drew ?_|refine blk_alloc ?_ _));refine blk_far ?_ NB160_169.out _;(with_reducible repeat (first|refine blk_drewN ?_ _|refine blk_drew ?_|refine blk_alloc ?_ _));exact BK160.out⟩
           have n2_:Aside0 ((w49.setCell ⟨gb169,2,none⟩ (.slice Ao50 y184.length co50)).heap[gb161]?=some (.cells #[.int .i64 0,.int .i64 0,.slice none 0 0] 28 (0,0))):=⟨by (with_reducible repeat (first|refine blk_drewN ?_ _|refine blk_drew ?_|refine blk_alloc ?_ _));refine blk_far ?_ NB161_169.out _;(with_reducible repeat (first|refine blk_drewN ?_ _|refine blk_drew ?_|refine blk_alloc ?_ _));exact BK161.out⟩
           have n3_:Aside0 ((w49.setCell ⟨gb169,2,none⟩ (.slice Ao50 y184.length co50)).heap[gb169]?=some (.cells #[.int .i64 a0_0,.int .i64 a0_1,.slice Ao50 y184.length co50] 28 (0,0))):=⟨by (with_reducible repeat (first|refine blk_drewN ?_ _|refine blk_drew ?_|refine blk_alloc ?_ _));refine blk_put (cs:=#[.int .i64 a0_0,.int .i64 a0_1,.slice A0_2 l0_2.length c0_2]) ?_ 2 _ rfl;(with_reducible repeat (first|refine blk_drewN ?_ _|refine blk_drew ?_|refine blk_alloc ?_ _));exact BK169.out⟩
           have n4_:Aside0 (Below w.heap.size w (w49.setCell ⟨gb169,2,none⟩ (.slice Ao50 y184.length co50))):=⟨by repeat (first|(with_reducible first|exact HB.out|apply below_alloc|apply pw_below_drewN|apply below_drew1|refine below_set ?_ GE160.out|refine below_set ?_ GE161.out|refine below_set ?_ GE169.out)|exact HB.out)⟩
           (try clear HO186)
           (try clear BK160)
           (try clear BK161)
           (try clear BK169)
           (try clear HB)
           generalize (w49.setCell ⟨gb169,2,none⟩ (.slice Ao50 y184.length co50))=w52 at n0_ n1_ n2_ n3_ n4_ ⊢
           have HO186:=n0_
           have BK160:=n1_
           have BK161:=n2_
           have BK169:=n3_
           have HB:=n4_
           clear n0_ n1_ n2_ n3_ n4_
           have n0_:=Am5_ (Kd.R_drew HO186.out)
           have n1_:=Am5_ (blk_drew BK160.out)
           have n2_:=Am5_ (blk_drew BK161.out)
           have n3_:=Am5_ (blk_drew BK169.out)
           have n4_:=Am5_ (below_drew1 HB.out)
           clear HO186
           clear BK160
           clear BK161
           clear BK169
           clear HB
           have HO186:=n0_
           have BK160:=n1_
           have BK161:=n2_
           have BK169:=n3_
           have HB:=n4_
           clear n0_ n1_ n2_ n3_ n4_
           have p187:0 ≤ (t162:Int):=of_decide_eq_true (by first|(with_reducible assumption)|assumption)
           have q187:t162 < (l0_2.length:Int):=of_decide_eq_true (by first|(with_reducible assumption)|assumption)
           obtain ⟨ad187,e187,hx187_0,hx187_1,hx187_2⟩:=at_T35 HR0_2.out t162 p187 q187
           have hw187_2:=hx187_2
           have hw187_1:=hx187_1
           have hw187_0:=hx187_0
           cases e187
           replace hx187_0:=(HB.out.cell (World.block_lt_of_cell? w _ hx187_0)).trans hx187_0
           replace hx187_1:=(HB.out.cell (World.block_lt_of_cell? w _ hx187_1)).trans hx187_1
           replace hx187_2:=(HB.out.cell (World.block_lt_of_cell? w _ hx187_2)).trans hx187_2
           replace p187:=eq_true p187
           replace q187:=eq_true q187
           have p188:0 ≤ (t162:Int):=of_decide_eq_true (by first|(with_reducible assumption)|assumption)
           have q188:t162 < (l0_2.length:Int):=of_decide_eq_true (by first|(with_reducible assumption)|assumption)
           obtain ⟨ad188,e188,hx188_0,hx188_1,hx188_2⟩:=at_T35 HR0_2.out t162 p188 q188
           have hw188_2:=hx188_2
           have hw188_1:=hx188_1
           have hw188_0:=hx188_0
           obtain rfl:ad187=ad188:=(by injection e188)
           replace hx188_0:=(HB.out.cell (World.block_lt_of_cell? w _ hx188_0)).trans hx188_0
           replace hx188_1:=(HB.out.cell (World.block_lt_of_cell? w _ hx188_1)).trans hx188_1
           replace hx188_2:=(HB.out.cell (World.block_lt_of_cell? w _ hx188_2)).trans hx188_2
           replace p188:=eq_true p188
           replace q188:=eq_true q188
           refine start_ (n:=21) (S:=fun w' => w'.cell? ⟨gb169,0,none⟩=some (.int .i64 a0_0)∧w'.cell? ⟨gb169,1,none⟩=some (.int .i64 a0_1)∧w'.cell? ⟨gb169,2,none⟩=some (.slice Ao50 y184.length co50)∧w'.cell? ⟨gb160,0,none⟩=some (.int .i64 a0_0)∧w'.cell? ⟨gb160,1,none⟩=some (.int .i64 a0_1)∧w'.cell? ⟨gb160,2,none⟩=some (.slice (some ad187) l0_2.length c0_2)∧w'.cell? (ad187.add ((t162).toNat * 3))=some (.int .i64 ((rd_T35 l0_2 t162).f0))∧w'.cell? ⟨(ad187.add ((t162).toNat * 3)).block,(ad187.add ((t162).toNat * 3)).off + 1,none⟩=some (.int .i64 ((rd_T35 l0_2 t162).f1))∧w'.cell? ⟨(ad187.add ((t162).toNat * 3)).block,(ad187.add ((t162).toNat * 3)).off + 2,none⟩=some (.int .i64 ((rd_T35 l0_2 t162).f2))∧w'.cell? (ad187.add ((t162).toNat * 3))=some (.int .i64 ((rd_T35 l0_2 t162).f0))∧w'.cell? ⟨(ad187.add ((t162).toNat * 3)).block,(ad187.add ((t162).toNat * 3)).off + 1,none⟩=some (.int .i64 ((rd_T35 l0_2 t162).f1))∧w'.cell? ⟨(ad187.add ((t162).toNat * 3)).block,(ad187.add ((t162).toNat * 3)).off + 2,none⟩=some (.int .i64 ((rd_T35 l0_2 t162).f2))) (ds:=[]) #[false,false,false,false,false,false,false,false,false,false,false,false,false,false,false,false,false,false,false,false,false] (by kernel_rfl) rfl rfl ⟨(blk_cell BK169.out 0).trans rfl,(blk_cell BK169.out 1).trans rfl,(blk_cell BK169.out 2).trans rfl,(blk_cell BK160.out 0).trans rfl,(blk_cell BK160.out 1).trans rfl,(blk_cell BK160.out 2).trans rfl,((HB.out.cell (World.block_lt_of_cell? w _ hw187_0)).trans hw187_0),((HB.out.cell (World.block_lt_of_cell? w _ hw187_1)).trans hw187_1),((HB.out.cell (World.block_lt_of_cell? w _ hw187_2)).trans hw187_2),((HB.out.cell (World.block_lt_of_cell? w _ hw188_0)).trans hw188_0),((HB.out.cell (World.block_lt_of_cell? w _ hw188_1)).trans hw188_1),((HB.out.cell (World.block_lt_of_cell? w _ hw188_2)).trans hw188_2)⟩ (fun hHeld => ?_);refine with_tabW spec_TakeChallenge.tab6 spec_TakeChallenge.bits6 (fun HT_ HW_ => ?_)
           generalize w52.drew=w53 at HO186 BK160 BK161 BK169 HB hx187_0 hx187_1 hx187_2 hx188_0 hx188_1 hx188_2 hHeld ⊢
           refine pure_ (i:=1) (N:=some 39) (v:=?_) (a':=?_) #[false,true,false,false,false,false,false,false,false,false,false,false,false,false,false,false,false,false,false,false,false] rfl rfl (any_of HT_.out (by kernel_rfl)) (fun _ _ _ h => h) (Or.inl ⟨by rfl,?_⟩) ?_ ?_
           rotate_left
           ·intro w'
            go_simp
            with_reducible rfl
           rotate_left
           ·simp only [Act.put,List.setIfInBounds_toArray,List.set_cons_zero,List.set_cons_succ,i64_w,i32_w]
            rfl
           refine pure_ (i:=3) (N:=some 41) (v:=?_) (a':=?_) #[false,true,false,true,false,false,false,false,false,false,false,false,false,false,false,false,false,false,false,false,false] rfl rfl (any_of HT_.out (by kernel_rfl)) (fun _ _ _ h => h) (Or.inl ⟨by rfl,?_⟩) ?_ ?_
           rotate_left
           ·intro w'
            go_simp
            with_reducible rfl
           rotate_left
           ·simp only [Act.put,List.setIfInBounds_toArray,List.set_cons_zero,List.set_cons_succ,i64_w,i32_w]
            rfl
           refine pure_ (i:=7) (N:=some 45) (v:=?_) (a':=?_) #[false,true,false,true,false,false,false,true,false,false,false,false,false,false,false,false,false,false,false,false,false] rfl rfl (any_of HT_.out (by kernel_rfl)) (fun _ _ _ h => h) (Or.inl ⟨by rfl,?_⟩) ?_ ?_
           rotate_left
           ·intro w'
            go_simp
            with_reducible rfl
           rotate_left
           ·simp only [Act.put,List.setIfInBounds_toArray,List.set_cons_zero,List.set_cons_succ,i64_w,i32_w]
            rfl
           refine take_ (i:=0) (N:=some 38) (v:=?_) (a':=?_) #[true,true,false,true,false,false,false,true,false,false,false,false,false,false,false,false,false,false,false,false,false] rfl rfl (take_ofW HT_.out HW_.out (by kernel_rfl)) (fun _ _ _ h => h) (Or.inl ⟨by rfl,?_⟩) hHeld ?_ ?_
           rotate_left
           ·rintro w' ⟨s0,s1,s2,s3,s4,s5,s6,s7,s8,s9,s10,s11⟩
            go_simp
            with_reducible rfl
           rotate_left
           ·simp only [Act.put,List.setIfInBounds_toArray,List.set_cons_zero,List.set_cons_succ,i64_w,i32_w]
            rfl
           refine take_ (i:=2) (N:=some 40) (v:=?_) (a':=?_) #[true,true,true,true,false,false,false,true,false,false,false,false,false,false,false,false,false,false,false,false,false] rfl rfl (take_ofW HT_.out HW_.out (by kernel_rfl)) (fun _ _ _ h => h) (Or.inl ⟨by rfl,?_⟩) hHeld ?_ ?_
           rotate_left
           ·rintro w' ⟨s0,s1,s2,s3,s4,s5,s6,s7,s8,s9,s10,s11⟩
            go_simp
            with_reducible rfl
           rotate_left
           ·simp only [Act.put,List.setIfInBounds_toArray,List.set_cons_zero,List.set_cons_succ,i64_w,i32_w]
            rfl
           refine pure_ (i:=4) (N:=some 42) (v:=?_) (a':=?_) #[true,true,true,true,true,false,false,true,false,false,false,false,false,false,false,false,false,false,false,false,false] rfl rfl (any_of HT_.out (by kernel_rfl)) (fun _ _ _ h => h) (Or.inl ⟨by rfl,?_⟩) ?_ ?_
           rotate_left
           ·intro w'
            go_simp
            with_reducible rfl
           rotate_left
           ·simp only [Act.put,List.setIfInBounds_toArray,List.set_cons_zero,List.set_cons_succ,i64_w,i32_w]
            rfl
           refine pure_ (i:=5) (N:=some 43) (v:=?_) (a':=?_) #[true,true,true,true,true,true,false,true,false,false,false,false,false,false,false,false,false,false,false,false,false] rfl rfl (any_of HT_.out (by kernel_rfl)) (fun _ _ _ h => h) (Or.inl ⟨by rfl,?_⟩) ?_ ?_
           rotate_left
           ·intro w'
            go_simp
            with_reducible rfl
           rotate_left
           ·simp only [Act.put,List.setIfInBounds_toArray,List.set_cons_zero,List.set_cons_succ,i64_w,i32_w]
            rfl
           refine take_ (i:=6) (N:=some 44) (v:=?_) (a':=?_) #[true,true,true,true,true,true,true,true,false,false,false,false,false,false,false,false,false,false,false,false,false] rfl rfl (take_ofW HT_.out HW_.out (by kernel_rfl)) (fun _ _ _ h => h) (Or.inl ⟨by rfl,?_⟩) hHeld ?_ ?_
           rotate_left
           ·rintro w' ⟨s0,s1,s2,s3,s4,s5,s6,s7,s8,s9,s10,s11⟩
            go_simp
            with_reducible rfl
           rotate_left
           ·simp only [Act.put,List.setIfInBounds_toArray,List.set_cons_zero,List.set_cons_succ,i64_w,i32_w]
            rfl
           refine pure_ (i:=8) (N:=some 46) (v:=?_) (a':=?_) #[true,true,true,true,true,true,true,true,true,false,false,false,false,false,false,false,false,false,false,false,false] rfl rfl (any_of HT_.out (by kernel_rfl)) (fun _ _ _ h => h) (Or.inl ⟨by rfl,?_⟩) ?_ ?_
           rotate_left
           ·intro w'
            go_simp
            with_reducible rfl
           rotate_left
           ·simp only [Act.put,List.setIfInBounds_toArray,List.set_cons_zero,List.set_cons_succ,i64_w,i32_w]
            rfl
           refine pure_ (i:=9) (N:=some 47) (v:=?_) (a':=?_) #[true,true,true,true,true,true,true,true,true,true,false,false,false,false,false,false,false,false,false,false,false] rfl rfl (any_of HT_.out (by kernel_rfl)) (fun _ _ _ h => h) (Or.inl ⟨by rfl,?_⟩) ?_ ?_
           rotate_left
           ·intro w'
            go_simp
            with_reducible rfl
           rotate_left
           ·simp only [Act.put,List.setIfInBounds_toArray,List.set_cons_zero,List.set_cons_succ,i64_w,i32_w]
            rfl
           refine pure_ (i:=10) (N:=some 48) (v:=?_) (a':=?_) #[true,true,true,true,true,true,true,true,true,true,true,false,false,false,false,false,false,false,false,false,false] rfl rfl (any_of HT_.out (by kernel_rfl)) (fun _ _ _ h => h) (Or.inl ⟨by rfl,?_⟩) ?_ ?_
           rotate_left
           ·intro w'
            go_simp
            with_reducible rfl
           rotate_left
           ·simp only [Act.put,List.setIfInBounds_toArray,List.set_cons_zero,List.set_cons_succ,i64_w,i32_w]
            rfl
           refine pure_ (i:=11) (N:=some 49) (v:=?_) (a':=?_) #[true,true,true,true,true,true,true,true,true,true,true,true,false,false,false,false,false,false,false,false,false] rfl rfl (any_of HT_.out (by kernel_rfl)) (fun _ _ _ h => h) (Or.inl ⟨by rfl,?_⟩) ?_ ?_
           rotate_left
           ·intro w'
            go_simp
            with_reducible rfl
           rotate_left
           ·simp only [Act.put,List.setIfInBounds_toArray,List.set_cons_zero,List.set_cons_succ,i64_w,i32_w]
            rfl
           refine pure_ (i:=13) (N:=some 51) (v:=?_) (a':=?_) #[true,true,true,true,true,true,true,true,true,true,true,true,false,true,false,false,false,false,false,false,false] rfl rfl (any_of HT_.out (by kernel_rfl)) (fun _ _ _ h => h) (Or.inl ⟨by rfl,?_⟩) ?_ ?_
           rotate_left
           ·intro w'
            go_simp
            with_reducible rfl
           rotate_left
           ·simp only [Act.put,List.setIfInBounds_toArray,List.set_cons_zero,List.set_cons_succ,i64_w,i32_w]
            rfl
           refine take_ (i:=12) (N:=some 50) (v:=?_) (a':=?_) #[true,true,true,true,true,true,true,true,true,true,true,true,true,true,false,false,false,false,false,false,false] rfl rfl (take_ofW HT_.out HW_.out (by kernel_rfl)) (fun _ _ _ h => h) (Or.inl ⟨by rfl,?_⟩) hHeld ?_ ?_
           rotate_left
           ·rintro w' ⟨s0,s1,s2,s3,s4,s5,s6,s7,s8,s9,s10,s11⟩
            go_simp
            with_reducible rfl
           rotate_left
           ·simp only [Act.put,List.setIfInBounds_toArray,List.set_cons_zero,List.set_cons_succ,i64_w,i32_w]
            rfl
           refine pure_ (i:=14) (N:=some 52) (v:=?_) (a':=?_) #[true,true,true,true,true,true,true,true,true,true,true,true,true,true,true,false,false,false,false,false,false] rfl rfl (any_of HT_.out (by kernel_rfl)) (fun _ _ _ h => h) (Or.inl ⟨by rfl,?_⟩) ?_ ?_
           rotate_left
           ·intro w'
            go_simp
            with_reducible rfl
           rotate_left
           ·simp only [Act.put,List.setIfInBounds_toArray,List.set_cons_zero,List.set_cons_succ,i64_w,i32_w]
            rfl
           refine pure_ (i:=15) (N:=some 53) (v:=?_) (a':=?_) #[true,true,true,true,true,true,true,true,true,true,true,true,true,true,true,true,false,false,false,false,false] rfl rfl (any_of HT_.out (by kernel_rfl)) (fun _ _ _ h => h) (Or.inl ⟨by rfl,?_⟩) ?_ ?_
           rotate_left
           ·intro w'
            go_simp
            with_reducible rfl
           rotate_left
           ·simp only [Act.put,List.setIfInBounds_toArray,List.set_cons_zero,List.set_cons_succ,i64_w,i32_w]
            rfl
           refine take_ (i:=16) (N:=some 54) (v:=?_) (a':=?_) #[true,true,true,true,true,true,true,true,true,true,true,true,true,true,true,true,true,false,false,false,false] rfl rfl (take_ofW HT_.out HW_.out (by kernel_rfl)) (fun _ _ _ h => h) (Or.inl ⟨by rfl,?_⟩) hHeld ?_ ?_
           rotate_left
           ·rintro w' ⟨s0,s1,s2,s3,s4,s5,s6,s7,s8,s9,s10,s11⟩
            go_simp
            with_reducible rfl
           rotate_left
           ·simp only [Act.put,List.setIfInBounds_toArray,List.set_cons_zero,List.set_cons_succ,i64_w,i32_w]
            rfl
           refine pure_ (i:=17) (N:=some 55) (v:=?_) (a':=?_) #[true,true,true,true,true,true,true,true,true,true,true,true,true,true,true,true,true,true,false,false,false] rfl rfl (any_of HT_.out (by kernel_rfl)) (fun _ _ _ h => h) (Or.inl ⟨by rfl,?_⟩) ?_ ?_
           rotate_left
           ·intro w'
            go_simp
            with_reducible rfl
           rotate_left
           ·simp only [Act.put,List.setIfInBounds_toArray,List.set_cons_zero,List.set_cons_succ,i64_w,i32_w]
            rfl
           refine pure_ (i:=18) (N:=some 56) (v:=?_) (a':=?_) #[true,true,true,true,true,true,true,true,true,true,true,true,true,true,true,true,true,true,true,false,false] rfl rfl (any_of HT_.out (by kernel_rfl)) (fun _ _ _ h => h) (Or.inl ⟨by rfl,?_⟩) ?_ ?_
           rotate_left
           ·intro w'
            go_simp
            with_reducible rfl
           rotate_left
           ·simp only [Act.put,List.setIfInBounds_toArray,List.set_cons_zero,List.set_cons_succ,i64_w,i32_w]
            rfl
           refine one_ (i:=19) (N:=none) #[true,true,true,true,true,true,true,true,true,true,true,true,true,true,true,true,true,true,true,true,false] rfl rfl (one_of HT_.out (by kernel_rfl)) (by decide) (fun K hK => ?_)
           have hs54:w53.cell? ⟨gb161,0,none⟩=some (.int .i64 0):=(blk_cell BK161.out 0).trans rfl
           have hfs54:=blk_frozen BK161.out 0
           have hns54_0:=NB160_161.out
           have hns54_2:=NB169_161.out
           have hms54_0:=NB161_160.out
           have hms54_2:=NB161_169.out
           have hs55:w53.cell? ⟨gb161,1,none⟩=some (.int .i64 0):=(blk_cell BK161.out 1).trans rfl
           have hfs55:=blk_frozen BK161.out 1
           have hns55_0:=NB160_161.out
           have hns55_2:=NB169_161.out
           have hms55_0:=NB161_160.out
           have hms55_2:=NB161_169.out
           have hs56:w53.cell? ⟨gb161,2,none⟩=some (.slice none 0 0):=(blk_cell BK161.out 2).trans rfl
           have hfs56:=blk_frozen BK161.out 2
           have hns56_0:=NB160_161.out
           have hns56_2:=NB169_161.out
           have hms56_0:=NB161_160.out
           have hms56_2:=NB161_169.out
           refine skip_ (w1:=?_) (by rfl) rfl ?_ ?_
           rotate_left
           ·go_simp
            rfl
           refine hK.out _ _ ⟨((cell_far (p:=⟨gb161,_,none⟩) NB169_161.out _).trans (((cell_far (p:=⟨gb161,_,none⟩) NB169_161.out _).trans (((cell_far (p:=⟨gb161,_,none⟩) NB169_161.out _).trans (hHeld.1)))))),((cell_far (p:=⟨gb161,_,none⟩) NB169_161.out _).trans (((cell_far (p:=⟨gb161,_,none⟩) NB169_161.out _).trans (((cell_far (p:=⟨gb161,_,none⟩) NB169_161.out _).trans (hHeld.2.1)))))),((cell_far (p:=⟨gb161,_,none⟩) NB169_161.out _).trans (((cell_far (p:=⟨gb161,_,none⟩) NB169_161.out _).trans (((cell_far (p:=⟨gb161,_,none⟩) NB169_161.out _).trans (hHeld.2.2.1)))))),((cell_far (p:=⟨gb161,_,none⟩) NB160_161.out _).trans (((cell_far (p:=⟨gb161,_,none⟩) NB160_161.out _).trans (((cell_far (p:=⟨gb161,_,none⟩) NB160_161.out _).trans (hHeld.2.2.2.1)))))),((cell_far (p:=⟨gb161,_,none⟩) NB160_161.out _).trans (((cell_far (p:=⟨gb161,_,none⟩) NB160_161.out _).trans (((cell_far (p:=⟨gb161,_,none⟩) NB160_161.out _).trans (hHeld.2.2.2.2.1)))))),((cell_far (p:=⟨gb161,_,none⟩) NB160_161.out _).trans (((cell_far (p:=⟨gb161,_,none⟩) NB160_161.out _).trans (((cell_far (p:=⟨gb161,_,none⟩) NB160_161.out _).trans (hHeld.2.2.2.2.2.1)))))),((cell_far (p:=⟨gb161,_,none⟩) (by first|exact Nat.ne_of_lt (Nat.lt_of_lt_of_le (by have:=World.block_lt_of_cell? _ _ hw187_0;first|rwa [add_block] at this|exact this) GW161.out)|(rw [add_block];exact Nat.ne_of_lt (Nat.lt_of_lt_of_le (by have:=World.block_lt_of_cell? _ _ hw187_0;first|rwa [add_block] at this|exact this) GW161.out))|(show (Addr.add _ _).block ≠ _;rw [add_block];exact Nat.ne_of_lt (Nat.lt_of_lt_of_le (by have:=World.block_lt_of_cell? _ _ hw187_0;first|rwa [add_block] at this|exact this) GW161.out))|(dsimp only;exact Nat.ne_of_lt (Nat.lt_of_lt_of_le (by have:=World.block_lt_of_cell? _ _ hw187_0;first|rwa [add_block] at this|exact this) GW161.out))) _).trans (((cell_far (p:=⟨gb161,_,none⟩) (by first|exact Nat.ne_of_lt (Nat.lt_of_lt_of_le (by have:=World.block_lt_of_cell? _ _ hw187_0;first|rwa [add_block] at this|exact this) GW161.out)|(rw [add_block];exact Nat.ne_of_lt (Nat.lt_of_lt_of_le (by have:=World.block_lt_of_cell? _ _ hw187_0;first|rwa [add_block] at this|exact this) GW161.out))|(show (Addr.add _ _).block ≠ _;rw [add_block];exact Nat.ne_of_lt (Nat.lt_of_lt_of_le (by have:=World.block_lt_of_cell? _ _ hw187_0;first|rwa [add_block] at this|exact this) GW161.out))|(dsimp only;exact Nat.ne_of_lt (Nat.lt_of_lt_of_le (by have:=World.block_lt_of_cell? _ _ hw187_0;first|rwa [add_block] at this|exact this) GW161.out))) _).trans (((cell_far (p:=⟨gb161,_,none⟩) (by first|exact Nat.ne_of_lt (Nat.lt_of_lt_of_le (by have:=World.block_lt_of_cell? _ _ hw187_0;first|rwa [add_block] at this|exact this) GW161.out)|(rw [add_block];exact Nat.ne_of_lt (Nat.lt_of_lt_of_le (by have:=World.block_lt_of_cell? _ _ hw187_0;first|rwa [add_block] at this|exact this) GW161.out))|(show (Addr.add _ _).block ≠ _;rw [add_block];exact Nat.ne_of_lt (Nat.lt_of_lt_of_le (by have:=World.block_lt_of_cell? _ _ hw187_0;first|rwa [add_block] at this|exact this) GW161.out))|(dsimp only;exact Nat.ne_of_lt (Nat.lt_of_lt_of_le (by have:=World.block_lt_of_cell? _ _ hw187_0;first|rwa [add_block] at this|exact this) GW161.out))) _).trans (hHeld.2.2.2.2.2.2.1)))))),((cell_far (p:=⟨gb161,_,none⟩) (by first|exact Nat.ne_of_lt (Nat.lt_of_lt_of_le (by have:=World.block_lt_of_cell? _ _ hw187_1;first|rwa [add_block] at this|exact this) GW161.out)|(rw [add_block];exact Nat.ne_of_lt (Nat.lt_of_lt_of_le (by have:=World.block_lt_of_cell? _ _ hw187_1;first|rwa [add_block] at this|exact this) GW161.out))|(show (Addr.add _ _).block ≠ _;rw [add_block];exact Nat.ne_of_lt (Nat.lt_of_lt_of_le (by have:=World.block_lt_of_cell? _ _ hw187_1;first|rwa [add_block] at this|exact this) GW161.out))|(dsimp only;exact Nat.ne_of_lt (Nat.lt_of_lt_of_le (by have:=World.block_lt_of_cell? _ _ hw187_1;first|rwa [add_block] at this|exact this) GW161.out))) _).trans (((cell_far (p:=⟨gb161,_,none⟩) (by first|exact Nat.ne_of_lt (Nat.lt_of_lt_of_le (by have:=World.block_lt_of_cell? _ _ hw187_1;first|rwa [add_block] at this|exact this) GW161.out)|(rw [add_block];exact Nat.ne_of_lt (Nat.lt_of_lt_of_le (by have:=World.block_lt_of_cell? _ _ hw187_1;first|rwa [add_block] at this|exact this) GW161.out))|(show (Addr.add _ _).block ≠ _;rw [add_block];exact Nat.ne_of_lt (Nat.lt_of_lt_of_le (by have:=World.block_lt_of_cell? _ _ hw187_1;first|rwa [add_block] at this|exact this) GW161.out))|(dsimp only;exact Nat.ne_of_lt (Nat.lt_of_lt_of_le (by have:=World.block_lt_of_cell? _ _ hw187_1;first|rwa [add_block] at this|exact this) GW161.out))) _).trans (((cell_far (p:=⟨gb161,_,none⟩) (by first|exact Nat.ne_of_lt (Nat.lt_of_lt_of_le (by have:=World.block_lt_of_cell? _ _ hw187_1;first|rwa [add_block] at this|exact this) GW161.out)|(rw [add_block];exact Nat.ne_of_lt (Nat.lt_of_lt_of_le (by have:=World.block_lt_of_cell? _ _ hw187_1;first|rwa [add_block] at this|exact this) GW161.out))|(show (Addr.add _ _).block ≠ _;rw [add_block];exact Nat.ne_of_lt (Nat.lt_of_lt_of_le (by have:=World.block_lt_of_cell? _ _ hw187_1;first|rwa [add_block] at this|exact this) GW161.out))|(dsimp only;exact Nat.ne_of_lt (Nat.lt_of_lt_of_le (by have:=World.block_lt_of_cell? _ _ hw187_1;first|rwa [add_block] at this|exact this) GW161.out))) _).trans (hHeld.2.2.2.2.2.2.2.1)))))),((cell_far (p:=⟨gb161,_,none⟩) (by first|exact Nat.ne_of_lt (Nat.lt_of_lt_of_le (by have:=World.block_lt_of_cell? _ _ hw187_2;first|rwa [add_block] at this|exact this) GW161.out)|(rw [add_block];exact Nat.ne_of_lt (Nat.lt_of_lt_of_le (by have:=World.block_lt_of_cell? _ _ hw187_2;first|rwa [add_block] at this|exact this) GW161.out))|(show (Addr.add _ _).block ≠ _;rw [add_block];exact Nat.ne_of_lt (Nat.lt_of_lt_of_le (by have:=World.block_lt_of_cell? _ _ hw187_2;first|rwa [add_block] at this|exact this) GW161.out))|(dsimp only;exact Nat.ne_of_lt (Nat.lt_of_lt_of_le (by have:=World.block_lt_of_cell? _ _ hw187_2;first|rwa [add_block] at this|exact this) GW161.out))) _).trans (((cell_far (p:=⟨gb161,_,none⟩) (by first|exact Nat.ne_of_lt (Nat.lt_of_lt_of_le (by have:=World.block_lt_of_cell? _ _ hw187_2;first|rwa [add_block] at this|exact this) GW161.out)|(rw [add_block];exact Nat.ne_of_lt (Nat.lt_of_lt_of_le (by have:=World.block_lt_of_cell? _ _ hw187_2;first|rwa [add_block] at this|exact this) GW161.out))|(show (Addr.add _ _).block ≠ _;rw [add_block];exact Nat.ne_of_lt (Nat.lt_of_lt_of_le (by have:=World.block_lt_of_cell? _ _ hw187_2;first|rwa [add_block] at this|exact this) GW161.out))|(dsimp only;exact Nat.ne_of_lt (Nat.lt_of_lt_of_le (by have:=World.block_lt_of_cell? _ _ hw187_2;first|rwa [add_block] at this|exact this) GW161.out))) _).trans (((cell_far (p:=⟨gb161,_,none⟩) (by first|exact Nat.ne_of_lt (Nat.lt_of_lt_of_le (by have:=World.block_lt_of_cell? _ _ hw187_2;first|rwa [add_block] at this|exact this) GW161.out)|(rw [add_block];exact Nat.ne_of_lt (Nat.lt_of_lt_of_le (by have:=World.block_lt_of_cell? _ _ hw187_2;first|rwa [add_block] at this|exact this) GW161.out))|(show (Addr.add _ _).block ≠ _;rw [add_block];exact Nat.ne_of_lt (Nat.lt_of_lt_of_le (by have:=World.block_lt_of_cell? _ _ hw187_2;first|rwa [add_block] at this|exact this) GW161.out))|(dsimp only;exact Nat.ne_of_lt (Nat.lt_of_lt_of_le (by have:=World.block_lt_of_cell? _ _ hw187_2;first|rwa [add_block] at this|exact this) GW161.out))) _).trans (hHeld.2.2.2.2.2.2.2.2.1)))))),((cell_far (p:=⟨gb161,_,none⟩) (by first|exact Nat.ne_of_lt (Nat.lt_of_lt_of_le (by have:=World.block_lt_of_cell? _ _ hw188_0;first|rwa [add_block] at this|exact this) GW161.out)|(rw [add_block];exact Nat.ne_of_lt (Nat.lt_of_lt_of_le (by have:=World.block_lt_of_cell? _ _ hw188_0;first|rwa [add_block] at this|exact this) GW161.out))|(show (Addr.add _ _).block ≠ _;rw [add_block];exact Nat.ne_of_lt (Nat.lt_of_lt_of_le (by have:=World.block_lt_of_cell? _ _ hw188_0;first|rwa [add_block] at this|exact this) GW161.out))|(dsimp only;exact Nat.ne_of_lt (Nat.lt_of_lt_of_le (by have:=World.block_lt_of_cell? _ _ hw188_0;first|rwa [add_block] at this|exact this) GW161.out))) _).trans (((cell_far (p:=⟨gb161,_,none⟩) (by first|exact Nat.ne_of_lt (Nat.lt_of_lt_of_le (by have:=World.block_lt_of_cell? _ _ hw188_0;first|rwa [add_block] at this|exact this) GW161.out)|(rw [add_block];exact Nat.ne_of_lt (Nat.lt_of_lt_of_le (by have:=World.block_lt_of_cell? _ _ hw188_0;first|rwa [add_block] at this|exact this) GW161.out))|(show (Addr.add _ _).block ≠ _;rw [add_block];exact Nat.ne_of_lt (Nat.lt_of_lt_of_le (by have:=World.block_lt_of_cell? _ _ hw188_0;first|rwa [add_block] at this|exact this) GW161.out))|(dsimp only;exact Nat.ne_of_lt (Nat.lt_of_lt_of_le (by have:=World.block_lt_of_cell? _ _ hw188_0;first|rwa [add_block] at this|exact this) GW161.out))) _).trans (((cell_far (p:=⟨gb161,_,none⟩) (by first|exact Nat.ne_of_lt (Nat.lt_of_lt_of_le (by have:=World.block_lt_of_cell? _ _ hw188_0;first|rwa [add_block] at this|exact this) GW161.out)|(rw [add_block];exact Nat.ne_of_lt (Nat.lt_of_lt_of_le (by have:=World.block_lt_of_cell? _ _ hw188_0;first|rwa [add_block] at this|exact this) GW161.out))|(show (Addr.add _ _).block ≠ _;rw [add_block];exact Nat.ne_of_lt (Nat.lt_of_lt_of_le (by have:=World.block_lt_of_cell? _ _ hw188_0;first|rwa [add_block] at this|exact this) GW161.out))|(dsimp only;exact Nat.ne_of_lt (Nat.lt_of_lt_of_le (by have:=World.block_lt_of_cell? _ _ hw188_0;first|rwa [add_block] at this|exact this) GW161.out))) _).trans (hHeld.2.2.2.2.2.2.2.2.2.1)))))),((cell_far (p:=⟨gb161,_,none⟩) (by first|exact Nat.ne_of_lt (Nat.lt_of_lt_of_le (by have:=World.block_lt_of_cell? _ _ hw188_1;first|rwa [add_block] at this|exact this) GW161.out)|(rw [add_block];exact Nat.ne_of_lt (Nat.lt_of_lt_of_le (by have:=World.block_lt_of_cell? _ _ hw188_1;first|rwa [add_block] at this|exact this) GW161.out))|(show (Addr.add _ _).block ≠ _;rw [add_block];exact Nat.ne_of_lt (Nat.lt_of_lt_of_le (by have:=World.block_lt_of_cell? _ _ hw188_1;first|rwa [add_block] at this|exact this) GW161.out))|(dsimp only;exact Nat.ne_of_lt (Nat.lt_of_lt_of_le (by have:=World.block_lt_of_cell? _ _ hw188_1;first|rwa [add_block] at this|exact this) GW161.out))) _).trans (((cell_far (p:=⟨gb161,_,none⟩) (by first|exact Nat.ne_of_lt (Nat.lt_of_lt_of_le (by have:=World.block_lt_of_cell? _ _ hw188_1;first|rwa [add_block] at this|exact this) GW161.out)|(rw [add_block];exact Nat.ne_of_lt (Nat.lt_of_lt_of_le (by have:=World.block_lt_of_cell? _ _ hw188_1;first|rwa [add_block] at this|exact this) GW161.out))|(show (Addr.add _ _).block ≠ _;rw [add_block];exact Nat.ne_of_lt (Nat.lt_of_lt_of_le (by have:=World.block_lt_of_cell? _ _ hw188_1;first|rwa [add_block] at this|exact this) GW161.out))|(dsimp only;exact Nat.ne_of_lt (Nat.lt_of_lt_of_le (by have:=World.block_lt_of_cell? _ _ hw188_1;first|rwa [add_block] at this|exact this) GW161.out))) _).trans (((cell_far (p:=⟨gb161,_,none⟩) (by first|exact Nat.ne_of_lt (Nat.lt_of_lt_of_le (by have:=World.block_lt_of_cell? _ _ hw188_1;first|rwa [add_block] at this|exact this) GW161.out)|(rw [add_block];exact Nat.ne_of_lt (Nat.lt_of_lt_of_le (by have:=World.block_lt_of_cell? _ _ hw188_1;first|rwa [add_block] at this|exact this) GW161.out))|(show (Addr.add _ _).block ≠ _;rw [add_block];exact Nat.ne_of_lt (Nat.lt_of_lt_of_le (by have:=World.block_lt_of_cell? _ _ hw188_1;first|rwa [add_block] at this|exact this) GW161.out))|(dsimp only;exact Nat.ne_of_lt (Nat.lt_of_lt_of_le (by have:=World.block_lt_of_cell? _ _ hw188_1;first|rwa [add_block] at this|exact this) GW161.out))) _).trans (hHeld.2.2.2.2.2.2.2.2.2.2.1)))))),((cell_far (p:=⟨gb161,_,none⟩) (by first|exact Nat.ne_of_lt (Nat.lt_of_lt_of_le (by have:=World.block_lt_of_cell? _ _ hw188_2;first|rwa [add_block] at this|exact this) GW161.out)|(rw [add_block];exact Nat.ne_of_lt (Nat.lt_of_lt_of_le (by have:=World.block_lt_of_cell? _ _ hw188_2;first|rwa [add_block] at this|exact this) GW161.out))|(show (Addr.add _ _).block ≠ _;rw [add_block];exact Nat.ne_of_lt (Nat.lt_of_lt_of_le (by have:=World.block_lt_of_cell? _ _ hw188_2;first|rwa [add_block] at this|exact this) GW161.out))|(dsimp only;exact Nat.ne_of_lt (Nat.lt_of_lt_of_le (by have:=World.block_lt_of_cell? _ _ hw188_2;first|rwa [add_block] at this|exact this) GW161.out))) _).trans (((cell_far (p:=⟨gb161,_,none⟩) (by first|exact Nat.ne_of_lt (Nat.lt_of_lt_of_le (by have:=World.block_lt_of_cell? _ _ hw188_2;first|rwa [add_block] at this|exact this) GW161.out)|(rw [add_block];exact Nat.ne_of_lt (Nat.lt_of_lt_of_le (by have:=World.block_lt_of_cell? _ _ hw188_2;first|rwa [add_block] at this|exact this) GW161.out))|(show (Addr.add _ _).block ≠ _;rw [add_block];exact Nat.ne_of_lt (Nat.lt_of_lt_of_le (by have:=World.block_lt_of_cell? _ _ hw188_2;first|rwa [add_block] at this|exact this) GW161.out))|(dsimp only;exact Nat.ne_of_lt (Nat.lt_of_lt_of_le (by have:=World.block_lt_of_cell? _ _ hw188_2;first|rwa [add_block] at this|exact this) GW161.out))) _).trans (((cell_far (p:=⟨gb161,_,none⟩) (by first|exact Nat.ne_of_lt (Nat.lt_of_lt_of_le (by have:=World.block_lt_of_cell? _ _ hw188_2;first|rwa [add_block] at this|exact this) GW161.out)|(rw [add_block];exact Nat.ne_of_lt (Nat.lt_of_lt_of_le (by have:=World.block_lt_of_cell? _ _ hw188_2;first|rwa [add_block] at this|exact this) GW161.out))|(show (Addr.add _ _).block ≠ _;rw [add_block];exact Nat.ne_of_lt (Nat.lt_of_lt_of_le (by have:=World.block_lt_of_cell? _ _ hw188_2;first|rwa [add_block] at this|exact this) GW161.out))|(dsimp only;exact Nat.ne_of_lt (Nat.lt_of_lt_of_le (by have:=World.block_lt_of_cell? _ _ hw188_2;first|rwa [add_block] at this|exact this) GW161.out))) _).trans (hHeld.2.2.2.2.2.2.2.2.2.2.2))))))⟩ (fun hHeld => ?_)
           clear hK K
           refine pure_ (i:=20) (N:=some 9) (v:=?_) (a':=?_) #[true,true,true,true,true,true,true,true,true,true,true,true,true,true,true,true,true,true,true,true,true] rfl rfl (any_of HT_.out (by kernel_rfl)) (fun _ _ _ h => h) (Or.inl ⟨by rfl,?_⟩) ?_ ?_
           rotate_left
           ·intro w'
            go_simp
            with_reducible rfl
           rotate_left
           ·simp only [Act.put,List.setIfInBounds_toArray,List.set_cons_zero,List.set_cons_succ,i64_w,i32_w]
            rfl
           refine done_ (done_of HT_.out (by kernel_rfl)) ?_
           try go_wp2
           refine bodyPost_ret (results_ct rfl _ _ gb161 28 #[.int .i64 a0_0,.int .i64 a0_1,.slice Ao50 y184.length co50] (0,0) _ rfl (by (with_reducible repeat (first|refine blk_drewN ?_ _|refine blk_drew ?_|refine blk_alloc ?_ _));refine blk_put (cs:=#[.int .i64 a0_0,.int .i64 a0_1,.slice none 0 0]) ?_ 2 _ rfl;(with_reducible repeat (first|refine blk_drewN ?_ _|refine blk_drew ?_|refine blk_alloc ?_ _));refine blk_put (cs:=#[.int .i64 a0_0,.int .i64 0,.slice none 0 0]) ?_ 1 _ rfl;(with_reducible repeat (first|refine blk_drewN ?_ _|refine blk_drew ?_|refine blk_alloc ?_ _));refine blk_put (cs:=#[.int .i64 0,.int .i64 0,.slice none 0 0]) ?_ 0 _ rfl;(with_reducible repeat (first|refine blk_drewN ?_ _|refine blk_drew ?_|refine blk_alloc ?_ _));exact BK161.out) Try.underlying28 rfl (by kernel_rfl)) rfl ?_
           exact ⟨_,by first|rfl|(simp [errW_none,errW_some] <;> rfl)|(simp only [← hji24];first|rfl|(simp [errW_none,errW_some] <;> rfl))|(simp [*,errW_none,errW_some] <;> rfl),by (with_reducible repeat (first|apply Kd.R_alloc|apply Kd.R_drewN|apply Kd.R_drew));exact Kd.R_mono (Kd.R_far (p:=⟨gb161,2,none⟩) (Kd.R_far (p:=⟨gb161,1,none⟩) (Kd.R_far (p:=⟨gb161,0,none⟩) (Kd.R_types HO186.out BK161.out (by decide)) (fun _ hk => hk.2) (.int .i64 a0_0)) (fun _ hk => hk.2) (.int .i64 a0_1)) (fun _ hk => hk.2) (.slice Ao50 y184.length co50)) (fun _ hk => trivial),by repeat (first|(with_reducible first|exact HB.out|apply below_alloc|apply pw_below_drewN|apply below_drew1|refine below_set ?_ GE160.out|refine below_set ?_ GE161.out|refine below_set ?_ GE169.out)|exact HB.out)⟩
          ·rw [if_neg c29] at H
           have c29b0:(((rd_T35 l0_2 t162).f1) == a2)=false:=beq_eq_false_iff_ne.mpr c29
           have c29b1:(((rd_T35 l0_2 t162).f1) != a2)=true:=bne_iff_ne.mpr c29
           simp only [Option.some.injEq,Prod.mk.injEq] at H
           obtain ⟨rfl,rfl,rfl,rfl⟩:=H
           go_enter Try.func31,Try.ntmps31
           try go_wp2_with (first|((with_reducible refine gate_dst (N:=4) rfl ?_);refine box_event ?hg (N:=4) ?hd (cs:=#[.int .i64 a0_0,.int .i64 a0_1,.slice A0_2 l0_2.length c0_2]) (t:=28) ?hr ?_;(case hd => rfl);(case hg => rfl);(case hr => first|(go_simp;done)|(go_simp;rfl));intro gb160 hg w57 hbox hb;have n0_:=Am5_ (below_step (by repeat (first|(with_reducible first|exact HB.out|apply below_alloc|apply pw_below_drewN|apply below_drew1)|exact HB.out)) hb);have n1_:=Am5_ (hbox);have n2_:=Am5_ ((by rw [hg];exact (below_size (by repeat (first|(with_reducible first|exact HB.out|apply below_alloc|apply pw_below_drewN|apply below_drew1)|exact HB.out))):w.heap.size ≤ gb160));have n3_:=Am5_ ((by rw [hg];exact (below_size (by repeat (first|(with_reducible first|exact HB.out|apply below_alloc|apply pw_below_drewN|apply below_drew1)|exact HB.out))):w.heap.size ≤ gb160));clear HB;have HB:=n0_;have BK160:=n1_;have GW160:=n2_;have GE160:=n3_;clear n0_ n1_ n2_ n3_;clear hb hbox hg)|((with_reducible refine gate_dst (N:=8) rfl ?_);refine box_event ?hg (N:=8) ?hd (cs:=#[.int .i64 0,.int .i64 0,.slice none 0 0]) (t:=28) ?hr ?_;(case hd => rfl);(case hg => rfl);(case hr => first|(go_simp;done)|(go_simp;rfl));intro gb161 hg w58 hbox hb;have n0_:=Am5_ (blk_below (g:=gb160) (o:=.cells #[.int .i64 a0_0,.int .i64 a0_1,.slice A0_2 l0_2.length c0_2] 28 (0,0)) (by (with_reducible repeat (first|refine blk_drewN ?_ _|refine blk_drew ?_|refine blk_alloc ?_ _));exact BK160.out) hb);have n1_:=Am5_ (below_step (by repeat (first|(with_reducible first|exact HB.out|apply below_alloc|apply pw_below_drewN|apply below_drew1|refine below_set ?_ GE160.out)|exact HB.out)) hb);have n2_:=Am5_ (hbox);have n3_:=Am5_ ((by rw [hg];exact (below_size (by repeat (first|(with_reducible first|exact HB.out|apply below_alloc|apply pw_below_drewN|apply below_drew1|refine below_set ?_ GE160.out)|exact HB.out))):w.heap.size ≤ gb161));have n4_:=Am5_ ((by rw [hg];exact (below_size (by repeat (first|(with_reducible first|exact HB.out|apply below_alloc|apply pw_below_drewN|apply below_drew1|refine below_set ?_ GE160.out)|exact HB.out))):w.heap.size ≤ gb161));have n5_:=Am5_ ((by rw [hg];exact Nat.ne_of_lt (blk_lt (g:=gb160) (o:=.cells #[.int .i64 a0_0,.int .i64 a0_1,.slice A0_2 l0_2.length c0_2] 28 (0,0)) (by (with_reducible repeat (first|refine blk_drewN ?_ _|refine blk_drew ?_|refine blk_alloc ?_ _));exact BK160.out)):gb160 ≠ gb161));have n6_:=Am5_ ((by rw [hg];exact Nat.ne_of_gt (blk_lt (g:=gb160) (o:=.cells #[.int .i64 a0_0,.int .i64 a0_1,.slice A0_2 l0_2.length c0_2] 28 (0,0)) (by (with_reducible repeat (first|refine blk_drewN ?_ _|refine blk_drew ?_|refine blk_alloc ?_ _));exact BK160.out)):gb161 ≠ gb160));clear BK160;clear HB;have BK160:=n0_;have HB:=n1_;have BK161:=n2_;have GW161:=n3_;have GE161:=n4_;have NB160_161:=n5_;have NB161_160:=n6_;clear n0_ n1_ n2_ n3_ n4_ n5_ n6_;clear hb hbox hg;have hnb59:=NB160_161.out;have hnc59:=NB161_160.out;have hcz60_0:w58.cell? ⟨gb160,0,none⟩=some (.int .i64 a0_0):=(blk_cell BK160.out 0).trans rfl;have hcz60_1:w58.cell? ⟨gb160,1,none⟩=some (.int .i64 a0_1):=(blk_cell BK160.out 1).trans rfl;have hcz60_2:w58.cell? ⟨gb160,2,none⟩=some (.slice A0_2 l0_2.length c0_2):=(blk_cell BK160.out 2).trans rfl;have hfz60_0:=blk_frozen BK160.out 0;have hfz60_1:=blk_frozen BK160.out 1;have hfz60_2:=blk_frozen BK160.out 2)|((with_reducible refine gate_callee (f:=100) rfl ?_);refine goesL_ (some 14) rfl rfl Try.func100 (by kernel_rfl) rfl #[.agg #[.int .i64 a0_0,.int .i64 a0_1,.slice A0_2 l0_2.length c0_2],.int .i64 a1] rfl (by (try simp only [List.map_toArray,List.map_cons,List.map_nil]);first|done|rfl|(simp only [List.length_drop,List.length_take];rfl)) ?_;(with_reducible refine (spec_FindChallenge.calls k a0_0 a0_1 _ _ l0_2 a1 t162 _ ?side1 ?side2 A5.out).mono ?_);(case side1 => repeat (first|exact (Kd.C_below HR0_2.out HB.out)|(with_reducible refine Kd.C_alloc ?_ _)|(with_reducible refine Kd.C_drewN ?_ _)|(with_reducible refine Kd.C_drew ?_)));(case side2 => exact HC0_2.out);rintro e w61 ⟨rfl,hb⟩;refine ⟨_,rfl,?_⟩;have n0_:=Am5_ (blk_below (g:=gb160) (o:=.cells #[.int .i64 a0_0,.int .i64 a0_1,.slice A0_2 l0_2.length c0_2] 28 (0,0)) (by (with_reducible repeat (first|refine blk_drewN ?_ _|refine blk_drew ?_|refine blk_alloc ?_ _));exact BK160.out) hb);have n1_:=Am5_ (blk_below (g:=gb161) (o:=.cells #[.int .i64 0,.int .i64 0,.slice none 0 0] 28 (0,0)) (by (with_reducible repeat (first|refine blk_drewN ?_ _|refine blk_drew ?_|refine blk_alloc ?_ _));exact BK161.out) hb);have n2_:=Am5_ (below_step (by repeat (first|(with_reducible first|exact HB.out|apply below_alloc|apply pw_below_drewN|apply below_drew1|refine below_set ?_ GE160.out|refine below_set ?_ GE161.out)|exact HB.out)) hb);clear BK160;clear BK161;clear HB;have BK160:=n0_;have BK161:=n1_;have HB:=n2_;clear n0_ n1_ n2_;(try clear hb);(try clear hb2);(try clear hk);(try clear hi);have hcz62_0:w61.cell? ⟨gb160,0,none⟩=some (.int .i64 a0_0):=(blk_cell BK160.out 0).trans rfl;have hcz62_1:w61.cell? ⟨gb160,1,none⟩=some (.int .i64 a0_1):=(blk_cell BK160.out 1).trans rfl;have hcz62_2:w61.cell? ⟨gb160,2,none⟩=some (.slice A0_2 l0_2.length c0_2):=(blk_cell BK160.out 2).trans rfl;have hfz62_0:=blk_frozen BK160.out 0;have hfz62_1:=blk_frozen BK160.out 1;have hfz62_2:=blk_frozen BK160.out 2)|((with_reducible refine gate_callee (f:=86) rfl ?_);refine goesL_ (some 16) rfl rfl Try.func86 (by kernel_rfl) rfl #[.agg #[.int .i64 a0_0,.int .i64 a0_1,.slice A0_2 l0_2.length c0_2]] rfl (by (try simp only [List.map_toArray,List.map_cons,List.map_nil]);first|done|rfl|(simp only [List.length_drop,List.length_take];rfl)) ?_;(with_reducible refine (spec_IsValidBook.calls k a0_0 a0_1 _ _ l0_2 true _ ?side1 ?side2 A6.out).mono ?_);(case side1 => repeat (first|exact (Kd.C_below HR0_2.out HB.out)|(with_reducible refine Kd.C_alloc ?_ _)|(with_reducible refine Kd.C_drewN ?_ _)|(with_reducible refine Kd.C_drew ?_)));(case side2 => exact HC0_2.out);rintro e w63 ⟨rfl,hb⟩;refine ⟨_,rfl,?_⟩;have n0_:=Am5_ (blk_below (g:=gb160) (o:=.cells #[.int .i64 a0_0,.int .i64 a0_1,.slice A0_2 l0_2.length c0_2] 28 (0,0)) (by (with_reducible repeat (first|refine blk_drewN ?_ _|refine blk_drew ?_|refine blk_alloc ?_ _));exact BK160.out) hb);have n1_:=Am5_ (blk_below (g:=gb161) (o:=.cells #[.int .i64 0,.int .i64 0,.slice none 0 0] 28 (0,0)) (by (with_reducible repeat (first|refine blk_drewN ?_ _|refine blk_drew ?_|refine blk_alloc ?_ _));exact BK161.out) hb);have n2_:=Am5_ (below_step (by repeat (first|(with_reducible first|exact HB.out|apply below_alloc|apply pw_below_drewN|apply below_drew1|refine below_set ?_ GE160.out|refine below_set ?_ GE161.out)|exact HB.out)) hb);clear BK160;clear BK161;clear HB;have BK160:=n0_;have BK161:=n1_;have HB:=n2_;clear n0_ n1_ n2_;(try clear hb);(try clear hb2);(try clear hk);(try clear hi);have hcz64_0:w63.cell? ⟨gb160,0,none⟩=some (.int .i64 a0_0):=(blk_cell BK160.out 0).trans rfl;have hcz64_1:w63.cell? ⟨gb160,1,none⟩=some (.int .i64 a0_1):=(blk_cell BK160.out 1).trans rfl;have hcz64_2:w63.cell? ⟨gb160,2,none⟩=some (.slice A0_2 l0_2.length c0_2):=(blk_cell BK160.out 2).trans rfl;have hfz64_0:=blk_frozen BK160.out 0;have hfz64_1:=blk_frozen BK160.out 1;have hfz64_2:=blk_frozen BK160.out 2)|((with_reducible refine gate_dst (N:=11) rfl ?_);refine box_event ?hg (N:=11) ?hd (cs:=#[.int .i64 0,.int .i64 0,.slice none 0 0]) (t:=28) ?hr ?_;(case hd => rfl);(case hg => rfl);(case hr => first|(go_simp;done)|(go_simp;rfl));intro gb169 hg w65 hbox hb;have n0_:=Am5_ (blk_below (g:=gb160) (o:=.cells #[.int .i64 a0_0,.int .i64 a0_1,.slice A0_2 l0_2.length c0_2] 28 (0,0)) (by (with_reducible repeat (first|refine blk_drewN ?_ _|refine blk_drew ?_|refine blk_alloc ?_ _));exact BK160.out) hb);have n1_:=Am5_ (blk_below (g:=gb161) (o:=.cells #[.int .i64 0,.int .i64 0,.slice none 0 0] 28 (0,0)) (by (with_reducible repeat (first|refine blk_drewN ?_ _|refine blk_drew ?_|refine blk_alloc ?_ _));exact BK161.out) hb);have n2_:=Am5_ (below_step (by repeat (first|(with_reducible first|exact HB.out|apply below_alloc|apply pw_below_drewN|apply below_drew1|refine below_set ?_ GE160.out|refine below_set ?_ GE161.out)|exact HB.out)) hb);have n3_:=Am5_ (hbox);have n4_:=Am5_ ((by rw [hg];exact (below_size (by repeat (first|(with_reducible first|exact HB.out|apply below_alloc|apply pw_below_drewN|apply below_drew1|refine below_set ?_ GE160.out|refine below_set ?_ GE161.out)|exact HB.out))):w.heap.size ≤ gb169));have n5_:=Am5_ ((by rw [hg];exact (below_size (by repeat (first|(with_reducible first|exact HB.out|apply below_alloc|apply pw_below_drewN|apply below_drew1|refine below_set ?_ GE160.out|refine below_set ?_ GE161.out)|exact HB.out))):w.heap.size ≤ gb169));have n6_:=Am5_ ((by rw [hg];exact Nat.ne_of_lt (blk_lt (g:=gb160) (o:=.cells #[.int .i64 a0_0,.int .i64 a0_1,.slice A0_2 l0_2.length c0_2] 28 (0,0)) (by (with_reducible repeat (first|refine blk_drewN ?_ _|refine blk_drew ?_|refine blk_alloc ?_ _));exact BK160.out)):gb160 ≠ gb169));have n7_:=Am5_ ((by rw [hg];exact Nat.ne_of_gt (blk_lt (g:=gb160) (o:=.cells #[.int .i64 a0_0,.int .i64 a0_1,.slice A0_2 l0_2.length c0_2] 28 (0,0)) (by (with_reducible repeat (first|refine blk_drewN ?_ _|refine blk_drew ?_|refine blk_alloc ?_ _));exact BK160.out)):gb169 ≠ gb160));have n8_:=Am5_ ((by rw [hg];exact Nat.ne_of_lt (blk_lt (g:=gb161) (o:=.cells #[.int .i64 0,.int .i64 0,.slice none 0 0] 28 (0,0)) (by (with_reducible repeat (first|refine blk_drewN ?_ _|refine blk_drew ?_|refine blk_alloc ?_ _));exact BK161.out)):gb161 ≠ gb169));have n9_:=Am5_ ((by rw [hg];exact Nat.ne_of_gt (blk_lt (g:=gb161) (o:=.cells #[.int .i64 0,.int .i64 0,.slice none 0 0] 28 (0,0)) (by (with_reducible repeat (first|refine blk_drewN ?_ _|refine blk_drew ?_|refine blk_alloc ?_ _));exact BK161.out)):gb169 ≠ gb161));clear BK160;clear BK161;clear HB;have BK160:=n0_;have BK161:=n1_;have HB:=n2_;have BK169:=n3_;have GW169:=n4_;have GE169:=n5_;have NB160_169:=n6_;have NB169_160:=n7_;have NB161_169:=n8_;have NB169_161:=n9_;clear n0_ n1_ n2_ n3_ n4_ n5_ n6_ n7_ n8_ n9_;clear hb hbox hg;have hnb66:=NB169_160.out;have hnc66:=NB160_169.out;have hnb67:=NB169_161.out;have hnc67:=NB161_169.out;have hcz68_0:w65.cell? ⟨gb169,0,none⟩=some (.int .i64 0):=(blk_cell BK169.out 0).trans rfl;have hcz68_1:w65.cell? ⟨gb169,1,none⟩=some (.int .i64 0):=(blk_cell BK169.out 1).trans rfl;have hcz68_2:w65.cell? ⟨gb169,2,none⟩=some (.slice none 0 0):=(blk_cell BK169.out 2).trans rfl;have hfz68_0:=blk_frozen BK169.out 0;have hfz68_1:=blk_frozen BK169.out 1;have hfz68_2:=blk_frozen BK169.out 2))
           have n0_:Aside0 ((((w65.setCell ⟨gb169,0,none⟩ (.int .i64 a0_0)).setCell ⟨gb169,1,none⟩ (.int .i64 a0_1)).setCell ⟨gb169,2,none⟩ (.slice A0_2 l0_2.length c0_2)).heap[gb160]?=some (.cells #[.int .i64 a0_0,.int .i64 a0_1,.slice A0_2 l0_2.length c0_2] 28 (0,0))):=⟨by (with_reducible repeat (first|refine blk_drewN ?_ _|refine blk_drew ?_|refine blk_alloc ?_ _));refine blk_far ?_ NB160_169.out _;(with_reducible repeat (first|refine blk_drewN ?_ _|refine blk_drew ?_|refine blk_alloc ?_ _));refine blk_far ?_ NB160_169.out _;(with_reducible repeat (first|refine blk_drewN ?_ _|refine blk_drew ?_|refine blk_alloc ?_ _));refine blk_far ?_ NB160_169.out _;(with_reducible repeat (first|refine blk_drewN ?_ _|refine blk_drew ?_|refine blk_alloc ?_ _));exact BK160.out⟩
           have n1_:Aside0 ((((w65.setCell ⟨gb169,0,none⟩ (.int .i64 a0_0)).setCell ⟨gb169,1,none⟩ (.int .i64 a0_1)).setCell ⟨gb169,2,none⟩ (.slice A0_2 l0_2.length c0_2)).heap[gb161]?=some (.cells #[.int .i64 0,.int .i64 0,.slice none 0 0] 28 (0,0))):=⟨by (with_reducible repeat (first|refine blk_drewN ?_ _|refine blk_drew ?_|refine blk_alloc ?_ _));refine blk_far ?_ NB161_169.out _;(with_reducible repeat (first|refine blk_drewN ?_ _|refine blk_drew ?_|refine blk_alloc ?_ _));refine blk_far ?_ NB161_169.out _;(with_reducible repeat (first|refine blk_drewN ?_ _|refine blk_drew ?_|refine blk_alloc ?_ _));refine blk_far ?_ NB161_169.out _;(with_reducible repeat (first|refine blk_drewN ?_ _|refine blk_drew ?_|refine blk_alloc ?_ _));exact BK161.out⟩
           have n2_:Aside0 ((((w65.setCell ⟨gb169,0,none⟩ (.int .i64 a0_0)).setCell ⟨gb169,1,none⟩ (.int .i64 a0_1)).setCell ⟨gb169,2,none⟩ (.slice A0_2 l0_2.length c0_2)).heap[gb169]?=some (.cells #[.int .i64 a0_0,.int .i64 a0_1,.slice A0_2 l0_2.length c0_2] 28 (0,0))):=⟨by (with_reducible repeat (first|refine blk_drewN ?_ _|refine blk_drew ?_|refine blk_alloc ?_ _));refine blk_put (cs:=#[.int .i64 a0_0,.int .i64 a0_1,.slice none 0 0]) ?_ 2 _ rfl;(with_reducible repeat (first|refine blk_drewN ?_ _|refine blk_drew ?_|refine blk_alloc ?_ _));refine blk_put (cs:=#[.int .i64 a0_0,.int .i64 0,.slice none 0 0]) ?_ 1 _ rfl;(with_reducible repeat (first|refine blk_drewN ?_ _|refine blk_drew ?_|refine blk_alloc ?_ _));refine blk_put (cs:=#[.int .i64 0,.int .i64 0,.slice none 0 0]) ?_ 0 _ rfl;(with_reducible repeat (first|refine blk_drewN ?_ _|refine blk_drew ?_|refine blk_alloc ?_ _));exact BK169.out⟩
           have n3_:Aside0 (Below w.heap.size w (((w65.setCell ⟨gb169,0,none⟩ (.int .i64 a0_0)).setCell ⟨gb169,1,none⟩ (.int .i64 a0_1)).setCell ⟨gb169,2,none⟩ (.slice A0_2 l0_2.length c0_2))):=⟨by repeat (first|(with_reducible first|exact HB.out|apply below_alloc|apply pw_below_drewN|apply below_drew1|refine below_set ?_ GE160.out|refine below_set ?_ GE161.out|refine below_set ?_ GE169.out)|exact HB.out)⟩
           (try clear BK160)
           (try clear BK161)
           (try clear BK169)
           (try clear HB)
           generalize (((w65.setCell ⟨gb169,0,none⟩ (.int .i64 a0_0)).setCell ⟨gb169,1,none⟩ (.int .i64 a0_1)).setCell ⟨gb169,2,none⟩ (.slice A0_2 l0_2.length c0_2))=w69 at n0_ n1_ n2_ n3_ ⊢
           have BK160:=n0_
           have BK161:=n1_
           have BK169:=n2_
           have HB:=n3_
           clear n0_ n1_ n2_ n3_
           have n0_:=Am5_ (blk_drew BK160.out)
           have n1_:=Am5_ (blk_drew BK161.out)
           have n2_:=Am5_ (blk_drew BK169.out)
           have n3_:=Am5_ (below_drew1 HB.out)
           clear BK160
           clear BK161
           clear BK169
           clear HB
           have BK160:=n0_
           have BK161:=n1_
           have BK169:=n2_
           have HB:=n3_
           clear n0_ n1_ n2_ n3_
           have q71:(t162:Int) ≤ ((l0_2.length:Int):Int):=of_decide_eq_true (by first|(with_reducible assumption)|assumption)
           obtain ⟨i071,hi071,_,hsz71,_⟩:=info_parts info35
           have hroom71:l0_2.length ≤ c0_2:=HC0_2.out
           have hC71:Kd.C k35 _ A0_2 l0_2.length l0_2:=HR0_2.out
           have hcut71:=cut_to (P:=Try.prog) 26 35 .i64 Try.underlying26 hi071 A0_2 l0_2.length c0_2 t162 (of_decide_eq_true (by first|(with_reducible assumption)|assumption)) q71 hroom71
           have hr71:=Kd.C_take (m:=(t162:Int).toNat) hC71 (by omega)
           have hy71:y173.length=(t162:Int).toNat:=(by rw [Ny173.out,List.length_take];omega)
           rw [← Ny173.out] at hr71
           rw [← hy71] at hcut71
           have HR176:=Am5_ hr71
           have HC176:=Am5_ (show y173.length ≤ c0_2 from by omega)
           clear hr71 hC71 hroom71 hi071 hsz71
           have KY71:=Am5_ hy71
           clear hy71
           replace q71:=eq_true q71
           have q72:((ji24):Int) ≤ ((l0_2.length:Int):Int):=of_decide_eq_true (by first|(with_reducible assumption)|assumption)
           obtain ⟨i072,hi072,_,hsz72,_⟩:=info_parts info35
           have hroom72:l0_2.length ≤ c0_2:=HC0_2.out
           have hC72:Kd.C k35 _ A0_2 l0_2.length l0_2:=HR0_2.out
           have q072:(0:Int) ≤ ((ji24):Int):=of_decide_eq_true (by first|(with_reducible assumption)|assumption)
           have hcut72:=cut_from (P:=Try.prog) 26 35 .i64 Try.underlying26 hi072 3 hsz72 A0_2 l0_2.length c0_2 (ji24) q072 q72
           have hr72:=Kd.C_drop (m:=((ji24):Int).toNat) (c:=c0_2) hC72 (by omega) hroom72
           obtain ⟨A72,hA72⟩:∃ A1,A1=(if c0_2=((ji24):Int).toNat then A0_2 else (A0_2:Option Addr).map (·.add (((ji24):Int).toNat * 3))):=⟨_,rfl⟩
           obtain ⟨c72,hc72⟩:∃ c1,c1=c0_2 - ((ji24):Int).toNat:=⟨_,rfl⟩
           have hy72:y180.length=l0_2.length - ((ji24):Int).toNat:=(by rw [Ny180.out,List.length_drop] <;> omega)
           rw [show (l0_2).drop ((ji24):Int).toNat=y180 from Ny180.out.symm] at hr72
           replace hr72:Kd.C k35 _ A72 y180.length y180:=(by rw [hA72];exact hr72)
           rw [← hy72,← hA72,← hc72] at hcut72
           have HR183:=Am5_ hr72
           have HC183:=Am5_ (show y180.length ≤ c72 from by rw [hy72,hc72];exact Nat.sub_le_sub_right hroom72 _)
           clear hr72 hC72 hroom72 hi072 hsz72 hc72
           have KY72:=Am5_ hy72
           have KA72:=Am5_ hA72
           clear hy72 hA72
           replace q72:=eq_true q72
           refine start_ (n:=14) (S:=fun w' => w'.cell? ⟨gb160,0,none⟩=some (.int .i64 a0_0)∧w'.cell? ⟨gb160,1,none⟩=some (.int .i64 a0_1)∧w'.cell? ⟨gb160,2,none⟩=some (.slice A0_2 l0_2.length c0_2)) (ds:=[]) #[false,false,false,false,false,false,false,false,false,false,false,false,false,false] (by kernel_rfl) rfl rfl ⟨(blk_cell BK160.out 0).trans rfl,(blk_cell BK160.out 1).trans rfl,(blk_cell BK160.out 2).trans rfl⟩ (fun hHeld => ?_);refine with_tabW spec_TakeChallenge.tab5 spec_TakeChallenge.bits5 (fun HT_ HW_ => ?_)
           generalize w69.drew=w70 at BK160 BK161 BK169 HB HR176 HR183 hHeld ⊢
           refine pure_ (i:=1) (N:=some 26) (v:=?_) (a':=?_) #[false,true,false,false,false,false,false,false,false,false,false,false,false,false] rfl rfl (any_of HT_.out (by kernel_rfl)) (fun _ _ _ h => h) (Or.inl ⟨by rfl,?_⟩) ?_ ?_
           rotate_left
           ·intro w'
            go_simp
            with_reducible rfl
           rotate_left
           ·simp only [Act.put,List.setIfInBounds_toArray,List.set_cons_zero,List.set_cons_succ,i64_w,i32_w]
            rfl
           refine pure_ (i:=3) (N:=some 28) (v:=?_) (a':=?_) #[false,true,false,true,false,false,false,false,false,false,false,false,false,false] rfl rfl (any_of HT_.out (by kernel_rfl)) (fun _ _ _ h => h) (Or.inl ⟨by rfl,?_⟩) ?_ ?_
           rotate_left
           ·intro w'
            go_simp
            with_reducible rfl
           rotate_left
           ·simp only [Act.put,List.setIfInBounds_toArray,List.set_cons_zero,List.set_cons_succ,i64_w,i32_w]
            rfl
           refine pure_ (i:=6) (N:=some 31) (v:=?_) (a':=?_) #[false,true,false,true,false,false,true,false,false,false,false,false,false,false] rfl rfl (any_of HT_.out (by kernel_rfl)) (fun _ _ _ h => h) (Or.inl ⟨by rfl,?_⟩) ?_ ?_
           rotate_left
           ·intro w'
            go_simp
            with_reducible rfl
           rotate_left
           ·simp only [Act.put,List.setIfInBounds_toArray,List.set_cons_zero,List.set_cons_succ,i64_w,i32_w]
            rfl
           refine pure_ (i:=8) (N:=some 33) (v:=?_) (a':=?_) #[false,true,false,true,false,false,true,false,true,false,false,false,false,false] rfl rfl (any_of HT_.out (by kernel_rfl)) (fun _ _ _ h => h) (Or.inl ⟨by rfl,?_⟩) ?_ ?_
           rotate_left
           ·intro w'
            go_simp
            with_reducible rfl
           rotate_left
           ·simp only [Act.put,List.setIfInBounds_toArray,List.set_cons_zero,List.set_cons_succ,i64_w,i32_w]
            rfl
           refine pure_ (i:=9) (N:=some 34) (v:=?_) (a':=?_) #[false,true,false,true,false,false,true,false,true,true,false,false,false,false] rfl rfl (any_of HT_.out (by kernel_rfl)) (fun _ _ _ h => h) (Or.inl ⟨by rfl,?_⟩) ?_ ?_
           rotate_left
           ·intro w'
            go_simp
            with_reducible rfl
           rotate_left
           ·simp only [Act.put,List.setIfInBounds_toArray,List.set_cons_zero,List.set_cons_succ,i64_w,i32_w]
            rfl
           refine take_ (i:=2) (N:=some 27) (v:=?_) (a':=?_) #[false,true,true,true,false,false,true,false,true,true,false,false,false,false] rfl rfl (take_ofW HT_.out HW_.out (by kernel_rfl)) (fun _ _ _ h => h) (Or.inl ⟨by rfl,?_⟩) hHeld ?_ ?_
           rotate_left
           ·rintro w' ⟨s0,s1,s2⟩
            go_simp
            with_reducible rfl
           rotate_left
           ·simp only [Act.put,List.setIfInBounds_toArray,List.set_cons_zero,List.set_cons_succ,i64_w,i32_w]
            rfl
           refine pure_ (i:=4) (N:=some 29) (v:=?_) (a':=?_) #[false,true,true,true,true,false,true,false,true,true,false,false,false,false] rfl rfl (any_of HT_.out (by kernel_rfl)) (fun _ _ _ h => h) (Or.inl ⟨by rfl,?_⟩) ?_ ?_
           rotate_left
           ·intro w'
            go_simp
            with_reducible rfl
           rotate_left
           ·simp only [Act.put,List.setIfInBounds_toArray,List.set_cons_zero,List.set_cons_succ,i64_w,i32_w]
            rfl
           refine take_ (i:=7) (N:=some 32) (v:=?_) (a':=?_) #[false,true,true,true,true,false,true,true,true,true,false,false,false,false] rfl rfl (take_ofW HT_.out HW_.out (by kernel_rfl)) (fun _ _ _ h => h) (Or.inl ⟨by rfl,?_⟩) hHeld ?_ ?_
           rotate_left
           ·rintro w' ⟨s0,s1,s2⟩
            go_simp
            with_reducible rfl
           rotate_left
           ·simp only [Act.put,List.setIfInBounds_toArray,List.set_cons_zero,List.set_cons_succ,i64_w,i32_w]
            rfl
           refine pure_ (i:=10) (N:=some 35) (v:=?_) (a':=?_) #[false,true,true,true,true,false,true,true,true,true,true,false,false,false] rfl rfl (any_of HT_.out (by kernel_rfl)) (fun _ _ _ h => h) (Or.inl ⟨by rfl,?_⟩) ?_ ?_
           rotate_left
           ·intro w'
            go_simp
            with_reducible rfl
           rotate_left
           ·simp only [Act.put,List.setIfInBounds_toArray,List.set_cons_zero,List.set_cons_succ,i64_w,i32_w]
            rfl
           refine one_ (i:=0) (N:=some 25) #[true,true,true,true,true,false,true,true,true,true,true,false,false,false] rfl rfl (one_of HT_.out (by kernel_rfl)) (by decide) (fun K hK => ?_)
           refine Kd.R_lit_step k35 _ 35 ?hg (N:=25) ?hd (xs:=([]:List (S35))) (inner:=[]) (ok:=fun _ => True) (okp:=fun _ => True) ?hr ?hp (fun _ hk => hk) trivial (Below.refl _ _) (Nat.le_refl _) (by simp) ?_;(case hd => rfl);(case hg => rfl);(case hr => first|(go_simp;done)|(go_simp;rfl));(case hp => exact (Reps.none _ _))
           intro v171 w73 ho74 hb hg_ hnew_
           clear hg_ hnew_
           (first|rw [← Ny170.out] at ho74|(simp only [Int.reduceToNat] at ho74;rw [← Ny170.out] at ho74))
           have n0_:=Am5_ (Kd.R_lower ho74 (below_size (by repeat (first|(with_reducible first|exact HB.out|apply below_alloc|apply pw_below_drewN|apply below_drew1|refine below_set ?_ GE160.out|refine below_set ?_ GE161.out|refine below_set ?_ GE169.out)|exact HB.out))))
           have n1_:=Am5_ (blk_below (g:=gb160) (o:=.cells #[.int .i64 a0_0,.int .i64 a0_1,.slice A0_2 l0_2.length c0_2] 28 (0,0)) (by (with_reducible repeat (first|refine blk_drewN ?_ _|refine blk_drew ?_|refine blk_alloc ?_ _));exact BK160.out) hb)
           have n2_:=Am5_ (blk_below (g:=gb161) (o:=.cells #[.int .i64 0,.int .i64 0,.slice none 0 0] 28 (0,0)) (by (with_reducible repeat (first|refine blk_drewN ?_ _|refine blk_drew ?_|refine blk_alloc ?_ _));exact BK161.out) hb)
           have n3_:=Am5_ (blk_below (g:=gb169) (o:=.cells #[.int .i64 a0_0,.int .i64 a0_1,.slice A0_2 l0_2.length c0_2] 28 (0,0)) (by (with_reducible repeat (first|refine blk_drewN ?_ _|refine blk_drew ?_|refine blk_alloc ?_ _));exact BK169.out) hb)
           have n4_:=Am5_ (below_step (by repeat (first|(with_reducible first|exact HB.out|apply below_alloc|apply pw_below_drewN|apply below_drew1|refine below_set ?_ GE160.out|refine below_set ?_ GE161.out|refine below_set ?_ GE169.out)|exact HB.out)) hb)
           clear BK160
           clear BK161
           clear BK169
           clear HB
           have HO172:=n0_
           have BK160:=n1_
           have BK161:=n2_
           have BK169:=n3_
           have HB:=n4_
           clear n0_ n1_ n2_ n3_ n4_
           clear hb ho74
           refine hK.out _ _ ⟨(blk_cell BK160.out 0).trans rfl,(blk_cell BK160.out 1).trans rfl,(blk_cell BK160.out 2).trans rfl⟩ (fun hHeld => ?_)
           clear hK K
           refine norm_ (a':=?_) ?_ ?_
           rotate_left
           ·show Act.put _ (some 25) _=_
            simp only [Act.put,List.setIfInBounds_toArray,List.set_cons_zero,List.set_cons_succ,i64_w,i32_w]
            rfl
           refine one_ (i:=5) (N:=some 30) #[true,true,true,true,true,true,true,true,true,true,true,false,false,false] rfl rfl (one_of HT_.out (by kernel_rfl)) (by decide) (fun K hK => ?_)
           refine Kd.R_append_rows_step k35 (w0:=w) w.heap.size (by rfl) (.tmp 25) (.tmp 29) 26 35 (.agg #[(.int .i64 0),(.int .i64 0),(.int .i64 0)]) 24 rfl Try.underlying26 info35 rfl (by decide) (by omega) v171 y170 y173 _ _ _ (fun _ => True) (fun _ => False) rfl rfl ?aO ?aR (fun _ _ h => h) (fun _ h => h.elim) ?aF ?aB ?aS ?aL ?_
           (case aR => repeat (first|exact (Kd.C_below HR176.out HB.out)|(with_reducible refine Kd.C_alloc ?_ _)|(with_reducible refine Kd.C_drewN ?_ _)|(with_reducible refine Kd.C_drew ?_)))
           (case aB => exact (by repeat (first|(with_reducible first|exact HB.out|apply below_alloc|apply pw_below_drewN|apply below_drew1|refine below_set ?_ GE160.out|refine below_set ?_ GE161.out|refine below_set ?_ GE169.out)|exact HB.out)))
           (case aF => exact (fun _ _ => trivial))
           (case aO => exact (by (with_reducible repeat (first|apply Kd.R_alloc|apply Kd.R_drewN|apply Kd.R_drew));exact HO172.out))
           (case aS => exact (below_size (by repeat (first|(with_reducible first|exact HB.out|apply below_alloc|apply pw_below_drewN|apply below_drew1|refine below_set ?_ GE160.out|refine below_set ?_ GE161.out|refine below_set ?_ GE169.out)|exact HB.out))))
           (case aL => have:=LMc23.out;omega)
           intro v178 w75 ho hb hg hat
           rw [← Ny177.out] at ho
           have n0_:=Am5_ (blk_grown (g:=gb160) (o:=.cells #[.int .i64 a0_0,.int .i64 a0_1,.slice A0_2 l0_2.length c0_2] 28 (0,0)) (by (with_reducible repeat (first|refine blk_drewN ?_ _|refine blk_drew ?_|refine blk_alloc ?_ _));exact BK160.out) hg (Kd.R_ne HO172.out BK160.out (by decide)))
           have n1_:=Am5_ (blk_grown (g:=gb161) (o:=.cells #[.int .i64 0,.int .i64 0,.slice none 0 0] 28 (0,0)) (by (with_reducible repeat (first|refine blk_drewN ?_ _|refine blk_drew ?_|refine blk_alloc ?_ _));exact BK161.out) hg (Kd.R_ne HO172.out BK161.out (by decide)))
           have n2_:=Am5_ (blk_grown (g:=gb169) (o:=.cells #[.int .i64 a0_0,.int .i64 a0_1,.slice A0_2 l0_2.length c0_2] 28 (0,0)) (by (with_reducible repeat (first|refine blk_drewN ?_ _|refine blk_drew ?_|refine blk_alloc ?_ _));exact BK169.out) hg (Kd.R_ne HO172.out BK169.out (by decide)))
           have n3_:=Am5_ (hb)
           have n4_:=Am5_ (ho)
           clear BK160
           clear BK161
           clear BK169
           clear HB
           clear HO172
           have BK160:=n0_
           have BK161:=n1_
           have BK169:=n2_
           have HB:=n3_
           have HO179:=n4_
           clear n0_ n1_ n2_ n3_ n4_
           clear ho hb hg hat
           refine hK.out _ _ ⟨(blk_cell BK160.out 0).trans rfl,(blk_cell BK160.out 1).trans rfl,(blk_cell BK160.out 2).trans rfl⟩ (fun hHeld => ?_)
           clear hK K
           refine norm_ (a':=?_) ?_ ?_
           rotate_left
           ·show Act.put _ (some 30) _=_
            simp only [Act.put,List.setIfInBounds_toArray,List.set_cons_zero,List.set_cons_succ,i64_w,i32_w]
            rfl
           refine one_ (i:=11) (N:=some 36) #[true,true,true,true,true,true,true,true,true,true,true,true,false,false] rfl rfl (one_of HT_.out (by kernel_rfl)) (by decide) (fun K hK => ?_)
           refine Kd.R_append_rows_step k35 (w0:=w) w.heap.size (by rfl) (.tmp 30) (.tmp 35) 26 35 (.agg #[(.int .i64 0),(.int .i64 0),(.int .i64 0)]) 24 rfl Try.underlying26 info35 rfl (by decide) (by omega) v178 y177 y180 _ _ _ (fun _ => True) (fun _ => False) rfl rfl ?aO ?aR (fun _ _ h => h) (fun _ h => h.elim) ?aF ?aB ?aS ?aL ?_
           (case aR => repeat (first|exact (Kd.C_below HR183.out HB.out)|(with_reducible refine Kd.C_alloc ?_ _)|(with_reducible refine Kd.C_drewN ?_ _)|(with_reducible refine Kd.C_drew ?_)))
           (case aB => exact (by repeat (first|(with_reducible first|exact HB.out|apply below_alloc|apply pw_below_drewN|apply below_drew1|refine below_set ?_ GE160.out|refine below_set ?_ GE161.out|refine below_set ?_ GE169.out)|exact HB.out)))
           (case aF => exact (fun _ _ => trivial))
           (case aO => exact (by (with_reducible repeat (first|apply Kd.R_alloc|apply Kd.R_drewN|apply Kd.R_drew));exact HO179.out))
           (case aS => exact (below_size (by repeat (first|(with_reducible first|exact HB.out|apply below_alloc|apply pw_below_drewN|apply below_drew1|refine below_set ?_ GE160.out|refine below_set ?_ GE161.out|refine below_set ?_ GE169.out)|exact HB.out))))
           (case aL => have:=LMc27.out;omega)
           intro v185 w76 ho hb hg hat
           rw [← Ny184.out] at ho
           have n0_:=Am5_ (blk_grown (g:=gb160) (o:=.cells #[.int .i64 a0_0,.int .i64 a0_1,.slice A0_2 l0_2.length c0_2] 28 (0,0)) (by (with_reducible repeat (first|refine blk_drewN ?_ _|refine blk_drew ?_|refine blk_alloc ?_ _));exact BK160.out) hg (Kd.R_ne HO179.out BK160.out (by decide)))
           have n1_:=Am5_ (blk_grown (g:=gb161) (o:=.cells #[.int .i64 0,.int .i64 0,.slice none 0 0] 28 (0,0)) (by (with_reducible repeat (first|refine blk_drewN ?_ _|refine blk_drew ?_|refine blk_alloc ?_ _));exact BK161.out) hg (Kd.R_ne HO179.out BK161.out (by decide)))
           have n2_:=Am5_ (blk_grown (g:=gb169) (o:=.cells #[.int .i64 a0_0,.int .i64 a0_1,.slice A0_2 l0_2.length c0_2] 28 (0,0)) (by (with_reducible repeat (first|refine blk_drewN ?_ _|refine blk_drew ?_|refine blk_alloc ?_ _));exact BK169.out) hg (Kd.R_ne HO179.out BK169.out (by decide)))
           have n3_:=Am5_ (hb)
           have n4_:=Am5_ (ho)
           clear BK160
           clear BK161
           clear BK169
           clear HB
           clear HO179
           have BK160:=n0_
           have BK161:=n1_
           have BK169:=n2_
           have HB:=n3_
           have HO186:=n4_
           clear n0_ n1_ n2_ n3_ n4_
           clear ho hb hg hat
           obtain ⟨Ao77,co77,eo77⟩:=Kd.R_slice HO186.out
           (first|subst eo77|(injection eo77 with f1_ f2_ f3_;have f4_:=f1_.symm;have f5_:=f3_.symm;clear f1_ f2_ f3_;subst f4_;subst f5_))
           refine hK.out _ _ ⟨(blk_cell BK160.out 0).trans rfl,(blk_cell BK160.out 1).trans rfl,(blk_cell BK160.out 2).trans rfl⟩ (fun hHeld => ?_)
           clear hK K
           refine norm_ (a':=?_) ?_ ?_
           rotate_left
           ·show Act.put _ (some 36) _=_
            simp only [Act.put,List.setIfInBounds_toArray,List.set_cons_zero,List.set_cons_succ,i64_w,i32_w]
            rfl
           refine pure_ (i:=12) (N:=some 37) (v:=?_) (a':=?_) #[true,true,true,true,true,true,true,true,true,true,true,true,true,false] rfl rfl (any_of HT_.out (by kernel_rfl)) (fun _ _ _ h => h) (Or.inl ⟨by rfl,?_⟩) ?_ ?_
           rotate_left
           ·intro w'
            go_simp
            with_reducible rfl
           rotate_left
           ·simp only [Act.put,List.setIfInBounds_toArray,List.set_cons_zero,List.set_cons_succ,i64_w,i32_w]
            rfl
           refine one_ (i:=13) (N:=none) #[true,true,true,true,true,true,true,true,true,true,true,true,true,true] rfl rfl (one_of HT_.out (by kernel_rfl)) (by decide) (fun K hK => ?_)
           have hs78:w76.cell? ⟨gb169,2,none⟩=some (.slice A0_2 l0_2.length c0_2):=(blk_cell BK169.out 2).trans rfl
           have hfs78:=blk_frozen BK169.out 2
           have hns78_0:=NB160_169.out
           have hns78_1:=NB161_169.out
           have hms78_0:=NB169_160.out
           have hms78_1:=NB169_161.out
           refine skip_ (w1:=?_) (by rfl) rfl ?_ ?_
           rotate_left
           ·go_simp
            rfl
           refine hK.out _ _ ⟨((cell_far (p:=⟨gb169,_,none⟩) NB160_169.out _).trans (hHeld.1)),((cell_far (p:=⟨gb169,_,none⟩) NB160_169.out _).trans (hHeld.2.1)),((cell_far (p:=⟨gb169,_,none⟩) NB160_169.out _).trans (hHeld.2.2))⟩ (fun hHeld => ?_)
           clear hK K
           refine done_ (done_of HT_.out (by kernel_rfl)) ?_
           try go_wp2
           have n0_:Aside0 (Kd.R k35 35 (w76.setCell ⟨gb169,2,none⟩ (.slice Ao77 y184.length co77)) w.heap.size (fun _ => True) (.slice Ao77 y184.length co77) y184):=⟨by (with_reducible repeat (first|apply Kd.R_alloc|apply Kd.R_drewN|apply Kd.R_drew));exact Kd.R_mono (Kd.R_far (p:=⟨gb169,2,none⟩) (Kd.R_types HO186.out BK169.out (by decide)) (fun _ hk => hk.2) (.slice Ao77 y184.length co77)) (fun _ hk => trivial)⟩
           have n1_:Aside0 ((w76.setCell ⟨gb169,2,none⟩ (.slice Ao77 y184.length co77)).heap[gb160]?=some (.cells #[.int .i64 a0_0,.int .i64 a0_1,.slice A0_2 l0_2.length c0_2] 28 (0,0))):=⟨by (with_reducible repeat (first|refine blk_drewN ?_ _|refine blk_drew ?_|refine blk_alloc ?_ _));refine blk_far ?_ NB160_169.out _;(with_reducible repeat (first|refine blk_drewN ?_ _|refine blk_drew ?_|refine blk_alloc ?_ _));exact BK160.out⟩
           have n2_:Aside0 ((w76.setCell ⟨gb169,2,none⟩ (.slice Ao77 y184.length co77)).heap[gb161]?=some (.cells #[.int .i64 0,.int .i64 0,.slice none 0 0] 28 (0,0))):=⟨by (with_reducible repeat (first|refine blk_drewN ?_ _|refine blk_drew ?_|refine blk_alloc ?_ _));refine blk_far ?_ NB161_169.out _;(with_reducible repeat (first|refine blk_drewN ?_ _|refine blk_drew ?_|refine blk_alloc ?_ _));exact BK161.out⟩
           have n3_:Aside0 ((w76.setCell ⟨gb169,2,none⟩ (.slice Ao77 y184.length co77)).heap[gb169]?=some (.cells #[.int .i64 a0_0,.int .i64 a0_1,.slice Ao77 y184.length co77] 28 (0,0))):=⟨by (with_reducible repeat (first|refine blk_drewN ?_ _|refine blk_drew ?_|refine blk_alloc ?_ _));refine blk_put (cs:=#[.int .i64 a0_0,.int .i64 a0_1,.slice A0_2 l0_2.length c0_2]) ?_ 2 _ rfl;(with_reducible repeat (first|refine blk_drewN ?_ _|refine blk_drew ?_|refine blk_alloc ?_ _));exact BK169.out⟩
           have n4_:Aside0 (Below w.heap.size w (w76.setCell ⟨gb169,2,none⟩ (.slice Ao77 y184.length co77))):=⟨by repeat (first|(with_reducible first|exact HB.out|apply below_alloc|apply pw_below_drewN|apply below_drew1|refine below_set ?_ GE160.out|refine below_set ?_ GE161.out|refine below_set ?_ GE169.out)|exact HB.out)⟩
           (try clear HO186)
           (try clear BK160)
           (try clear BK161)
           (try clear BK169)
           (try clear HB)
           generalize (w76.setCell ⟨gb169,2,none⟩ (.slice Ao77 y184.length co77))=w79 at n0_ n1_ n2_ n3_ n4_ ⊢
           have HO186:=n0_
           have BK160:=n1_
           have BK161:=n2_
           have BK169:=n3_
           have HB:=n4_
           clear n0_ n1_ n2_ n3_ n4_
           have n0_:=Am5_ (Kd.R_drew HO186.out)
           have n1_:=Am5_ (blk_drew BK160.out)
           have n2_:=Am5_ (blk_drew BK161.out)
           have n3_:=Am5_ (blk_drew BK169.out)
           have n4_:=Am5_ (below_drew1 HB.out)
           clear HO186
           clear BK160
           clear BK161
           clear BK169
           clear HB
           have HO186:=n0_
           have BK160:=n1_
           have BK161:=n2_
           have BK169:=n3_
           have HB:=n4_
           clear n0_ n1_ n2_ n3_ n4_
           have p187:0 ≤ (t162:Int):=of_decide_eq_true (by first|(with_reducible assumption)|assumption)
           have q187:t162 < (l0_2.length:Int):=of_decide_eq_true (by first|(with_reducible assumption)|assumption)
           obtain ⟨ad187,e187,hx187_0,hx187_1,hx187_2⟩:=at_T35 HR0_2.out t162 p187 q187
           have hw187_2:=hx187_2
           have hw187_1:=hx187_1
           have hw187_0:=hx187_0
           cases e187
           replace hx187_0:=(HB.out.cell (World.block_lt_of_cell? w _ hx187_0)).trans hx187_0
           replace hx187_1:=(HB.out.cell (World.block_lt_of_cell? w _ hx187_1)).trans hx187_1
           replace hx187_2:=(HB.out.cell (World.block_lt_of_cell? w _ hx187_2)).trans hx187_2
           replace p187:=eq_true p187
           replace q187:=eq_true q187
           refine start_ (n:=21) (S:=fun w' => w'.cell? ⟨gb169,0,none⟩=some (.int .i64 a0_0)∧w'.cell? ⟨gb169,1,none⟩=some (.int .i64 a0_1)∧w'.cell? ⟨gb169,2,none⟩=some (.slice Ao77 y184.length co77)∧w'.cell? ⟨gb160,0,none⟩=some (.int .i64 a0_0)∧w'.cell? ⟨gb160,1,none⟩=some (.int .i64 a0_1)∧w'.cell? ⟨gb160,2,none⟩=some (.slice (some ad187) l0_2.length c0_2)∧w'.cell? (ad187.add ((t162).toNat * 3))=some (.int .i64 ((rd_T35 l0_2 t162).f0))∧w'.cell? ⟨(ad187.add ((t162).toNat * 3)).block,(ad187.add ((t162).toNat * 3)).off + 1,none⟩=some (.int .i64 ((rd_T35 l0_2 t162).f1))∧w'.cell? ⟨(ad187.add ((t162).toNat * 3)).block,(ad187.add ((t162).toNat * 3)).off + 2,none⟩=some (.int .i64 ((rd_T35 l0_2 t162).f2))) (ds:=[]) #[false,false,false,false,false,false,false,false,false,false,false,false,false,false,false,false,false,false,false,false,false] (by kernel_rfl) rfl rfl ⟨(blk_cell BK169.out 0).trans rfl,(blk_cell BK169.out 1).trans rfl,(blk_cell BK169.out 2).trans rfl,(blk_cell BK160.out 0).trans rfl,(blk_cell BK160.out 1).trans rfl,(blk_cell BK160.out 2).trans rfl,((HB.out.cell (World.block_lt_of_cell? w _ hw187_0)).trans hw187_0),((HB.out.cell (World.block_lt_of_cell? w _ hw187_1)).trans hw187_1),((HB.out.cell (World.block_lt_of_cell? w _ hw187_2)).trans hw187_2)⟩ (fun hHeld => ?_);refine with_tabW spec_TakeChallenge.tab6 spec_TakeChallenge.bits6 (fun HT_ HW_ => ?_)
           generalize w79.drew=w80 at HO186 BK160 BK161 BK169 HB hx187_0 hx187_1 hx187_2 hHeld ⊢
           refine pure_ (i:=1) (N:=some 39) (v:=?_) (a':=?_) #[false,true,false,false,false,false,false,false,false,false,false,false,false,false,false,false,false,false,false,false,false] rfl rfl (any_of HT_.out (by kernel_rfl)) (fun _ _ _ h => h) (Or.inl ⟨by rfl,?_⟩) ?_ ?_
           rotate_left
           ·intro w'
            go_simp
            with_reducible rfl
           rotate_left
           ·simp only [Act.put,List.setIfInBounds_toArray,List.set_cons_zero,List.set_cons_succ,i64_w,i32_w]
            rfl
           refine pure_ (i:=3) (N:=some 41) (v:=?_) (a':=?_) #[false,true,false,true,false,false,false,false,false,false,false,false,false,false,false,false,false,false,false,false,false] rfl rfl (any_of HT_.out (by kernel_rfl)) (fun _ _ _ h => h) (Or.inl ⟨by rfl,?_⟩) ?_ ?_
           rotate_left
           ·intro w'
            go_simp
            with_reducible rfl
           rotate_left
           ·simp only [Act.put,List.setIfInBounds_toArray,List.set_cons_zero,List.set_cons_succ,i64_w,i32_w]
            rfl
           refine pure_ (i:=7) (N:=some 45) (v:=?_) (a':=?_) #[false,true,false,true,false,false,false,true,false,false,false,false,false,false,false,false,false,false,false,false,false] rfl rfl (any_of HT_.out (by kernel_rfl)) (fun _ _ _ h => h) (Or.inl ⟨by rfl,?_⟩) ?_ ?_
           rotate_left
           ·intro w'
            go_simp
            with_reducible rfl
           rotate_left
           ·simp only [Act.put,List.setIfInBounds_toArray,List.set_cons_zero,List.set_cons_succ,i64_w,i32_w]
            rfl
           refine take_ (i:=0) (N:=some 38) (v:=?_) (a':=?_) #[true,true,false,true,false,false,false,true,false,false,false,false,false,false,false,false,false,false,false,false,false] rfl rfl (take_ofW HT_.out HW_.out (by kernel_rfl)) (fun _ _ _ h => h) (Or.inl ⟨by rfl,?_⟩) hHeld ?_ ?_
           rotate_left
           ·rintro w' ⟨s0,s1,s2,s3,s4,s5,s6,s7,s8⟩
            go_simp
            with_reducible rfl
           rotate_left
           ·simp only [Act.put,List.setIfInBounds_toArray,List.set_cons_zero,List.set_cons_succ,i64_w,i32_w]
            rfl
           refine take_ (i:=2) (N:=some 40) (v:=?_) (a':=?_) #[true,true,true,true,false,false,false,true,false,false,false,false,false,false,false,false,false,false,false,false,false] rfl rfl (take_ofW HT_.out HW_.out (by kernel_rfl)) (fun _ _ _ h => h) (Or.inl ⟨by rfl,?_⟩) hHeld ?_ ?_
           rotate_left
           ·rintro w' ⟨s0,s1,s2,s3,s4,s5,s6,s7,s8⟩
            go_simp
            with_reducible rfl
           rotate_left
           ·simp only [Act.put,List.setIfInBounds_toArray,List.set_cons_zero,List.set_cons_succ,i64_w,i32_w]
            rfl
           refine pure_ (i:=4) (N:=some 42) (v:=?_) (a':=?_) #[true,true,true,true,true,false,false,true,false,false,false,false,false,false,false,false,false,false,false,false,false] rfl rfl (any_of HT_.out (by kernel_rfl)) (fun _ _ _ h => h) (Or.inl ⟨by rfl,?_⟩) ?_ ?_
           rotate_left
           ·intro w'
            go_simp
            with_reducible rfl
           rotate_left
           ·simp only [Act.put,List.setIfInBounds_toArray,List.set_cons_zero,List.set_cons_succ,i64_w,i32_w]
            rfl
           refine pure_ (i:=5) (N:=some 43) (v:=?_) (a':=?_) #[true,true,true,true,true,true,false,true,false,false,false,false,false,false,false,false,false,false,false,false,false] rfl rfl (any_of HT_.out (by kernel_rfl)) (fun _ _ _ h => h) (Or.inl ⟨by rfl,?_⟩) ?_ ?_
           rotate_left
           ·intro w'
            go_simp
            with_reducible rfl
           rotate_left
           ·simp only [Act.put,List.setIfInBounds_toArray,List.set_cons_zero,List.set_cons_succ,i64_w,i32_w]
            rfl
           refine take_ (i:=6) (N:=some 44) (v:=?_) (a':=?_) #[true,true,true,true,true,true,true,true,false,false,false,false,false,false,false,false,false,false,false,false,false] rfl rfl (take_ofW HT_.out HW_.out (by kernel_rfl)) (fun _ _ _ h => h) (Or.inl ⟨by rfl,?_⟩) hHeld ?_ ?_
           rotate_left
           ·rintro w' ⟨s0,s1,s2,s3,s4,s5,s6,s7,s8⟩
            go_simp
            with_reducible rfl
           rotate_left
           ·simp only [Act.put,List.setIfInBounds_toArray,List.set_cons_zero,List.set_cons_succ,i64_w,i32_w]
            rfl
           refine pure_ (i:=8) (N:=some 46) (v:=?_) (a':=?_) #[true,true,true,true,true,true,true,true,true,false,false,false,false,false,false,false,false,false,false,false,false] rfl rfl (any_of HT_.out (by kernel_rfl)) (fun _ _ _ h => h) (Or.inl ⟨by rfl,?_⟩) ?_ ?_
           rotate_left
           ·intro w'
            go_simp
            with_reducible rfl
           rotate_left
           ·simp only [Act.put,List.setIfInBounds_toArray,List.set_cons_zero,List.set_cons_succ,i64_w,i32_w]
            rfl
           refine pure_ (i:=9) (N:=some 47) (v:=?_) (a':=?_) #[true,true,true,true,true,true,true,true,true,true,false,false,false,false,false,false,false,false,false,false,false] rfl rfl (any_of HT_.out (by kernel_rfl)) (fun _ _ _ h => h) (Or.inl ⟨by rfl,?_⟩) ?_ ?_
           rotate_left
           ·intro w'
            go_simp
            with_reducible rfl
           rotate_left
           ·simp only [Act.put,List.setIfInBounds_toArray,List.set_cons_zero,List.set_cons_succ,i64_w,i32_w]
            rfl
           refine pure_ (i:=10) (N:=some 48) (v:=undef) (a':=?_) #[true,true,true,true,true,true,true,true,true,true,true,false,false,false,false,false,false,false,false,false,false] rfl rfl (any_of HT_.out (by kernel_rfl)) (fun _ _ _ h => h) (Or.inr ⟨by rfl,rfl⟩) ?_ ?_
           rotate_left
           ·simp only [Act.put,List.setIfInBounds_toArray,List.set_cons_zero,List.set_cons_succ,i64_w,i32_w]
            rfl
           refine pure_ (i:=11) (N:=some 49) (v:=undef) (a':=?_) #[true,true,true,true,true,true,true,true,true,true,true,true,false,false,false,false,false,false,false,false,false] rfl rfl (any_of HT_.out (by kernel_rfl)) (fun _ _ _ h => h) (Or.inr ⟨by rfl,rfl⟩) ?_ ?_
           rotate_left
           ·simp only [Act.put,List.setIfInBounds_toArray,List.set_cons_zero,List.set_cons_succ,i64_w,i32_w]
            rfl
           refine pure_ (i:=12) (N:=some 50) (v:=undef) (a':=?_) #[true,true,true,true,true,true,true,true,true,true,true,true,true,false,false,false,false,false,false,false,false] rfl rfl (any_of HT_.out (by kernel_rfl)) (fun _ _ _ h => h) (Or.inr ⟨by rfl,rfl⟩) ?_ ?_
           rotate_left
           ·simp only [Act.put,List.setIfInBounds_toArray,List.set_cons_zero,List.set_cons_succ,i64_w,i32_w]
            rfl
           refine pure_ (i:=13) (N:=some 51) (v:=undef) (a':=?_) #[true,true,true,true,true,true,true,true,true,true,true,true,true,true,false,false,false,false,false,false,false] rfl rfl (any_of HT_.out (by kernel_rfl)) (fun _ _ _ h => h) (Or.inr ⟨by rfl,rfl⟩) ?_ ?_
           rotate_left
           ·simp only [Act.put,List.setIfInBounds_toArray,List.set_cons_zero,List.set_cons_succ,i64_w,i32_w]
            rfl
           refine pure_ (i:=14) (N:=some 52) (v:=undef) (a':=?_) #[true,true,true,true,true,true,true,true,true,true,true,true,true,true,true,false,false,false,false,false,false] rfl rfl (any_of HT_.out (by kernel_rfl)) (fun _ _ _ h => h) (Or.inr ⟨by rfl,rfl⟩) ?_ ?_
           rotate_left
           ·simp only [Act.put,List.setIfInBounds_toArray,List.set_cons_zero,List.set_cons_succ,i64_w,i32_w]
            rfl
           refine pure_ (i:=15) (N:=some 53) (v:=undef) (a':=?_) #[true,true,true,true,true,true,true,true,true,true,true,true,true,true,true,true,false,false,false,false,false] rfl rfl (any_of HT_.out (by kernel_rfl)) (fun _ _ _ h => h) (Or.inr ⟨by rfl,rfl⟩) ?_ ?_
           rotate_left
           ·simp only [Act.put,List.setIfInBounds_toArray,List.set_cons_zero,List.set_cons_succ,i64_w,i32_w]
            rfl
           refine pure_ (i:=16) (N:=some 54) (v:=undef) (a':=?_) #[true,true,true,true,true,true,true,true,true,true,true,true,true,true,true,true,true,false,false,false,false] rfl rfl (any_of HT_.out (by kernel_rfl)) (fun _ _ _ h => h) (Or.inr ⟨by rfl,rfl⟩) ?_ ?_
           rotate_left
           ·simp only [Act.put,List.setIfInBounds_toArray,List.set_cons_zero,List.set_cons_succ,i64_w,i32_w]
            rfl
           refine pure_ (i:=17) (N:=some 55) (v:=undef) (a':=?_) #[true,true,true,true,true,true,true,true,true,true,true,true,true,true,true,true,true,true,false,false,false] rfl rfl (any_of HT_.out (by kernel_rfl)) (fun _ _ _ h => h) (Or.inr ⟨by rfl,rfl⟩) ?_ ?_
           rotate_left
           ·simp only [Act.put,List.setIfInBounds_toArray,List.set_cons_zero,List.set_cons_succ,i64_w,i32_w]
            rfl
           refine pure_ (i:=18) (N:=some 56) (v:=?_) (a':=?_) #[true,true,true,true,true,true,true,true,true,true,true,true,true,true,true,true,true,true,true,false,false] rfl rfl (any_of HT_.out (by kernel_rfl)) (fun _ _ _ h => h) (Or.inl ⟨by rfl,?_⟩) ?_ ?_
           rotate_left
           ·intro w'
            go_simp
            with_reducible rfl
           rotate_left
           ·simp only [Act.put,List.setIfInBounds_toArray,List.set_cons_zero,List.set_cons_succ,i64_w,i32_w]
            rfl
           refine one_ (i:=19) (N:=none) #[true,true,true,true,true,true,true,true,true,true,true,true,true,true,true,true,true,true,true,true,false] rfl rfl (one_of HT_.out (by kernel_rfl)) (by decide) (fun K hK => ?_)
           have hs81:w80.cell? ⟨gb161,0,none⟩=some (.int .i64 0):=(blk_cell BK161.out 0).trans rfl
           have hfs81:=blk_frozen BK161.out 0
           have hns81_0:=NB160_161.out
           have hns81_2:=NB169_161.out
           have hms81_0:=NB161_160.out
           have hms81_2:=NB161_169.out
           have hs82:w80.cell? ⟨gb161,1,none⟩=some (.int .i64 0):=(blk_cell BK161.out 1).trans rfl
           have hfs82:=blk_frozen BK161.out 1
           have hns82_0:=NB160_161.out
           have hns82_2:=NB169_161.out
           have hms82_0:=NB161_160.out
           have hms82_2:=NB161_169.out
           have hs83:w80.cell? ⟨gb161,2,none⟩=some (.slice none 0 0):=(blk_cell BK161.out 2).trans rfl
           have hfs83:=blk_frozen BK161.out 2
           have hns83_0:=NB160_161.out
           have hns83_2:=NB169_161.out
           have hms83_0:=NB161_160.out
           have hms83_2:=NB161_169.out
           refine skip_ (w1:=?_) (by rfl) rfl ?_ ?_
           rotate_left
           ·go_simp
            rfl
           refine hK.out _ _ ⟨((cell_far (p:=⟨gb161,_,none⟩) NB169_161.out _).trans (((cell_far (p:=⟨gb161,_,none⟩) NB169_161.out _).trans (((cell_far (p:=⟨gb161,_,none⟩) NB169_161.out _).trans (hHeld.1)))))),((cell_far (p:=⟨gb161,_,none⟩) NB169_161.out _).trans (((cell_far (p:=⟨gb161,_,none⟩) NB169_161.out _).trans (((cell_far (p:=⟨gb161,_,none⟩) NB169_161.out _).trans (hHeld.2.1)))))),((cell_far (p:=⟨gb161,_,none⟩) NB169_161.out _).trans (((cell_far (p:=⟨gb161,_,none⟩) NB169_161.out _).trans (((cell_far (p:=⟨gb161,_,none⟩) NB169_161.out _).trans (hHeld.2.2.1)))))),((cell_far (p:=⟨gb161,_,none⟩) NB160_161.out _).trans (((cell_far (p:=⟨gb161,_,none⟩) NB160_161.out _).trans (((cell_far (p:=⟨gb161,_,none⟩) NB160_161.out _).trans (hHeld.2.2.2.1)))))),((cell_far (p:=⟨gb161,_,none⟩) NB160_161.out _).trans (((cell_far (p:=⟨gb161,_,none⟩) NB160_161.out _).trans (((cell_far (p:=⟨gb161,_,none⟩) NB160_161.out _).trans (hHeld.2.2.2.2.1)))))),((cell_far (p:=⟨gb161,_,none⟩) NB160_161.out _).trans (((cell_far (p:=⟨gb161,_,none⟩) NB160_161.out _).trans (((cell_far (p:=⟨gb161,_,none⟩) NB160_161.out _).trans (hHeld.2.2.2.2.2.1)))))),((cell_far (p:=⟨gb161,_,none⟩) (by first|exact Nat.ne_of_lt (Nat.lt_of_lt_of_le (by have:=World.block_lt_of_cell? _ _ hw187_0;first|rwa [add_block] at this|exact this) GW161.out)|(rw [add_block];exact Nat.ne_of_lt (Nat.lt_of_lt_of_le (by have:=World.block_lt_of_cell? _ _ hw187_0;first|rwa [add_block] at this|exact this) GW161.out))|(show (Addr.add _ _).block ≠ _;rw [add_block];exact Nat.ne_of_lt (Nat.lt_of_lt_of_le (by have:=World.block_lt_of_cell? _ _ hw187_0;first|rwa [add_block] at this|exact this) GW161.out))|(dsimp only;exact Nat.ne_of_lt (Nat.lt_of_lt_of_le (by have:=World.block_lt_of_cell? _ _ hw187_0;first|rwa [add_block] at this|exact this) GW161.out))) _).trans (((cell_far (p:=⟨gb161,_,none⟩) (by first|exact Nat.ne_of_lt (Nat.lt_of_lt_of_le (by have:=World.block_lt_of_cell? _ _ hw187_0;first|rwa [add_block] at this|exact this) GW161.out)|(rw [add_block];exact Nat.ne_of_lt (Nat.lt_of_lt_of_le (by have:=World.block_lt_of_cell? _ _ hw187_0;first|rwa [add_block] at this|exact this) GW161.out))|(show (Addr.add _ _).block ≠ _;rw [add_block];exact Nat.ne_of_lt (Nat.lt_of_lt_of_le (by have:=World.block_lt_of_cell? _ _ hw187_0;first|rwa [add_block] at this|exact this) GW161.out))|(dsimp only;exact Nat.ne_of_lt (Nat.lt_of_lt_of_le (by have:=World.block_lt_of_cell? _ _ hw187_0;first|rwa [add_block] at this|exact this) GW161.out))) _).trans (((cell_far (p:=⟨gb161,_,none⟩) (by first|exact Nat.ne_of_lt (Nat.lt_of_lt_of_le (by have:=World.block_lt_of_cell? _ _ hw187_0;first|rwa [add_block] at this|exact this) GW161.out)|(rw [add_block];exact Nat.ne_of_lt (Nat.lt_of_lt_of_le (by have:=World.block_lt_of_cell? _ _ hw187_0;first|rwa [add_block] at this|exact this) GW161.out))|(show (Addr.add _ _).block ≠ _;rw [add_block];exact Nat.ne_of_lt (Nat.lt_of_lt_of_le (by have:=World.block_lt_of_cell? _ _ hw187_0;first|rwa [add_block] at this|exact this) GW161.out))|(dsimp only;exact Nat.ne_of_lt (Nat.lt_of_lt_of_le (by have:=World.block_lt_of_cell? _ _ hw187_0;first|rwa [add_block] at this|exact this) GW161.out))) _).trans (hHeld.2.2.2.2.2.2.1)))))),((cell_far (p:=⟨gb161,_,none⟩) (by first|exact Nat.ne_of_lt (Nat.lt_of_lt_of_le (by have:=World.block_lt_of_cell? _ _ hw187_1;first|rwa [add_block] at this|exact this) GW161.out)|(rw [add_block];exact Nat.ne_of_lt (Nat.lt_of_lt_of_le (by have:=World.block_lt_of_cell? _ _ hw187_1;first|rwa [add_block] at this|exact this) GW161.out))|(show (Addr.add _ _).block ≠ _;rw [add_block];exact Nat.ne_of_lt (Nat.lt_of_lt_of_le (by have:=World.block_lt_of_cell? _ _ hw187_1;first|rwa [add_block] at this|exact this) GW161.out))|(dsimp only;exact Nat.ne_of_lt (Nat.lt_of_lt_of_le (by have:=World.block_lt_of_cell? _ _ hw187_1;first|rwa [add_block] at this|exact this) GW161.out))) _).trans (((cell_far (p:=⟨gb161,_,none⟩) (by first|exact Nat.ne_of_lt (Nat.lt_of_lt_of_le (by have:=World.block_lt_of_cell? _ _ hw187_1;first|rwa [add_block] at this|exact this) GW161.out)|(rw [add_block];exact Nat.ne_of_lt (Nat.lt_of_lt_of_le (by have:=World.block_lt_of_cell? _ _ hw187_1;first|rwa [add_block] at this|exact this) GW161.out))|(show (Addr.add _ _).block ≠ _;rw [add_block];exact Nat.ne_of_lt (Nat.lt_of_lt_of_le (by have:=World.block_lt_of_cell? _ _ hw187_1;first|rwa [add_block] at this|exact this) GW161.out))|(dsimp only;exact Nat.ne_of_lt (Nat.lt_of_lt_of_le (by have:=World.block_lt_of_cell? _ _ hw187_1;first|rwa [add_block] at this|exact this) GW161.out))) _).trans (((cell_far (p:=⟨gb161,_,none⟩) (by first|exact Nat.ne_of_lt (Nat.lt_of_lt_of_le (by have:=World.block_lt_of_cell? _ _ hw187_1;first|rwa [add_block] at this|exact this) GW161.out)|(rw [add_block];exact Nat.ne_of_lt (Nat.lt_of_lt_of_le (by have:=World.block_lt_of_cell? _ _ hw187_1;first|rwa [add_block] at this|exact this) GW161.out))|(show (Addr.add _ _).block ≠ _;rw [add_block];exact Nat.ne_of_lt (Nat.lt_of_lt_of_le (by have:=World.block_lt_of_cell? _ _ hw187_1;first|rwa [add_block] at this|exact this) GW161.out))|(dsimp only;exact Nat.ne_of_lt (Nat.lt_of_lt_of_le (by have:=World.block_lt_of_cell? _ _ hw187_1;first|rwa [add_block] at this|exact this) GW161.out))) _).trans (hHeld.2.2.2.2.2.2.2.1)))))),((cell_far (p:=⟨gb161,_,none⟩) (by first|exact Nat.ne_of_lt (Nat.lt_of_lt_of_le (by have:=World.block_lt_of_cell? _ _ hw187_2;first|rwa [add_block] at this|exact this) GW161.out)|(rw [add_block];exact Nat.ne_of_lt (Nat.lt_of_lt_of_le (by have:=World.block_lt_of_cell? _ _ hw187_2;first|rwa [add_block] at this|exact this) GW161.out))|(show (Addr.add _ _).block ≠ _;rw [add_block];exact Nat.ne_of_lt (Nat.lt_of_lt_of_le (by have:=World.block_lt_of_cell? _ _ hw187_2;first|rwa [add_block] at this|exact this) GW161.out))|(dsimp only;exact Nat.ne_of_lt (Nat.lt_of_lt_of_le (by have:=World.block_lt_of_cell? _ _ hw187_2;first|rwa [add_block] at this|exact this) GW161.out))) _).trans (((cell_far (p:=⟨gb161,_,none⟩) (by first|exact Nat.ne_of_lt (Nat.lt_of_lt_of_le (by have:=World.block_lt_of_cell? _ _ hw187_2;first|rwa [add_block] at this|exact this) GW161.out)|(rw [add_block];exact Nat.ne_of_lt (Nat.lt_of_lt_of_le (by have:=World.block_lt_of_cell? _ _ hw187_2;first|rwa [add_block] at this|exact this) GW161.out))|(show (Addr.add _ _).block ≠ _;rw [add_block];exact Nat.ne_of_lt (Nat.lt_of_lt_of_le (by have:=World.block_lt_of_cell? _ _ hw187_2;first|rwa [add_block] at this|exact this) GW161.out))|(dsimp only;exact Nat.ne_of_lt (Nat.lt_of_lt_of_le (by have:=World.block_lt_of_cell? _ _ hw187_2;first|rwa [add_block] at this|exact this) GW161.out))) _).trans (((cell_far (p:=⟨gb161,_,none⟩) (by first|exact Nat.ne_of_lt (Nat.lt_of_lt_of_le (by have:=World.block_lt_of_cell? _ _ hw187_2;first|rwa [add_block] at this|exact this) GW161.out)|(rw [add_block];exact Nat.ne_of_lt (Nat.lt_of_lt_of_le (by have:=World.block_lt_of_cell? _ _ hw187_2;first|rwa [add_block] at this|exact this) GW161.out))|(show (Addr.add _ _).block ≠ _;rw [add_block];exact Nat.ne_of_lt (Nat.lt_of_lt_of_le (by have:=World.block_lt_of_cell? _ _ hw187_2;first|rwa [add_block] at this|exact this) GW161.out))|(dsimp only;exact Nat.ne_of_lt (Nat.lt_of_lt_of_le (by have:=World.block_lt_of_cell? _ _ hw187_2;first|rwa [add_block] at this|exact this) GW161.out))) _).trans (hHeld.2.2.2.2.2.2.2.2))))))⟩ (fun hHeld => ?_)
           clear hK K
           refine pure_ (i:=20) (N:=some 9) (v:=?_) (a':=?_) #[true,true,true,true,true,true,true,true,true,true,true,true,true,true,true,true,true,true,true,true,true] rfl rfl (any_of HT_.out (by kernel_rfl)) (fun _ _ _ h => h) (Or.inl ⟨by rfl,?_⟩) ?_ ?_
           rotate_left
           ·intro w'
            go_simp
            with_reducible rfl
           rotate_left
           ·simp only [Act.put,List.setIfInBounds_toArray,List.set_cons_zero,List.set_cons_succ,i64_w,i32_w]
            rfl
           refine done_ (done_of HT_.out (by kernel_rfl)) ?_
           try go_wp2
           refine bodyPost_ret (results_ct rfl _ _ gb161 28 #[.int .i64 a0_0,.int .i64 a0_1,.slice Ao77 y184.length co77] (0,0) _ rfl (by (with_reducible repeat (first|refine blk_drewN ?_ _|refine blk_drew ?_|refine blk_alloc ?_ _));refine blk_put (cs:=#[.int .i64 a0_0,.int .i64 a0_1,.slice none 0 0]) ?_ 2 _ rfl;(with_reducible repeat (first|refine blk_drewN ?_ _|refine blk_drew ?_|refine blk_alloc ?_ _));refine blk_put (cs:=#[.int .i64 a0_0,.int .i64 0,.slice none 0 0]) ?_ 1 _ rfl;(with_reducible repeat (first|refine blk_drewN ?_ _|refine blk_drew ?_|refine blk_alloc ?_ _));refine blk_put (cs:=#[.int .i64 0,.int .i64 0,.slice none 0 0]) ?_ 0 _ rfl;(with_reducible repeat (first|refine blk_drewN ?_ _|refine blk_drew ?_|refine blk_alloc ?_ _));exact BK161.out) Try.underlying28 rfl (by kernel_rfl)) rfl ?_
           exact ⟨_,by first|rfl|(simp [errW_none,errW_some] <;> rfl)|(simp only [← hji24];first|rfl|(simp [errW_none,errW_some] <;> rfl))|(simp [*,errW_none,errW_some] <;> rfl),by (with_reducible repeat (first|apply Kd.R_alloc|apply Kd.R_drewN|apply Kd.R_drew));exact Kd.R_mono (Kd.R_far (p:=⟨gb161,2,none⟩) (Kd.R_far (p:=⟨gb161,1,none⟩) (Kd.R_far (p:=⟨gb161,0,none⟩) (Kd.R_types HO186.out BK161.out (by decide)) (fun _ hk => hk.2) (.int .i64 a0_0)) (fun _ hk => hk.2) (.int .i64 a0_1)) (fun _ hk => hk.2) (.slice Ao77 y184.length co77)) (fun _ hk => trivial),by repeat (first|(with_reducible first|exact HB.out|apply below_alloc|apply pw_below_drewN|apply below_drew1|refine below_set ?_ GE160.out|refine below_set ?_ GE161.out|refine below_set ?_ GE169.out)|exact HB.out)⟩
         ·rw [if_neg c28] at H
          exact absurd H (by simp)
        ·rw [if_neg c27] at H
         exact absurd H (by simp)
       ·rw [if_neg c26] at H
        exact absurd H (by simp)
      ·rw [if_neg c25] at H
       exact absurd H (by simp)
     ·rw [if_neg c23] at H
      exact absurd H (by simp)
    ·rw [if_neg c22] at H
     exact absurd H (by simp)
   ·rw [if_neg c21] at H
    exact absurd H (by simp)
 ·replace c7:=Bool.eq_false_iff.mpr c7
  subst c7
  have H1:((spec_l12Copy.f a0_0 a0_1 l0_2).bind fun bt189 => (some (bt189.1,bt189.2.1,bt189.2.2,false)))=some (r1,r2,r3,r4):=by rw [if_neg (show ¬ (false=true) by decide)] at H;exact H
  clear H
  have H:=H1
  clear H1
  replace H:=Option.bind_eq_some_iff.mp H
  obtain ⟨⟨t189,t190,t191⟩,A840,H⟩:=H
  replace H:(some (t189,t190,t191,false))=some (r1,r2,r3,r4):=H
  have A84:=Am5_ A840
  clear A840
  simp only [Option.some.injEq,Prod.mk.injEq] at H
  obtain ⟨rfl,rfl,rfl,rfl⟩:=H
  go_enter Try.func31,Try.ntmps31
  go_wp2_with (first|((with_reducible refine gate_dst (N:=4) rfl ?_);refine box_event ?hg (N:=4) ?hd (cs:=#[.int .i64 a0_0,.int .i64 a0_1,.slice A0_2 l0_2.length c0_2]) (t:=28) ?hr ?_;(case hd => rfl);(case hg => rfl);(case hr => first|(go_simp;done)|(go_simp;rfl));intro gb160 hg w85 hbox hb;have n0_:=Am5_ (below_step (by repeat (first|(with_reducible first|exact HB.out|apply below_alloc|apply pw_below_drewN|apply below_drew1)|exact HB.out)) hb);have n1_:=Am5_ (hbox);have n2_:=Am5_ ((by rw [hg];exact (below_size (by repeat (first|(with_reducible first|exact HB.out|apply below_alloc|apply pw_below_drewN|apply below_drew1)|exact HB.out))):w.heap.size ≤ gb160));have n3_:=Am5_ ((by rw [hg];exact (below_size (by repeat (first|(with_reducible first|exact HB.out|apply below_alloc|apply pw_below_drewN|apply below_drew1)|exact HB.out))):w.heap.size ≤ gb160));clear HB;have HB:=n0_;have BK160:=n1_;have GW160:=n2_;have GE160:=n3_;clear n0_ n1_ n2_ n3_;clear hb hbox hg)|((with_reducible refine gate_dst (N:=8) rfl ?_);refine box_event ?hg (N:=8) ?hd (cs:=#[.int .i64 0,.int .i64 0,.slice none 0 0]) (t:=28) ?hr ?_;(case hd => rfl);(case hg => rfl);(case hr => first|(go_simp;done)|(go_simp;rfl));intro gb161 hg w86 hbox hb;have n0_:=Am5_ (blk_below (g:=gb160) (o:=.cells #[.int .i64 a0_0,.int .i64 a0_1,.slice A0_2 l0_2.length c0_2] 28 (0,0)) (by (with_reducible repeat (first|refine blk_drewN ?_ _|refine blk_drew ?_|refine blk_alloc ?_ _));exact BK160.out) hb);have n1_:=Am5_ (below_step (by repeat (first|(with_reducible first|exact HB.out|apply below_alloc|apply pw_below_drewN|apply below_drew1|refine below_set ?_ GE160.out)|exact HB.out)) hb);have n2_:=Am5_ (hbox);have n3_:=Am5_ ((by rw [hg];exact (below_size (by repeat (first|(with_reducible first|exact HB.out|apply below_alloc|apply pw_below_drewN|apply below_drew1|refine below_set ?_ GE160.out)|exact HB.out))):w.heap.size ≤ gb161));have n4_:=Am5_ ((by rw [hg];exact (below_size (by repeat (first|(with_reducible first|exact HB.out|apply below_alloc|apply pw_below_drewN|apply below_drew1|refine below_set ?_ GE160.out)|exact HB.out))):w.heap.size ≤ gb161));have n5_:=Am5_ ((by rw [hg];exact Nat.ne_of_lt (blk_lt (g:=gb160) (o:=.cells #[.int .i64 a0_0,.int .i64 a0_1,.slice A0_2 l0_2.length c0_2] 28 (0,0)) (by (with_reducible repeat (first|refine blk_drewN ?_ _|refine blk_drew ?_|refine blk_alloc ?_ _));exact BK160.out)):gb160 ≠ gb161));have n6_:=Am5_ ((by rw [hg];exact Nat.ne_of_gt (blk_lt (g:=gb160) (o:=.cells #[.int .i64 a0_0,.int .i64 a0_1,.slice A0_2 l0_2.length c0_2] 28 (0,0)) (by (with_reducible repeat (first|refine blk_drewN ?_ _|refine blk_drew ?_|refine blk_alloc ?_ _));exact BK160.out)):gb161 ≠ gb160));clear BK160;clear HB;have BK160:=n0_;have HB:=n1_;have BK161:=n2_;have GW161:=n3_;have GE161:=n4_;have NB160_161:=n5_;have NB161_160:=n6_;clear n0_ n1_ n2_ n3_ n4_ n5_ n6_;clear hb hbox hg;have hnb87:=NB160_161.out;have hnc87:=NB161_160.out;have hcz88_0:w86.cell? ⟨gb160,0,none⟩=some (.int .i64 a0_0):=(blk_cell BK160.out 0).trans rfl;have hcz88_1:w86.cell? ⟨gb160,1,none⟩=some (.int .i64 a0_1):=(blk_cell BK160.out 1).trans rfl;have hcz88_2:w86.cell? ⟨gb160,2,none⟩=some (.slice A0_2 l0_2.length c0_2):=(blk_cell BK160.out 2).trans rfl;have hfz88_0:=blk_frozen BK160.out 0;have hfz88_1:=blk_frozen BK160.out 1;have hfz88_2:=blk_frozen BK160.out 2)|((with_reducible refine gate_callee (f:=100) rfl ?_);refine goesL_ (some 14) rfl rfl Try.func100 (by kernel_rfl) rfl #[.agg #[.int .i64 a0_0,.int .i64 a0_1,.slice A0_2 l0_2.length c0_2],.int .i64 a1] rfl (by (try simp only [List.map_toArray,List.map_cons,List.map_nil]);first|done|rfl|(simp only [List.length_drop,List.length_take];rfl)) ?_;(with_reducible refine (spec_FindChallenge.calls k a0_0 a0_1 _ _ l0_2 a1 t162 _ ?side1 ?side2 A5.out).mono ?_);(case side1 => repeat (first|exact (Kd.C_below HR0_2.out HB.out)|(with_reducible refine Kd.C_alloc ?_ _)|(with_reducible refine Kd.C_drewN ?_ _)|(with_reducible refine Kd.C_drew ?_)));(case side2 => exact HC0_2.out);rintro e w89 ⟨rfl,hb⟩;refine ⟨_,rfl,?_⟩;have n0_:=Am5_ (blk_below (g:=gb160) (o:=.cells #[.int .i64 a0_0,.int .i64 a0_1,.slice A0_2 l0_2.length c0_2] 28 (0,0)) (by (with_reducible repeat (first|refine blk_drewN ?_ _|refine blk_drew ?_|refine blk_alloc ?_ _));exact BK160.out) hb);have n1_:=Am5_ (blk_below (g:=gb161) (o:=.cells #[.int .i64 0,.int .i64 0,.slice none 0 0] 28 (0,0)) (by (with_reducible repeat (first|refine blk_drewN ?_ _|refine blk_drew ?_|refine blk_alloc ?_ _));exact BK161.out) hb);have n2_:=Am5_ (below_step (by repeat (first|(with_reducible first|exact HB.out|apply below_alloc|apply pw_below_drewN|apply below_drew1|refine below_set ?_ GE160.out|refine below_set ?_ GE161.out)|exact HB.out)) hb);clear BK160;clear BK161;clear HB;have BK160:=n0_;have BK161:=n1_;have HB:=n2_;clear n0_ n1_ n2_;(try clear hb);(try clear hb2);(try clear hk);(try clear hi);have hcz90_0:w89.cell? ⟨gb160,0,none⟩=some (.int .i64 a0_0):=(blk_cell BK160.out 0).trans rfl;have hcz90_1:w89.cell? ⟨gb160,1,none⟩=some (.int .i64 a0_1):=(blk_cell BK160.out 1).trans rfl;have hcz90_2:w89.cell? ⟨gb160,2,none⟩=some (.slice A0_2 l0_2.length c0_2):=(blk_cell BK160.out 2).trans rfl;have hfz90_0:=blk_frozen BK160.out 0;have hfz90_1:=blk_frozen BK160.out 1;have hfz90_2:=blk_frozen BK160.out 2)|((with_reducible refine gate_callee (f:=86) rfl ?_);refine goesL_ (some 16) rfl rfl Try.func86 (by kernel_rfl) rfl #[.agg #[.int .i64 a0_0,.int .i64 a0_1,.slice A0_2 l0_2.length c0_2]] rfl (by (try simp only [List.map_toArray,List.map_cons,List.map_nil]);first|done|rfl|(simp only [List.length_drop,List.length_take];rfl)) ?_;(with_reducible refine (spec_IsValidBook.calls k a0_0 a0_1 _ _ l0_2 false _ ?side1 ?side2 A6.out).mono ?_);(case side1 => repeat (first|exact (Kd.C_below HR0_2.out HB.out)|(with_reducible refine Kd.C_alloc ?_ _)|(with_reducible refine Kd.C_drewN ?_ _)|(with_reducible refine Kd.C_drew ?_)));(case side2 => exact HC0_2.out);rintro e w91 ⟨rfl,hb⟩;refine ⟨_,rfl,?_⟩;have n0_:=Am5_ (blk_below (g:=gb160) (o:=.cells #[.int .i64 a0_0,.int .i64 a0_1,.slice A0_2 l0_2.length c0_2] 28 (0,0)) (by (with_reducible repeat (first|refine blk_drewN ?_ _|refine blk_drew ?_|refine blk_alloc ?_ _));exact BK160.out) hb);have n1_:=Am5_ (blk_below (g:=gb161) (o:=.cells #[.int .i64 0,.int .i64 0,.slice none 0 0] 28 (0,0)) (by (with_reducible repeat (first|refine blk_drewN ?_ _|refine blk_drew ?_|refine blk_alloc ?_ _));exact BK161.out) hb);have n2_:=Am5_ (below_step (by repeat (first|(with_reducible first|exact HB.out|apply below_alloc|apply pw_below_drewN|apply below_drew1|refine below_set ?_ GE160.out|refine below_set ?_ GE161.out)|exact HB.out)) hb);clear BK160;clear BK161;clear HB;have BK160:=n0_;have BK161:=n1_;have HB:=n2_;clear n0_ n1_ n2_;(try clear hb);(try clear hb2);(try clear hk);(try clear hi);have hcz92_0:w91.cell? ⟨gb160,0,none⟩=some (.int .i64 a0_0):=(blk_cell BK160.out 0).trans rfl;have hcz92_1:w91.cell? ⟨gb160,1,none⟩=some (.int .i64 a0_1):=(blk_cell BK160.out 1).trans rfl;have hcz92_2:w91.cell? ⟨gb160,2,none⟩=some (.slice A0_2 l0_2.length c0_2):=(blk_cell BK160.out 2).trans rfl;have hfz92_0:=blk_frozen BK160.out 0;have hfz92_1:=blk_frozen BK160.out 1;have hfz92_2:=blk_frozen BK160.out 2)|((with_reducible refine gate_callee (f:=87) rfl ?_);refine goesL_ (some 23) rfl rfl Try.func87 (by kernel_rfl) rfl #[.agg #[.int .i64 a0_0,.int .i64 a0_1,.slice A0_2 l0_2.length c0_2]] rfl (by (try simp only [List.map_toArray,List.map_cons,List.map_nil]);first|done|rfl|(simp only [List.length_drop,List.length_take];rfl)) ?_;(with_reducible refine (spec_l12Copy.calls a0_0 a0_1 _ _ l0_2 t189 t190 t191 _ ?side1 ?side2 A84.out).mono ?_);(case side1 => repeat (first|exact (Kd.C_below HR0_2.out HB.out)|(with_reducible refine Kd.C_alloc ?_ _)|(with_reducible refine Kd.C_drewN ?_ _)|(with_reducible refine Kd.C_drew ?_)));(case side2 => exact HC0_2.out);rintro e w93 ⟨v192,rfl,ho0,hb⟩;refine ⟨_,rfl,?_⟩;have n0_:=Am5_ (Kd.R_lower ho0 (below_size (by repeat (first|(with_reducible first|exact HB.out|apply below_alloc|apply pw_below_drewN|apply below_drew1|refine below_set ?_ GE160.out|refine below_set ?_ GE161.out)|exact HB.out))));have n1_:=Am5_ (blk_below (g:=gb160) (o:=.cells #[.int .i64 a0_0,.int .i64 a0_1,.slice A0_2 l0_2.length c0_2] 28 (0,0)) (by (with_reducible repeat (first|refine blk_drewN ?_ _|refine blk_drew ?_|refine blk_alloc ?_ _));exact BK160.out) hb);have n2_:=Am5_ (blk_below (g:=gb161) (o:=.cells #[.int .i64 0,.int .i64 0,.slice none 0 0] 28 (0,0)) (by (with_reducible repeat (first|refine blk_drewN ?_ _|refine blk_drew ?_|refine blk_alloc ?_ _));exact BK161.out) hb);have n3_:=Am5_ (below_step (by repeat (first|(with_reducible first|exact HB.out|apply below_alloc|apply pw_below_drewN|apply below_drew1|refine below_set ?_ GE160.out|refine below_set ?_ GE161.out)|exact HB.out)) hb);clear BK160;clear BK161;clear HB;have HO193:=n0_;have BK160:=n1_;have BK161:=n2_;have HB:=n3_;clear n0_ n1_ n2_ n3_;(try clear hb);(try clear hb2);(try clear hk);(try clear hi);(try clear ho0);have hcz94_0:w93.cell? ⟨gb161,0,none⟩=some (.int .i64 0):=(blk_cell BK161.out 0).trans rfl;have hcz94_1:w93.cell? ⟨gb161,1,none⟩=some (.int .i64 0):=(blk_cell BK161.out 1).trans rfl;have hcz94_2:w93.cell? ⟨gb161,2,none⟩=some (.slice none 0 0):=(blk_cell BK161.out 2).trans rfl;have hfz94_0:=blk_frozen BK161.out 0;have hfz94_1:=blk_frozen BK161.out 1;have hfz94_2:=blk_frozen BK161.out 2;obtain ⟨Ao95,co95,eo95⟩:=Kd.R_slice HO193.out;subst eo95))
  refine bodyPost_ret (results_ct rfl _ _ gb161 28 #[.int .i64 t189,.int .i64 t190,.slice Ao95 t191.length co95] (0,0) _ rfl (by (with_reducible repeat (first|refine blk_drewN ?_ _|refine blk_drew ?_|refine blk_alloc ?_ _));refine blk_put (cs:=#[.int .i64 t189,.int .i64 t190,.slice none 0 0]) ?_ 2 _ rfl;(with_reducible repeat (first|refine blk_drewN ?_ _|refine blk_drew ?_|refine blk_alloc ?_ _));refine blk_put (cs:=#[.int .i64 t189,.int .i64 0,.slice none 0 0]) ?_ 1 _ rfl;(with_reducible repeat (first|refine blk_drewN ?_ _|refine blk_drew ?_|refine blk_alloc ?_ _));refine blk_put (cs:=#[.int .i64 0,.int .i64 0,.slice none 0 0]) ?_ 0 _ rfl;(with_reducible repeat (first|refine blk_drewN ?_ _|refine blk_drew ?_|refine blk_alloc ?_ _));exact BK161.out) Try.underlying28 rfl (by kernel_rfl)) rfl ?_
  exact ⟨_,by first|rfl|(simp [errW_none,errW_some] <;> rfl)|(simp [*,errW_none,errW_some] <;> rfl),by (with_reducible repeat (first|apply Kd.R_alloc|apply Kd.R_drewN|apply Kd.R_drew));exact Kd.R_mono (Kd.R_far (p:=⟨gb161,2,none⟩) (Kd.R_far (p:=⟨gb161,1,none⟩) (Kd.R_far (p:=⟨gb161,0,none⟩) (Kd.R_types HO193.out BK161.out (by decide)) (fun _ hk => hk.2) (.int .i64 t189)) (fun _ hk => hk.2) (.int .i64 t190)) (fun _ hk => hk.2) (.slice Ao95 t191.length co95)) (fun _ hk => trivial),by repeat (first|(with_reducible first|exact HB.out|apply below_alloc|apply pw_below_drewN|apply below_drew1|refine below_set ?_ GE160.out|refine below_set ?_ GE161.out)|exact HB.out)⟩

end Go.Proofs.Ytednmbifgnpkbaa.PFnExactTakeChallenge
