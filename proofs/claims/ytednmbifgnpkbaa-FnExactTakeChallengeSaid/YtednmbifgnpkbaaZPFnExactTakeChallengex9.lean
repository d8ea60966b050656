/- Functions and contracts of a law's callees, written by a program of this session (a changed print): each contract says that the machine's call answers what the plain function says. Conditions: the plain function's own answer. -/
import Derived.Test.YtednmbifgnpkbaaZPFnExactTakeChallengex0
import Derived.Test.YtednmbifgnpkbaaZPFnExactTakeChallengex6
import Derived.Test.YtednmbifgnpkbaaZPFnExactTakeChallengex7
import Derived.Test.YtednmbifgnpkbaaZPFnExactTakeChallengex8
namespace Go.Proofs.Ytednmbifgnpkbaa.PFnExactTakeChallenge
open Go.RowKit Go.Proofs.YtednmbifgnpkbaaW.PrintWords Go.Proofs.YtednmbifgnpkbaaW.PrintLast Go.Proofs.YtednmbifgnpkbaaW.PrintMore
attribute [local go_sem] max2_int min2_int max_two min_two max_three min_three max_four min_four   -- for this text's walks alone
set_option linter.unusedVariables false
set_option linter.unusedSimpArgs false
abbrev Am9_ {p : Prop} (h : p) : Aside0 p := Aside0.mk h

/-! ### impl_TakeChallenge: function 32 -/
def impl_TakeChallenge.f (k:Nat) (a0_0:Int) (a0_1:Int) (l0_2:List (S35)) (a1:Int) (a2:Int) (a3:Int):Option (Int × Int × (List (S35)) × Bool):=(impl_copyBook.f a0_0 a0_1 l0_2).bind fun bt217 => ((impl_FindChallenge.f k a0_0 a0_1 l0_2 a1).bind fun t223 => ((impl_IsValidBook.f k a0_0 a0_1 l0_2).bind fun t224 => (if t224=true then (if t223 < 0 then (some (bt217.1,bt217.2.1,bt217.2.2,false)) else (if 0 ≤ t223 then (if t223 < (l0_2.length:Int) then ((some (([]:List (S35)):List (S35))).bind fun y227 => (if t223 ≤ (l0_2.length:Int) then ((some (l0_2.take (t223:Int).toNat:List (S35))).bind fun y230 => (if y227.length + y230.length < 5864062014805 then ((some (y227 ++ y230:List (S35))).bind fun y234 => (if 0 ≤ (wrap64 (t223 + 1)) then (if (wrap64 (t223 + 1)) ≤ (l0_2.length:Int) then ((some (l0_2.drop ((wrap64 (t223 + 1)):Int).toNat:List (S35))).bind fun y237 => (if y234.length + y237.length < 5864062014805 then ((some (y234 ++ y237:List (S35))).bind fun y241 => (if ((rd_T35 l0_2 t223).f1)=a2 then (some (bt217.1,bt217.2.1,y241,decide (a3 ≤ ((rd_T35 l0_2 t223).f2)))) else (some (bt217.1,bt217.2.1,y241,false)))) else (none))) else (none)) else (none))) else (none))) else (none))) else (none)) else (none))) else (some (bt217.1,bt217.2.1,bt217.2.2,false)))))
theorem impl_TakeChallenge.mono:∀ a0 a1 a2 a3 a4 a5 k,LeO (impl_TakeChallenge.f k a0 a1 a2 a3 a4 a5) (impl_TakeChallenge.f (k + 1) a0 a1 a2 a3 a4 a5):=by
 intro a0 a1 a2 a3 a4 a5 k
 unfold impl_TakeChallenge.f
 repeat' first
  |(with_reducible exact impl_FindChallenge.mono _ _ _ _ _)
  |(with_reducible exact impl_IsValidBook.mono _ _ _ _)
  |(with_reducible exact LeO.refl _)
  |(with_reducible exact LeO.none _)
  |(with_reducible refine LeO.ite ?_ ?_)
  |(with_reducible refine LeO.bind ?_ (fun _ => ?_))
  |exact impl_FindChallenge.mono _ _ _ _ _
  |exact impl_IsValidBook.mono _ _ _ _
  |exact LeO.none _
  |refine LeO.ite ?_ ?_
  |refine LeO.bind ?_ (fun _ => ?_)
def impl_TakeChallenge.T6:Bool × List (List Nat × List Nat):=(true,[([],[]),([],[]),([1],[1]),([],[]),([2,3],[2,3]),([0,4],[0,4]),([],[]),([6],[6]),([],[]),([8],[8]),([7,9],[7,9]),([5,10,5],[5,10]),([0,1,2,3,4,5,6,7,8,9,10,11],[]),([12,11,11,0,1,2,3,4,5,6,7,8,9,10,11],[11,12])])
def impl_TakeChallenge.B6:List Nat:=[0,0,2,0,14,31,0,64,0,256,960,2047,4095,8191]
theorem impl_TakeChallenge.tab6:rtab .any (opsOf Try.f32 6)=impl_TakeChallenge.T6:=by kernel_rfl
theorem impl_TakeChallenge.bits6:waitsOk impl_TakeChallenge.T6.2 impl_TakeChallenge.B6=true:=by kernel_rfl
def impl_TakeChallenge.T7:Bool × List (List Nat × List Nat):=(true,[([],[]),([],[]),([1],[1]),([],[]),([2,3],[2,3]),([4],[4]),([5],[5]),([5],[5]),([7,5],[5,7]),([6,8,5],[5,6,8]),([5,9],[5,9]),([0,5,0],[0]),([10,11,0,1,2,3,4,5,6,7,8,9,10,11],[10])])
def impl_TakeChallenge.B7:List Nat:=[0,0,2,0,14,30,62,62,190,510,1022,63,4095]
theorem impl_TakeChallenge.tab7:rtab .any (opsOf Try.f32 7)=impl_TakeChallenge.T7:=by kernel_rfl
theorem impl_TakeChallenge.bits7:waitsOk impl_TakeChallenge.T7.2 impl_TakeChallenge.B7=true:=by kernel_rfl
set_option maxHeartbeats 8000000 in
set_option maxRecDepth 100000 in
theorem impl_TakeChallenge.calls (k:Nat) (a0_0:Int) (a0_1:Int) (A0_2:Option Addr) (c0_2:Nat) (l0_2:List (S35)) (a1:Int) (a2:Int) (a3:Int) (r1:Int) (r2:Int) (r3:List (S35)) (r4:Bool) (w:World) (hr0_2:Kd.C k35 w A0_2 l0_2.length l0_2) (hc0_2:l0_2.length ≤ c0_2) (h:impl_TakeChallenge.f k a0_0 a0_1 l0_2 a1 a2 a3=some (r1,r2,r3,r4)) :
  Calls Try.prog 32 #[.agg #[.int .i64 a0_0,.int .i64 a0_1,.slice A0_2 l0_2.length c0_2],.int .i64 a1,.int .i64 a2,.int .i64 a3] w fun e w' => ∃ v2_:Value,e=.returned (.tuple #[.agg #[.int .i64 r1,.int .i64 r2,v2_],.bool r4])∧Kd.R k35 35 w' w.heap.size (fun _ => True) v2_ r3∧Below w.heap.size w w':=by
 have hu28:=Try.underlying28
 have hu35:=Try.underlying35
 have HR0_2:=Am9_ hr0_2
 have HC0_2:=Am9_ hc0_2
 clear hr0_2 hc0_2
 have HB:=Am9_ (Below.refl w.heap.size w)
 have H:((impl_copyBook.f a0_0 a0_1 l0_2).bind fun bt217 => ((impl_FindChallenge.f k a0_0 a0_1 l0_2 a1).bind fun t223 => ((impl_IsValidBook.f k a0_0 a0_1 l0_2).bind fun t224 => (if t224=true then (if t223 < 0 then (some (bt217.1,bt217.2.1,bt217.2.2,false)) else (if 0 ≤ t223 then (if t223 < (l0_2.length:Int) then ((some (([]:List (S35)):List (S35))).bind fun y227 => (if t223 ≤ (l0_2.length:Int) then ((some (l0_2.take (t223:Int).toNat:List (S35))).bind fun y230 => (if y227.length + y230.length < 5864062014805 then ((some (y227 ++ y230:List (S35))).bind fun y234 => (if 0 ≤ (wrap64 (t223 + 1)) then (if (wrap64 (t223 + 1)) ≤ (l0_2.length:Int) then ((some (l0_2.drop ((wrap64 (t223 + 1)):Int).toNat:List (S35))).bind fun y237 => (if y234.length + y237.length < 5864062014805 then ((some (y234 ++ y237:List (S35))).bind fun y241 => (if ((rd_T35 l0_2 t223).f1)=a2 then (some (bt217.1,bt217.2.1,y241,decide (a3 ≤ ((rd_T35 l0_2 t223).f2)))) else (some (bt217.1,bt217.2.1,y241,false)))) else (none))) else (none)) else (none))) else (none))) else (none))) else (none)) else (none))) else (some (bt217.1,bt217.2.1,bt217.2.2,false))))))=some (r1,r2,r3,r4):=h
 clear h
 replace H:=Option.bind_eq_some_iff.mp H
 obtain ⟨⟨t217,t218,t219⟩,A50,H⟩:=H
 replace H:((impl_FindChallenge.f k a0_0 a0_1 l0_2 a1).bind fun t223 => ((impl_IsValidBook.f k a0_0 a0_1 l0_2).bind fun t224 => (if t224=true then (if t223 < 0 then (some (t217,t218,t219,false)) else (if 0 ≤ t223 then (if t223 < (l0_2.length:Int) then ((some (([]:List (S35)):List (S35))).bind fun y227 => (if t223 ≤ (l0_2.length:Int) then ((some (l0_2.take (t223:Int).toNat:List (S35))).bind fun y230 => (if y227.length + y230.length < 5864062014805 then ((some (y227 ++ y230:List (S35))).bind fun y234 => (if 0 ≤ (wrap64 (t223 + 1)) then (if (wrap64 (t223 + 1)) ≤ (l0_2.length:Int) then ((some (l0_2.drop ((wrap64 (t223 + 1)):Int).toNat:List (S35))).bind fun y237 => (if y234.length + y237.length < 5864062014805 then ((some (y234 ++ y237:List (S35))).bind fun y241 => (if ((rd_T35 l0_2 t223).f1)=a2 then (some (t217,t218,y241,decide (a3 ≤ ((rd_T35 l0_2 t223).f2)))) else (some (t217,t218,y241,false)))) else (none))) else (none)) else (none))) else (none))) else (none))) else (none)) else (none))) else (some (t217,t218,t219,false)))))=some (r1,r2,r3,r4):=H
 have A5:=Am9_ A50
 clear A50
 replace H:=Option.bind_eq_some_iff.mp H
 obtain ⟨t223,A60,H⟩:=H
 replace H:((impl_IsValidBook.f k a0_0 a0_1 l0_2).bind fun t224 => (if t224=true then (if t223 < 0 then (some (t217,t218,t219,false)) else (if 0 ≤ t223 then (if t223 < (l0_2.length:Int) then ((some (([]:List (S35)):List (S35))).bind fun y227 => (if t223 ≤ (l0_2.length:Int) then ((some (l0_2.take (t223:Int).toNat:List (S35))).bind fun y230 => (if y227.length + y230.length < 5864062014805 then ((some (y227 ++ y230:List (S35))).bind fun y234 => (if 0 ≤ (wrap64 (t223 + 1)) then (if (wrap64 (t223 + 1)) ≤ (l0_2.length:Int) then ((some (l0_2.drop ((wrap64 (t223 + 1)):Int).toNat:List (S35))).bind fun y237 => (if y234.length + y237.length < 5864062014805 then ((some (y234 ++ y237:List (S35))).bind fun y241 => (if ((rd_T35 l0_2 t223).f1)=a2 then (some (t217,t218,y241,decide (a3 ≤ ((rd_T35 l0_2 t223).f2)))) else (some (t217,t218,y241,false)))) else (none))) else (none)) else (none))) else (none))) else (none))) else (none)) else (none))) else (some (t217,t218,t219,false))))=some (r1,r2,r3,r4):=H
 have A6:=Am9_ A60
 clear A60
 replace H:=Option.bind_eq_some_iff.mp H
 obtain ⟨t224,A70,H⟩:=H
 replace H:(if t224=true then (if t223 < 0 then (some (t217,t218,t219,false)) else (if 0 ≤ t223 then (if t223 < (l0_2.length:Int) then ((some (([]:List (S35)):List (S35))).bind fun y227 => (if t223 ≤ (l0_2.length:Int) then ((some (l0_2.take (t223:Int).toNat:List (S35))).bind fun y230 => (if y227.length + y230.length < 5864062014805 then ((some (y227 ++ y230:List (S35))).bind fun y234 => (if 0 ≤ (wrap64 (t223 + 1)) then (if (wrap64 (t223 + 1)) ≤ (l0_2.length:Int) then ((some (l0_2.drop ((wrap64 (t223 + 1)):Int).toNat:List (S35))).bind fun y237 => (if y234.length + y237.length < 5864062014805 then ((some (y234 ++ y237:List (S35))).bind fun y241 => (if ((rd_T35 l0_2 t223).f1)=a2 then (some (t217,t218,y241,decide (a3 ≤ ((rd_T35 l0_2 t223).f2)))) else (some (t217,t218,y241,false)))) else (none))) else (none)) else (none))) else (none))) else (none))) else (none)) else (none))) else (some (t217,t218,t219,false)))=some (r1,r2,r3,r4):=H
 have A7:=Am9_ A70
 clear A70
 by_cases c8:t224=true
 ·subst c8
  have H1:(if t223 < 0 then (some (t217,t218,t219,false)) else (if 0 ≤ t223 then (if t223 < (l0_2.length:Int) then ((some (([]:List (S35)):List (S35))).bind fun y227 => (if t223 ≤ (l0_2.length:Int) then ((some (l0_2.take (t223:Int).toNat:List (S35))).bind fun y230 => (if y227.length + y230.length < 5864062014805 then ((some (y227 ++ y230:List (S35))).bind fun y234 => (if 0 ≤ (wrap64 (t223 + 1)) then (if (wrap64 (t223 + 1)) ≤ (l0_2.length:Int) then ((some (l0_2.drop ((wrap64 (t223 + 1)):Int).toNat:List (S35))).bind fun y237 => (if y234.length + y237.length < 5864062014805 then ((some (y234 ++ y237:List (S35))).bind fun y241 => (if ((rd_T35 l0_2 t223).f1)=a2 then (some (t217,t218,y241,decide (a3 ≤ ((rd_T35 l0_2 t223).f2)))) else (some (t217,t218,y241,false)))) else (none))) else (none)) else (none))) else (none))) else (none))) else (none)) else (none)))=some (r1,r2,r3,r4):=by rw [if_pos rfl] at H;exact H
  clear H
  have H:=H1
  clear H1
  by_cases c9:t223 < 0
  ·rw [if_pos c9] at H
   have c9b0:decide (t223 < 0)=true:=decide_eq_true c9
   clear c9
   simp only [Option.some.injEq,Prod.mk.injEq] at H
   obtain ⟨rfl,rfl,rfl,rfl⟩:=H
   go_enter Try.func32,Try.ntmps32
   go_wp2_with (first|((with_reducible refine gate_dst (N:=4) rfl ?_);refine box_event ?hg (N:=4) ?hd (cs:=#[.int .i64 a0_0,.int .i64 a0_1,.slice A0_2 l0_2.length c0_2]) (t:=28) ?hr ?_;(case hd => rfl);(case hg => rfl);(case hr => first|(go_simp;done)|(go_simp;rfl));intro gb215 hg w10 hbox hb;have n0_:=Am9_ (below_step (by repeat (first|(with_reducible first|exact HB.out|apply below_alloc|apply pw_below_drewN|apply below_drew1)|exact HB.out)) hb);have n1_:=Am9_ (hbox);have n2_:=Am9_ ((by rw [hg];exact (below_size (by repeat (first|(with_reducible first|exact HB.out|apply below_alloc|apply pw_below_drewN|apply below_drew1)|exact HB.out))):w.heap.size ≤ gb215));have n3_:=Am9_ ((by rw [hg];exact (below_size (by repeat (first|(with_reducible first|exact HB.out|apply below_alloc|apply pw_below_drewN|apply below_drew1)|exact HB.out))):w.heap.size ≤ gb215));clear HB;have HB:=n0_;have BK215:=n1_;have GW215:=n2_;have GE215:=n3_;clear n0_ n1_ n2_ n3_;clear hb hbox hg)|((with_reducible refine gate_dst (N:=8) rfl ?_);refine box_event ?hg (N:=8) ?hd (cs:=#[.int .i64 0,.int .i64 0,.slice none 0 0]) (t:=28) ?hr ?_;(case hd => rfl);(case hg => rfl);(case hr => first|(go_simp;done)|(go_simp;rfl));intro gb216 hg w11 hbox hb;have n0_:=Am9_ (blk_below (g:=gb215) (o:=.cells #[.int .i64 a0_0,.int .i64 a0_1,.slice A0_2 l0_2.length c0_2] 28 (0,0)) (by (with_reducible repeat (first|refine blk_drewN ?_ _|refine blk_drew ?_|refine blk_alloc ?_ _));exact BK215.out) hb);have n1_:=Am9_ (below_step (by repeat (first|(with_reducible first|exact HB.out|apply below_alloc|apply pw_below_drewN|apply below_drew1|refine below_set ?_ GE215.out)|exact HB.out)) hb);have n2_:=Am9_ (hbox);have n3_:=Am9_ ((by rw [hg];exact (below_size (by repeat (first|(with_reducible first|exact HB.out|apply below_alloc|apply pw_below_drewN|apply below_drew1|refine below_set ?_ GE215.out)|exact HB.out))):w.heap.size ≤ gb216));have n4_:=Am9_ ((by rw [hg];exact (below_size (by repeat (first|(with_reducible first|exact HB.out|apply below_alloc|apply pw_below_drewN|apply below_drew1|refine below_set ?_ GE215.out)|exact HB.out))):w.heap.size ≤ gb216));have n5_:=Am9_ ((by rw [hg];exact Nat.ne_of_lt (blk_lt (g:=gb215) (o:=.cells #[.int .i64 a0_0,.int .i64 a0_1,.slice A0_2 l0_2.length c0_2] 28 (0,0)) (by (with_reducible repeat (first|refine blk_drewN ?_ _|refine blk_drew ?_|refine blk_alloc ?_ _));exact BK215.out)):gb215 ≠ gb216));have n6_:=Am9_ ((by rw [hg];exact Nat.ne_of_gt (blk_lt (g:=gb215) (o:=.cells #[.int .i64 a0_0,.int .i64 a0_1,.slice A0_2 l0_2.length c0_2] 28 (0,0)) (by (with_reducible repeat (first|refine blk_drewN ?_ _|refine blk_drew ?_|refine blk_alloc ?_ _));exact BK215.out)):gb216 ≠ gb215));clear BK215;clear HB;have BK215:=n0_;have HB:=n1_;have BK216:=n2_;have GW216:=n3_;have GE216:=n4_;have NB215_216:=n5_;have NB216_215:=n6_;clear n0_ n1_ n2_ n3_ n4_ n5_ n6_;clear hb hbox hg;have hnb12:=NB215_216.out;have hnc12:=NB216_215.out;have hcz13_0:w11.cell? ⟨gb215,0,none⟩=some (.int .i64 a0_0):=(blk_cell BK215.out 0).trans rfl;have hcz13_1:w11.cell? ⟨gb215,1,none⟩=some (.int .i64 a0_1):=(blk_cell BK215.out 1).trans rfl;have hcz13_2:w11.cell? ⟨gb215,2,none⟩=some (.slice A0_2 l0_2.length c0_2):=(blk_cell BK215.out 2).trans rfl;have hfz13_0:=blk_frozen BK215.out 0;have hfz13_1:=blk_frozen BK215.out 1;have hfz13_2:=blk_frozen BK215.out 2)|((with_reducible refine gate_callee (f:=89) rfl ?_);refine goesL_ (some 14) rfl rfl Try.func89 (by kernel_rfl) rfl #[.agg #[.int .i64 a0_0,.int .i64 a0_1,.slice A0_2 l0_2.length c0_2]] rfl (by (try simp only [List.map_toArray,List.map_cons,List.map_nil]);first|done|rfl|(simp only [List.length_drop,List.length_take];rfl)) ?_;(with_reducible refine (impl_copyBook.calls a0_0 a0_1 _ _ l0_2 t217 t218 t219 _ ?side1 ?side2 A5.out).mono ?_);(case side1 => repeat (first|exact (Kd.C_below HR0_2.out HB.out)|(with_reducible refine Kd.C_alloc ?_ _)|(with_reducible refine Kd.C_drewN ?_ _)|(with_reducible refine Kd.C_drew ?_)));(case side2 => exact HC0_2.out);rintro e w14 ⟨v220,rfl,ho0,hb⟩;refine ⟨_,rfl,?_⟩;have n0_:=Am9_ (Kd.R_lower ho0 (below_size (by repeat (first|(with_reducible first|exact HB.out|apply below_alloc|apply pw_below_drewN|apply below_drew1|refine below_set ?_ GE215.out|refine below_set ?_ GE216.out)|exact HB.out))));have n1_:=Am9_ (blk_below (g:=gb215) (o:=.cells #[.int .i64 a0_0,.int .i64 a0_1,.slice A0_2 l0_2.length c0_2] 28 (0,0)) (by (with_reducible repeat (first|refine blk_drewN ?_ _|refine blk_drew ?_|refine blk_alloc ?_ _));exact BK215.out) hb);have n2_:=Am9_ (blk_below (g:=gb216) (o:=.cells #[.int .i64 0,.int .i64 0,.slice none 0 0] 28 (0,0)) (by (with_reducible repeat (first|refine blk_drewN ?_ _|refine blk_drew ?_|refine blk_alloc ?_ _));exact BK216.out) hb);have n3_:=Am9_ (below_step (by repeat (first|(with_reducible first|exact HB.out|apply below_alloc|apply pw_below_drewN|apply below_drew1|refine below_set ?_ GE215.out|refine below_set ?_ GE216.out)|exact HB.out)) hb);clear BK215;clear BK216;clear HB;have HO221:=n0_;have BK215:=n1_;have BK216:=n2_;have HB:=n3_;clear n0_ n1_ n2_ n3_;(try clear hb);(try clear hb2);(try clear hk);(try clear hi);(try clear ho0))|((with_reducible refine gate_dst (N:=10) rfl ?_);refine box_event ?hg (N:=10) ?hd (cs:=#[.int .i64 0,.int .i64 0,.slice none 0 0]) (t:=28) ?hr ?_;(case hd => rfl);(case hg => rfl);(case hr => first|(go_simp;done)|(go_simp;rfl));intro gb222 hg w15 hbox hb;have n0_:=Am9_ (Kd.R_below (by (with_reducible repeat (first|apply Kd.R_alloc|apply Kd.R_drewN|apply Kd.R_drew));exact HO221.out) hb);have n1_:=Am9_ (blk_below (g:=gb215) (o:=.cells #[.int .i64 a0_0,.int .i64 a0_1,.slice A0_2 l0_2.length c0_2] 28 (0,0)) (by (with_reducible repeat (first|refine blk_drewN ?_ _|refine blk_drew ?_|refine blk_alloc ?_ _));exact BK215.out) hb);have n2_:=Am9_ (blk_below (g:=gb216) (o:=.cells #[.int .i64 0,.int .i64 0,.slice none 0 0] 28 (0,0)) (by (with_reducible repeat (first|refine blk_drewN ?_ _|refine blk_drew ?_|refine blk_alloc ?_ _));exact BK216.out) hb);have n3_:=Am9_ (below_step (by repeat (first|(with_reducible first|exact HB.out|apply below_alloc|apply pw_below_drewN|apply below_drew1|refine below_set ?_ GE215.out|refine below_set ?_ GE216.out)|exact HB.out)) hb);have n4_:=Am9_ (hbox);have n5_:=Am9_ ((by rw [hg];exact (below_size (by repeat (first|(with_reducible first|exact HB.out|apply below_alloc|apply pw_below_drewN|apply below_drew1|refine below_set ?_ GE215.out|refine below_set ?_ GE216.out)|exact HB.out))):w.heap.size ≤ gb222));have n6_:=Am9_ ((by rw [hg];exact (below_size (by repeat (first|(with_reducible first|exact HB.out|apply below_alloc|apply pw_below_drewN|apply below_drew1|refine below_set ?_ GE215.out|refine below_set ?_ GE216.out)|exact HB.out))):w.heap.size ≤ gb222));have n7_:=Am9_ ((by rw [hg];exact Nat.ne_of_lt (blk_lt (g:=gb215) (o:=.cells #[.int .i64 a0_0,.int .i64 a0_1,.slice A0_2 l0_2.length c0_2] 28 (0,0)) (by (with_reducible repeat (first|refine blk_drewN ?_ _|refine blk_drew ?_|refine blk_alloc ?_ _));exact BK215.out)):gb215 ≠ gb222));have n8_:=Am9_ ((by rw [hg];exact Nat.ne_of_gt (blk_lt (g:=gb215) (o:=.cells #[.int .i64 a0_0,.int .i64 a0_1,.slice A0_2 l0_2.length c0_2] 28 (0,0)) (by (with_reducible repeat (first|refine blk_drewN ?_ _|refine blk_drew ?_|refine blk_alloc ?_ _));exact BK215.out)):gb222 ≠ gb215));have n9_:=Am9_ ((by rw [hg];exact Nat.ne_of_lt (blk_lt (g:=gb216) (o:=.cells #[.int .i64 0,.int .i64 0,.slice none 0 0] 28 (0,0)) (by (with_reducible repeat (first|refine blk_drewN ?_ _|refine blk_drew ?_|refine blk_alloc ?_ _));exact BK216.out)):gb216 ≠ gb222));have n10_:=Am9_ ((by rw [hg];exact Nat.ne_of_gt (blk_lt (g:=gb216) (o:=.cells #[.int .i64 0,.int .i64 0,.slice none 0 0] 28 (0,0)) (by (with_reducible repeat (first|refine blk_drewN ?_ _|refine blk_drew ?_|refine blk_alloc ?_ _));exact BK216.out)):gb222 ≠ gb216));clear HO221;clear BK215;clear BK216;clear HB;have HO221:=n0_;have BK215:=n1_;have BK216:=n2_;have HB:=n3_;have BK222:=n4_;have GW222:=n5_;have GE222:=n6_;have NB215_222:=n7_;have NB222_215:=n8_;have NB216_222:=n9_;have NB222_216:=n10_;clear n0_ n1_ n2_ n3_ n4_ n5_ n6_ n7_ n8_ n9_ n10_;clear hb hbox hg;have hnb16:=NB222_215.out;have hnc16:=NB215_222.out;have hnb17:=NB222_216.out;have hnc17:=NB216_222.out;have hcz18_0:w15.cell? ⟨gb222,0,none⟩=some (.int .i64 0):=(blk_cell BK222.out 0).trans rfl;have hcz18_1:w15.cell? ⟨gb222,1,none⟩=some (.int .i64 0):=(blk_cell BK222.out 1).trans rfl;have hcz18_2:w15.cell? ⟨gb222,2,none⟩=some (.slice none 0 0):=(blk_cell BK222.out 2).trans rfl;have hfz18_0:=blk_frozen BK222.out 0;have hfz18_1:=blk_frozen BK222.out 1;have hfz18_2:=blk_frozen BK222.out 2;obtain ⟨Ao19,co19,eo19⟩:=Kd.R_slice HO221.out;subst eo19;have hcz20_0:w15.cell? ⟨gb215,0,none⟩=some (.int .i64 a0_0):=(blk_cell BK215.out 0).trans rfl;have hcz20_1:w15.cell? ⟨gb215,1,none⟩=some (.int .i64 a0_1):=(blk_cell BK215.out 1).trans rfl;have hcz20_2:w15.cell? ⟨gb215,2,none⟩=some (.slice A0_2 l0_2.length c0_2):=(blk_cell BK215.out 2).trans rfl;have hfz20_0:=blk_frozen BK215.out 0;have hfz20_1:=blk_frozen BK215.out 1;have hfz20_2:=blk_frozen BK215.out 2)|((with_reducible refine gate_callee (f:=65) rfl ?_);refine goesL_ (some 17) rfl rfl Try.func65 (by kernel_rfl) rfl #[.agg #[.int .i64 a0_0,.int .i64 a0_1,.slice A0_2 l0_2.length c0_2],.int .i64 a1] rfl (by (try simp only [List.map_toArray,List.map_cons,List.map_nil]);first|done|rfl|(simp only [List.length_drop,List.length_take];rfl)) ?_;(with_reducible refine (impl_FindChallenge.calls k a0_0 a0_1 _ _ l0_2 a1 t223 _ ?side1 ?side2 A6.out).mono ?_);(case side1 => exact Kd.C_below HR0_2.out (by repeat (first|(with_reducible first|exact HB.out|apply below_alloc|apply pw_below_drewN|apply below_drew1|refine below_set ?_ GE215.out|refine below_set ?_ GE216.out|refine below_set ?_ GE222.out)|exact HB.out)));(case side2 => exact HC0_2.out);rintro e w21 ⟨rfl,hb⟩;refine ⟨_,rfl,?_⟩;have n0_:=Am9_ (Kd.R_below (by (with_reducible repeat (first|apply Kd.R_alloc|apply Kd.R_drewN|apply Kd.R_drew));exact (Kd.R_mono (Kd.R_far (p:=⟨gb222,2,none⟩) (Kd.R_far (p:=⟨gb222,1,none⟩) (Kd.R_far (p:=⟨gb222,0,none⟩) (Kd.R_types HO221.out BK222.out (by decide)) (fun _ hk => hk.2) (.int .i64 t217)) (fun _ hk => hk.2) (.int .i64 t218)) (fun _ hk => hk.2) (.slice Ao19 t219.length co19)) (fun _ h_ => h_.1))) hb);have n1_:=Am9_ (blk_below (g:=gb215) (o:=.cells #[.int .i64 a0_0,.int .i64 a0_1,.slice A0_2 l0_2.length c0_2] 28 (0,0)) (by (with_reducible repeat (first|refine blk_drewN ?_ _|refine blk_drew ?_|refine blk_alloc ?_ _));refine blk_far ?_ NB215_222.out _;(with_reducible repeat (first|refine blk_drewN ?_ _|refine blk_drew ?_|refine blk_alloc ?_ _));refine blk_far ?_ NB215_222.out _;(with_reducible repeat (first|refine blk_drewN ?_ _|refine blk_drew ?_|refine blk_alloc ?_ _));refine blk_far ?_ NB215_222.out _;(with_reducible repeat (first|refine blk_drewN ?_ _|refine blk_drew ?_|refine blk_alloc ?_ _));exact BK215.out) hb);have n2_:=Am9_ (blk_below (g:=gb216) (o:=.cells #[.int .i64 0,.int .i64 0,.slice none 0 0] 28 (0,0)) (by (with_reducible repeat (first|refine blk_drewN ?_ _|refine blk_drew ?_|refine blk_alloc ?_ _));refine blk_far ?_ NB216_222.out _;(with_reducible repeat (first|refine blk_drewN ?_ _|refine blk_drew ?_|refine blk_alloc ?_ _));refine blk_far ?_ NB216_222.out _;(with_reducible repeat (first|refine blk_drewN ?_ _|refine blk_drew ?_|refine blk_alloc ?_ _));refine blk_far ?_ NB216_222.out _;(with_reducible repeat (first|refine blk_drewN ?_ _|refine blk_drew ?_|refine blk_alloc ?_ _));exact BK216.out) hb);have n3_:=Am9_ (blk_below (g:=gb222) (o:=.cells #[.int .i64 t217,.int .i64 t218,.slice Ao19 t219.length co19] 28 (0,0)) (by (with_reducible repeat (first|refine blk_drewN ?_ _|refine blk_drew ?_|refine blk_alloc ?_ _));refine blk_put (cs:=#[.int .i64 t217,.int .i64 t218,.slice none 0 0]) ?_ 2 _ rfl;(with_reducible repeat (first|refine blk_drewN ?_ _|refine blk_drew ?_|refine blk_alloc ?_ _));refine blk_put (cs:=#[.int .i64 t217,.int .i64 0,.slice none 0 0]) ?_ 1 _ rfl;(with_reducible repeat (first|refine blk_drewN ?_ _|refine blk_drew ?_|refine blk_alloc ?_ _));refine blk_put (cs:=#[.int .i64 0,.int .i64 0,.slice none 0 0]) ?_ 0 _ rfl;(with_reducible repeat (first|refine blk_drewN ?_ _|refine blk_drew ?_|refine blk_alloc ?_ _));exact BK222.out) hb);have n4_:=Am9_ (below_step (by repeat (first|(with_reducible first|exact HB.out|apply below_alloc|apply pw_below_drewN|apply below_drew1|refine below_set ?_ GE215.out|refine below_set ?_ GE216.out|refine below_set ?_ GE222.out)|exact HB.out)) hb);clear HO221;clear BK215;clear BK216;clear BK222;clear HB;have HO221:=n0_;have BK215:=n1_;have BK216:=n2_;have BK222:=n3_;have HB:=n4_;clear n0_ n1_ n2_ n3_ n4_;(try clear hb);(try clear hb2);(try clear hk);(try clear hi);have hcz22_0:w21.cell? ⟨gb215,0,none⟩=some (.int .i64 a0_0):=(blk_cell BK215.out 0).trans rfl;have hcz22_1:w21.cell? ⟨gb215,1,none⟩=some (.int .i64 a0_1):=(blk_cell BK215.out 1).trans rfl;have hcz22_2:w21.cell? ⟨gb215,2,none⟩=some (.slice A0_2 l0_2.length c0_2):=(blk_cell BK215.out 2).trans rfl;have hfz22_0:=blk_frozen BK215.out 0;have hfz22_1:=blk_frozen BK215.out 1;have hfz22_2:=blk_frozen BK215.out 2)|((with_reducible refine gate_callee (f:=66) rfl ?_);refine goesL_ (some 19) rfl rfl Try.func66 (by kernel_rfl) rfl #[.agg #[.int .i64 a0_0,.int .i64 a0_1,.slice A0_2 l0_2.length c0_2]] rfl (by (try simp only [List.map_toArray,List.map_cons,List.map_nil]);first|done|rfl|(simp only [List.length_drop,List.length_take];rfl)) ?_;(with_reducible refine (impl_IsValidBook.calls k a0_0 a0_1 _ _ l0_2 true _ ?side1 ?side2 A7.out).mono ?_);(case side1 => repeat (first|exact (Kd.C_below HR0_2.out HB.out)|(with_reducible refine Kd.C_alloc ?_ _)|(with_reducible refine Kd.C_drewN ?_ _)|(with_reducible refine Kd.C_drew ?_)));(case side2 => exact HC0_2.out);rintro e w23 ⟨rfl,hb⟩;refine ⟨_,rfl,?_⟩;have n0_:=Am9_ (Kd.R_below (by (with_reducible repeat (first|apply Kd.R_alloc|apply Kd.R_drewN|apply Kd.R_drew));exact HO221.out) hb);have n1_:=Am9_ (blk_below (g:=gb215) (o:=.cells #[.int .i64 a0_0,.int .i64 a0_1,.slice A0_2 l0_2.length c0_2] 28 (0,0)) (by (with_reducible repeat (first|refine blk_drewN ?_ _|refine blk_drew ?_|refine blk_alloc ?_ _));exact BK215.out) hb);have n2_:=Am9_ (blk_below (g:=gb216) (o:=.cells #[.int .i64 0,.int .i64 0,.slice none 0 0] 28 (0,0)) (by (with_reducible repeat (first|refine blk_drewN ?_ _|refine blk_drew ?_|refine blk_alloc ?_ _));exact BK216.out) hb);have n3_:=Am9_ (blk_below (g:=gb222) (o:=.cells #[.int .i64 t217,.int .i64 t218,.slice Ao19 t219.length co19] 28 (0,0)) (by (with_reducible repeat (first|refine blk_drewN ?_ _|refine blk_drew ?_|refine blk_alloc ?_ _));exact BK222.out) hb);have n4_:=Am9_ (below_step (by repeat (first|(with_reducible first|exact HB.out|apply below_alloc|apply pw_below_drewN|apply below_drew1|refine below_set ?_ GE215.out|refine below_set ?_ GE216.out|refine below_set ?_ GE222.out)|exact HB.out)) hb);clear HO221;clear BK215;clear BK216;clear BK222;clear HB;have HO221:=n0_;have BK215:=n1_;have BK216:=n2_;have BK222:=n3_;have HB:=n4_;clear n0_ n1_ n2_ n3_ n4_;(try clear hb);(try clear hb2);(try clear hk);(try clear hi);have hcz24_0:w23.cell? ⟨gb222,0,none⟩=some (.int .i64 t217):=(blk_cell BK222.out 0).trans rfl;have hcz24_1:w23.cell? ⟨gb222,1,none⟩=some (.int .i64 t218):=(blk_cell BK222.out 1).trans rfl;have hcz24_2:w23.cell? ⟨gb222,2,none⟩=some (.slice Ao19 t219.length co19):=(blk_cell BK222.out 2).trans rfl;have hfz24_0:=blk_frozen BK222.out 0;have hfz24_1:=blk_frozen BK222.out 1;have hfz24_2:=blk_frozen BK222.out 2;have hcz25_0:w23.cell? ⟨gb216,0,none⟩=some (.int .i64 0):=(blk_cell BK216.out 0).trans rfl;have hcz25_1:w23.cell? ⟨gb216,1,none⟩=some (.int .i64 0):=(blk_cell BK216.out 1).trans rfl;have hcz25_2:w23.cell? ⟨gb216,2,none⟩=some (.slice none 0 0):=(blk_cell BK216.out 2).trans rfl;have hfz25_0:=blk_frozen BK216.out 0;have hfz25_1:=blk_frozen BK216.out 1;have hfz25_2:=blk_frozen BK216.out 2))
   refine bodyPost_ret (results_ct rfl _ _ gb216 28 #[.int .i64 t217,.int .i64 t218,.slice Ao19 t219.length co19] (0,0) _ rfl (by (with_reducible repeat (first|refine blk_drewN ?_ _|refine blk_drew ?_|refine blk_alloc ?_ _));refine blk_put (cs:=#[.int .i64 t217,.int .i64 t218,.slice none 0 0]) ?_ 2 _ rfl;(with_reducible repeat (first|refine blk_drewN ?_ _|refine blk_drew ?_|refine blk_alloc ?_ _));refine blk_put (cs:=#[.int .i64 t217,.int .i64 0,.slice none 0 0]) ?_ 1 _ rfl;(with_reducible repeat (first|refine blk_drewN ?_ _|refine blk_drew ?_|refine blk_alloc ?_ _));refine blk_put (cs:=#[.int .i64 0,.int .i64 0,.slice none 0 0]) ?_ 0 _ rfl;(with_reducible repeat (first|refine blk_drewN ?_ _|refine blk_drew ?_|refine blk_alloc ?_ _));exact BK216.out) Try.underlying28 rfl (by kernel_rfl)) rfl ?_
   exact ⟨_,by first|rfl|(simp [errW_none,errW_some] <;> rfl)|(simp [*,errW_none,errW_some] <;> rfl),by (with_reducible repeat (first|apply Kd.R_alloc|apply Kd.R_drewN|apply Kd.R_drew));exact Kd.R_mono (Kd.R_far (p:=⟨gb216,2,none⟩) (Kd.R_far (p:=⟨gb216,1,none⟩) (Kd.R_far (p:=⟨gb216,0,none⟩) (Kd.R_types HO221.out BK216.out (by decide)) (fun _ hk => hk.2) (.int .i64 t217)) (fun _ hk => hk.2) (.int .i64 t218)) (fun _ hk => hk.2) (.slice Ao19 t219.length co19)) (fun _ hk => trivial),by repeat (first|(with_reducible first|exact HB.out|apply below_alloc|apply pw_below_drewN|apply below_drew1|refine below_set ?_ GE215.out|refine below_set ?_ GE216.out|refine below_set ?_ GE222.out)|exact HB.out)⟩
  ·rw [if_neg c9] at H
   have c9b0:decide (t223 < 0)=false:=decide_eq_false c9
   clear c9
   by_cases c26:0 ≤ t223
   ·rw [if_pos c26] at H
    have c26b0:decide (0 ≤ t223)=true:=decide_eq_true c26
    clear c26
    by_cases c27:t223 < (l0_2.length:Int)
    ·rw [if_pos c27] at H
     have c27b0:decide (t223 < (l0_2.length:Int))=true:=decide_eq_true c27
     clear c27
     obtain ⟨y227,hy227⟩:∃ y_:List (S35),y_=(([]:List (S35))):=⟨_,rfl⟩
     replace H:(if t223 ≤ (l0_2.length:Int) then ((some (l0_2.take (t223:Int).toNat:List (S35))).bind fun y230 => (if y227.length + y230.length < 5864062014805 then ((some (y227 ++ y230:List (S35))).bind fun y234 => (if 0 ≤ (wrap64 (t223 + 1)) then (if (wrap64 (t223 + 1)) ≤ (l0_2.length:Int) then ((some (l0_2.drop ((wrap64 (t223 + 1)):Int).toNat:List (S35))).bind fun y237 => (if y234.length + y237.length < 5864062014805 then ((some (y234 ++ y237:List (S35))).bind fun y241 => (if ((rd_T35 l0_2 t223).f1)=a2 then (some (t217,t218,y241,decide (a3 ≤ ((rd_T35 l0_2 t223).f2)))) else (some (t217,t218,y241,false)))) else (none))) else (none)) else (none))) else (none))) else (none))=some (r1,r2,r3,r4):=by first|(rw [hy227];with_reducible exact H)|(have H2_:=(Option.bind_some _ _).symm.trans H;rw [hy227];with_reducible exact H2_)|(have H2_:=(Option.bind_some _ _).symm.trans H;with_reducible exact H2_)|with_reducible exact H|(rw [hy227];exact H)|exact H
     have Ny227:=Am9_ hy227
     clear hy227
     have c28b0:=eq_true (of_decide_eq_true (by first|(with_reducible assumption)|assumption):0 ≤ t223)
     by_cases c29:t223 ≤ (l0_2.length:Int)
     ·rw [if_pos c29] at H
      have c29b0:=eq_true c29
      have c29b1:decide (t223 ≤ (l0_2.length:Int))=true:=decide_eq_true c29
      clear c29
      obtain ⟨y230,hy230⟩:∃ y_:List (S35),y_=(l0_2.take (t223:Int).toNat):=⟨_,rfl⟩
      replace H:(if y227.length + y230.length < 5864062014805 then ((some (y227 ++ y230:List (S35))).bind fun y234 => (if 0 ≤ (wrap64 (t223 + 1)) then (if (wrap64 (t223 + 1)) ≤ (l0_2.length:Int) then ((some (l0_2.drop ((wrap64 (t223 + 1)):Int).toNat:List (S35))).bind fun y237 => (if y234.length + y237.length < 5864062014805 then ((some (y234 ++ y237:List (S35))).bind fun y241 => (if ((rd_T35 l0_2 t223).f1)=a2 then (some (t217,t218,y241,decide (a3 ≤ ((rd_T35 l0_2 t223).f2)))) else (some (t217,t218,y241,false)))) else (none))) else (none)) else (none))) else (none))=some (r1,r2,r3,r4):=by first|(rw [hy230];with_reducible exact H)|(have H2_:=(Option.bind_some _ _).symm.trans H;rw [hy230];with_reducible exact H2_)|(have H2_:=(Option.bind_some _ _).symm.trans H;with_reducible exact H2_)|with_reducible exact H|(rw [hy230];exact H)|exact H
      have Ny230:=Am9_ hy230
      clear hy230
      by_cases c30:y227.length + y230.length < 5864062014805
      ·rw [if_pos c30] at H
       have LMc30:=Am9_ c30
       clear c30
       obtain ⟨y234,hy234⟩:∃ y_:List (S35),y_=(y227 ++ y230):=⟨_,rfl⟩
       replace H:(if 0 ≤ (wrap64 (t223 + 1)) then (if (wrap64 (t223 + 1)) ≤ (l0_2.length:Int) then ((some (l0_2.drop ((wrap64 (t223 + 1)):Int).toNat:List (S35))).bind fun y237 => (if y234.length + y237.length < 5864062014805 then ((some (y234 ++ y237:List (S35))).bind fun y241 => (if ((rd_T35 l0_2 t223).f1)=a2 then (some (t217,t218,y241,decide (a3 ≤ ((rd_T35 l0_2 t223).f2)))) else (some (t217,t218,y241,false)))) else (none))) else (none)) else (none))=some (r1,r2,r3,r4):=by first|(rw [hy234];with_reducible exact H)|(have H2_:=(Option.bind_some _ _).symm.trans H;rw [hy234];with_reducible exact H2_)|(have H2_:=(Option.bind_some _ _).symm.trans H;with_reducible exact H2_)|with_reducible exact H|(rw [hy234];exact H)|exact H
       have Ny234:=Am9_ hy234
       clear hy234
       obtain ⟨ji31,hji31⟩:∃ j_:Int,(wrap64 (t223 + 1))=j_:=⟨_,rfl⟩
       replace H:(if 0 ≤ (ji31) then (if (ji31) ≤ (l0_2.length:Int) then ((some (l0_2.drop ((ji31):Int).toNat:List (S35))).bind fun y237 => (if y234.length + y237.length < 5864062014805 then ((some (y234 ++ y237:List (S35))).bind fun y241 => (if ((rd_T35 l0_2 t223).f1)=a2 then (some (t217,t218,y241,decide (a3 ≤ ((rd_T35 l0_2 t223).f2)))) else (some (t217,t218,y241,false)))) else (none))) else (none)) else (none))=some (r1,r2,r3,r4):=by first|(rw [hji31] at H;exact H)|(simp only [hji31] at H ⊢;exact H)
       (try rw [hji31] at A5)
       (try rw [hji31] at A6)
       (try rw [hji31] at A7)
       have hji31w:(IntKind.i64.wrap (t223 + 1))=ji31:=(i64_w _).trans hji31
       by_cases c32:0 ≤ (ji31)
       ·rw [if_pos c32] at H
        have c32b0:=eq_true c32
        have c32b1:decide (0 ≤ (ji31))=true:=decide_eq_true c32
        clear c32
        by_cases c33:(ji31) ≤ (l0_2.length:Int)
        ·rw [if_pos c33] at H
         have c33b0:=eq_true c33
         have c33b1:decide ((ji31) ≤ (l0_2.length:Int))=true:=decide_eq_true c33
         clear c33
         obtain ⟨y237,hy237⟩:∃ y_:List (S35),y_=(l0_2.drop ((ji31):Int).toNat):=⟨_,rfl⟩
         replace H:(if y234.length + y237.length < 5864062014805 then ((some (y234 ++ y237:List (S35))).bind fun y241 => (if ((rd_T35 l0_2 t223).f1)=a2 then (some (t217,t218,y241,decide (a3 ≤ ((rd_T35 l0_2 t223).f2)))) else (some (t217,t218,y241,false)))) else (none))=some (r1,r2,r3,r4):=by first|(rw [hy237];with_reducible exact H)|(have H2_:=(Option.bind_some _ _).symm.trans H;rw [hy237];with_reducible exact H2_)|(have H2_:=(Option.bind_some _ _).symm.trans H;with_reducible exact H2_)|with_reducible exact H|(rw [hy237];exact H)|exact H
         have Ny237:=Am9_ hy237
         clear hy237
         by_cases c34:y234.length + y237.length < 5864062014805
         ·rw [if_pos c34] at H
          have LMc34:=Am9_ c34
          clear c34
          obtain ⟨y241,hy241⟩:∃ y_:List (S35),y_=(y234 ++ y237):=⟨_,rfl⟩
          replace H:(if ((rd_T35 l0_2 t223).f1)=a2 then (some (t217,t218,y241,decide (a3 ≤ ((rd_T35 l0_2 t223).f2)))) else (some (t217,t218,y241,false)))=some (r1,r2,r3,r4):=by first|(rw [hy241];with_reducible exact H)|(have H2_:=(Option.bind_some _ _).symm.trans H;rw [hy241];with_reducible exact H2_)|(have H2_:=(Option.bind_some _ _).symm.trans H;with_reducible exact H2_)|with_reducible exact H|(rw [hy241];exact H)|exact H
          have Ny241:=Am9_ hy241
          clear hy241
          by_cases c35:((rd_T35 l0_2 t223).f1)=a2
          ·rw [if_pos c35] at H
           have c35b0:(((rd_T35 l0_2 t223).f1) == a2)=true:=beq_iff_eq.mpr c35
           have c35b1:(((rd_T35 l0_2 t223).f1) != a2)=false:=bne_eq_false_iff_eq.mpr c35
           clear c35
           simp only [Option.some.injEq,Prod.mk.injEq] at H
           obtain ⟨rfl,rfl,rfl,rfl⟩:=H
           go_enter Try.func32,Try.ntmps32
           try go_wp2_with (first|((with_reducible refine gate_dst (N:=4) rfl ?_);refine box_event ?hg (N:=4) ?hd (cs:=#[.int .i64 a0_0,.int .i64 a0_1,.slice A0_2 l0_2.length c0_2]) (t:=28) ?hr ?_;(case hd => rfl);(case hg => rfl);(case hr => first|(go_simp;done)|(go_simp;rfl));intro gb215 hg w36 hbox hb;have n0_:=Am9_ (below_step (by repeat (first|(with_reducible first|exact HB.out|apply below_alloc|apply pw_below_drewN|apply below_drew1)|exact HB.out)) hb);have n1_:=Am9_ (hbox);have n2_:=Am9_ ((by rw [hg];exact (below_size (by repeat (first|(with_reducible first|exact HB.out|apply below_alloc|apply pw_below_drewN|apply below_drew1)|exact HB.out))):w.heap.size ≤ gb215));have n3_:=Am9_ ((by rw [hg];exact (below_size (by repeat (first|(with_reducible first|exact HB.out|apply below_alloc|apply pw_below_drewN|apply below_drew1)|exact HB.out))):w.heap.size ≤ gb215));clear HB;have HB:=n0_;have BK215:=n1_;have GW215:=n2_;have GE215:=n3_;clear n0_ n1_ n2_ n3_;clear hb hbox hg)|((with_reducible refine gate_dst (N:=8) rfl ?_);refine box_event ?hg (N:=8) ?hd (cs:=#[.int .i64 0,.int .i64 0,.slice none 0 0]) (t:=28) ?hr ?_;(case hd => rfl);(case hg => rfl);(case hr => first|(go_simp;done)|(go_simp;rfl));intro gb216 hg w37 hbox hb;have n0_:=Am9_ (blk_below (g:=gb215) (o:=.cells #[.int .i64 a0_0,.int .i64 a0_1,.slice A0_2 l0_2.length c0_2] 28 (0,0)) (by (with_reducible repeat (first|refine blk_drewN ?_ _|refine blk_drew ?_|refine blk_alloc ?_ _));exact BK215.out) hb);have n1_:=Am9_ (below_step (by repeat (first|(with_reducible first|exact HB.out|apply below_alloc|apply pw_below_drewN|apply below_drew1|refine below_set ?_ GE215.out)|exact HB.out)) hb);have n2_:=Am9_ (hbox);have n3_:=Am9_ ((by rw [hg];exact (below_size (by repeat (first|(with_reducible first|exact HB.out|apply below_alloc|apply pw_below_drewN|apply below_drew1|refine below_set ?_ GE215.out)|exact HB.out))):w.heap.size ≤ gb216));have n4_:=Am9_ ((by rw [hg];exact (below_size (by repeat (first|(with_reducible first|exact HB.out|apply below_alloc|apply pw_below_drewN|apply below_drew1|refine below_set ?_ GE215.out)|exact HB.out))):w.heap.size ≤ gb216));have n5_:=Am9_ ((by rw [hg];exact Nat.ne_of_lt (blk_lt (g:=gb215) (o:=.cells #[.int .i64 a0_0,.int .i64 a0_1,.slice A0_2 l0_2.length c0_2] 28 (0,0)) (by (with_reducible repeat (first|refine blk_drewN ?_ _|refine blk_drew ?_|refine blk_alloc ?_ _));exact BK215.out)):gb215 ≠ gb216));have n6_:=Am9_ ((by rw [hg];exact Nat.ne_of_gt (blk_lt (g:=gb215) (o:=.cells #[.int .i64 a0_0,.int .i64 a0_1,.slice A0_2 l0_2.length c0_2] 28 (0,0)) (by (with_reducible repeat (first|refine blk_drewN ?_ _|refine blk_drew ?_|refine blk_alloc ?_ _));exact BK215.out)):gb216 ≠ gb215));clear BK215;clear HB;have BK215:=n0_;have HB:=n1_;have BK216:=n2_;have GW216:=n3_;have GE216:=n4_;have NB215_216:=n5_;have NB216_215:=n6_;clear n0_ n1_ n2_ n3_ n4_ n5_ n6_;clear hb hbox hg;have hnb38:=NB215_216.out;have hnc38:=NB216_215.out;have hcz39_0:w37.cell? ⟨gb215,0,none⟩=some (.int .i64 a0_0):=(blk_cell BK215.out 0).trans rfl;have hcz39_1:w37.cell? ⟨gb215,1,none⟩=some (.int .i64 a0_1):=(blk_cell BK215.out 1).trans rfl;have hcz39_2:w37.cell? ⟨gb215,2,none⟩=some (.slice A0_2 l0_2.length c0_2):=(blk_cell BK215.out 2).trans rfl;have hfz39_0:=blk_frozen BK215.out 0;have hfz39_1:=blk_frozen BK215.out 1;have hfz39_2:=blk_frozen BK215.out 2)|((with_reducible refine gate_callee (f:=89) rfl ?_);refine goesL_ (some 14) rfl rfl Try.func89 (by kernel_rfl) rfl #[.agg #[.int .i64 a0_0,.int .i64 a0_1,.slice A0_2 l0_2.length c0_2]] rfl (by (try simp only [List.map_toArray,List.map_cons,List.map_nil]);first|done|rfl|(simp only [List.length_drop,List.length_take];rfl)) ?_;(with_reducible refine (impl_copyBook.calls a0_0 a0_1 _ _ l0_2 t217 t218 t219 _ ?side1 ?side2 A5.out).mono ?_);(case side1 => repeat (first|exact (Kd.C_below HR0_2.out HB.out)|(with_reducible refine Kd.C_alloc ?_ _)|(with_reducible refine Kd.C_drewN ?_ _)|(with_reducible refine Kd.C_drew ?_)));(case side2 => exact HC0_2.out);rintro e w40 ⟨v220,rfl,ho0,hb⟩;refine ⟨_,rfl,?_⟩;have n0_:=Am9_ (Kd.R_lower ho0 (below_size (by repeat (first|(with_reducible first|exact HB.out|apply below_alloc|apply pw_below_drewN|apply below_drew1|refine below_set ?_ GE215.out|refine below_set ?_ GE216.out)|exact HB.out))));have n1_:=Am9_ (blk_below (g:=gb215) (o:=.cells #[.int .i64 a0_0,.int .i64 a0_1,.slice A0_2 l0_2.length c0_2] 28 (0,0)) (by (with_reducible repeat (first|refine blk_drewN ?_ _|refine blk_drew ?_|refine blk_alloc ?_ _));exact BK215.out) hb);have n2_:=Am9_ (blk_below (g:=gb216) (o:=.cells #[.int .i64 0,.int .i64 0,.slice none 0 0] 28 (0,0)) (by (with_reducible repeat (first|refine blk_drewN ?_ _|refine blk_drew ?_|refine blk_alloc ?_ _));exact BK216.out) hb);have n3_:=Am9_ (below_step (by repeat (first|(with_reducible first|exact HB.out|apply below_alloc|apply pw_below_drewN|apply below_drew1|refine below_set ?_ GE215.out|refine below_set ?_ GE216.out)|exact HB.out)) hb);clear BK215;clear BK216;clear HB;have HO221:=n0_;have BK215:=n1_;have BK216:=n2_;have HB:=n3_;clear n0_ n1_ n2_ n3_;(try clear hb);(try clear hb2);(try clear hk);(try clear hi);(try clear ho0))|((with_reducible refine gate_dst (N:=10) rfl ?_);refine box_event ?hg (N:=10) ?hd (cs:=#[.int .i64 0,.int .i64 0,.slice none 0 0]) (t:=28) ?hr ?_;(case hd => rfl);(case hg => rfl);(case hr => first|(go_simp;done)|(go_simp;rfl));intro gb222 hg w41 hbox hb;have n0_:=Am9_ (Kd.R_below (by (with_reducible repeat (first|apply Kd.R_alloc|apply Kd.R_drewN|apply Kd.R_drew));exact HO221.out) hb);have n1_:=Am9_ (blk_below (g:=gb215) (o:=.cells #[.int .i64 a0_0,.int .i64 a0_1,.slice A0_2 l0_2.length c0_2] 28 (0,0)) (by (with_reducible repeat (first|refine blk_drewN ?_ _|refine blk_drew ?_|refine blk_alloc ?_ _));exact BK215.out) hb);have n2_:=Am9_ (blk_below (g:=gb216) (o:=.cells #[.int .i64 0,.int .i64 0,.slice none 0 0] 28 (0,0)) (by (with_reducible repeat (first|refine blk_drewN ?_ _|refine blk_drew ?_|refine blk_alloc ?_ _));exact BK216.out) hb);have n3_:=Am9_ (below_step (by repeat (first|(with_reducible first|exact HB.out|apply below_alloc|apply pw_below_drewN|apply below_drew1|refine below_set ?_ GE215.out|refine below_set ?_ GE216.out)|exact HB.out)) hb);have n4_:=Am9_ (hbox);have n5_:=Am9_ ((by rw [hg];exact (below_size (by repeat (first|(with_reducible first|exact HB.out|apply below_alloc|apply pw_below_drewN|apply below_drew1|refine below_set ?_ GE215.out|refine below_set ?_ GE216.out)|exact HB.out))):w.heap.size ≤ gb222));have n6_:=Am9_ ((by rw [hg];exact (below_size (by repeat (first|(with_reducible first|exact HB.out|apply below_alloc|apply pw_below_drewN|apply below_drew1|refine below_set ?_ GE215.out|refine below_set ?_ GE216.out)|exact HB.out))):w.heap.size ≤ gb222));have n7_:=Am9_ ((by rw [hg];exact Nat.ne_of_lt (blk_lt (g:=gb215) (o:=.cells #[.int .i64 a0_0,.int .i64 a0_1,.slice A0_2 l0_2.length c0_2] 28 (0,0)) (by (with_reducible repeat (first|refine blk_drewN ?_ _|refine blk_drew ?_|refine blk_alloc ?_ _));exact BK215.out)):gb215 ≠ gb222));have n8_:=Am9_ ((by rw [hg];exact Nat.ne_of_gt (blk_lt (g:=gb215) (o:=.cells #[.int .i64 a0_0,.int .i64 a0_1,.slice A0_2 l0_2.length c0_2] 28 (0,0)) (by (with_reducible repeat (first|refine blk_drewN ?_ _|refine blk_drew ?_|refine blk_alloc ?_ _));exact BK215.out)):gb222 ≠ gb215));have n9_:=Am9_ ((by rw [hg];exact Nat.ne_of_lt (blk_lt (g:=gb216) (o:=.cells #[.int .i64 0,.int .i64 0,.slice none 0 0] 28 (0,0)) (by (with_reducible repeat (first|refine blk_drewN ?_ _|refine blk_drew ?_|refine blk_alloc ?_ _));exact BK216.out)):gb216 ≠ gb222));have n10_:=Am9_ ((by rw [hg];exact Nat.ne_of_gt (blk_lt (g:=gb216) (o:=.cells #[.int .i64 0,.int .i64 0,.slice none 0 0] 28 (0,0)) (by (with_reducible repeat (first|refine blk_drewN ?_ _|refine blk_drew ?_|refine blk_alloc ?_ _));exact BK216.out)):gb222 ≠ gb216));clear HO221;clear BK215;clear BK216;clear HB;have HO221:=n0_;have BK215:=n1_;have BK216:=n2_;have HB:=n3_;have BK222:=n4_;have GW222:=n5_;have GE222:=n6_;have NB215_222:=n7_;have NB222_215:=n8_;have NB216_222:=n9_;have NB222_216:=n10_;clear n0_ n1_ n2_ n3_ n4_ n5_ n6_ n7_ n8_ n9_ n10_;clear hb hbox hg;have hnb42:=NB222_215.out;have hnc42:=NB215_222.out;have hnb43:=NB222_216.out;have hnc43:=NB216_222.out;have hcz44_0:w41.cell? ⟨gb222,0,none⟩=some (.int .i64 0):=(blk_cell BK222.out 0).trans rfl;have hcz44_1:w41.cell? ⟨gb222,1,none⟩=some (.int .i64 0):=(blk_cell BK222.out 1).trans rfl;have hcz44_2:w41.cell? ⟨gb222,2,none⟩=some (.slice none 0 0):=(blk_cell BK222.out 2).trans rfl;have hfz44_0:=blk_frozen BK222.out 0;have hfz44_1:=blk_frozen BK222.out 1;have hfz44_2:=blk_frozen BK222.out 2;obtain ⟨Ao45,co45,eo45⟩:=Kd.R_slice HO221.out;subst eo45;have hcz46_0:w41.cell? ⟨gb215,0,none⟩=some (.int .i64 a0_0):=(blk_cell BK215.out 0).trans rfl;have hcz46_1:w41.cell? ⟨gb215,1,none⟩=some (.int .i64 a0_1):=(blk_cell BK215.out 1).trans rfl;have hcz46_2:w41.cell? ⟨gb215,2,none⟩=some (.slice A0_2 l0_2.length c0_2):=(blk_cell BK215.out 2).trans rfl;have hfz46_0:=blk_frozen BK215.out 0;have hfz46_1:=blk_frozen BK215.out 1;have hfz46_2:=blk_frozen BK215.out 2)|((with_reducible refine gate_callee (f:=65) rfl ?_);refine goesL_ (some 17) rfl rfl Try.func65 (by kernel_rfl) rfl #[.agg #[.int .i64 a0_0,.int .i64 a0_1,.slice A0_2 l0_2.length c0_2],.int .i64 a1] rfl (by (try simp only [List.map_toArray,List.map_cons,List.map_nil]);first|done|rfl|(simp only [List.length_drop,List.length_take];rfl)) ?_;(with_reducible refine (impl_FindChallenge.calls k a0_0 a0_1 _ _ l0_2 a1 t223 _ ?side1 ?side2 A6.out).mono ?_);(case side1 => exact Kd.C_below HR0_2.out (by repeat (first|(with_reducible first|exact HB.out|apply below_alloc|apply pw_below_drewN|apply below_drew1|refine below_set ?_ GE215.out|refine below_set ?_ GE216.out|refine below_set ?_ GE222.out)|exact HB.out)));(case side2 => exact HC0_2.out);rintro e w47 ⟨rfl,hb⟩;refine ⟨_,rfl,?_⟩;have n0_:=Am9_ (Kd.R_below (by (with_reducible repeat (first|apply Kd.R_alloc|apply Kd.R_drewN|apply Kd.R_drew));exact (Kd.R_mono (Kd.R_far (p:=⟨gb222,2,none⟩) (Kd.R_far (p:=⟨gb222,1,none⟩) (Kd.R_far (p:=⟨gb222,0,none⟩) (Kd.R_types HO221.out BK222.out (by decide)) (fun _ hk => hk.2) (.int .i64 t217)) (fun _ hk => hk.2) (.int .i64 t218)) (fun _ hk => hk.2) (.slice Ao45 t219.length co45)) (fun _ h_ => h_.1))) hb);have n1_:=Am9_ (blk_below (g:=gb215) (o:=.cells #[.int .i64 a0_0,.int .i64 a0_1,.slice A0_2 l0_2.length c0_2] 28 (0,0)) (by (with_reducible repeat (first|refine blk_drewN ?_ _|refine blk_drew ?_|refine blk_alloc ?_ _));refine blk_far ?_ NB215_222.out _;(with_reducible repeat (first|refine blk_drewN ?_ _|refine blk_drew ?_|refine blk_alloc ?_ _));refine blk_far ?_ NB215_222.out _;(with_reducible repeat (first|refine blk_drewN ?_ _|refine blk_drew ?_|refine blk_alloc ?_ _));refine blk_far ?_ NB215_222.out _;(with_reducible repeat (first|refine blk_drewN ?_ _|refine blk_drew ?_|refine blk_alloc ?_ _));exact BK215.out) hb);have n2_:=Am9_ (blk_below (g:=gb216) (o:=.cells #[.int .i64 0,.int .i64 0,.slice none 0 0] 28 (0,0)) (by (with_reducible repeat (first|refine blk_drewN ?_ _|refine blk_drew ?_|refine blk_alloc ?_ _));refine blk_far ?_ NB216_222.out _;(with_reducible repeat (first|refine blk_drewN ?_ _|refine blk_drew ?_|refine blk_alloc ?_ _));refine blk_far ?_ NB216_222.out _;(with_reducible repeat (first|refine blk_drewN ?_ _|refine blk_drew ?_|refine blk_alloc ?_ _));refine blk_far ?_ NB216_222.out _;(with_reducible repeat (first|refine blk_drewN ?_ _|refine blk_drew ?_|refine blk_alloc ?_ _));exact BK216.out) hb);have n3_:=Am9_ (blk_below (g:=gb222) (o:=.cells #[.int .i64 t217,.int .i64 t218,.slice Ao45 t219.length co45] 28 (0,0)) (by (with_reducible repeat (first|refine blk_drewN ?_ _|refine blk_drew ?_|refine blk_alloc ?_ _));refine blk_put (cs:=#[.int .i64 t217,.int .i64 t218,.slice none 0 0]) ?_ 2 _ rfl;(with_reducible repeat (first|refine blk_drewN ?_ _|refine blk_drew ?_|refine blk_alloc ?_ _));refine blk_put (cs:=#[.int .i64 t217,.int .i64 0,.slice none 0 0]) ?_ 1 _ rfl;(with_reducible repeat (first|refine blk_drewN ?_ _|refine blk_drew ?_|refine blk_alloc ?_ _));refine blk_put (cs:=#[.int .i64 0,.int .i64 0,.slice none 0 0]) ?_ 0 _ rfl;(with_reducible repeat (first|refine blk_drewN ?_ _|refine blk_drew ?_|refine blk_alloc ?_ _));exact BK222.out) hb);have n4_:=Am9_ (below_step (by repeat (first|(with_reducible first|exact HB.out|apply below_alloc|apply pw_below_drewN|apply below_drew1|refine below_set ?_ GE215.out|refine below_set ?_ GE216.out|refine below_set ?_ GE222.out)|exact HB.out)) hb);clear HO221;clear BK215;clear BK216;clear BK222;clear HB;have HO221:=n0_;have BK215:=n1_;have BK216:=n2_;have BK222:=n3_;have HB:=n4_;clear n0_ n1_ n2_ n3_ n4_;(try clear hb);(try clear hb2);(try clear hk);(try clear hi);have hcz48_0:w47.cell? ⟨gb215,0,none⟩=some (.int .i64 a0_0):=(blk_cell BK215.out 0).trans rfl;have hcz48_1:w47.cell? ⟨gb215,1,none⟩=some (.int .i64 a0_1):=(blk_cell BK215.out 1).trans rfl;have hcz48_2:w47.cell? ⟨gb215,2,none⟩=some (.slice A0_2 l0_2.length c0_2):=(blk_cell BK215.out 2).trans rfl;have hfz48_0:=blk_frozen BK215.out 0;have hfz48_1:=blk_frozen BK215.out 1;have hfz48_2:=blk_frozen BK215.out 2)|((with_reducible refine gate_callee (f:=66) rfl ?_);refine goesL_ (some 19) rfl rfl Try.func66 (by kernel_rfl) rfl #[.agg #[.int .i64 a0_0,.int .i64 a0_1,.slice A0_2 l0_2.length c0_2]] rfl (by (try simp only [List.map_toArray,List.map_cons,List.map_nil]);first|done|rfl|(simp only [List.length_drop,List.length_take];rfl)) ?_;(with_reducible refine (impl_IsValidBook.calls k a0_0 a0_1 _ _ l0_2 true _ ?side1 ?side2 A7.out).mono ?_);(case side1 => repeat (first|exact (Kd.C_below HR0_2.out HB.out)|(with_reducible refine Kd.C_alloc ?_ _)|(with_reducible refine Kd.C_drewN ?_ _)|(with_reducible refine Kd.C_drew ?_)));(case side2 => exact HC0_2.out);rintro e w49 ⟨rfl,hb⟩;refine ⟨_,rfl,?_⟩;have n0_:=Am9_ (Kd.R_below (by (with_reducible repeat (first|apply Kd.R_alloc|apply Kd.R_drewN|apply Kd.R_drew));exact HO221.out) hb);have n1_:=Am9_ (blk_below (g:=gb215) (o:=.cells #[.int .i64 a0_0,.int .i64 a0_1,.slice A0_2 l0_2.length c0_2] 28 (0,0)) (by (with_reducible repeat (first|refine blk_drewN ?_ _|refine blk_drew ?_|refine blk_alloc ?_ _));exact BK215.out) hb);have n2_:=Am9_ (blk_below (g:=gb216) (o:=.cells #[.int .i64 0,.int .i64 0,.slice none 0 0] 28 (0,0)) (by (with_reducible repeat (first|refine blk_drewN ?_ _|refine blk_drew ?_|refine blk_alloc ?_ _));exact BK216.out) hb);have n3_:=Am9_ (blk_below (g:=gb222) (o:=.cells #[.int .i64 t217,.int .i64 t218,.slice Ao45 t219.length co45] 28 (0,0)) (by (with_reducible repeat (first|refine blk_drewN ?_ _|refine blk_drew ?_|refine blk_alloc ?_ _));exact BK222.out) hb);have n4_:=Am9_ (below_step (by repeat (first|(with_reducible first|exact HB.out|apply below_alloc|apply pw_below_drewN|apply below_drew1|refine below_set ?_ GE215.out|refine below_set ?_ GE216.out|refine below_set ?_ GE222.out)|exact HB.out)) hb);clear HO221;clear BK215;clear BK216;clear BK222;clear HB;have HO221:=n0_;have BK215:=n1_;have BK216:=n2_;have BK222:=n3_;have HB:=n4_;clear n0_ n1_ n2_ n3_ n4_;(try clear hb);(try clear hb2);(try clear hk);(try clear hi);have hcz50_0:w49.cell? ⟨gb215,0,none⟩=some (.int .i64 a0_0):=(blk_cell BK215.out 0).trans rfl;have hcz50_1:w49.cell? ⟨gb215,1,none⟩=some (.int .i64 a0_1):=(blk_cell BK215.out 1).trans rfl;have hcz50_2:w49.cell? ⟨gb215,2,none⟩=some (.slice A0_2 l0_2.length c0_2):=(blk_cell BK215.out 2).trans rfl;have hfz50_0:=blk_frozen BK215.out 0;have hfz50_1:=blk_frozen BK215.out 1;have hfz50_2:=blk_frozen BK215.out 2;have p225:0 ≤ (t223:Int):=of_decide_eq_true (by first|(with_reducible assumption)|assumption);have q225:t223 < (l0_2.length:Int):=of_decide_eq_true (by first|(with_reducible assumption)|assumption);obtain ⟨ad225,e225,hx225_0,hx225_1,hx225_2⟩:=at_T35 HR0_2.out t223 p225 q225;cases e225;replace hx225_0:=(HB.out.cell (World.block_lt_of_cell? w _ hx225_0)).trans hx225_0;replace hx225_1:=(HB.out.cell (World.block_lt_of_cell? w _ hx225_1)).trans hx225_1;replace hx225_2:=(HB.out.cell (World.block_lt_of_cell? w _ hx225_2)).trans hx225_2;replace p225:=eq_true p225;replace q225:=eq_true q225)|((with_reducible refine gate_dst (N:=12) rfl ?_);refine box_event ?hg (N:=12) ?hd (cs:=#[.int .i64 0,.int .i64 0,.int .i64 0]) (t:=35) ?hr ?_;(case hd => rfl);(case hg => rfl);(case hr => first|(go_simp;done)|(go_simp;rfl));intro gb226 hg w51 hbox hb;have n0_:=Am9_ (Kd.R_below (Kd.R_elderB (by (with_reducible repeat (first|apply Kd.R_alloc|apply Kd.R_drewN|apply Kd.R_drew));exact HO221.out) gb226 (Nat.le_of_eq hg.symm)) hb);have n1_:=Am9_ (blk_below (g:=gb215) (o:=.cells #[.int .i64 a0_0,.int .i64 a0_1,.slice (some ad225) l0_2.length c0_2] 28 (0,0)) (by (with_reducible repeat (first|refine blk_drewN ?_ _|refine blk_drew ?_|refine blk_alloc ?_ _));exact BK215.out) hb);have n2_:=Am9_ (blk_below (g:=gb216) (o:=.cells #[.int .i64 0,.int .i64 0,.slice none 0 0] 28 (0,0)) (by (with_reducible repeat (first|refine blk_drewN ?_ _|refine blk_drew ?_|refine blk_alloc ?_ _));exact BK216.out) hb);have n3_:=Am9_ (blk_below (g:=gb222) (o:=.cells #[.int .i64 t217,.int .i64 t218,.slice Ao45 t219.length co45] 28 (0,0)) (by (with_reducible repeat (first|refine blk_drewN ?_ _|refine blk_drew ?_|refine blk_alloc ?_ _));exact BK222.out) hb);have n4_:=Am9_ (below_step (by repeat (first|(with_reducible first|exact HB.out|apply below_alloc|apply pw_below_drewN|apply below_drew1|refine below_set ?_ GE215.out|refine below_set ?_ GE216.out|refine below_set ?_ GE222.out)|exact HB.out)) hb);have n5_:=Am9_ (hbox);have n6_:=Am9_ ((by rw [hg];exact (below_size (by repeat (first|(with_reducible first|exact HB.out|apply below_alloc|apply pw_below_drewN|apply below_drew1|refine below_set ?_ GE215.out|refine below_set ?_ GE216.out|refine below_set ?_ GE222.out)|exact HB.out))):w.heap.size ≤ gb226));have n7_:=Am9_ ((by rw [hg];exact (below_size (by repeat (first|(with_reducible first|exact HB.out|apply below_alloc|apply pw_below_drewN|apply below_drew1|refine below_set ?_ GE215.out|refine below_set ?_ GE216.out|refine below_set ?_ GE222.out)|exact HB.out))):w.heap.size ≤ gb226));have n8_:=Am9_ ((by rw [hg];exact Nat.ne_of_lt (blk_lt (g:=gb215) (o:=.cells #[.int .i64 a0_0,.int .i64 a0_1,.slice (some ad225) l0_2.length c0_2] 28 (0,0)) (by (with_reducible repeat (first|refine blk_drewN ?_ _|refine blk_drew ?_|refine blk_alloc ?_ _));exact BK215.out)):gb215 ≠ gb226));have n9_:=Am9_ ((by rw [hg];exact Nat.ne_of_gt (blk_lt (g:=gb215) (o:=.cells #[.int .i64 a0_0,.int .i64 a0_1,.slice (some ad225) l0_2.length c0_2] 28 (0,0)) (by (with_reducible repeat (first|refine blk_drewN ?_ _|refine blk_drew ?_|refine blk_alloc ?_ _));exact BK215.out)):gb226 ≠ gb215));have n10_:=Am9_ ((by rw [hg];exact Nat.ne_of_lt (blk_lt (g:=gb216) (o:=.cells #[.int .i64 0,.int .i64 0,.slice none 0 0] 28 (0,0)) (by (with_reducible repeat (first|refine blk_drewN ?_ _|refine blk_drew ?_|refine blk_alloc ?_ _));exact BK216.out)):gb216 ≠ gb226));have n11_:=Am9_ ((by rw [hg];exact Nat.ne_of_gt (blk_lt (g:=gb216) (o:=.cells #[.int .i64 0,.int .i64 0,.slice none 0 0] 28 (0,0)) (by (with_reducible repeat (first|refine blk_drewN ?_ _|refine blk_drew ?_|refine blk_alloc ?_ _));exact BK216.out)):gb226 ≠ gb216));have n12_:=Am9_ ((by rw [hg];exact Nat.ne_of_lt (blk_lt (g:=gb222) (o:=.cells #[.int .i64 t217,.int .i64 t218,.slice Ao45 t219.length co45] 28 (0,0)) (by (with_reducible repeat (first|refine blk_drewN ?_ _|refine blk_drew ?_|refine blk_alloc ?_ _));exact BK222.out)):gb222 ≠ gb226));have n13_:=Am9_ ((by rw [hg];exact Nat.ne_of_gt (blk_lt (g:=gb222) (o:=.cells #[.int .i64 t217,.int .i64 t218,.slice Ao45 t219.length co45] 28 (0,0)) (by (with_reducible repeat (first|refine blk_drewN ?_ _|refine blk_drew ?_|refine blk_alloc ?_ _));exact BK222.out)):gb226 ≠ gb222));clear HO221;clear BK215;clear BK216;clear BK222;clear HB;have HO221:=n0_;have BK215:=n1_;have BK216:=n2_;have BK222:=n3_;have HB:=n4_;have BK226:=n5_;have GW226:=n6_;have GE226:=n7_;have NB215_226:=n8_;have NB226_215:=n9_;have NB216_226:=n10_;have NB226_216:=n11_;have NB222_226:=n12_;have NB226_222:=n13_;clear n0_ n1_ n2_ n3_ n4_ n5_ n6_ n7_ n8_ n9_ n10_ n11_ n12_ n13_;clear hb hbox hg;have hnb52:=NB226_215.out;have hnc52:=NB215_226.out;have hnb53:=NB226_216.out;have hnc53:=NB216_226.out;have hnb54:=NB226_222.out;have hnc54:=NB222_226.out;have hcz55_0:w51.cell? ⟨gb226,0,none⟩=some (.int .i64 0):=(blk_cell BK226.out 0).trans rfl;have hcz55_1:w51.cell? ⟨gb226,1,none⟩=some (.int .i64 0):=(blk_cell BK226.out 1).trans rfl;have hcz55_2:w51.cell? ⟨gb226,2,none⟩=some (.int .i64 0):=(blk_cell BK226.out 2).trans rfl;have hfz55_0:=blk_frozen BK226.out 0;have hfz55_1:=blk_frozen BK226.out 1;have hfz55_2:=blk_frozen BK226.out 2))
           have n0_:Aside0 (Kd.R k35 35 (((w51.setCell ⟨gb226,0,none⟩ (.int .i64 ((rd_T35 l0_2 t223).f0))).setCell ⟨gb226,1,none⟩ (.int .i64 ((rd_T35 l0_2 t223).f1))).setCell ⟨gb226,2,none⟩ (.int .i64 ((rd_T35 l0_2 t223).f2))) w.heap.size (fun k_ => k_ ≠ gb226) (.slice Ao45 t219.length co45) t219):=⟨by (with_reducible repeat (first|apply Kd.R_alloc|apply Kd.R_drewN|apply Kd.R_drew));exact Kd.R_mono (Kd.R_far (p:=⟨gb226,2,none⟩) (Kd.R_far (p:=⟨gb226,1,none⟩) (Kd.R_far (p:=⟨gb226,0,none⟩) (Kd.R_mono HO221.out (fun k_ hk => (⟨hk,hk.2⟩:_∧k_ ≠ gb226))) (fun _ hk => hk.2) (.int .i64 ((rd_T35 l0_2 t223).f0))) (fun _ hk => hk.2) (.int .i64 ((rd_T35 l0_2 t223).f1))) (fun _ hk => hk.2) (.int .i64 ((rd_T35 l0_2 t223).f2))) (fun _ hk => hk.1.2)⟩
           have n1_:Aside0 ((((w51.setCell ⟨gb226,0,none⟩ (.int .i64 ((rd_T35 l0_2 t223).f0))).setCell ⟨gb226,1,none⟩ (.int .i64 ((rd_T35 l0_2 t223).f1))).setCell ⟨gb226,2,none⟩ (.int .i64 ((rd_T35 l0_2 t223).f2))).heap[gb215]?=some (.cells #[.int .i64 a0_0,.int .i64 a0_1,.slice (some ad225) l0_2.length c0_2] 28 (0,0))):=⟨by (with_reducible repeat (first|refine blk_drewN ?_ _|refine blk_drew ?_|refine blk_alloc ?_ _));refine blk_far ?_ NB215_226.out _;(with_reducible repeat (first|refine blk_drewN ?_ _|refine blk_drew ?_|refine blk_alloc ?_ _));refine blk_far ?_ NB215_226.out _;(with_reducible repeat (first|refine blk_drewN ?_ _|refine blk_drew ?_|refine blk_alloc ?_ _));refine blk_far ?_ NB215_226.out _;(with_reducible repeat (first|refine blk_drewN ?_ _|refine blk_drew ?_|refine blk_alloc ?_ _));exact BK215.out⟩
           have n2_:Aside0 ((((w51.setCell ⟨gb226,0,none⟩ (.int .i64 ((rd_T35 l0_2 t223).f0))).setCell ⟨gb226,1,none⟩ (.int .i64 ((rd_T35 l0_2 t223).f1))).setCell ⟨gb226,2,none⟩ (.int .i64 ((rd_T35 l0_2 t223).f2))).heap[gb216]?=some (.cells #[.int .i64 0,.int .i64 0,.slice none 0 0] 28 (0,0))):=⟨by (with_reducible repeat (first|refine blk_drewN ?_ _|refine blk_drew ?_|refine blk_alloc ?_ _));refine blk_far ?_ NB216_226.out _;(with_reducible repeat (first|refine blk_drewN ?_ _|refine blk_drew ?_|refine blk_alloc ?_ _));refine blk_far ?_ NB216_226.out _;(with_reducible repeat (first|refine blk_drewN ?_ _|refine blk_drew ?_|refine blk_alloc ?_ _));refine blk_far ?_ NB216_226.out _;(with_reducible repeat (first|refine blk_drewN ?_ _|refine blk_drew ?_|refine blk_alloc ?_ _));exact BK216.out⟩
           have n3_:Aside0 ((((w51.setCell ⟨gb226,0,none⟩ (.int .i64 ((rd_T35 l0_2 t223).f0))).setCell ⟨gb226,1,none⟩ (.int .i64 ((rd_T35 l0_2 t223).f1))).setCell ⟨gb226,2,none⟩ (.int .i64 ((rd_T35 l0_2 t223).f2))).heap[gb222]?=some (.cells #[.int .i64 t217,.int .i64 t218,.slice Ao45 t219.length co45] 28 (0,0))):=⟨by (with_reducible repeat (first|refine blk_drewN ?_ _|refine blk_drew ?_|refine blk_alloc ?_ _));refine blk_far ?_ NB222_226.out _;(with_reducible repeat (first|refine blk_drewN ?_ _|refine blk_drew ?_|refine blk_alloc ?_ _));refine blk_far ?_ NB222_226.out _;(with_reducible repeat (first|refine blk_drewN ?_ _|refine blk_drew ?_|refine blk_alloc ?_ _));refine blk_far ?_ NB222_226.out _;(with_reducible repeat (first|refine blk_drewN ?_ _|refine blk_drew ?_|refine blk_alloc ?_ _));exact BK222.out⟩
           have n4_:Aside0 ((((w51.setCell ⟨gb226,0,none⟩ (.int .i64 ((rd_T35 l0_2 t223).f0))).setCell ⟨gb226,1,none⟩ (.int .i64 ((rd_T35 l0_2 t223).f1))).setCell ⟨gb226,2,none⟩ (.int .i64 ((rd_T35 l0_2 t223).f2))).heap[gb226]?=some (.cells #[.int .i64 ((rd_T35 l0_2 t223).f0),.int .i64 ((rd_T35 l0_2 t223).f1),.int .i64 ((rd_T35 l0_2 t223).f2)] 35 (0,0))):=⟨by (with_reducible repeat (first|refine blk_drewN ?_ _|refine blk_drew ?_|refine blk_alloc ?_ _));refine blk_put (cs:=#[.int .i64 ((rd_T35 l0_2 t223).f0),.int .i64 ((rd_T35 l0_2 t223).f1),.int .i64 0]) ?_ 2 _ rfl;(with_reducible repeat (first|refine blk_drewN ?_ _|refine blk_drew ?_|refine blk_alloc ?_ _));refine blk_put (cs:=#[.int .i64 ((rd_T35 l0_2 t223).f0),.int .i64 0,.int .i64 0]) ?_ 1 _ rfl;(with_reducible repeat (first|refine blk_drewN ?_ _|refine blk_drew ?_|refine blk_alloc ?_ _));refine blk_put (cs:=#[.int .i64 0,.int .i64 0,.int .i64 0]) ?_ 0 _ rfl;(with_reducible repeat (first|refine blk_drewN ?_ _|refine blk_drew ?_|refine blk_alloc ?_ _));exact BK226.out⟩
           have n5_:Aside0 (Below w.heap.size w (((w51.setCell ⟨gb226,0,none⟩ (.int .i64 ((rd_T35 l0_2 t223).f0))).setCell ⟨gb226,1,none⟩ (.int .i64 ((rd_T35 l0_2 t223).f1))).setCell ⟨gb226,2,none⟩ (.int .i64 ((rd_T35 l0_2 t223).f2)))):=⟨by repeat (first|(with_reducible first|exact HB.out|apply below_alloc|apply pw_below_drewN|apply below_drew1|refine below_set ?_ GE215.out|refine below_set ?_ GE216.out|refine below_set ?_ GE222.out|refine below_set ?_ GE226.out)|exact HB.out)⟩
           (try clear HO221)
           (try clear BK215)
           (try clear BK216)
           (try clear BK222)
           (try clear BK226)
           (try clear HB)
           generalize (((w51.setCell ⟨gb226,0,none⟩ (.int .i64 ((rd_T35 l0_2 t223).f0))).setCell ⟨gb226,1,none⟩ (.int .i64 ((rd_T35 l0_2 t223).f1))).setCell ⟨gb226,2,none⟩ (.int .i64 ((rd_T35 l0_2 t223).f2)))=w56 at n0_ n1_ n2_ n3_ n4_ n5_ ⊢
           have HO221:=n0_
           have BK215:=n1_
           have BK216:=n2_
           have BK222:=n3_
           have BK226:=n4_
           have HB:=n5_
           clear n0_ n1_ n2_ n3_ n4_ n5_
           have n0_:=Am9_ (Kd.R_drew HO221.out)
           have n1_:=Am9_ (blk_drew BK215.out)
           have n2_:=Am9_ (blk_drew BK216.out)
           have n3_:=Am9_ (blk_drew BK222.out)
           have n4_:=Am9_ (blk_drew BK226.out)
           have n5_:=Am9_ (below_drew1 HB.out)
           clear HO221
           clear BK215
           clear BK216
           clear BK222
           clear BK226
           clear HB
           have HO221:=n0_
           have BK215:=n1_
           have BK216:=n2_
           have BK222:=n3_
           have BK226:=n4_
           have HB:=n5_
           clear n0_ n1_ n2_ n3_ n4_ n5_
           have q58:(t223:Int) ≤ ((l0_2.length:Int):Int):=of_decide_eq_true (by first|(with_reducible assumption)|assumption)
           obtain ⟨i058,hi058,_,hsz58,_⟩:=info_parts info35
           have hroom58:l0_2.length ≤ c0_2:=HC0_2.out
           have hC58:Kd.C k35 _ (some ad225) l0_2.length l0_2:=HR0_2.out
           have hcut58:=cut_to (P:=Try.prog) 26 35 .i64 Try.underlying26 hi058 (some ad225) l0_2.length c0_2 t223 (of_decide_eq_true (by first|(with_reducible assumption)|assumption)) q58 hroom58
           have hr58:=Kd.C_take (m:=(t223:Int).toNat) hC58 (by omega)
           have hy58:y230.length=(t223:Int).toNat:=(by rw [Ny230.out,List.length_take];omega)
           rw [← Ny230.out] at hr58
           rw [← hy58] at hcut58
           have HR233:=Am9_ hr58
           have HC233:=Am9_ (show y230.length ≤ c0_2 from by omega)
           clear hr58 hC58 hroom58 hi058 hsz58
           have KY58:=Am9_ hy58
           clear hy58
           replace q58:=eq_true q58
           have q59:((ji31):Int) ≤ ((l0_2.length:Int):Int):=of_decide_eq_true (by first|(with_reducible assumption)|assumption)
           obtain ⟨i059,hi059,_,hsz59,_⟩:=info_parts info35
           have hroom59:l0_2.length ≤ c0_2:=HC0_2.out
           have hC59:Kd.C k35 _ (some ad225) l0_2.length l0_2:=HR0_2.out
           have q059:(0:Int) ≤ ((ji31):Int):=of_decide_eq_true (by first|(with_reducible assumption)|assumption)
           have hcut59:=cut_from (P:=Try.prog) 26 35 .i64 Try.underlying26 hi059 3 hsz59 (some ad225) l0_2.length c0_2 (ji31) q059 q59
           have hr59:=Kd.C_drop (m:=((ji31):Int).toNat) (c:=c0_2) hC59 (by omega) hroom59
           obtain ⟨A59,hA59⟩:∃ A1,A1=(if c0_2=((ji31):Int).toNat then (some ad225) else ((some ad225):Option Addr).map (·.add (((ji31):Int).toNat * 3))):=⟨_,rfl⟩
           obtain ⟨c59,hc59⟩:∃ c1,c1=c0_2 - ((ji31):Int).toNat:=⟨_,rfl⟩
           have hy59:y237.length=l0_2.length - ((ji31):Int).toNat:=(by rw [Ny237.out,List.length_drop] <;> omega)
           rw [show (l0_2).drop ((ji31):Int).toNat=y237 from Ny237.out.symm] at hr59
           replace hr59:Kd.C k35 _ A59 y237.length y237:=(by rw [hA59];exact hr59)
           rw [← hy59,← hA59,← hc59] at hcut59
           have HR240:=Am9_ hr59
           have HC240:=Am9_ (show y237.length ≤ c59 from by rw [hy59,hc59];exact Nat.sub_le_sub_right hroom59 _)
           clear hr59 hC59 hroom59 hi059 hsz59 hc59
           have KY59:=Am9_ hy59
           have KA59:=Am9_ hA59
           clear hy59 hA59
           replace q59:=eq_true q59
           refine start_ (n:=14) (S:=fun w' => w'.cell? ⟨gb215,0,none⟩=some (.int .i64 a0_0)∧w'.cell? ⟨gb215,1,none⟩=some (.int .i64 a0_1)∧w'.cell? ⟨gb215,2,none⟩=some (.slice (some ad225) l0_2.length c0_2)) (ds:=[]) #[false,false,false,false,false,false,false,false,false,false,false,false,false,false] (by kernel_rfl) rfl rfl ⟨(blk_cell BK215.out 0).trans rfl,(blk_cell BK215.out 1).trans rfl,(blk_cell BK215.out 2).trans rfl⟩ (fun hHeld => ?_);refine with_tabW impl_TakeChallenge.tab6 impl_TakeChallenge.bits6 (fun HT_ HW_ => ?_)
           generalize w56.drew=w57 at HO221 BK215 BK216 BK222 BK226 HB HR233 HR240 hHeld ⊢
           refine pure_ (i:=1) (N:=some 32) (v:=?_) (a':=?_) #[false,true,false,false,false,false,false,false,false,false,false,false,false,false] rfl rfl (any_of HT_.out (by kernel_rfl)) (fun _ _ _ h => h) (Or.inl ⟨by rfl,?_⟩) ?_ ?_
           rotate_left
           ·intro w'
            go_simp
            with_reducible rfl
           rotate_left
           ·simp only [Act.put,List.setIfInBounds_toArray,List.set_cons_zero,List.set_cons_succ,i64_w,i32_w]
            rfl
           refine pure_ (i:=3) (N:=some 34) (v:=?_) (a':=?_) #[false,true,false,true,false,false,false,false,false,false,false,false,false,false] rfl rfl (any_of HT_.out (by kernel_rfl)) (fun _ _ _ h => h) (Or.inl ⟨by rfl,?_⟩) ?_ ?_
           rotate_left
           ·intro w'
            go_simp
            with_reducible rfl
           rotate_left
           ·simp only [Act.put,List.setIfInBounds_toArray,List.set_cons_zero,List.set_cons_succ,i64_w,i32_w]
            rfl
           refine pure_ (i:=6) (N:=some 37) (v:=?_) (a':=?_) #[false,true,false,true,false,false,true,false,false,false,false,false,false,false] rfl rfl (any_of HT_.out (by kernel_rfl)) (fun _ _ _ h => h) (Or.inl ⟨by rfl,?_⟩) ?_ ?_
           rotate_left
           ·intro w'
            go_simp
            with_reducible rfl
           rotate_left
           ·simp only [Act.put,List.setIfInBounds_toArray,List.set_cons_zero,List.set_cons_succ,i64_w,i32_w]
            rfl
           refine pure_ (i:=8) (N:=some 39) (v:=?_) (a':=?_) #[false,true,false,true,false,false,true,false,true,false,false,false,false,false] rfl rfl (any_of HT_.out (by kernel_rfl)) (fun _ _ _ h => h) (Or.inl ⟨by rfl,?_⟩) ?_ ?_
           rotate_left
           ·intro w'
            go_simp
            with_reducible rfl
           rotate_left
           ·simp only [Act.put,List.setIfInBounds_toArray,List.set_cons_zero,List.set_cons_succ,i64_w,i32_w]
            rfl
           refine pure_ (i:=9) (N:=some 40) (v:=?_) (a':=?_) #[false,true,false,true,false,false,true,false,true,true,false,false,false,false] rfl rfl (any_of HT_.out (by kernel_rfl)) (fun _ _ _ h => h) (Or.inl ⟨by rfl,?_⟩) ?_ ?_
           rotate_left
           ·intro w'
            go_simp
            with_reducible rfl
           rotate_left
           ·simp only [Act.put,List.setIfInBounds_toArray,List.set_cons_zero,List.set_cons_succ,i64_w,i32_w]
            rfl
           refine take_ (i:=2) (N:=some 33) (v:=?_) (a':=?_) #[false,true,true,true,false,false,true,false,true,true,false,false,false,false] rfl rfl (take_ofW HT_.out HW_.out (by kernel_rfl)) (fun _ _ _ h => h) (Or.inl ⟨by rfl,?_⟩) hHeld ?_ ?_
           rotate_left
           ·rintro w' ⟨s0,s1,s2⟩
            go_simp
            with_reducible rfl
           rotate_left
           ·simp only [Act.put,List.setIfInBounds_toArray,List.set_cons_zero,List.set_cons_succ,i64_w,i32_w]
            rfl
           refine pure_ (i:=4) (N:=some 35) (v:=?_) (a':=?_) #[false,true,true,true,true,false,true,false,true,true,false,false,false,false] rfl rfl (any_of HT_.out (by kernel_rfl)) (fun _ _ _ h => h) (Or.inl ⟨by rfl,?_⟩) ?_ ?_
           rotate_left
           ·intro w'
            go_simp
            with_reducible rfl
           rotate_left
           ·simp only [Act.put,List.setIfInBounds_toArray,List.set_cons_zero,List.set_cons_succ,i64_w,i32_w]
            rfl
           refine take_ (i:=7) (N:=some 38) (v:=?_) (a':=?_) #[false,true,true,true,true,false,true,true,true,true,false,false,false,false] rfl rfl (take_ofW HT_.out HW_.out (by kernel_rfl)) (fun _ _ _ h => h) (Or.inl ⟨by rfl,?_⟩) hHeld ?_ ?_
           rotate_left
           ·rintro w' ⟨s0,s1,s2⟩
            go_simp
            with_reducible rfl
           rotate_left
           ·simp only [Act.put,List.setIfInBounds_toArray,List.set_cons_zero,List.set_cons_succ,i64_w,i32_w]
            rfl
           refine pure_ (i:=10) (N:=some 41) (v:=?_) (a':=?_) #[false,true,true,true,true,false,true,true,true,true,true,false,false,false] rfl rfl (any_of HT_.out (by kernel_rfl)) (fun _ _ _ h => h) (Or.inl ⟨by rfl,?_⟩) ?_ ?_
           rotate_left
           ·intro w'
            go_simp
            with_reducible rfl
           rotate_left
           ·simp only [Act.put,List.setIfInBounds_toArray,List.set_cons_zero,List.set_cons_succ,i64_w,i32_w]
            rfl
           refine one_ (i:=0) (N:=some 31) #[true,true,true,true,true,false,true,true,true,true,true,false,false,false] rfl rfl (one_of HT_.out (by kernel_rfl)) (by decide) (fun K hK => ?_)
           refine Kd.R_lit_step k35 _ 35 ?hg (N:=31) ?hd (xs:=([]:List (S35))) (inner:=[]) (ok:=fun _ => True) (okp:=fun _ => True) ?hr ?hp (fun _ hk => hk) trivial (Below.refl _ _) (Nat.le_refl _) (by simp) ?_;(case hd => rfl);(case hg => rfl);(case hr => first|(go_simp;done)|(go_simp;rfl));(case hp => exact (Reps.none _ _))
           intro v228 w60 ho61 hb hg_ hnew_
           clear hg_ hnew_
           (first|rw [← Ny227.out] at ho61|(simp only [Int.reduceToNat] at ho61;rw [← Ny227.out] at ho61))
           have n0_:=Am9_ (Kd.R_elder' (by (with_reducible repeat (first|apply Kd.R_alloc|apply Kd.R_drewN|apply Kd.R_drew));exact HO221.out) (Kd.R_base ho61) hb)
           have n1_:=Am9_ (Kd.R_lower (Kd.R_newB (Kd.R_new' ho61 (Kd.R_lt (by (with_reducible repeat (first|apply Kd.R_alloc|apply Kd.R_drewN|apply Kd.R_drew));exact HO221.out))) (g:=gb226) (o:=.cells #[.int .i64 ((rd_T35 l0_2 t223).f0),.int .i64 ((rd_T35 l0_2 t223).f1),.int .i64 ((rd_T35 l0_2 t223).f2)] 35 (0,0)) (by (with_reducible repeat (first|refine blk_drewN ?_ _|refine blk_drew ?_|refine blk_alloc ?_ _));exact BK226.out)) (below_size (by repeat (first|(with_reducible first|exact HB.out|apply below_alloc|apply pw_below_drewN|apply below_drew1|refine below_set ?_ GE215.out|refine below_set ?_ GE216.out|refine below_set ?_ GE222.out|refine below_set ?_ GE226.out)|exact HB.out))))
           have n2_:=Am9_ (blk_below (g:=gb215) (o:=.cells #[.int .i64 a0_0,.int .i64 a0_1,.slice (some ad225) l0_2.length c0_2] 28 (0,0)) (by (with_reducible repeat (first|refine blk_drewN ?_ _|refine blk_drew ?_|refine blk_alloc ?_ _));exact BK215.out) hb)
           have n3_:=Am9_ (blk_below (g:=gb216) (o:=.cells #[.int .i64 0,.int .i64 0,.slice none 0 0] 28 (0,0)) (by (with_reducible repeat (first|refine blk_drewN ?_ _|refine blk_drew ?_|refine blk_alloc ?_ _));exact BK216.out) hb)
           have n4_:=Am9_ (blk_below (g:=gb222) (o:=.cells #[.int .i64 t217,.int .i64 t218,.slice Ao45 t219.length co45] 28 (0,0)) (by (with_reducible repeat (first|refine blk_drewN ?_ _|refine blk_drew ?_|refine blk_alloc ?_ _));exact BK222.out) hb)
           have n5_:=Am9_ (blk_below (g:=gb226) (o:=.cells #[.int .i64 ((rd_T35 l0_2 t223).f0),.int .i64 ((rd_T35 l0_2 t223).f1),.int .i64 ((rd_T35 l0_2 t223).f2)] 35 (0,0)) (by (with_reducible repeat (first|refine blk_drewN ?_ _|refine blk_drew ?_|refine blk_alloc ?_ _));exact BK226.out) hb)
           have n6_:=Am9_ (below_step (by repeat (first|(with_reducible first|exact HB.out|apply below_alloc|apply pw_below_drewN|apply below_drew1|refine below_set ?_ GE215.out|refine below_set ?_ GE216.out|refine below_set ?_ GE222.out|refine below_set ?_ GE226.out)|exact HB.out)) hb)
           clear HO221
           clear BK215
           clear BK216
           clear BK222
           clear BK226
           clear HB
           have HO221:=n0_
           have HO229:=n1_
           have BK215:=n2_
           have BK216:=n3_
           have BK222:=n4_
           have BK226:=n5_
           have HB:=n6_
           clear n0_ n1_ n2_ n3_ n4_ n5_ n6_
           clear hb ho61
           refine hK.out _ _ ⟨(blk_cell BK215.out 0).trans rfl,(blk_cell BK215.out 1).trans rfl,(blk_cell BK215.out 2).trans rfl⟩ (fun hHeld => ?_)
           clear hK K
           refine norm_ (a':=?_) ?_ ?_
           rotate_left
           ·show Act.put _ (some 31) _=_
            simp only [Act.put,List.setIfInBounds_toArray,List.set_cons_zero,List.set_cons_succ,i64_w,i32_w]
            rfl
           refine one_ (i:=5) (N:=some 36) #[true,true,true,true,true,true,true,true,true,true,true,false,false,false] rfl rfl (one_of HT_.out (by kernel_rfl)) (by decide) (fun K hK => ?_)
           refine Kd.R_append_rows_step k35 (w0:=w) w.heap.size (by rfl) (.tmp 31) (.tmp 35) 26 35 (.agg #[(.int .i64 0),(.int .i64 0),(.int .i64 0)]) 24 rfl Try.underlying26 info35 rfl (by decide) (by omega) v228 y227 y230 _ _ _ (fun k_ => some k_ ≠ (.slice Ao45 t219.length co45:Value).ownBlock∧k_ ≠ gb226) (fun _ => False) rfl rfl ?aO ?aR (fun _ _ h => h) (fun _ h => h.elim) ?aF ?aB ?aS ?aL ?_
           (case aR => repeat (first|exact (Kd.C_below HR233.out HB.out)|(with_reducible refine Kd.C_alloc ?_ _)|(with_reducible refine Kd.C_drewN ?_ _)|(with_reducible refine Kd.C_drew ?_)))
           (case aB => exact (by repeat (first|(with_reducible first|exact HB.out|apply below_alloc|apply pw_below_drewN|apply below_drew1|refine below_set ?_ GE215.out|refine below_set ?_ GE216.out|refine below_set ?_ GE222.out|refine below_set ?_ GE226.out)|exact HB.out)))
           (case aF => exact (fun k_ hk => ⟨Kd.fresh' (Kd.R_lt (by (with_reducible repeat (first|apply Kd.R_alloc|apply Kd.R_drewN|apply Kd.R_drew));exact HO221.out)) k_ hk,Kd.freshB (g:=gb226) (o:=.cells #[.int .i64 ((rd_T35 l0_2 t223).f0),.int .i64 ((rd_T35 l0_2 t223).f1),.int .i64 ((rd_T35 l0_2 t223).f2)] 35 (0,0)) (by (with_reducible repeat (first|refine blk_drewN ?_ _|refine blk_drew ?_|refine blk_alloc ?_ _));exact BK226.out) k_ hk⟩))
           (case aO => exact (by (with_reducible repeat (first|apply Kd.R_alloc|apply Kd.R_drewN|apply Kd.R_drew));exact Kd.R_mono HO229.out (fun _ hk => ⟨hk.1.2,hk.2⟩)))
           (case aS => exact (below_size (by repeat (first|(with_reducible first|exact HB.out|apply below_alloc|apply pw_below_drewN|apply below_drew1|refine below_set ?_ GE215.out|refine below_set ?_ GE216.out|refine below_set ?_ GE222.out|refine below_set ?_ GE226.out)|exact HB.out))))
           (case aL => have:=LMc30.out;omega)
           intro v235 w62 ho hb hg hat
           rw [← Ny234.out] at ho
           have n0_:=Am9_ (blk_grown (g:=gb215) (o:=.cells #[.int .i64 a0_0,.int .i64 a0_1,.slice (some ad225) l0_2.length c0_2] 28 (0,0)) (by (with_reducible repeat (first|refine blk_drewN ?_ _|refine blk_drew ?_|refine blk_alloc ?_ _));exact BK215.out) hg (Kd.R_ne HO229.out BK215.out (by decide)))
           have n1_:=Am9_ (blk_grown (g:=gb216) (o:=.cells #[.int .i64 0,.int .i64 0,.slice none 0 0] 28 (0,0)) (by (with_reducible repeat (first|refine blk_drewN ?_ _|refine blk_drew ?_|refine blk_alloc ?_ _));exact BK216.out) hg (Kd.R_ne HO229.out BK216.out (by decide)))
           have n2_:=Am9_ (Kd.R_after (ok:=(fun k_ => k_ ≠ gb226)) (by (with_reducible repeat (first|apply Kd.R_alloc|apply Kd.R_drewN|apply Kd.R_drew));exact HO221.out) hg hat)
           have n3_:=Am9_ (blk_grown (g:=gb222) (o:=.cells #[.int .i64 t217,.int .i64 t218,.slice Ao45 t219.length co45] 28 (0,0)) (by (with_reducible repeat (first|refine blk_drewN ?_ _|refine blk_drew ?_|refine blk_alloc ?_ _));exact BK222.out) hg (Kd.R_ne HO229.out BK222.out (by decide)))
           have n4_:=Am9_ (blk_grown (g:=gb226) (o:=.cells #[.int .i64 ((rd_T35 l0_2 t223).f0),.int .i64 ((rd_T35 l0_2 t223).f1),.int .i64 ((rd_T35 l0_2 t223).f2)] 35 (0,0)) (by (with_reducible repeat (first|refine blk_drewN ?_ _|refine blk_drew ?_|refine blk_alloc ?_ _));exact BK226.out) hg (Kd.R_away HO229.out (fun _ hk => hk.2)))
           have n5_:=Am9_ (hb)
           have n6_:=Am9_ (ho)
           clear BK215
           clear BK216
           clear HO221
           clear BK222
           clear BK226
           clear HB
           clear HO229
           have BK215:=n0_
           have BK216:=n1_
           have HO221:=n2_
           have BK222:=n3_
           have BK226:=n4_
           have HB:=n5_
           have HO236:=n6_
           clear n0_ n1_ n2_ n3_ n4_ n5_ n6_
           clear ho hb hg hat
           refine hK.out _ _ ⟨(blk_cell BK215.out 0).trans rfl,(blk_cell BK215.out 1).trans rfl,(blk_cell BK215.out 2).trans rfl⟩ (fun hHeld => ?_)
           clear hK K
           refine norm_ (a':=?_) ?_ ?_
           rotate_left
           ·show Act.put _ (some 36) _=_
            simp only [Act.put,List.setIfInBounds_toArray,List.set_cons_zero,List.set_cons_succ,i64_w,i32_w]
            rfl
           refine one_ (i:=11) (N:=some 42) #[true,true,true,true,true,true,true,true,true,true,true,true,false,false] rfl rfl (one_of HT_.out (by kernel_rfl)) (by decide) (fun K hK => ?_)
           refine Kd.R_append_rows_step k35 (w0:=w) w.heap.size (by rfl) (.tmp 36) (.tmp 41) 26 35 (.agg #[(.int .i64 0),(.int .i64 0),(.int .i64 0)]) 24 rfl Try.underlying26 info35 rfl (by decide) (by omega) v235 y234 y237 _ _ _ (fun k_ => some k_ ≠ (.slice Ao45 t219.length co45:Value).ownBlock∧k_ ≠ gb226) (fun _ => False) rfl rfl ?aO ?aR (fun _ _ h => h) (fun _ h => h.elim) ?aF ?aB ?aS ?aL ?_
           (case aR => repeat (first|exact (Kd.C_below HR240.out HB.out)|(with_reducible refine Kd.C_alloc ?_ _)|(with_reducible refine Kd.C_drewN ?_ _)|(with_reducible refine Kd.C_drew ?_)))
           (case aB => exact (by repeat (first|(with_reducible first|exact HB.out|apply below_alloc|apply pw_below_drewN|apply below_drew1|refine below_set ?_ GE215.out|refine below_set ?_ GE216.out|refine below_set ?_ GE222.out|refine below_set ?_ GE226.out)|exact HB.out)))
           (case aF => exact (fun k_ hk => ⟨Kd.fresh' (Kd.R_lt (by (with_reducible repeat (first|apply Kd.R_alloc|apply Kd.R_drewN|apply Kd.R_drew));exact HO221.out)) k_ hk,Kd.freshB (g:=gb226) (o:=.cells #[.int .i64 ((rd_T35 l0_2 t223).f0),.int .i64 ((rd_T35 l0_2 t223).f1),.int .i64 ((rd_T35 l0_2 t223).f2)] 35 (0,0)) (by (with_reducible repeat (first|refine blk_drewN ?_ _|refine blk_drew ?_|refine blk_alloc ?_ _));exact BK226.out) k_ hk⟩))
           (case aO => exact (by (with_reducible repeat (first|apply Kd.R_alloc|apply Kd.R_drewN|apply Kd.R_drew));exact HO236.out))
           (case aS => exact (below_size (by repeat (first|(with_reducible first|exact HB.out|apply below_alloc|apply pw_below_drewN|apply below_drew1|refine below_set ?_ GE215.out|refine below_set ?_ GE216.out|refine below_set ?_ GE222.out|refine below_set ?_ GE226.out)|exact HB.out))))
           (case aL => have:=LMc34.out;omega)
           intro v242 w63 ho hb hg hat
           rw [← Ny241.out] at ho
           have n0_:=Am9_ (blk_grown (g:=gb215) (o:=.cells #[.int .i64 a0_0,.int .i64 a0_1,.slice (some ad225) l0_2.length c0_2] 28 (0,0)) (by (with_reducible repeat (first|refine blk_drewN ?_ _|refine blk_drew ?_|refine blk_alloc ?_ _));exact BK215.out) hg (Kd.R_ne HO236.out BK215.out (by decide)))
           have n1_:=Am9_ (blk_grown (g:=gb216) (o:=.cells #[.int .i64 0,.int .i64 0,.slice none 0 0] 28 (0,0)) (by (with_reducible repeat (first|refine blk_drewN ?_ _|refine blk_drew ?_|refine blk_alloc ?_ _));exact BK216.out) hg (Kd.R_ne HO236.out BK216.out (by decide)))
           have n2_:=Am9_ (Kd.R_after (ok:=(fun k_ => k_ ≠ gb226)) (by (with_reducible repeat (first|apply Kd.R_alloc|apply Kd.R_drewN|apply Kd.R_drew));exact HO221.out) hg hat)
           have n3_:=Am9_ (blk_grown (g:=gb222) (o:=.cells #[.int .i64 t217,.int .i64 t218,.slice Ao45 t219.length co45] 28 (0,0)) (by (with_reducible repeat (first|refine blk_drewN ?_ _|refine blk_drew ?_|refine blk_alloc ?_ _));exact BK222.out) hg (Kd.R_ne HO236.out BK222.out (by decide)))
           have n4_:=Am9_ (blk_grown (g:=gb226) (o:=.cells #[.int .i64 ((rd_T35 l0_2 t223).f0),.int .i64 ((rd_T35 l0_2 t223).f1),.int .i64 ((rd_T35 l0_2 t223).f2)] 35 (0,0)) (by (with_reducible repeat (first|refine blk_drewN ?_ _|refine blk_drew ?_|refine blk_alloc ?_ _));exact BK226.out) hg (Kd.R_away HO236.out (fun _ hk => hk.2)))
           have n5_:=Am9_ (hb)
           have n6_:=Am9_ (ho)
           clear BK215
           clear BK216
           clear HO221
           clear BK222
           clear BK226
           clear HB
           clear HO236
           have BK215:=n0_
           have BK216:=n1_
           have HO221:=n2_
           have BK222:=n3_
           have BK226:=n4_
           have HB:=n5_
           have HO243:=n6_
           clear n0_ n1_ n2_ n3_ n4_ n5_ n6_
           clear ho hb hg hat
           obtain ⟨Ao64,co64,eo64⟩:=Kd.R_slice HO243.out
           (first|subst eo64|(injection eo64 with f1_ f2_ f3_;have f4_:=f1_.symm;have f5_:=f3_.symm;clear f1_ f2_ f3_;subst f4_;subst f5_))
           refine hK.out _ _ ⟨(blk_cell BK215.out 0).trans rfl,(blk_cell BK215.out 1).trans rfl,(blk_cell BK215.out 2).trans rfl⟩ (fun hHeld => ?_)
           clear hK K
           refine norm_ (a':=?_) ?_ ?_
           rotate_left
           ·show Act.put _ (some 42) _=_
            simp only [Act.put,List.setIfInBounds_toArray,List.set_cons_zero,List.set_cons_succ,i64_w,i32_w]
            rfl
           refine pure_ (i:=12) (N:=some 43) (v:=?_) (a':=?_) #[true,true,true,true,true,true,true,true,true,true,true,true,true,false] rfl rfl (any_of HT_.out (by kernel_rfl)) (fun _ _ _ h => h) (Or.inl ⟨by rfl,?_⟩) ?_ ?_
           rotate_left
           ·intro w'
            go_simp
            with_reducible rfl
           rotate_left
           ·simp only [Act.put,List.setIfInBounds_toArray,List.set_cons_zero,List.set_cons_succ,i64_w,i32_w]
            rfl
           refine one_ (i:=13) (N:=none) #[true,true,true,true,true,true,true,true,true,true,true,true,true,true] rfl rfl (one_of HT_.out (by kernel_rfl)) (by decide) (fun K hK => ?_)
           have hs65:w63.cell? ⟨gb222,2,none⟩=some (.slice Ao45 t219.length co45):=(blk_cell BK222.out 2).trans rfl
           have hfs65:=blk_frozen BK222.out 2
           have hns65_0:=NB215_222.out
           have hns65_1:=NB216_222.out
           have hns65_3:=NB226_222.out
           have hms65_0:=NB222_215.out
           have hms65_1:=NB222_216.out
           have hms65_3:=NB222_226.out
           refine skip_ (w1:=?_) (by rfl) rfl ?_ ?_
           rotate_left
           ·go_simp
            rfl
           refine hK.out _ _ ⟨((cell_far (p:=⟨gb222,_,none⟩) NB215_222.out _).trans (hHeld.1)),((cell_far (p:=⟨gb222,_,none⟩) NB215_222.out _).trans (hHeld.2.1)),((cell_far (p:=⟨gb222,_,none⟩) NB215_222.out _).trans (hHeld.2.2))⟩ (fun hHeld => ?_)
           clear hK K
           refine done_ (done_of HT_.out (by kernel_rfl)) ?_
           try go_wp2
           have n0_:Aside0 (Kd.R k35 35 (w63.setCell ⟨gb222,2,none⟩ (.slice Ao64 y241.length co64)) w.heap.size (fun k_ => some k_ ≠ (.slice Ao64 y241.length co64:Value).ownBlock∧k_ ≠ gb226) (.slice Ao45 t219.length co45) t219):=⟨by (with_reducible repeat (first|apply Kd.R_alloc|apply Kd.R_drewN|apply Kd.R_drew));exact Kd.R_mono (Kd.R_far (p:=⟨gb222,2,none⟩) (Kd.R_types HO221.out BK222.out (by decide)) (fun _ hk => hk.2) (.slice Ao64 y241.length co64)) (fun _ hk => ⟨hk.1.2,hk.1.1⟩)⟩
           have n1_:Aside0 (Kd.R k35 35 (w63.setCell ⟨gb222,2,none⟩ (.slice Ao64 y241.length co64)) w.heap.size (fun k_ => some k_ ≠ (.slice Ao45 t219.length co45:Value).ownBlock∧k_ ≠ gb226) (.slice Ao64 y241.length co64) y241):=⟨by (with_reducible repeat (first|apply Kd.R_alloc|apply Kd.R_drewN|apply Kd.R_drew));exact Kd.R_mono (Kd.R_far (p:=⟨gb222,2,none⟩) (Kd.R_types HO243.out BK222.out (by decide)) (fun _ hk => hk.2) (.slice Ao64 y241.length co64)) (fun _ hk => ⟨hk.1.1,hk.1.2⟩)⟩
           have n2_:Aside0 ((w63.setCell ⟨gb222,2,none⟩ (.slice Ao64 y241.length co64)).heap[gb215]?=some (.cells #[.int .i64 a0_0,.int .i64 a0_1,.slice (some ad225) l0_2.length c0_2] 28 (0,0))):=⟨by (with_reducible repeat (first|refine blk_drewN ?_ _|refine blk_drew ?_|refine blk_alloc ?_ _));refine blk_far ?_ NB215_222.out _;(with_reducible repeat (first|refine blk_drewN ?_ _|refine blk_drew ?_|refine blk_alloc ?_ _));exact BK215.out⟩
           have n3_:Aside0 ((w63.setCell ⟨gb222,2,none⟩ (.slice Ao64 y241.length co64)).heap[gb216]?=some (.cells #[.int .i64 0,.int .i64 0,.slice none 0 0] 28 (0,0))):=⟨by (with_reducible repeat (first|refine blk_drewN ?_ _|refine blk_drew ?_|refine blk_alloc ?_ _));refine blk_far ?_ NB216_222.out _;(with_reducible repeat (first|refine blk_drewN ?_ _|refine blk_drew ?_|refine blk_alloc ?_ _));exact BK216.out⟩
           have n4_:Aside0 ((w63.setCell ⟨gb222,2,none⟩ (.slice Ao64 y241.length co64)).heap[gb222]?=some (.cells #[.int .i64 t217,.int .i64 t218,.slice Ao64 y241.length co64] 28 (0,0))):=⟨by (with_reducible repeat (first|refine blk_drewN ?_ _|refine blk_drew ?_|refine blk_alloc ?_ _));refine blk_put (cs:=#[.int .i64 t217,.int .i64 t218,.slice Ao45 t219.length co45]) ?_ 2 _ rfl;(with_reducible repeat (first|refine blk_drewN ?_ _|refine blk_drew ?_|refine blk_alloc ?_ _));exact BK222.out⟩
           have n5_:Aside0 ((w63.setCell ⟨gb222,2,none⟩ (.slice Ao64 y241.length co64)).heap[gb226]?=some (.cells #[.int .i64 ((rd_T35 l0_2 t223).f0),.int .i64 ((rd_T35 l0_2 t223).f1),.int .i64 ((rd_T35 l0_2 t223).f2)] 35 (0,0))):=⟨by (with_reducible repeat (first|refine blk_drewN ?_ _|refine blk_drew ?_|refine blk_alloc ?_ _));refine blk_far ?_ NB226_222.out _;(with_reducible repeat (first|refine blk_drewN ?_ _|refine blk_drew ?_|refine blk_alloc ?_ _));exact BK226.out⟩
           have n6_:Aside0 (Below w.heap.size w (w63.setCell ⟨gb222,2,none⟩ (.slice Ao64 y241.length co64))):=⟨by repeat (first|(with_reducible first|exact HB.out|apply below_alloc|apply pw_below_drewN|apply below_drew1|refine below_set ?_ GE215.out|refine below_set ?_ GE216.out|refine below_set ?_ GE222.out|refine below_set ?_ GE226.out)|exact HB.out)⟩
           (try clear HO221)
           (try clear HO243)
           (try clear BK215)
           (try clear BK216)
           (try clear BK222)
           (try clear BK226)
           (try clear HB)
           generalize (w63.setCell ⟨gb222,2,none⟩ (.slice Ao64 y241.length co64))=w66 at n0_ n1_ n2_ n3_ n4_ n5_ n6_ ⊢
           have HO221:=n0_
           have HO243:=n1_
           have BK215:=n2_
           have BK216:=n3_
           have BK222:=n4_
           have BK226:=n5_
           have HB:=n6_
           clear n0_ n1_ n2_ n3_ n4_ n5_ n6_
           have n0_:=Am9_ (Kd.R_drew HO221.out)
           have n1_:=Am9_ (Kd.R_drew HO243.out)
           have n2_:=Am9_ (blk_drew BK215.out)
           have n3_:=Am9_ (blk_drew BK216.out)
           have n4_:=Am9_ (blk_drew BK222.out)
           have n5_:=Am9_ (blk_drew BK226.out)
           have n6_:=Am9_ (below_drew1 HB.out)
           clear HO221
           clear HO243
           clear BK215
           clear BK216
           clear BK222
           clear BK226
           clear HB
           have HO221:=n0_
           have HO243:=n1_
           have BK215:=n2_
           have BK216:=n3_
           have BK222:=n4_
           have BK226:=n5_
           have HB:=n6_
           clear n0_ n1_ n2_ n3_ n4_ n5_ n6_
           refine start_ (n:=13) (S:=fun w' => w'.cell? ⟨gb222,0,none⟩=some (.int .i64 t217)∧w'.cell? ⟨gb222,1,none⟩=some (.int .i64 t218)∧w'.cell? ⟨gb222,2,none⟩=some (.slice Ao64 y241.length co64)∧w'.cell? ⟨gb226,0,none⟩=some (.int .i64 ((rd_T35 l0_2 t223).f0))∧w'.cell? ⟨gb226,1,none⟩=some (.int .i64 ((rd_T35 l0_2 t223).f1))∧w'.cell? ⟨gb226,2,none⟩=some (.int .i64 ((rd_T35 l0_2 t223).f2))) (ds:=[]) #[false,false,false,false,false,false,false,false,false,false,false,false,false] (by kernel_rfl) rfl rfl ⟨(blk_cell BK222.out 0).trans rfl,(blk_cell BK222.out 1).trans rfl,(blk_cell BK222.out 2).trans rfl,(blk_cell BK226.out 0).trans rfl,(blk_cell BK226.out 1).trans rfl,(blk_cell BK226.out 2).trans rfl⟩ (fun hHeld => ?_);refine with_tabW impl_TakeChallenge.tab7 impl_TakeChallenge.bits7 (fun HT_ HW_ => ?_)
           generalize w66.drew=w67 at HO221 HO243 BK215 BK216 BK222 BK226 HB hHeld ⊢
           refine pure_ (i:=1) (N:=some 45) (v:=?_) (a':=?_) #[false,true,false,false,false,false,false,false,false,false,false,false,false] rfl rfl (any_of HT_.out (by kernel_rfl)) (fun _ _ _ h => h) (Or.inl ⟨by rfl,?_⟩) ?_ ?_
           rotate_left
           ·intro w'
            go_simp
            with_reducible rfl
           rotate_left
           ·simp only [Act.put,List.setIfInBounds_toArray,List.set_cons_zero,List.set_cons_succ,i64_w,i32_w]
            rfl
           refine pure_ (i:=3) (N:=some 47) (v:=?_) (a':=?_) #[false,true,false,true,false,false,false,false,false,false,false,false,false] rfl rfl (any_of HT_.out (by kernel_rfl)) (fun _ _ _ h => h) (Or.inl ⟨by rfl,?_⟩) ?_ ?_
           rotate_left
           ·intro w'
            go_simp
            with_reducible rfl
           rotate_left
           ·simp only [Act.put,List.setIfInBounds_toArray,List.set_cons_zero,List.set_cons_succ,i64_w,i32_w]
            rfl
           refine take_ (i:=0) (N:=some 44) (v:=?_) (a':=?_) #[true,true,false,true,false,false,false,false,false,false,false,false,false] rfl rfl (take_ofW HT_.out HW_.out (by kernel_rfl)) (fun _ _ _ h => h) (Or.inl ⟨by rfl,?_⟩) hHeld ?_ ?_
           rotate_left
           ·rintro w' ⟨s0,s1,s2,s3,s4,s5⟩
            go_simp
            with_reducible rfl
           rotate_left
           ·simp only [Act.put,List.setIfInBounds_toArray,List.set_cons_zero,List.set_cons_succ,i64_w,i32_w]
            rfl
           refine take_ (i:=2) (N:=some 46) (v:=?_) (a':=?_) #[true,true,true,true,false,false,false,false,false,false,false,false,false] rfl rfl (take_ofW HT_.out HW_.out (by kernel_rfl)) (fun _ _ _ h => h) (Or.inl ⟨by rfl,?_⟩) hHeld ?_ ?_
           rotate_left
           ·rintro w' ⟨s0,s1,s2,s3,s4,s5⟩
            go_simp
            with_reducible rfl
           rotate_left
           ·simp only [Act.put,List.setIfInBounds_toArray,List.set_cons_zero,List.set_cons_succ,i64_w,i32_w]
            rfl
           refine pure_ (i:=4) (N:=some 48) (v:=?_) (a':=?_) #[true,true,true,true,true,false,false,false,false,false,false,false,false] rfl rfl (any_of HT_.out (by kernel_rfl)) (fun _ _ _ h => h) (Or.inl ⟨by rfl,?_⟩) ?_ ?_
           rotate_left
           ·intro w'
            go_simp
            with_reducible rfl
           rotate_left
           ·simp only [Act.put,List.setIfInBounds_toArray,List.set_cons_zero,List.set_cons_succ,i64_w,i32_w]
            rfl
           refine pure_ (i:=5) (N:=some 49) (v:=?_) (a':=?_) #[true,true,true,true,true,true,false,false,false,false,false,false,false] rfl rfl (any_of HT_.out (by kernel_rfl)) (fun _ _ _ h => h) (Or.inl ⟨by rfl,?_⟩) ?_ ?_
           rotate_left
           ·intro w'
            go_simp
            with_reducible rfl
           rotate_left
           ·simp only [Act.put,List.setIfInBounds_toArray,List.set_cons_zero,List.set_cons_succ,i64_w,i32_w]
            rfl
           refine pure_ (i:=6) (N:=some 50) (v:=?_) (a':=?_) #[true,true,true,true,true,true,true,false,false,false,false,false,false] rfl rfl (any_of HT_.out (by kernel_rfl)) (fun _ _ _ h => h) (Or.inl ⟨by rfl,?_⟩) ?_ ?_
           rotate_left
           ·intro w'
            go_simp
            with_reducible rfl
           rotate_left
           ·simp only [Act.put,List.setIfInBounds_toArray,List.set_cons_zero,List.set_cons_succ,i64_w,i32_w]
            rfl
           refine pure_ (i:=7) (N:=some 51) (v:=?_) (a':=?_) #[true,true,true,true,true,true,true,true,false,false,false,false,false] rfl rfl (any_of HT_.out (by kernel_rfl)) (fun _ _ _ h => h) (Or.inl ⟨by rfl,?_⟩) ?_ ?_
           rotate_left
           ·intro w'
            go_simp
            with_reducible rfl
           rotate_left
           ·simp only [Act.put,List.setIfInBounds_toArray,List.set_cons_zero,List.set_cons_succ,i64_w,i32_w]
            rfl
           refine take_ (i:=8) (N:=some 52) (v:=?_) (a':=?_) #[true,true,true,true,true,true,true,true,true,false,false,false,false] rfl rfl (take_ofW HT_.out HW_.out (by kernel_rfl)) (fun _ _ _ h => h) (Or.inl ⟨by rfl,?_⟩) hHeld ?_ ?_
           rotate_left
           ·rintro w' ⟨s0,s1,s2,s3,s4,s5⟩
            go_simp
            with_reducible rfl
           rotate_left
           ·simp only [Act.put,List.setIfInBounds_toArray,List.set_cons_zero,List.set_cons_succ,i64_w,i32_w]
            rfl
           refine pure_ (i:=9) (N:=some 53) (v:=?_) (a':=?_) #[true,true,true,true,true,true,true,true,true,true,false,false,false] rfl rfl (any_of HT_.out (by kernel_rfl)) (fun _ _ _ h => h) (Or.inl ⟨by rfl,?_⟩) ?_ ?_
           rotate_left
           ·intro w'
            go_simp
            with_reducible rfl
           rotate_left
           ·simp only [Act.put,List.setIfInBounds_toArray,List.set_cons_zero,List.set_cons_succ,i64_w,i32_w]
            rfl
           refine pure_ (i:=10) (N:=some 54) (v:=?_) (a':=?_) #[true,true,true,true,true,true,true,true,true,true,true,false,false] rfl rfl (any_of HT_.out (by kernel_rfl)) (fun _ _ _ h => h) (Or.inl ⟨by rfl,?_⟩) ?_ ?_
           rotate_left
           ·intro w'
            go_simp
            with_reducible rfl
           rotate_left
           ·simp only [Act.put,List.setIfInBounds_toArray,List.set_cons_zero,List.set_cons_succ,i64_w,i32_w]
            rfl
           refine one_ (i:=11) (N:=none) #[true,true,true,true,true,true,true,true,true,true,true,true,false] rfl rfl (one_of HT_.out (by kernel_rfl)) (by decide) (fun K hK => ?_)
           have hs68:w67.cell? ⟨gb216,0,none⟩=some (.int .i64 0):=(blk_cell BK216.out 0).trans rfl
           have hfs68:=blk_frozen BK216.out 0
           have hns68_0:=NB215_216.out
           have hns68_2:=NB222_216.out
           have hns68_3:=NB226_216.out
           have hms68_0:=NB216_215.out
           have hms68_2:=NB216_222.out
           have hms68_3:=NB216_226.out
           have hs69:w67.cell? ⟨gb216,1,none⟩=some (.int .i64 0):=(blk_cell BK216.out 1).trans rfl
           have hfs69:=blk_frozen BK216.out 1
           have hns69_0:=NB215_216.out
           have hns69_2:=NB222_216.out
           have hns69_3:=NB226_216.out
           have hms69_0:=NB216_215.out
           have hms69_2:=NB216_222.out
           have hms69_3:=NB216_226.out
           have hs70:w67.cell? ⟨gb216,2,none⟩=some (.slice none 0 0):=(blk_cell BK216.out 2).trans rfl
           have hfs70:=blk_frozen BK216.out 2
           have hns70_0:=NB215_216.out
           have hns70_2:=NB222_216.out
           have hns70_3:=NB226_216.out
           have hms70_0:=NB216_215.out
           have hms70_2:=NB216_222.out
           have hms70_3:=NB216_226.out
           refine skip_ (w1:=?_) (by rfl) rfl ?_ ?_
           rotate_left
           ·go_simp
            rfl
           refine hK.out _ _ ⟨((cell_far (p:=⟨gb216,_,none⟩) NB222_216.out _).trans (((cell_far (p:=⟨gb216,_,none⟩) NB222_216.out _).trans (((cell_far (p:=⟨gb216,_,none⟩) NB222_216.out _).trans (hHeld.1)))))),((cell_far (p:=⟨gb216,_,none⟩) NB222_216.out _).trans (((cell_far (p:=⟨gb216,_,none⟩) NB222_216.out _).trans (((cell_far (p:=⟨gb216,_,none⟩) NB222_216.out _).trans (hHeld.2.1)))))),((cell_far (p:=⟨gb216,_,none⟩) NB222_216.out _).trans (((cell_far (p:=⟨gb216,_,none⟩) NB222_216.out _).trans (((cell_far (p:=⟨gb216,_,none⟩) NB222_216.out _).trans (hHeld.2.2.1)))))),((cell_far (p:=⟨gb216,_,none⟩) NB226_216.out _).trans (((cell_far (p:=⟨gb216,_,none⟩) NB226_216.out _).trans (((cell_far (p:=⟨gb216,_,none⟩) NB226_216.out _).trans (hHeld.2.2.2.1)))))),((cell_far (p:=⟨gb216,_,none⟩) NB226_216.out _).trans (((cell_far (p:=⟨gb216,_,none⟩) NB226_216.out _).trans (((cell_far (p:=⟨gb216,_,none⟩) NB226_216.out _).trans (hHeld.2.2.2.2.1)))))),((cell_far (p:=⟨gb216,_,none⟩) NB226_216.out _).trans (((cell_far (p:=⟨gb216,_,none⟩) NB226_216.out _).trans (((cell_far (p:=⟨gb216,_,none⟩) NB226_216.out _).trans (hHeld.2.2.2.2.2))))))⟩ (fun hHeld => ?_)
           clear hK K
           refine pure_ (i:=12) (N:=some 9) (v:=?_) (a':=?_) #[true,true,true,true,true,true,true,true,true,true,true,true,true] rfl rfl (any_of HT_.out (by kernel_rfl)) (fun _ _ _ h => h) (Or.inl ⟨by rfl,?_⟩) ?_ ?_
           rotate_left
           ·intro w'
            go_simp
            with_reducible rfl
           rotate_left
           ·simp only [Act.put,List.setIfInBounds_toArray,List.set_cons_zero,List.set_cons_succ,i64_w,i32_w]
            rfl
           refine done_ (done_of HT_.out (by kernel_rfl)) ?_
           try go_wp2
           refine bodyPost_ret (results_ct rfl _ _ gb216 28 #[.int .i64 t217,.int .i64 t218,.slice Ao64 y241.length co64] (0,0) _ rfl (by (with_reducible repeat (first|refine blk_drewN ?_ _|refine blk_drew ?_|refine blk_alloc ?_ _));refine blk_put (cs:=#[.int .i64 t217,.int .i64 t218,.slice none 0 0]) ?_ 2 _ rfl;(with_reducible repeat (first|refine blk_drewN ?_ _|refine blk_drew ?_|refine blk_alloc ?_ _));refine blk_put (cs:=#[.int .i64 t217,.int .i64 0,.slice none 0 0]) ?_ 1 _ rfl;(with_reducible repeat (first|refine blk_drewN ?_ _|refine blk_drew ?_|refine blk_alloc ?_ _));refine blk_put (cs:=#[.int .i64 0,.int .i64 0,.slice none 0 0]) ?_ 0 _ rfl;(with_reducible repeat (first|refine blk_drewN ?_ _|refine blk_drew ?_|refine blk_alloc ?_ _));exact BK216.out) Try.underlying28 rfl (by kernel_rfl)) rfl ?_
           exact ⟨_,by first|rfl|(simp [errW_none,errW_some] <;> rfl)|(simp only [← hji31];first|rfl|(simp [errW_none,errW_some] <;> rfl))|(simp [*,errW_none,errW_some] <;> rfl),by (with_reducible repeat (first|apply Kd.R_alloc|apply Kd.R_drewN|apply Kd.R_drew));exact Kd.R_mono (Kd.R_far (p:=⟨gb216,2,none⟩) (Kd.R_far (p:=⟨gb216,1,none⟩) (Kd.R_far (p:=⟨gb216,0,none⟩) (Kd.R_types HO243.out BK216.out (by decide)) (fun _ hk => hk.2) (.int .i64 t217)) (fun _ hk => hk.2) (.int .i64 t218)) (fun _ hk => hk.2) (.slice Ao64 y241.length co64)) (fun _ hk => trivial),by repeat (first|(with_reducible first|exact HB.out|apply below_alloc|apply pw_below_drewN|apply below_drew1|refine below_set ?_ GE215.out|refine below_set ?_ GE216.out|refine below_set ?_ GE222.out|refine below_set ?_ GE226.out)|exact HB.out)⟩
          ·rw [if_neg c35] at H
           have c35b0:(((rd_T35 l0_2 t223).f1) == a2)=false:=beq_eq_false_iff_ne.mpr c35
           have c35b1:(((rd_T35 l0_2 t223).f1) != a2)=true:=bne_iff_ne.mpr c35
           simp only [Option.some.injEq,Prod.mk.injEq] at H
           obtain ⟨rfl,rfl,rfl,rfl⟩:=H
           go_enter Try.func32,Try.ntmps32
           try go_wp2_with (first|((with_reducible refine gate_dst (N:=4) rfl ?_);refine box_event ?hg (N:=4) ?hd (cs:=#[.int .i64 a0_0,.int .i64 a0_1,.slice A0_2 l0_2.length c0_2]) (t:=28) ?hr ?_;(case hd => rfl);(case hg => rfl);(case hr => first|(go_simp;done)|(go_simp;rfl));intro gb215 hg w71 hbox hb;have n0_:=Am9_ (below_step (by repeat (first|(with_reducible first|exact HB.out|apply below_alloc|apply pw_below_drewN|apply below_drew1)|exact HB.out)) hb);have n1_:=Am9_ (hbox);have n2_:=Am9_ ((by rw [hg];exact (below_size (by repeat (first|(with_reducible first|exact HB.out|apply below_alloc|apply pw_below_drewN|apply below_drew1)|exact HB.out))):w.heap.size ≤ gb215));have n3_:=Am9_ ((by rw [hg];exact (below_size (by repeat (first|(with_reducible first|exact HB.out|apply below_alloc|apply pw_below_drewN|apply below_drew1)|exact HB.out))):w.heap.size ≤ gb215));clear HB;have HB:=n0_;have BK215:=n1_;have GW215:=n2_;have GE215:=n3_;clear n0_ n1_ n2_ n3_;clear hb hbox hg)|((with_reducible refine gate_dst (N:=8) rfl ?_);refine box_event ?hg (N:=8) ?hd (cs:=#[.int .i64 0,.int .i64 0,.slice none 0 0]) (t:=28) ?hr ?_;(case hd => rfl);(case hg => rfl);(case hr => first|(go_simp;done)|(go_simp;rfl));intro gb216 hg w72 hbox hb;have n0_:=Am9_ (blk_below (g:=gb215) (o:=.cells #[.int .i64 a0_0,.int .i64 a0_1,.slice A0_2 l0_2.length c0_2] 28 (0,0)) (by (with_reducible repeat (first|refine blk_drewN ?_ _|refine blk_drew ?_|refine blk_alloc ?_ _));exact BK215.out) hb);have n1_:=Am9_ (below_step (by repeat (first|(with_reducible first|exact HB.out|apply below_alloc|apply pw_below_drewN|apply below_drew1|refine below_set ?_ GE215.out)|exact HB.out)) hb);have n2_:=Am9_ (hbox);have n3_:=Am9_ ((by rw [hg];exact (below_size (by repeat (first|(with_reducible first|exact HB.out|apply below_alloc|apply pw_below_drewN|apply below_drew1|refine below_set ?_ GE215.out)|exact HB.out))):w.heap.size ≤ gb216));have n4_:=Am9_ ((by rw [hg];exact (below_size (by repeat (first|(with_reducible first|exact HB.out|apply below_alloc|apply pw_below_drewN|apply below_drew1|refine below_set ?_ GE215.out)|exact HB.out))):w.heap.size ≤ gb216));have n5_:=Am9_ ((by rw [hg];exact Nat.ne_of_lt (blk_lt (g:=gb215) (o:=.cells #[.int .i64 a0_0,.int .i64 a0_1,.slice A0_2 l0_2.length c0_2] 28 (0,0)) (by (with_reducible repeat (first|refine blk_drewN ?_ _|refine blk_drew ?_|refine blk_alloc ?_ _));exact BK215.out)):gb215 ≠ gb216));have n6_:=Am9_ ((by rw [hg];exact Nat.ne_of_gt (blk_lt (g:=gb215) (o:=.cells #[.int .i64 a0_0,.int .i64 a0_1,.slice A0_2 l0_2.length c0_2] 28 (0,0)) (by (with_reducible repeat (first|refine blk_drewN ?_ _|refine blk_drew ?_|refine blk_alloc ?_ _));exact BK215.out)):gb216 ≠ gb215));clear BK215;clear HB;have BK215:=n0_;have HB:=n1_;have BK216:=n2_;have GW216:=n3_;have GE216:=n4_;have NB215_216:=n5_;have NB216_215:=n6_;clear n0_ n1_ n2_ n3_ n4_ n5_ n6_;clear hb hbox hg;have hnb73:=NB215_216.out;have hnc73:=NB216_215.out;have hcz74_0:w72.cell? ⟨gb215,0,none⟩=some (.int .i64 a0_0):=(blk_cell BK215.out 0).trans rfl;have hcz74_1:w72.cell? ⟨gb215,1,none⟩=some (.int .i64 a0_1):=(blk_cell BK215.out 1).trans rfl;have hcz74_2:w72.cell? ⟨gb215,2,none⟩=some (.slice A0_2 l0_2.length c0_2):=(blk_cell BK215.out 2).trans rfl;have hfz74_0:=blk_frozen BK215.out 0;have hfz74_1:=blk_frozen BK215.out 1;have hfz74_2:=blk_frozen BK215.out 2)|((with_reducible refine gate_callee (f:=89) rfl ?_);refine goesL_ (some 14) rfl rfl Try.func89 (by kernel_rfl) rfl #[.agg #[.int .i64 a0_0,.int .i64 a0_1,.slice A0_2 l0_2.length c0_2]] rfl (by (try simp only [List.map_toArray,List.map_cons,List.map_nil]);first|done|rfl|(simp only [List.length_drop,List.length_take];rfl)) ?_;(with_reducible refine (impl_copyBook.calls a0_0 a0_1 _ _ l0_2 t217 t218 t219 _ ?side1 ?side2 A5.out).mono ?_);(case side1 => repeat (first|exact (Kd.C_below HR0_2.out HB.out)|(with_reducible refine Kd.C_alloc ?_ _)|(with_reducible refine Kd.C_drewN ?_ _)|(with_reducible refine Kd.C_drew ?_)));(case side2 => exact HC0_2.out);rintro e w75 ⟨v220,rfl,ho0,hb⟩;refine ⟨_,rfl,?_⟩;have n0_:=Am9_ (Kd.R_lower ho0 (below_size (by repeat (first|(with_reducible first|exact HB.out|apply below_alloc|apply pw_below_drewN|apply below_drew1|refine below_set ?_ GE215.out|refine below_set ?_ GE216.out)|exact HB.out))));have n1_:=Am9_ (blk_below (g:=gb215) (o:=.cells #[.int .i64 a0_0,.int .i64 a0_1,.slice A0_2 l0_2.length c0_2] 28 (0,0)) (by (with_reducible repeat (first|refine blk_drewN ?_ _|refine blk_drew ?_|refine blk_alloc ?_ _));exact BK215.out) hb);have n2_:=Am9_ (blk_below (g:=gb216) (o:=.cells #[.int .i64 0,.int .i64 0,.slice none 0 0] 28 (0,0)) (by (with_reducible repeat (first|refine blk_drewN ?_ _|refine blk_drew ?_|refine blk_alloc ?_ _));exact BK216.out) hb);have n3_:=Am9_ (below_step (by repeat (first|(with_reducible first|exact HB.out|apply below_alloc|apply pw_below_drewN|apply below_drew1|refine below_set ?_ GE215.out|refine below_set ?_ GE216.out)|exact HB.out)) hb);clear BK215;clear BK216;clear HB;have HO221:=n0_;have BK215:=n1_;have BK216:=n2_;have HB:=n3_;clear n0_ n1_ n2_ n3_;(try clear hb);(try clear hb2);(try clear hk);(try clear hi);(try clear ho0))|((with_reducible refine gate_dst (N:=10) rfl ?_);refine box_event ?hg (N:=10) ?hd (cs:=#[.int .i64 0,.int .i64 0,.slice none 0 0]) (t:=28) ?hr ?_;(case hd => rfl);(case hg => rfl);(case hr => first|(go_simp;done)|(go_simp;rfl));intro gb222 hg w76 hbox hb;have n0_:=Am9_ (Kd.R_below (by (with_reducible repeat (first|apply Kd.R_alloc|apply Kd.R_drewN|apply Kd.R_drew));exact HO221.out) hb);have n1_:=Am9_ (blk_below (g:=gb215) (o:=.cells #[.int .i64 a0_0,.int .i64 a0_1,.slice A0_2 l0_2.length c0_2] 28 (0,0)) (by (with_reducible repeat (first|refine blk_drewN ?_ _|refine blk_drew ?_|refine blk_alloc ?_ _));exact BK215.out) hb);have n2_:=Am9_ (blk_below (g:=gb216) (o:=.cells #[.int .i64 0,.int .i64 0,.slice none 0 0] 28 (0,0)) (by (with_reducible repeat (first|refine blk_drewN ?_ _|refine blk_drew ?_|refine blk_alloc ?_ _));exact BK216.out) hb);have n3_:=Am9_ (below_step (by repeat (first|(with_reducible first|exact HB.out|apply below_alloc|apply pw_below_drewN|apply below_drew1|refine below_set ?_ GE215.out|refine below_set ?_ GE216.out)|exact HB.out)) hb);have n4_:=Am9_ (hbox);have n5_:=Am9_ ((by rw [hg];exact (below_size (by repeat (first|(with_reducible first|exact HB.out|apply below_alloc|apply pw_below_drewN|apply below_drew1|refine below_set ?_ GE215.out|refine below_set ?_ GE216.out)|exact HB.out))):w.heap.size ≤ gb222));have n6_:=Am9_ ((by rw [hg];exact (below_size (by repeat (first|(with_reducible first|exact HB.out|apply below_alloc|apply pw_below_drewN|apply below_drew1|refine below_set ?_ GE215.out|refine below_set ?_ GE216.out)|exact HB.out))):w.heap.size ≤ gb222));have n7_:=Am9_ ((by rw [hg];exact Nat.ne_of_lt (blk_lt (g:=gb215) (o:=.cells #[.int .i64 a0_0,.int .i64 a0_1,.slice A0_2 l0_2.length c0_2] 28 (0,0)) (by (with_reducible repeat (first|refine blk_drewN ?_ _|refine blk_drew ?_|refine blk_alloc ?_ _));exact BK215.out)):gb215 ≠ gb222));have n8_:=Am9_ ((by rw [hg];exact Nat.ne_of_gt (blk_lt (g:=gb215) (o:=.cells #[.int .i64 a0_0,.int .i64 a0_1,.slice A0_2 l0_2.length c0_2] 28 (0,0)) (by (with_reducible repeat (first|refine blk_drewN ?_ _|refine blk_drew ?_|refine blk_alloc ?_ _));exact BK215.out)):gb222 ≠ gb215));have n9_:=Am9_ ((by rw [hg];exact Nat.ne_of_lt (blk_lt (g:=gb216) (o:=.cells #[.int .i64 0,.int .i64 0,.slice none 0 0] 28 (0,0)) (by (with_reducible repeat (first|refine blk_drewN ?_ _|refine blk_drew ?_|refine blk_alloc ?_ _));exact BK216.out)):gb216 ≠ gb222));have n10_:=Am9_ ((by rw [hg];exact Nat.ne_of_gt (blk_lt (g:=gb216) (o:=.cells #[.int .i64 0,.int .i64 0,.slice none 0 0] 28 (0,0)) (by (with_reducible repeat (first|refine blk_drewN ?_ _|refine blk_drew ?_|refine blk_alloc ?_ _));exact BK216.out)):gb222 ≠ gb216));clear HO221;clear BK215;clear BK216;clear HB;have HO221:=n0_;have BK215:=n1_;have BK216:=n2_;have HB:=n3_;have BK222:=n4_;have GW222:=n5_;have GE222:=n6_;have NB215_222:=n7_;have NB222_215:=n8_;have NB216_222:=n9_;have NB222_216:=n10_;clear n0_ n1_ n2_ n3_ n4_ n5_ n6_ n7_ n8_ n9_ n10_;clear hb hbox hg;have hnb77:=NB222_215.out;have hnc77:=NB215_222.out;have hnb78:=NB222_216.out;have hnc78:=NB216_222.out;have hcz79_0:w76.cell? ⟨gb222,0,none⟩=some (.int .i64 0):=(blk_cell BK222.out 0).trans rfl;have hcz79_1:w76.cell? ⟨gb222,1,none⟩=some (.int .i64 0):=(blk_cell BK222.out 1).trans rfl;have hcz79_2:w76.cell? ⟨gb222,2,none⟩=some (.slice none 0 0):=(blk_cell BK222.out 2).trans rfl;have hfz79_0:=blk_frozen BK222.out 0;have hfz79_1:=blk_frozen BK222.out 1;have hfz79_2:=blk_frozen BK222.out 2;obtain ⟨Ao80,co80,eo80⟩:=Kd.R_slice HO221.out;subst eo80;have hcz81_0:w76.cell? ⟨gb215,0,none⟩=some (.int .i64 a0_0):=(blk_cell BK215.out 0).trans rfl;have hcz81_1:w76.cell? ⟨gb215,1,none⟩=some (.int .i64 a0_1):=(blk_cell BK215.out 1).trans rfl;have hcz81_2:w76.cell? ⟨gb215,2,none⟩=some (.slice A0_2 l0_2.length c0_2):=(blk_cell BK215.out 2).trans rfl;have hfz81_0:=blk_frozen BK215.out 0;have hfz81_1:=blk_frozen BK215.out 1;have hfz81_2:=blk_frozen BK215.out 2)|((with_reducible refine gate_callee (f:=65) rfl ?_);refine goesL_ (some 17) rfl rfl Try.func65 (by kernel_rfl) rfl #[.agg #[.int .i64 a0_0,.int .i64 a0_1,.slice A0_2 l0_2.length c0_2],.int .i64 a1] rfl (by (try simp only [List.map_toArray,List.map_cons,List.map_nil]);first|done|rfl|(simp only [List.length_drop,List.length_take];rfl)) ?_;(with_reducible refine (impl_FindChallenge.calls k a0_0 a0_1 _ _ l0_2 a1 t223 _ ?side1 ?side2 A6.out).mono ?_);(case side1 => exact Kd.C_below HR0_2.out (by repeat (first|(with_reducible first|exact HB.out|apply below_alloc|apply pw_below_drewN|apply below_drew1|refine below_set ?_ GE215.out|refine below_set ?_ GE216.out|refine below_set ?_ GE222.out)|exact HB.out)));(case side2 => exact HC0_2.out);rintro e w82 ⟨rfl,hb⟩;refine ⟨_,rfl,?_⟩;have n0_:=Am9_ (Kd.R_below (by (with_reducible repeat (first|apply Kd.R_alloc|apply Kd.R_drewN|apply Kd.R_drew));exact (Kd.R_mono (Kd.R_far (p:=⟨gb222,2,none⟩) (Kd.R_far (p:=⟨gb222,1,none⟩) (Kd.R_far (p:=⟨gb222,0,none⟩) (Kd.R_types HO221.out BK222.out (by decide)) (fun _ hk => hk.2) (.int .i64 t217)) (fun _ hk => hk.2) (.int .i64 t218)) (fun _ hk => hk.2) (.slice Ao80 t219.length co80)) (fun _ h_ => h_.1))) hb);have n1_:=Am9_ (blk_below (g:=gb215) (o:=.cells #[.int .i64 a0_0,.int .i64 a0_1,.slice A0_2 l0_2.length c0_2] 28 (0,0)) (by (with_reducible repeat (first|refine blk_drewN ?_ _|refine blk_drew ?_|refine blk_alloc ?_ _));refine blk_far ?_ NB215_222.out _;(with_reducible repeat (first|refine blk_drewN ?_ _|refine blk_drew ?_|refine blk_alloc ?_ _));refine blk_far ?_ NB215_222.out _;(with_reducible repeat (first|refine blk_drewN ?_ _|refine blk_drew ?_|refine blk_alloc ?_ _));refine blk_far ?_ NB215_222.out _;(with_reducible repeat (first|refine blk_drewN ?_ _|refine blk_drew ?_|refine blk_alloc ?_ _));exact BK215.out) hb);have n2_:=Am9_ (blk_below (g:=gb216) (o:=.cells #[.int .i64 0,.int .i64 0,.slice none 0 0] 28 (0,0)) (by (with_reducible repeat (first|refine blk_drewN ?_ _|refine blk_drew ?_|refine blk_alloc ?_ _));refine blk_far ?_ NB216_222.out _;(with_reducible repeat (first|refine blk_drewN ?_ _|refine blk_drew ?_|refine blk_alloc ?_ _));refine blk_far ?_ NB216_222.out _;(with_reducible repeat (first|refine blk_drewN ?_ _|refine blk_drew ?_|refine blk_alloc ?_ _));refine blk_far ?_ NB216_222.out _;(with_reducible repeat (first|refine blk_drewN ?_ _|refine blk_drew ?_|refine blk_alloc ?_ _));exact BK216.out) hb);have n3_:=Am9_ (blk_below (g:=gb222) (o:=.cells #[.int .i64 t217,.int .i64 t218,.slice Ao80 t219.length co80] 28 (0,0)) (by (with_reducible repeat (first|refine blk_drewN ?_ _|refine blk_drew ?_|refine blk_alloc ?_ _));refine blk_put (cs:=#[.int .i64 t217,.int .i64 t218,.slice none 0 0]) ?_ 2 _ rfl;(with_reducible repeat (first|refine blk_drewN ?_ _|refine blk_drew ?_|refine blk_alloc ?_ _));refine blk_put (cs:=#[.int .i64 t217,.int .i64 0,.slice none 0 0]) ?_ 1 _ rfl;(with_reducible repeat (first|refine blk_drewN ?_ _|refine blk_drew ?_|refine blk_alloc ?_ _));refine blk_put (cs:=#[.int .i64 0,.int .i64 0,.slice none 0 0]) ?_ 0 _ rfl;(with_reducible repeat (first|refine blk_drewN ?_ _|refine blk_drew ?_|refine blk_alloc ?_ _));exact BK222.out) hb);have n4_:=Am9_ (below_step (by repeat (first|(with_reducible first|exact HB.out|apply below_alloc|apply pw_below_drewN|apply below_drew1|refine below_set ?_ GE215.out|refine below_set ?_ GE216.out|refine below_set ?_ GE222.out)|exact HB.out)) hb);clear HO221;clear BK215;clear BK216;clear BK222;clear HB;have HO221:=n0_;have BK215:=n1_;have BK216:=n2_;have BK222:=n3_;have HB:=n4_;clear n0_ n1_ n2_ n3_ n4_;(try clear hb);(try clear hb2);(try clear hk);(try clear hi);have hcz83_0:w82.cell? ⟨gb215,0,none⟩=some (.int .i64 a0_0):=(blk_cell BK215.out 0).trans rfl;have hcz83_1:w82.cell? ⟨gb215,1,none⟩=some (.int .i64 a0_1):=(blk_cell BK215.out 1).trans rfl;have hcz83_2:w82.cell? ⟨gb215,2,none⟩=some (.slice A0_2 l0_2.length c0_2):=(blk_cell BK215.out 2).trans rfl;have hfz83_0:=blk_frozen BK215.out 0;have hfz83_1:=blk_frozen BK215.out 1;have hfz83_2:=blk_frozen BK215.out 2)|((with_reducible refine gate_callee (f:=66) rfl ?_);refine goesL_ (some 19) rfl rfl Try.func66 (by kernel_rfl) rfl #[.agg #[.int .i64 a0_0,.int .i64 a0_1,.slice A0_2 l0_2.length c0_2]] rfl (by (try simp only [List.map_toArray,List.map_cons,List.map_nil]);first|done|rfl|(simp only [List.length_drop,List.length_take];rfl)) ?_;(with_reducible refine (impl_IsValidBook.calls k a0_0 a0_1 _ _ l0_2 true _ ?side1 ?side2 A7.out).mono ?_);(case side1 => repeat (first|exact (Kd.C_below HR0_2.out HB.out)|(with_reducible refine Kd.C_alloc ?_ _)|(with_reducible refine Kd.C_drewN ?_ _)|(with_reducible refine Kd.C_drew ?_)));(case side2 => exact HC0_2.out);rintro e w84 ⟨rfl,hb⟩;refine ⟨_,rfl,?_⟩;have n0_:=Am9_ (Kd.R_below (by (with_reducible repeat (first|apply Kd.R_alloc|apply Kd.R_drewN|apply Kd.R_drew));exact HO221.out) hb);have n1_:=Am9_ (blk_below (g:=gb215) (o:=.cells #[.int .i64 a0_0,.int .i64 a0_1,.slice A0_2 l0_2.length c0_2] 28 (0,0)) (by (with_reducible repeat (first|refine blk_drewN ?_ _|refine blk_drew ?_|refine blk_alloc ?_ _));exact BK215.out) hb);have n2_:=Am9_ (blk_below (g:=gb216) (o:=.cells #[.int .i64 0,.int .i64 0,.slice none 0 0] 28 (0,0)) (by (with_reducible repeat (first|refine blk_drewN ?_ _|refine blk_drew ?_|refine blk_alloc ?_ _));exact BK216.out) hb);have n3_:=Am9_ (blk_below (g:=gb222) (o:=.cells #[.int .i64 t217,.int .i64 t218,.slice Ao80 t219.length co80] 28 (0,0)) (by (with_reducible repeat (first|refine blk_drewN ?_ _|refine blk_drew ?_|refine blk_alloc ?_ _));exact BK222.out) hb);have n4_:=Am9_ (below_step (by repeat (first|(with_reducible first|exact HB.out|apply below_alloc|apply pw_below_drewN|apply below_drew1|refine below_set ?_ GE215.out|refine below_set ?_ GE216.out|refine below_set ?_ GE222.out)|exact HB.out)) hb);clear HO221;clear BK215;clear BK216;clear BK222;clear HB;have HO221:=n0_;have BK215:=n1_;have BK216:=n2_;have BK222:=n3_;have HB:=n4_;clear n0_ n1_ n2_ n3_ n4_;(try clear hb);(try clear hb2);(try clear hk);(try clear hi);have hcz85_0:w84.cell? ⟨gb215,0,none⟩=some (.int .i64 a0_0):=(blk_cell BK215.out 0).trans rfl;have hcz85_1:w84.cell? ⟨gb215,1,none⟩=some (.int .i64 a0_1):=(blk_cell BK215.out 1).trans rfl;have hcz85_2:w84.cell? ⟨gb215,2,none⟩=some (.slice A0_2 l0_2.length c0_2):=(blk_cell BK215.out 2).trans rfl;have hfz85_0:=blk_frozen BK215.out 0;have hfz85_1:=blk_frozen BK215.out 1;have hfz85_2:=blk_frozen BK215.out 2;have p225:0 ≤ (t223:Int):=of_decide_eq_true (by first|(with_reducible assumption)|assumption);have q225:t223 < (l0_2.length:Int):=of_decide_eq_true (by first|(with_reducible assumption)|assumption);obtain ⟨ad225,e225,hx225_0,hx225_1,hx225_2⟩:=at_T35 HR0_2.out t223 p225 q225;cases e225;replace hx225_0:=(HB.out.cell (World.block_lt_of_cell? w _ hx225_0)).trans hx225_0;replace hx225_1:=(HB.out.cell (World.block_lt_of_cell? w _ hx225_1)).trans hx225_1;replace hx225_2:=(HB.out.cell (World.block_lt_of_cell? w _ hx225_2)).trans hx225_2;replace p225:=eq_true p225;replace q225:=eq_true q225)|((with_reducible refine gate_dst (N:=12) rfl ?_);refine box_event ?hg (N:=12) ?hd (cs:=#[.int .i64 0,.int .i64 0,.int .i64 0]) (t:=35) ?hr ?_;(case hd => rfl);(case hg => rfl);(case hr => first|(go_simp;done)|(go_simp;rfl));intro gb226 hg w86 hbox hb;have n0_:=Am9_ (Kd.R_below (Kd.R_elderB (by (with_reducible repeat (first|apply Kd.R_alloc|apply Kd.R_drewN|apply Kd.R_drew));exact HO221.out) gb226 (Nat.le_of_eq hg.symm)) hb);have n1_:=Am9_ (blk_below (g:=gb215) (o:=.cells #[.int .i64 a0_0,.int .i64 a0_1,.slice (some ad225) l0_2.length c0_2] 28 (0,0)) (by (with_reducible repeat (first|refine blk_drewN ?_ _|refine blk_drew ?_|refine blk_alloc ?_ _));exact BK215.out) hb);have n2_:=Am9_ (blk_below (g:=gb216) (o:=.cells #[.int .i64 0,.int .i64 0,.slice none 0 0] 28 (0,0)) (by (with_reducible repeat (first|refine blk_drewN ?_ _|refine blk_drew ?_|refine blk_alloc ?_ _));exact BK216.out) hb);have n3_:=Am9_ (blk_below (g:=gb222) (o:=.cells #[.int .i64 t217,.int .i64 t218,.slice Ao80 t219.length co80] 28 (0,0)) (by (with_reducible repeat (first|refine blk_drewN ?_ _|refine blk_drew ?_|refine blk_alloc ?_ _));exact BK222.out) hb);have n4_:=Am9_ (below_step (by repeat (first|(with_reducible first|exact HB.out|apply below_alloc|apply pw_below_drewN|apply below_drew1|refine below_set ?_ GE215.out|refine below_set ?_ GE216.out|refine below_set ?_ GE222.out)|exact HB.out)) hb);have n5_:=Am9_ (hbox);have n6_:=Am9_ ((by rw [hg];exact (below_size (by repeat (first|(with_reducible first|exact HB.out|apply below_alloc|apply pw_below_drewN|apply below_drew1|refine below_set ?_ GE215.out|refine below_set ?_ GE216.out|refine below_set ?_ GE222.out)|exact HB.out))):w.heap.size ≤ gb226));have n7_:=Am9_ ((by rw [hg];exact (below_size (by repeat (first|(with_reducible first|exact HB.out|apply below_alloc|apply pw_below_drewN|apply below_drew1|refine below_set ?_ GE215.out|refine below_set ?_ GE216.out|refine below_set ?_ GE222.out)|exact HB.out))):w.heap.size ≤ gb226));have n8_:=Am9_ ((by rw [hg];exact Nat.ne_of_lt (blk_lt (g:=gb215) (o:=.cells #[.int .i64 a0_0,.int .i64 a0_1,.slice (some ad225) l0_2.length c0_2] 28 (0,0)) (by (with_reducible repeat (first|refine blk_drewN ?_ _|refine blk_drew ?_|refine blk_alloc ?_ _));exact BK215.out)):gb215 ≠ gb226));have n9_:=Am9_ ((by rw [hg];exact Nat.ne_of_gt (blk_lt (g:=gb215) (o:=.cells #[.int .i64 a0_0,.int .i64 a0_1,.slice (some ad225) l0_2.length c0_2] 28 (0,0)) (by (with_reducible repeat (first|refine blk_drewN ?_ _|refine blk_drew ?_|refine blk_alloc ?_ _));exact BK215.out)):gb226 ≠ gb215));have n10_:=Am9_ ((by rw [hg];exact Nat.ne_of_lt (blk_lt (g:=gb216) (o:=.cells #[.int .i64 0,.int .i64 0,.slice none 0 0] 28 (0,0)) (by (with_reducible repeat (first|refine blk_drewN ?_ _|refine blk_drew ?_|refine blk_alloc ?_ _));exact BK216.out)):gb216 ≠ gb226));have n11_:=Am9_ ((by rw [hg];exact Nat.ne_of_gt (blk_lt (g:=gb216) (o:=.cells #[.int .i64 0,.int .i64 0,.slice none 0 0] 28 (0,0)) (by (with_reducible repeat (first|refine blk_drewN ?_ _|refine blk_drew ?_|refine blk_alloc ?_ _));exact BK216.out)):gb226 ≠ gb216));have n12_:=Am9_ ((by rw [hg];exact Nat.ne_of_lt (blk_lt (g:=gb222) (o:=.cells #[.int .i64 t217,.int .i64 t218,.slice Ao80 t219.length co80] 28 (0,0)) (by (with_reducible repeat (first|refine blk_drewN ?_ _|refine blk_drew ?_|refine blk_alloc ?_ _));exact BK222.out)):gb222 ≠ gb226));have n13_:=Am9_ ((by rw [hg];exact Nat.ne_of_gt (blk_lt (g:=gb222) (o:=.cells #[.int .i64 t217,.int .i64 t218,.slice Ao80 t219.length co80] 28 (0,0)) (by (with_reducible repeat (first|refine blk_drewN ?_ _|refine blk_drew ?_|refine blk_alloc ?_ _));exact BK222.out)):gb226 ≠ gb222));clear HO221;clear BK215;clear BK216;clear BK222;clear HB;have HO221:=n0_;have BK215:=n1_;have BK216:=n2_;have BK222:=n3_;have HB:=n4_;have BK226:=n5_;have GW226:=n6_;have GE226:=n7_;have NB215_226:=n8_;have NB226_215:=n9_;have NB216_226:=n10_;have NB226_216:=n11_;have NB222_226:=n12_;have NB226_222:=n13_;clear n0_ n1_ n2_ n3_ n4_ n5_ n6_ n7_ n8_ n9_ n10_ n11_ n12_ n13_;clear hb hbox hg;have hnb87:=NB226_215.out;have hnc87:=NB215_226.out;have hnb88:=NB226_216.out;have hnc88:=NB216_226.out;have hnb89:=NB226_222.out;have hnc89:=NB222_226.out;have hcz90_0:w86.cell? ⟨gb226,0,none⟩=some (.int .i64 0):=(blk_cell BK226.out 0).trans rfl;have hcz90_1:w86.cell? ⟨gb226,1,none⟩=some (.int .i64 0):=(blk_cell BK226.out 1).trans rfl;have hcz90_2:w86.cell? ⟨gb226,2,none⟩=some (.int .i64 0):=(blk_cell BK226.out 2).trans rfl;have hfz90_0:=blk_frozen BK226.out 0;have hfz90_1:=blk_frozen BK226.out 1;have hfz90_2:=blk_frozen BK226.out 2))
           have n0_:Aside0 (Kd.R k35 35 (((w86.setCell ⟨gb226,0,none⟩ (.int .i64 ((rd_T35 l0_2 t223).f0))).setCell ⟨gb226,1,none⟩ (.int .i64 ((rd_T35 l0_2 t223).f1))).setCell ⟨gb226,2,none⟩ (.int .i64 ((rd_T35 l0_2 t223).f2))) w.heap.size (fun k_ => k_ ≠ gb226) (.slice Ao80 t219.length co80) t219):=⟨by (with_reducible repeat (first|apply Kd.R_alloc|apply Kd.R_drewN|apply Kd.R_drew));exact Kd.R_mono (Kd.R_far (p:=⟨gb226,2,none⟩) (Kd.R_far (p:=⟨gb226,1,none⟩) (Kd.R_far (p:=⟨gb226,0,none⟩) (Kd.R_mono HO221.out (fun k_ hk => (⟨hk,hk.2⟩:_∧k_ ≠ gb226))) (fun _ hk => hk.2) (.int .i64 ((rd_T35 l0_2 t223).f0))) (fun _ hk => hk.2) (.int .i64 ((rd_T35 l0_2 t223).f1))) (fun _ hk => hk.2) (.int .i64 ((rd_T35 l0_2 t223).f2))) (fun _ hk => hk.1.2)⟩
           have n1_:Aside0 ((((w86.setCell ⟨gb226,0,none⟩ (.int .i64 ((rd_T35 l0_2 t223).f0))).setCell ⟨gb226,1,none⟩ (.int .i64 ((rd_T35 l0_2 t223).f1))).setCell ⟨gb226,2,none⟩ (.int .i64 ((rd_T35 l0_2 t223).f2))).heap[gb215]?=some (.cells #[.int .i64 a0_0,.int .i64 a0_1,.slice (some ad225) l0_2.length c0_2] 28 (0,0))):=⟨by (with_reducible repeat (first|refine blk_drewN ?_ _|refine blk_drew ?_|refine blk_alloc ?_ _));refine blk_far ?_ NB215_226.out _;(with_reducible repeat (first|refine blk_drewN ?_ _|refine blk_drew ?_|refine blk_alloc ?_ _));refine blk_far ?_ NB215_226.out _;(with_reducible repeat (first|refine blk_drewN ?_ _|refine blk_drew ?_|refine blk_alloc ?_ _));refine blk_far ?_ NB215_226.out _;(with_reducible repeat (first|refine blk_drewN ?_ _|refine blk_drew ?_|refine blk_alloc ?_ _));exact BK215.out⟩
           have n2_:Aside0 ((((w86.setCell ⟨gb226,0,none⟩ (.int .i64 ((rd_T35 l0_2 t223).f0))).setCell ⟨gb226,1,none⟩ (.int .i64 ((rd_T35 l0_2 t223).f1))).setCell ⟨gb226,2,none⟩ (.int .i64 ((rd_T35 l0_2 t223).f2))).heap[gb216]?=some (.cells #[.int .i64 0,.int .i64 0,.slice none 0 0] 28 (0,0))):=⟨by (with_reducible repeat (first|refine blk_drewN ?_ _|refine blk_drew ?_|refine blk_alloc ?_ _));refine blk_far ?_ NB216_226.out _;(with_reducible repeat (first|refine blk_drewN ?_ _|refine blk_drew ?_|refine blk_alloc ?_ _));refine blk_far ?_ NB216_226.out _;(with_reducible repeat (first|refine blk_drewN ?_ _|refine blk_drew ?_|refine blk_alloc ?_ _));refine blk_far ?_ NB216_226.out _;(with_reducible repeat (first|refine blk_drewN ?_ _|refine blk_drew ?_|refine blk_alloc ?_ _));exact BK216.out⟩
           have n3_:Aside0 ((((w86.setCell ⟨gb226,0,none⟩ (.int .i64 ((rd_T35 l0_2 t223).f0))).setCell ⟨gb226,1,none⟩ (.int .i64 ((rd_T35 l0_2 t223).f1))).setCell ⟨gb226,2,none⟩ (.int .i64 ((rd_T35 l0_2 t223).f2))).heap[gb222]?=some (.cells #[.int .i64 t217,.int .i64 t218,.slice Ao80 t219.length co80] 28 (0,0))):=⟨by (with_reducible repeat (first|refine blk_drewN ?_ _|refine blk_drew ?_|refine blk_alloc ?_ _));refine blk_far ?_ NB222_226.out _;(with_reducible repeat (first|refine blk_drewN ?_ _|refine blk_drew ?_|refine blk_alloc ?_ _));refine blk_far ?_ NB222_226.out _;(with_reducible repeat (first|refine blk_drewN ?_ _|refine blk_drew ?_|refine blk_alloc ?_ _));refine blk_far ?_ NB222_226.out _;(with_reducible repeat (first|refine blk_drewN ?_ _|refine blk_drew ?_|refine blk_alloc ?_ _));exact BK222.out⟩
           have n4_:Aside0 ((((w86.setCell ⟨gb226,0,none⟩ (.int .i64 ((rd_T35 l0_2 t223).f0))).setCell ⟨gb226,1,none⟩ (.int .i64 ((rd_T35 l0_2 t223).f1))).setCell ⟨gb226,2,none⟩ (.int .i64 ((rd_T35 l0_2 t223).f2))).heap[gb226]?=some (.cells #[.int .i64 ((rd_T35 l0_2 t223).f0),.int .i64 ((rd_T35 l0_2 t223).f1),.int .i64 ((rd_T35 l0_2 t223).f2)] 35 (0,0))):=⟨by (with_reducible repeat (first|refine blk_drewN ?_ _|refine blk_drew ?_|refine blk_alloc ?_ _));refine blk_put (cs:=#[.int .i64 ((rd_T35 l0_2 t223).f0),.int .i64 ((rd_T35 l0_2 t223).f1),.int .i64 0]) ?_ 2 _ rfl;(with_reducible repeat (first|refine blk_drewN ?_ _|refine blk_drew ?_|refine blk_alloc ?_ _));refine blk_put (cs:=#[.int .i64 ((rd_T35 l0_2 t223).f0),.int .i64 0,.int .i64 0]) ?_ 1 _ rfl;(with_reducible repeat (first|refine blk_drewN ?_ _|refine blk_drew ?_|refine blk_alloc ?_ _));refine blk_put (cs:=#[.int .i64 0,.int .i64 0,.int .i64 0]) ?_ 0 _ rfl;(with_reducible repeat (first|refine blk_drewN ?_ _|refine blk_drew ?_|refine blk_alloc ?_ _));exact BK226.out⟩
           have n5_:Aside0 (Below w.heap.size w (((w86.setCell ⟨gb226,0,none⟩ (.int .i64 ((rd_T35 l0_2 t223).f0))).setCell ⟨gb226,1,none⟩ (.int .i64 ((rd_T35 l0_2 t223).f1))).setCell ⟨gb226,2,none⟩ (.int .i64 ((rd_T35 l0_2 t223).f2)))):=⟨by repeat (first|(with_reducible first|exact HB.out|apply below_alloc|apply pw_below_drewN|apply below_drew1|refine below_set ?_ GE215.out|refine below_set ?_ GE216.out|refine below_set ?_ GE222.out|refine below_set ?_ GE226.out)|exact HB.out)⟩
           (try clear HO221)
           (try clear BK215)
           (try clear BK216)
           (try clear BK222)
           (try clear BK226)
           (try clear HB)
           generalize (((w86.setCell ⟨gb226,0,none⟩ (.int .i64 ((rd_T35 l0_2 t223).f0))).setCell ⟨gb226,1,none⟩ (.int .i64 ((rd_T35 l0_2 t223).f1))).setCell ⟨gb226,2,none⟩ (.int .i64 ((rd_T35 l0_2 t223).f2)))=w91 at n0_ n1_ n2_ n3_ n4_ n5_ ⊢
           have HO221:=n0_
           have BK215:=n1_
           have BK216:=n2_
           have BK222:=n3_
           have BK226:=n4_
           have HB:=n5_
           clear n0_ n1_ n2_ n3_ n4_ n5_
           have n0_:=Am9_ (Kd.R_drew HO221.out)
           have n1_:=Am9_ (blk_drew BK215.out)
           have n2_:=Am9_ (blk_drew BK216.out)
           have n3_:=Am9_ (blk_drew BK222.out)
           have n4_:=Am9_ (blk_drew BK226.out)
           have n5_:=Am9_ (below_drew1 HB.out)
           clear HO221
           clear BK215
           clear BK216
           clear BK222
           clear BK226
           clear HB
           have HO221:=n0_
           have BK215:=n1_
           have BK216:=n2_
           have BK222:=n3_
           have BK226:=n4_
           have HB:=n5_
           clear n0_ n1_ n2_ n3_ n4_ n5_
           have q93:(t223:Int) ≤ ((l0_2.length:Int):Int):=of_decide_eq_true (by first|(with_reducible assumption)|assumption)
           obtain ⟨i093,hi093,_,hsz93,_⟩:=info_parts info35
           have hroom93:l0_2.length ≤ c0_2:=HC0_2.out
           have hC93:Kd.C k35 _ (some ad225) l0_2.length l0_2:=HR0_2.out
           have hcut93:=cut_to (P:=Try.prog) 26 35 .i64 Try.underlying26 hi093 (some ad225) l0_2.length c0_2 t223 (of_decide_eq_true (by first|(with_reducible assumption)|assumption)) q93 hroom93
           have hr93:=Kd.C_take (m:=(t223:Int).toNat) hC93 (by omega)
           have hy93:y230.length=(t223:Int).toNat:=(by rw [Ny230.out,List.length_take];omega)
           rw [← Ny230.out] at hr93
           rw [← hy93] at hcut93
           have HR233:=Am9_ hr93
           have HC233:=Am9_ (show y230.length ≤ c0_2 from by omega)
           clear hr93 hC93 hroom93 hi093 hsz93
           have KY93:=Am9_ hy93
           clear hy93
           replace q93:=eq_true q93
           have q94:((ji31):Int) ≤ ((l0_2.length:Int):Int):=of_decide_eq_true (by first|(with_reducible assumption)|assumption)
           obtain ⟨i094,hi094,_,hsz94,_⟩:=info_parts info35
           have hroom94:l0_2.length ≤ c0_2:=HC0_2.out
           have hC94:Kd.C k35 _ (some ad225) l0_2.length l0_2:=HR0_2.out
           have q094:(0:Int) ≤ ((ji31):Int):=of_decide_eq_true (by first|(with_reducible assumption)|assumption)
           have hcut94:=cut_from (P:=Try.prog) 26 35 .i64 Try.underlying26 hi094 3 hsz94 (some ad225) l0_2.length c0_2 (ji31) q094 q94
           have hr94:=Kd.C_drop (m:=((ji31):Int).toNat) (c:=c0_2) hC94 (by omega) hroom94
           obtain ⟨A94,hA94⟩:∃ A1,A1=(if c0_2=((ji31):Int).toNat then (some ad225) else ((some ad225):Option Addr).map (·.add (((ji31):Int).toNat * 3))):=⟨_,rfl⟩
           obtain ⟨c94,hc94⟩:∃ c1,c1=c0_2 - ((ji31):Int).toNat:=⟨_,rfl⟩
           have hy94:y237.length=l0_2.length - ((ji31):Int).toNat:=(by rw [Ny237.out,List.length_drop] <;> omega)
           rw [show (l0_2).drop ((ji31):Int).toNat=y237 from Ny237.out.symm] at hr94
           replace hr94:Kd.C k35 _ A94 y237.length y237:=(by rw [hA94];exact hr94)
           rw [← hy94,← hA94,← hc94] at hcut94
           have HR240:=Am9_ hr94
           have HC240:=Am9_ (show y237.length ≤ c94 from by rw [hy94,hc94];exact Nat.sub_le_sub_right hroom94 _)
           clear hr94 hC94 hroom94 hi094 hsz94 hc94
           have KY94:=Am9_ hy94
           have KA94:=Am9_ hA94
           clear hy94 hA94
           replace q94:=eq_true q94
           refine start_ (n:=14) (S:=fun w' => w'.cell? ⟨gb215,0,none⟩=some (.int .i64 a0_0)∧w'.cell? ⟨gb215,1,none⟩=some (.int .i64 a0_1)∧w'.cell? ⟨gb215,2,none⟩=some (.slice (some ad225) l0_2.length c0_2)) (ds:=[]) #[false,false,false,false,false,false,false,false,false,false,false,false,false,false] (by kernel_rfl) rfl rfl ⟨(blk_cell BK215.out 0).trans rfl,(blk_cell BK215.out 1).trans rfl,(blk_cell BK215.out 2).trans rfl⟩ (fun hHeld => ?_);refine with_tabW impl_TakeChallenge.tab6 impl_TakeChallenge.bits6 (fun HT_ HW_ => ?_)
           generalize w91.drew=w92 at HO221 BK215 BK216 BK222 BK226 HB HR233 HR240 hHeld ⊢
           refine pure_ (i:=1) (N:=some 32) (v:=?_) (a':=?_) #[false,true,false,false,false,false,false,false,false,false,false,false,false,false] rfl rfl (any_of HT_.out (by kernel_rfl)) (fun _ _ _ h => h) (Or.inl ⟨by rfl,?_⟩) ?_ ?_
           rotate_left
           ·intro w'
            go_simp
            with_reducible rfl
           rotate_left
           ·simp only [Act.put,List.setIfInBounds_toArray,List.set_cons_zero,List.set_cons_succ,i64_w,i32_w]
            rfl
           refine pure_ (i:=3) (N:=some 34) (v:=?_) (a':=?_) #[false,true,false,true,false,false,false,false,false,false,false,false,false,false] rfl rfl (any_of HT_.out (by kernel_rfl)) (fun _ _ _ h => h) (Or.inl ⟨by rfl,?_⟩) ?_ ?_
           rotate_left
           ·intro w'
            go_simp
            with_reducible rfl
           rotate_left
           ·simp only [Act.put,List.setIfInBounds_toArray,List.set_cons_zero,List.set_cons_succ,i64_w,i32_w]
            rfl
           refine pure_ (i:=6) (N:=some 37) (v:=?_) (a':=?_) #[false,true,false,true,false,false,true,false,false,false,false,false,false,false] rfl rfl (any_of HT_.out (by kernel_rfl)) (fun _ _ _ h => h) (Or.inl ⟨by rfl,?_⟩) ?_ ?_
           rotate_left
           ·intro w'
            go_simp
            with_reducible rfl
           rotate_left
           ·simp only [Act.put,List.setIfInBounds_toArray,List.set_cons_zero,List.set_cons_succ,i64_w,i32_w]
            rfl
           refine pure_ (i:=8) (N:=some 39) (v:=?_) (a':=?_) #[false,true,false,true,false,false,true,false,true,false,false,false,false,false] rfl rfl (any_of HT_.out (by kernel_rfl)) (fun _ _ _ h => h) (Or.inl ⟨by rfl,?_⟩) ?_ ?_
           rotate_left
           ·intro w'
            go_simp
            with_reducible rfl
           rotate_left
           ·simp only [Act.put,List.setIfInBounds_toArray,List.set_cons_zero,List.set_cons_succ,i64_w,i32_w]
            rfl
           refine pure_ (i:=9) (N:=some 40) (v:=?_) (a':=?_) #[false,true,false,true,false,false,true,false,true,true,false,false,false,false] rfl rfl (any_of HT_.out (by kernel_rfl)) (fun _ _ _ h => h) (Or.inl ⟨by rfl,?_⟩) ?_ ?_
           rotate_left
           ·intro w'
            go_simp
            with_reducible rfl
           rotate_left
           ·simp only [Act.put,List.setIfInBounds_toArray,List.set_cons_zero,List.set_cons_succ,i64_w,i32_w]
            rfl
           refine take_ (i:=2) (N:=some 33) (v:=?_) (a':=?_) #[false,true,true,true,false,false,true,false,true,true,false,false,false,false] rfl rfl (take_ofW HT_.out HW_.out (by kernel_rfl)) (fun _ _ _ h => h) (Or.inl ⟨by rfl,?_⟩) hHeld ?_ ?_
           rotate_left
           ·rintro w' ⟨s0,s1,s2⟩
            go_simp
            with_reducible rfl
           rotate_left
           ·simp only [Act.put,List.setIfInBounds_toArray,List.set_cons_zero,List.set_cons_succ,i64_w,i32_w]
            rfl
           refine pure_ (i:=4) (N:=some 35) (v:=?_) (a':=?_) #[false,true,true,true,true,false,true,false,true,true,false,false,false,false] rfl rfl (any_of HT_.out (by kernel_rfl)) (fun _ _ _ h => h) (Or.inl ⟨by rfl,?_⟩) ?_ ?_
           rotate_left
           ·intro w'
            go_simp
            with_reducible rfl
           rotate_left
           ·simp only [Act.put,List.setIfInBounds_toArray,List.set_cons_zero,List.set_cons_succ,i64_w,i32_w]
            rfl
           refine take_ (i:=7) (N:=some 38) (v:=?_) (a':=?_) #[false,true,true,true,true,false,true,true,true,true,false,false,false,false] rfl rfl (take_ofW HT_.out HW_.out (by kernel_rfl)) (fun _ _ _ h => h) (Or.inl ⟨by rfl,?_⟩) hHeld ?_ ?_
           rotate_left
           ·rintro w' ⟨s0,s1,s2⟩
            go_simp
            with_reducible rfl
           rotate_left
           ·simp only [Act.put,List.setIfInBounds_toArray,List.set_cons_zero,List.set_cons_succ,i64_w,i32_w]
            rfl
           refine pure_ (i:=10) (N:=some 41) (v:=?_) (a':=?_) #[false,true,true,true,true,false,true,true,true,true,true,false,false,false] rfl rfl (any_of HT_.out (by kernel_rfl)) (fun _ _ _ h => h) (Or.inl ⟨by rfl,?_⟩) ?_ ?_
           rotate_left
           ·intro w'
            go_simp
            with_reducible rfl
           rotate_left
           ·simp only [Act.put,List.setIfInBounds_toArray,List.set_cons_zero,List.set_cons_succ,i64_w,i32_w]
            rfl
           refine one_ (i:=0) (N:=some 31) #[true,true,true,true,true,false,true,true,true,true,true,false,false,false] rfl rfl (one_of HT_.out (by kernel_rfl)) (by decide) (fun K hK => ?_)
           refine Kd.R_lit_step k35 _ 35 ?hg (N:=31) ?hd (xs:=([]:List (S35))) (inner:=[]) (ok:=fun _ => True) (okp:=fun _ => True) ?hr ?hp (fun _ hk => hk) trivial (Below.refl _ _) (Nat.le_refl _) (by simp) ?_;(case hd => rfl);(case hg => rfl);(case hr => first|(go_simp;done)|(go_simp;rfl));(case hp => exact (Reps.none _ _))
           intro v228 w95 ho96 hb hg_ hnew_
           clear hg_ hnew_
           (first|rw [← Ny227.out] at ho96|(simp only [Int.reduceToNat] at ho96;rw [← Ny227.out] at ho96))
           have n0_:=Am9_ (Kd.R_elder' (by (with_reducible repeat (first|apply Kd.R_alloc|apply Kd.R_drewN|apply Kd.R_drew));exact HO221.out) (Kd.R_base ho96) hb)
           have n1_:=Am9_ (Kd.R_lower (Kd.R_newB (Kd.R_new' ho96 (Kd.R_lt (by (with_reducible repeat (first|apply Kd.R_alloc|apply Kd.R_drewN|apply Kd.R_drew));exact HO221.out))) (g:=gb226) (o:=.cells #[.int .i64 ((rd_T35 l0_2 t223).f0),.int .i64 ((rd_T35 l0_2 t223).f1),.int .i64 ((rd_T35 l0_2 t223).f2)] 35 (0,0)) (by (with_reducible repeat (first|refine blk_drewN ?_ _|refine blk_drew ?_|refine blk_alloc ?_ _));exact BK226.out)) (below_size (by repeat (first|(with_reducible first|exact HB.out|apply below_alloc|apply pw_below_drewN|apply below_drew1|refine below_set ?_ GE215.out|refine below_set ?_ GE216.out|refine below_set ?_ GE222.out|refine below_set ?_ GE226.out)|exact HB.out))))
           have n2_:=Am9_ (blk_below (g:=gb215) (o:=.cells #[.int .i64 a0_0,.int .i64 a0_1,.slice (some ad225) l0_2.length c0_2] 28 (0,0)) (by (with_reducible repeat (first|refine blk_drewN ?_ _|refine blk_drew ?_|refine blk_alloc ?_ _));exact BK215.out) hb)
           have n3_:=Am9_ (blk_below (g:=gb216) (o:=.cells #[.int .i64 0,.int .i64 0,.slice none 0 0] 28 (0,0)) (by (with_reducible repeat (first|refine blk_drewN ?_ _|refine blk_drew ?_|refine blk_alloc ?_ _));exact BK216.out) hb)
           have n4_:=Am9_ (blk_below (g:=gb222) (o:=.cells #[.int .i64 t217,.int .i64 t218,.slice Ao80 t219.length co80] 28 (0,0)) (by (with_reducible repeat (first|refine blk_drewN ?_ _|refine blk_drew ?_|refine blk_alloc ?_ _));exact BK222.out) hb)
           have n5_:=Am9_ (blk_below (g:=gb226) (o:=.cells #[.int .i64 ((rd_T35 l0_2 t223).f0),.int .i64 ((rd_T35 l0_2 t223).f1),.int .i64 ((rd_T35 l0_2 t223).f2)] 35 (0,0)) (by (with_reducible repeat (first|refine blk_drewN ?_ _|refine blk_drew ?_|refine blk_alloc ?_ _));exact BK226.out) hb)
           have n6_:=Am9_ (below_step (by repeat (first|(with_reducible first|exact HB.out|apply below_alloc|apply pw_below_drewN|apply below_drew1|refine below_set ?_ GE215.out|refine below_set ?_ GE216.out|refine below_set ?_ GE222.out|refine below_set ?_ GE226.out)|exact HB.out)) hb)
           clear HO221
           clear BK215
           clear BK216
           clear BK222
           clear BK226
           clear HB
           have HO221:=n0_
           have HO229:=n1_
           have BK215:=n2_
           have BK216:=n3_
           have BK222:=n4_
           have BK226:=n5_
           have HB:=n6_
           clear n0_ n1_ n2_ n3_ n4_ n5_ n6_
           clear hb ho96
           refine hK.out _ _ ⟨(blk_cell BK215.out 0).trans rfl,(blk_cell BK215.out 1).trans rfl,(blk_cell BK215.out 2).trans rfl⟩ (fun hHeld => ?_)
           clear hK K
           refine norm_ (a':=?_) ?_ ?_
           rotate_left
           ·show Act.put _ (some 31) _=_
            simp only [Act.put,List.setIfInBounds_toArray,List.set_cons_zero,List.set_cons_succ,i64_w,i32_w]
            rfl
           refine one_ (i:=5) (N:=some 36) #[true,true,true,true,true,true,true,true,true,true,true,false,false,false] rfl rfl (one_of HT_.out (by kernel_rfl)) (by decide) (fun K hK => ?_)
           refine Kd.R_append_rows_step k35 (w0:=w) w.heap.size (by rfl) (.tmp 31) (.tmp 35) 26 35 (.agg #[(.int .i64 0),(.int .i64 0),(.int .i64 0)]) 24 rfl Try.underlying26 info35 rfl (by decide) (by omega) v228 y227 y230 _ _ _ (fun k_ => some k_ ≠ (.slice Ao80 t219.length co80:Value).ownBlock∧k_ ≠ gb226) (fun _ => False) rfl rfl ?aO ?aR (fun _ _ h => h) (fun _ h => h.elim) ?aF ?aB ?aS ?aL ?_
           (case aR => repeat (first|exact (Kd.C_below HR233.out HB.out)|(with_reducible refine Kd.C_alloc ?_ _)|(with_reducible refine Kd.C_drewN ?_ _)|(with_reducible refine Kd.C_drew ?_)))
           (case aB => exact (by repeat (first|(with_reducible first|exact HB.out|apply below_alloc|apply pw_below_drewN|apply below_drew1|refine below_set ?_ GE215.out|refine below_set ?_ GE216.out|refine below_set ?_ GE222.out|refine below_set ?_ GE226.out)|exact HB.out)))
           (case aF => exact (fun k_ hk => ⟨Kd.fresh' (Kd.R_lt (by (with_reducible repeat (first|apply Kd.R_alloc|apply Kd.R_drewN|apply Kd.R_drew));exact HO221.out)) k_ hk,Kd.freshB (g:=gb226) (o:=.cells #[.int .i64 ((rd_T35 l0_2 t223).f0),.int .i64 ((rd_T35 l0_2 t223).f1),.int .i64 ((rd_T35 l0_2 t223).f2)] 35 (0,0)) (by (with_reducible repeat (first|refine blk_drewN ?_ _|refine blk_drew ?_|refine blk_alloc ?_ _));exact BK226.out) k_ hk⟩))
           (case aO => exact (by (with_reducible repeat (first|apply Kd.R_alloc|apply Kd.R_drewN|apply Kd.R_drew));exact Kd.R_mono HO229.out (fun _ hk => ⟨hk.1.2,hk.2⟩)))
           (case aS => exact (below_size (by repeat (first|(with_reducible first|exact HB.out|apply below_alloc|apply pw_below_drewN|apply below_drew1|refine below_set ?_ GE215.out|refine below_set ?_ GE216.out|refine below_set ?_ GE222.out|refine below_set ?_ GE226.out)|exact HB.out))))
           (case aL => have:=LMc30.out;omega)
           intro v235 w97 ho hb hg hat
           rw [← Ny234.out] at ho
           have n0_:=Am9_ (blk_grown (g:=gb215) (o:=.cells #[.int .i64 a0_0,.int .i64 a0_1,.slice (some ad225) l0_2.length c0_2] 28 (0,0)) (by (with_reducible repeat (first|refine blk_drewN ?_ _|refine blk_drew ?_|refine blk_alloc ?_ _));exact BK215.out) hg (Kd.R_ne HO229.out BK215.out (by decide)))
           have n1_:=Am9_ (blk_grown (g:=gb216) (o:=.cells #[.int .i64 0,.int .i64 0,.slice none 0 0] 28 (0,0)) (by (with_reducible repeat (first|refine blk_drewN ?_ _|refine blk_drew ?_|refine blk_alloc ?_ _));exact BK216.out) hg (Kd.R_ne HO229.out BK216.out (by decide)))
           have n2_:=Am9_ (Kd.R_after (ok:=(fun k_ => k_ ≠ gb226)) (by (with_reducible repeat (first|apply Kd.R_alloc|apply Kd.R_drewN|apply Kd.R_drew));exact HO221.out) hg hat)
           have n3_:=Am9_ (blk_grown (g:=gb222) (o:=.cells #[.int .i64 t217,.int .i64 t218,.slice Ao80 t219.length co80] 28 (0,0)) (by (with_reducible repeat (first|refine blk_drewN ?_ _|refine blk_drew ?_|refine blk_alloc ?_ _));exact BK222.out) hg (Kd.R_ne HO229.out BK222.out (by decide)))
           have n4_:=Am9_ (blk_grown (g:=gb226) (o:=.cells #[.int .i64 ((rd_T35 l0_2 t223).f0),.int .i64 ((rd_T35 l0_2 t223).f1),.int .i64 ((rd_T35 l0_2 t223).f2)] 35 (0,0)) (by (with_reducible repeat (first|refine blk_drewN ?_ _|refine blk_drew ?_|refine blk_alloc ?_ _));exact BK226.out) hg (Kd.R_away HO229.out (fun _ hk => hk.2)))
           have n5_:=Am9_ (hb)
           have n6_:=Am9_ (ho)
           clear BK215
           clear BK216
           clear HO221
           clear BK222
           clear BK226
           clear HB
           clear HO229
           have BK215:=n0_
           have BK216:=n1_
           have HO221:=n2_
           have BK222:=n3_
           have BK226:=n4_
           have HB:=n5_
           have HO236:=n6_
           clear n0_ n1_ n2_ n3_ n4_ n5_ n6_
           clear ho hb hg hat
           refine hK.out _ _ ⟨(blk_cell BK215.out 0).trans rfl,(blk_cell BK215.out 1).trans rfl,(blk_cell BK215.out 2).trans rfl⟩ (fun hHeld => ?_)
           clear hK K
           refine norm_ (a':=?_) ?_ ?_
           rotate_left
           ·show Act.put _ (some 36) _=_
            simp only [Act.put,List.setIfInBounds_toArray,List.set_cons_zero,List.set_cons_succ,i64_w,i32_w]
            rfl
           refine one_ (i:=11) (N:=some 42) #[true,true,true,true,true,true,true,true,true,true,true,true,false,false] rfl rfl (one_of HT_.out (by kernel_rfl)) (by decide) (fun K hK => ?_)
           refine Kd.R_append_rows_step k35 (w0:=w) w.heap.size (by rfl) (.tmp 36) (.tmp 41) 26 35 (.agg #[(.int .i64 0),(.int .i64 0),(.int .i64 0)]) 24 rfl Try.underlying26 info35 rfl (by decide) (by omega) v235 y234 y237 _ _ _ (fun k_ => some k_ ≠ (.slice Ao80 t219.length co80:Value).ownBlock∧k_ ≠ gb226) (fun _ => False) rfl rfl ?aO ?aR (fun _ _ h => h) (fun _ h => h.elim) ?aF ?aB ?aS ?aL ?_
           (case aR => repeat (first|exact (Kd.C_below HR240.out HB.out)|(with_reducible refine Kd.C_alloc ?_ _)|(with_reducible refine Kd.C_drewN ?_ _)|(with_reducible refine Kd.C_drew ?_)))
           (case aB => exact (by repeat (first|(with_reducible first|exact HB.out|apply below_alloc|apply pw_below_drewN|apply below_drew1|refine below_set ?_ GE215.out|refine below_set ?_ GE216.out|refine below_set ?_ GE222.out|refine below_set ?_ GE226.out)|exact HB.out)))
           (case aF => exact (fun k_ hk => ⟨Kd.fresh' (Kd.R_lt (by (with_reducible repeat (first|apply Kd.R_alloc|apply Kd.R_drewN|apply Kd.R_drew));exact HO221.out)) k_ hk,Kd.freshB (g:=gb226) (o:=.cells #[.int .i64 ((rd_T35 l0_2 t223).f0),.int .i64 ((rd_T35 l0_2 t223).f1),.int .i64 ((rd_T35 l0_2 t223).f2)] 35 (0,0)) (by (with_reducible repeat (first|refine blk_drewN ?_ _|refine blk_drew ?_|refine blk_alloc ?_ _));exact BK226.out) k_ hk⟩))
           (case aO => exact (by (with_reducible repeat (first|apply Kd.R_alloc|apply Kd.R_drewN|apply Kd.R_drew));exact HO236.out))
           (case aS => exact (below_size (by repeat (first|(with_reducible first|exact HB.out|apply below_alloc|apply pw_below_drewN|apply below_drew1|refine below_set ?_ GE215.out|refine below_set ?_ GE216.out|refine below_set ?_ GE222.out|refine below_set ?_ GE226.out)|exact HB.out))))
           (case aL => have:=LMc34.out;omega)
           intro v242 w98 ho hb hg hat
           rw [← Ny241.out] at ho
           have n0_:=Am9_ (blk_grown (g:=gb215) (o:=.cells #[.int .i64 a0_0,.int .i64 a0_1,.slice (some ad225) l0_2.length c0_2] 28 (0,0)) (by (with_reducible repeat (first|refine blk_drewN ?_ _|refine blk_drew ?_|refine blk_alloc ?_ _));exact BK215.out) hg (Kd.R_ne HO236.out BK215.out (by decide)))
           have n1_:=Am9_ (blk_grown (g:=gb216) (o:=.cells #[.int .i64 0,.int .i64 0,.slice none 0 0] 28 (0,0)) (by (with_reducible repeat (first|refine blk_drewN ?_ _|refine blk_drew ?_|refine blk_alloc ?_ _));exact BK216.out) hg (Kd.R_ne HO236.out BK216.out (by decide)))
           have n2_:=Am9_ (Kd.R_after (ok:=(fun k_ => k_ ≠ gb226)) (by (with_reducible repeat (first|apply Kd.R_alloc|apply Kd.R_drewN|apply Kd.R_drew));exact HO221.out) hg hat)
           have n3_:=Am9_ (blk_grown (g:=gb222) (o:=.cells #[.int .i64 t217,.int .i64 t218,.slice Ao80 t219.length co80] 28 (0,0)) (by (with_reducible repeat (first|refine blk_drewN ?_ _|refine blk_drew ?_|refine blk_alloc ?_ _));exact BK222.out) hg (Kd.R_ne HO236.out BK222.out (by decide)))
           have n4_:=Am9_ (blk_grown (g:=gb226) (o:=.cells #[.int .i64 ((rd_T35 l0_2 t223).f0),.int .i64 ((rd_T35 l0_2 t223).f1),.int .i64 ((rd_T35 l0_2 t223).f2)] 35 (0,0)) (by (with_reducible repeat (first|refine blk_drewN ?_ _|refine blk_drew ?_|refine blk_alloc ?_ _));exact BK226.out) hg (Kd.R_away HO236.out (fun _ hk => hk.2)))
           have n5_:=Am9_ (hb)
           have n6_:=Am9_ (ho)
           clear BK215
           clear BK216
           clear HO221
           clear BK222
           clear BK226
           clear HB
           clear HO236
           have BK215:=n0_
           have BK216:=n1_
           have HO221:=n2_
           have BK222:=n3_
           have BK226:=n4_
           have HB:=n5_
           have HO243:=n6_
           clear n0_ n1_ n2_ n3_ n4_ n5_ n6_
           clear ho hb hg hat
           obtain ⟨Ao99,co99,eo99⟩:=Kd.R_slice HO243.out
           (first|subst eo99|(injection eo99 with f1_ f2_ f3_;have f4_:=f1_.symm;have f5_:=f3_.symm;clear f1_ f2_ f3_;subst f4_;subst f5_))
           refine hK.out _ _ ⟨(blk_cell BK215.out 0).trans rfl,(blk_cell BK215.out 1).trans rfl,(blk_cell BK215.out 2).trans rfl⟩ (fun hHeld => ?_)
           clear hK K
           refine norm_ (a':=?_) ?_ ?_
           rotate_left
           ·show Act.put _ (some 42) _=_
            simp only [Act.put,List.setIfInBounds_toArray,List.set_cons_zero,List.set_cons_succ,i64_w,i32_w]
            rfl
           refine pure_ (i:=12) (N:=some 43) (v:=?_) (a':=?_) #[true,true,true,true,true,true,true,true,true,true,true,true,true,false] rfl rfl (any_of HT_.out (by kernel_rfl)) (fun _ _ _ h => h) (Or.inl ⟨by rfl,?_⟩) ?_ ?_
           rotate_left
           ·intro w'
            go_simp
            with_reducible rfl
           rotate_left
           ·simp only [Act.put,List.setIfInBounds_toArray,List.set_cons_zero,List.set_cons_succ,i64_w,i32_w]
            rfl
           refine one_ (i:=13) (N:=none) #[true,true,true,true,true,true,true,true,true,true,true,true,true,true] rfl rfl (one_of HT_.out (by kernel_rfl)) (by decide) (fun K hK => ?_)
           have hs100:w98.cell? ⟨gb222,2,none⟩=some (.slice Ao80 t219.length co80):=(blk_cell BK222.out 2).trans rfl
           have hfs100:=blk_frozen BK222.out 2
           have hns100_0:=NB215_222.out
           have hns100_1:=NB216_222.out
           have hns100_3:=NB226_222.out
           have hms100_0:=NB222_215.out
           have hms100_1:=NB222_216.out
           have hms100_3:=NB222_226.out
           refine skip_ (w1:=?_) (by rfl) rfl ?_ ?_
           rotate_left
           ·go_simp
            rfl
           refine hK.out _ _ ⟨((cell_far (p:=⟨gb222,_,none⟩) NB215_222.out _).trans (hHeld.1)),((cell_far (p:=⟨gb222,_,none⟩) NB215_222.out _).trans (hHeld.2.1)),((cell_far (p:=⟨gb222,_,none⟩) NB215_222.out _).trans (hHeld.2.2))⟩ (fun hHeld => ?_)
           clear hK K
           refine done_ (done_of HT_.out (by kernel_rfl)) ?_
           try go_wp2
           have n0_:Aside0 (Kd.R k35 35 (w98.setCell ⟨gb222,2,none⟩ (.slice Ao99 y241.length co99)) w.heap.size (fun k_ => some k_ ≠ (.slice Ao99 y241.length co99:Value).ownBlock∧k_ ≠ gb226) (.slice Ao80 t219.length co80) t219):=⟨by (with_reducible repeat (first|apply Kd.R_alloc|apply Kd.R_drewN|apply Kd.R_drew));exact Kd.R_mono (Kd.R_far (p:=⟨gb222,2,none⟩) (Kd.R_types HO221.out BK222.out (by decide)) (fun _ hk => hk.2) (.slice Ao99 y241.length co99)) (fun _ hk => ⟨hk.1.2,hk.1.1⟩)⟩
           have n1_:Aside0 (Kd.R k35 35 (w98.setCell ⟨gb222,2,none⟩ (.slice Ao99 y241.length co99)) w.heap.size (fun k_ => some k_ ≠ (.slice Ao80 t219.length co80:Value).ownBlock∧k_ ≠ gb226) (.slice Ao99 y241.length co99) y241):=⟨by (with_reducible repeat (first|apply Kd.R_alloc|apply Kd.R_drewN|apply Kd.R_drew));exact Kd.R_mono (Kd.R_far (p:=⟨gb222,2,none⟩) (Kd.R_types HO243.out BK222.out (by decide)) (fun _ hk => hk.2) (.slice Ao99 y241.length co99)) (fun _ hk => ⟨hk.1.1,hk.1.2⟩)⟩
           have n2_:Aside0 ((w98.setCell ⟨gb222,2,none⟩ (.slice Ao99 y241.length co99)).heap[gb215]?=some (.cells #[.int .i64 a0_0,.int .i64 a0_1,.slice (some ad225) l0_2.length c0_2] 28 (0,0))):=⟨by (with_reducible repeat (first|refine blk_drewN ?_ _|refine blk_drew ?_|refine blk_alloc ?_ _));refine blk_far ?_ NB215_222.out _;(with_reducible repeat (first|refine blk_drewN ?_ _|refine blk_drew ?_|refine blk_alloc ?_ _));exact BK215.out⟩
           have n3_:Aside0 ((w98.setCell ⟨gb222,2,none⟩ (.slice Ao99 y241.length co99)).heap[gb216]?=some (.cells #[.int .i64 0,.int .i64 0,.slice none 0 0] 28 (0,0))):=⟨by (with_reducible repeat (first|refine blk_drewN ?_ _|refine blk_drew ?_|refine blk_alloc ?_ _));refine blk_far ?_ NB216_222.out _;(with_reducible repeat (first|refine blk_drewN ?_ _|refine blk_drew ?_|refine blk_alloc ?_ _));exact BK216.out⟩
           have n4_:Aside0 ((w98.setCell ⟨gb222,2,none⟩ (.slice Ao99 y241.length co99)).heap[gb222]?=some (.cells #[.int .i64 t217,.int .i64 t218,.slice Ao99 y241.length co99] 28 (0,0))):=⟨by (with_reducible repeat (first|refine blk_drewN ?_ _|refine blk_drew ?_|refine blk_alloc ?_ _));refine blk_put (cs:=#[.int .i64 t217,.int .i64 t218,.slice Ao80 t219.length co80]) ?_ 2 _ rfl;(with_reducible repeat (first|refine blk_drewN ?_ _|refine blk_drew ?_|refine blk_alloc ?_ _));exact BK222.out⟩
           have n5_:Aside0 ((w98.setCell ⟨gb222,2,none⟩ (.slice Ao99 y241.length co99)).heap[gb226]?=some (.cells #[.int .i64 ((rd_T35 l0_2 t223).f0),.int .i64 ((rd_T35 l0_2 t223).f1),.int .i64 ((rd_T35 l0_2 t223).f2)] 35 (0,0))):=⟨by (with_reducible repeat (first|refine blk_drewN ?_ _|refine blk_drew ?_|refine blk_alloc ?_ _));refine blk_far ?_ NB226_222.out _;(with_reducible repeat (first|refine blk_drewN ?_ _|refine blk_drew ?_|refine blk_alloc ?_ _));exact BK226.out⟩
           have n6_:Aside0 (Below w.heap.size w (w98.setCell ⟨gb222,2,none⟩ (.slice Ao99 y241.length co99))):=⟨by repeat (first|(with_reducible first|exact HB.out|apply below_alloc|apply pw_below_drewN|apply below_drew1|refine below_set ?_ GE215.out|refine below_set ?_ GE216.out|refine below_set ?_ GE222.out|refine below_set ?_ GE226.out)|exact HB.out)⟩
           (try clear HO221)
           (try clear HO243)
           (try clear BK215)
           (try clear BK216)
           (try clear BK222)
           (try clear BK226)
           (try clear HB)
           generalize (w98.setCell ⟨gb222,2,none⟩ (.slice Ao99 y241.length co99))=w101 at n0_ n1_ n2_ n3_ n4_ n5_ n6_ ⊢
           have HO221:=n0_
           have HO243:=n1_
           have BK215:=n2_
           have BK216:=n3_
           have BK222:=n4_
           have BK226:=n5_
           have HB:=n6_
           clear n0_ n1_ n2_ n3_ n4_ n5_ n6_
           have n0_:=Am9_ (Kd.R_drew HO221.out)
           have n1_:=Am9_ (Kd.R_drew HO243.out)
           have n2_:=Am9_ (blk_drew BK215.out)
           have n3_:=Am9_ (blk_drew BK216.out)
           have n4_:=Am9_ (blk_drew BK222.out)
           have n5_:=Am9_ (blk_drew BK226.out)
           have n6_:=Am9_ (below_drew1 HB.out)
           clear HO221
           clear HO243
           clear BK215
           clear BK216
           clear BK222
           clear BK226
           clear HB
           have HO221:=n0_
           have HO243:=n1_
           have BK215:=n2_
           have BK216:=n3_
           have BK222:=n4_
           have BK226:=n5_
           have HB:=n6_
           clear n0_ n1_ n2_ n3_ n4_ n5_ n6_
           refine start_ (n:=13) (S:=fun w' => w'.cell? ⟨gb222,0,none⟩=some (.int .i64 t217)∧w'.cell? ⟨gb222,1,none⟩=some (.int .i64 t218)∧w'.cell? ⟨gb222,2,none⟩=some (.slice Ao99 y241.length co99)∧w'.cell? ⟨gb226,0,none⟩=some (.int .i64 ((rd_T35 l0_2 t223).f0))∧w'.cell? ⟨gb226,1,none⟩=some (.int .i64 ((rd_T35 l0_2 t223).f1))∧w'.cell? ⟨gb226,2,none⟩=some (.int .i64 ((rd_T35 l0_2 t223).f2))) (ds:=[]) #[false,false,false,false,false,false,false,false,false,false,false,false,false] (by kernel_rfl) rfl rfl ⟨(blk_cell BK222.out 0).trans rfl,(blk_cell BK222.out 1).trans rfl,(blk_cell BK222.out 2).trans rfl,(blk_cell BK226.out 0).trans rfl,(blk_cell BK226.out 1).trans rfl,(blk_cell BK226.out 2).trans rfl⟩ (fun hHeld => ?_);refine with_tabW impl_TakeChallenge.tab7 impl_TakeChallenge.bits7 (fun HT_ HW_ => ?_)
           generalize w101.drew=w102 at HO221 HO243 BK215 BK216 BK222 BK226 HB hHeld ⊢
           refine pure_ (i:=1) (N:=some 45) (v:=?_) (a':=?_) #[false,true,false,false,false,false,false,false,false,false,false,false,false] rfl rfl (any_of HT_.out (by kernel_rfl)) (fun _ _ _ h => h) (Or.inl ⟨by rfl,?_⟩) ?_ ?_
           rotate_left
           ·intro w'
            go_simp
            with_reducible rfl
           rotate_left
           ·simp only [Act.put,List.setIfInBounds_toArray,List.set_cons_zero,List.set_cons_succ,i64_w,i32_w]
            rfl
           refine pure_ (i:=3) (N:=some 47) (v:=?_) (a':=?_) #[false,true,false,true,false,false,false,false,false,false,false,false,false] rfl rfl (any_of HT_.out (by kernel_rfl)) (fun _ _ _ h => h) (Or.inl ⟨by rfl,?_⟩) ?_ ?_
           rotate_left
           ·intro w'
            go_simp
            with_reducible rfl
           rotate_left
           ·simp only [Act.put,List.setIfInBounds_toArray,List.set_cons_zero,List.set_cons_succ,i64_w,i32_w]
            rfl
           refine take_ (i:=0) (N:=some 44) (v:=?_) (a':=?_) #[true,true,false,true,false,false,false,false,false,false,false,false,false] rfl rfl (take_ofW HT_.out HW_.out (by kernel_rfl)) (fun _ _ _ h => h) (Or.inl ⟨by rfl,?_⟩) hHeld ?_ ?_
           rotate_left
           ·rintro w' ⟨s0,s1,s2,s3,s4,s5⟩
            go_simp
            with_reducible rfl
           rotate_left
           ·simp only [Act.put,List.setIfInBounds_toArray,List.set_cons_zero,List.set_cons_succ,i64_w,i32_w]
            rfl
           refine take_ (i:=2) (N:=some 46) (v:=?_) (a':=?_) #[true,true,true,true,false,false,false,false,false,false,false,false,false] rfl rfl (take_ofW HT_.out HW_.out (by kernel_rfl)) (fun _ _ _ h => h) (Or.inl ⟨by rfl,?_⟩) hHeld ?_ ?_
           rotate_left
           ·rintro w' ⟨s0,s1,s2,s3,s4,s5⟩
            go_simp
            with_reducible rfl
           rotate_left
           ·simp only [Act.put,List.setIfInBounds_toArray,List.set_cons_zero,List.set_cons_succ,i64_w,i32_w]
            rfl
           refine pure_ (i:=4) (N:=some 48) (v:=?_) (a':=?_) #[true,true,true,true,true,false,false,false,false,false,false,false,false] rfl rfl (any_of HT_.out (by kernel_rfl)) (fun _ _ _ h => h) (Or.inl ⟨by rfl,?_⟩) ?_ ?_
           rotate_left
           ·intro w'
            go_simp
            with_reducible rfl
           rotate_left
           ·simp only [Act.put,List.setIfInBounds_toArray,List.set_cons_zero,List.set_cons_succ,i64_w,i32_w]
            rfl
           refine pure_ (i:=5) (N:=some 49) (v:=?_) (a':=?_) #[true,true,true,true,true,true,false,false,false,false,false,false,false] rfl rfl (any_of HT_.out (by kernel_rfl)) (fun _ _ _ h => h) (Or.inl ⟨by rfl,?_⟩) ?_ ?_
           rotate_left
           ·intro w'
            go_simp
            with_reducible rfl
           rotate_left
           ·simp only [Act.put,List.setIfInBounds_toArray,List.set_cons_zero,List.set_cons_succ,i64_w,i32_w]
            rfl
           refine pure_ (i:=6) (N:=some 50) (v:=undef) (a':=?_) #[true,true,true,true,true,true,true,false,false,false,false,false,false] rfl rfl (any_of HT_.out (by kernel_rfl)) (fun _ _ _ h => h) (Or.inr ⟨by rfl,rfl⟩) ?_ ?_
           rotate_left
           ·simp only [Act.put,List.setIfInBounds_toArray,List.set_cons_zero,List.set_cons_succ,i64_w,i32_w]
            rfl
           refine pure_ (i:=7) (N:=some 51) (v:=undef) (a':=?_) #[true,true,true,true,true,true,true,true,false,false,false,false,false] rfl rfl (any_of HT_.out (by kernel_rfl)) (fun _ _ _ h => h) (Or.inr ⟨by rfl,rfl⟩) ?_ ?_
           rotate_left
           ·simp only [Act.put,List.setIfInBounds_toArray,List.set_cons_zero,List.set_cons_succ,i64_w,i32_w]
            rfl
           refine pure_ (i:=8) (N:=some 52) (v:=undef) (a':=?_) #[true,true,true,true,true,true,true,true,true,false,false,false,false] rfl rfl (any_of HT_.out (by kernel_rfl)) (fun _ _ _ h => h) (Or.inr ⟨by rfl,rfl⟩) ?_ ?_
           rotate_left
           ·simp only [Act.put,List.setIfInBounds_toArray,List.set_cons_zero,List.set_cons_succ,i64_w,i32_w]
            rfl
           refine pure_ (i:=9) (N:=some 53) (v:=undef) (a':=?_) #[true,true,true,true,true,true,true,true,true,true,false,false,false] rfl rfl (any_of HT_.out (by kernel_rfl)) (fun _ _ _ h => h) (Or.inr ⟨by rfl,rfl⟩) ?_ ?_
           rotate_left
           ·simp only [Act.put,List.setIfInBounds_toArray,List.set_cons_zero,List.set_cons_succ,i64_w,i32_w]
            rfl
           refine pure_ (i:=10) (N:=some 54) (v:=?_) (a':=?_) #[true,true,true,true,true,true,true,true,true,true,true,false,false] rfl rfl (any_of HT_.out (by kernel_rfl)) (fun _ _ _ h => h) (Or.inl ⟨by rfl,?_⟩) ?_ ?_
           rotate_left
           ·intro w'
            go_simp
            with_reducible rfl
           rotate_left
           ·simp only [Act.put,List.setIfInBounds_toArray,List.set_cons_zero,List.set_cons_succ,i64_w,i32_w]
            rfl
           refine one_ (i:=11) (N:=none) #[true,true,true,true,true,true,true,true,true,true,true,true,false] rfl rfl (one_of HT_.out (by kernel_rfl)) (by decide) (fun K hK => ?_)
           have hs103:w102.cell? ⟨gb216,0,none⟩=some (.int .i64 0):=(blk_cell BK216.out 0).trans rfl
           have hfs103:=blk_frozen BK216.out 0
           have hns103_0:=NB215_216.out
           have hns103_2:=NB222_216.out
           have hns103_3:=NB226_216.out
           have hms103_0:=NB216_215.out
           have hms103_2:=NB216_222.out
           have hms103_3:=NB216_226.out
           have hs104:w102.cell? ⟨gb216,1,none⟩=some (.int .i64 0):=(blk_cell BK216.out 1).trans rfl
           have hfs104:=blk_frozen BK216.out 1
           have hns104_0:=NB215_216.out
           have hns104_2:=NB222_216.out
           have hns104_3:=NB226_216.out
           have hms104_0:=NB216_215.out
           have hms104_2:=NB216_222.out
           have hms104_3:=NB216_226.out
           have hs105:w102.cell? ⟨gb216,2,none⟩=some (.slice none 0 0):=(blk_cell BK216.out 2).trans rfl
           have hfs105:=blk_frozen BK216.out 2
           have hns105_0:=NB215_216.out
           have hns105_2:=NB222_216.out
           have hns105_3:=NB226_216.out
           have hms105_0:=NB216_215.out
           have hms105_2:=NB216_222.out
           have hms105_3:=NB216_226.out
           refine skip_ (w1:=?_) (by rfl) rfl ?_ ?_
           rotate_left
           ·go_simp
            rfl
           refine hK.out _ _ ⟨((cell_far (p:=⟨gb216,_,none⟩) NB222_216.out _).trans (((cell_far (p:=⟨gb216,_,none⟩) NB222_216.out _).trans (((cell_far (p:=⟨gb216,_,none⟩) NB222_216.out _).trans (hHeld.1)))))),((cell_far (p:=⟨gb216,_,none⟩) NB222_216.out _).trans (((cell_far (p:=⟨gb216,_,none⟩) NB222_216.out _).trans (((cell_far (p:=⟨gb216,_,none⟩) NB222_216.out _).trans (hHeld.2.1)))))),((cell_far (p:=⟨gb216,_,none⟩) NB222_216.out _).trans (((cell_far (p:=⟨gb216,_,none⟩) NB222_216.out _).trans (((cell_far (p:=⟨gb216,_,none⟩) NB222_216.out _).trans (hHeld.2.2.1)))))),((cell_far (p:=⟨gb216,_,none⟩) NB226_216.out _).trans (((cell_far (p:=⟨gb216,_,none⟩) NB226_216.out _).trans (((cell_far (p:=⟨gb216,_,none⟩) NB226_216.out _).trans (hHeld.2.2.2.1)))))),((cell_far (p:=⟨gb216,_,none⟩) NB226_216.out _).trans (((cell_far (p:=⟨gb216,_,none⟩) NB226_216.out _).trans (((cell_far (p:=⟨gb216,_,none⟩) NB226_216.out _).trans (hHeld.2.2.2.2.1)))))),((cell_far (p:=⟨gb216,_,none⟩) NB226_216.out _).trans (((cell_far (p:=⟨gb216,_,none⟩) NB226_216.out _).trans (((cell_far (p:=⟨gb216,_,none⟩) NB226_216.out _).trans (hHeld.2.2.2.2.2))))))⟩ (fun hHeld => ?_)
           clear hK K
           refine pure_ (i:=12) (N:=some 9) (v:=?_) (a':=?_) #[true,true,true,true,true,true,true,true,true,true,true,true,true] rfl rfl (any_of HT_.out (by kernel_rfl)) (fun _ _ _ h => h) (Or.inl ⟨by rfl,?_⟩) ?_ ?_
           rotate_left
           ·intro w'
            go_simp
            with_reducible rfl
           rotate_left
           ·simp only [Act.put,List.setIfInBounds_toArray,List.set_cons_zero,List.set_cons_succ,i64_w,i32_w]
            rfl
           refine done_ (done_of HT_.out (by kernel_rfl)) ?_
           try go_wp2
           refine bodyPost_ret (results_ct rfl _ _ gb216 28 #[.int .i64 t217,.int .i64 t218,.slice Ao99 y241.length co99] (0,0) _ rfl (by (with_reducible repeat (first|refine blk_drewN ?_ _|refine blk_drew ?_|refine blk_alloc ?_ _));refine blk_put (cs:=#[.int .i64 t217,.int .i64 t218,.slice none 0 0]) ?_ 2 _ rfl;(with_reducible repeat (first|refine blk_drewN ?_ _|refine blk_drew ?_|refine blk_alloc ?_ _));refine blk_put (cs:=#[.int .i64 t217,.int .i64 0,.slice none 0 0]) ?_ 1 _ rfl;(with_reducible repeat (first|refine blk_drewN ?_ _|refine blk_drew ?_|refine blk_alloc ?_ _));refine blk_put (cs:=#[.int .i64 0,.int .i64 0,.slice none 0 0]) ?_ 0 _ rfl;(with_reducible repeat (first|refine blk_drewN ?_ _|refine blk_drew ?_|refine blk_alloc ?_ _));exact BK216.out) Try.underlying28 rfl (by kernel_rfl)) rfl ?_
           exact ⟨_,by first|rfl|(simp [errW_none,errW_some] <;> rfl)|(simp only [← hji31];first|rfl|(simp [errW_none,errW_some] <;> rfl))|(simp [*,errW_none,errW_some] <;> rfl),by (with_reducible repeat (first|apply Kd.R_alloc|apply Kd.R_drewN|apply Kd.R_drew));exact Kd.R_mono (Kd.R_far (p:=⟨gb216,2,none⟩) (Kd.R_far (p:=⟨gb216,1,none⟩) (Kd.R_far (p:=⟨gb216,0,none⟩) (Kd.R_types HO243.out BK216.out (by decide)) (fun _ hk => hk.2) (.int .i64 t217)) (fun _ hk => hk.2) (.int .i64 t218)) (fun _ hk => hk.2) (.slice Ao99 y241.length co99)) (fun _ hk => trivial),by repeat (first|(with_reducible first|exact HB.out|apply below_alloc|apply pw_below_drewN|apply below_drew1|refine below_set ?_ GE215.out|refine below_set ?_ GE216.out|refine below_set ?_ GE222.out|refine below_set ?_ GE226.out)|exact HB.out)⟩
         ·rw [if_neg c34] at H
          exact absurd H (by simp)
        ·rw [if_neg c33] at H
         exact absurd H (by simp)
       ·rw [if_neg c32] at H
        exact absurd H (by simp)
      ·rw [if_neg c30] at H
       exact absurd H (by simp)
     ·rw [if_neg c29] at H
      exact absurd H (by simp)
    ·rw [if_neg c27] at H
     exact absurd H (by simp)
   ·rw [if_neg c26] at H
    exact absurd H (by simp)
 ·replace c8:=Bool.eq_false_iff.mpr c8
  subst c8
  have H1:(some (t217,t218,t219,false))=some (r1,r2,r3,r4):=by rw [if_neg (show ¬ (false=true) by decide)] at H;exact H
  clear H
  have H:=H1
  clear H1
  simp only [Option.some.injEq,Prod.mk.injEq] at H
  obtain ⟨rfl,rfl,rfl,rfl⟩:=H
  go_enter Try.func32,Try.ntmps32
  go_wp2_with (first|((with_reducible refine gate_dst (N:=4) rfl ?_);refine box_event ?hg (N:=4) ?hd (cs:=#[.int .i64 a0_0,.int .i64 a0_1,.slice A0_2 l0_2.length c0_2]) (t:=28) ?hr ?_;(case hd => rfl);(case hg => rfl);(case hr => first|(go_simp;done)|(go_simp;rfl));intro gb215 hg w106 hbox hb;have n0_:=Am9_ (below_step (by repeat (first|(with_reducible first|exact HB.out|apply below_alloc|apply pw_below_drewN|apply below_drew1)|exact HB.out)) hb);have n1_:=Am9_ (hbox);have n2_:=Am9_ ((by rw [hg];exact (below_size (by repeat (first|(with_reducible first|exact HB.out|apply below_alloc|apply pw_below_drewN|apply below_drew1)|exact HB.out))):w.heap.size ≤ gb215));have n3_:=Am9_ ((by rw [hg];exact (below_size (by repeat (first|(with_reducible first|exact HB.out|apply below_alloc|apply pw_below_drewN|apply below_drew1)|exact HB.out))):w.heap.size ≤ gb215));clear HB;have HB:=n0_;have BK215:=n1_;have GW215:=n2_;have GE215:=n3_;clear n0_ n1_ n2_ n3_;clear hb hbox hg)|((with_reducible refine gate_dst (N:=8) rfl ?_);refine box_event ?hg (N:=8) ?hd (cs:=#[.int .i64 0,.int .i64 0,.slice none 0 0]) (t:=28) ?hr ?_;(case hd => rfl);(case hg => rfl);(case hr => first|(go_simp;done)|(go_simp;rfl));intro gb216 hg w107 hbox hb;have n0_:=Am9_ (blk_below (g:=gb215) (o:=.cells #[.int .i64 a0_0,.int .i64 a0_1,.slice A0_2 l0_2.length c0_2] 28 (0,0)) (by (with_reducible repeat (first|refine blk_drewN ?_ _|refine blk_drew ?_|refine blk_alloc ?_ _));exact BK215.out) hb);have n1_:=Am9_ (below_step (by repeat (first|(with_reducible first|exact HB.out|apply below_alloc|apply pw_below_drewN|apply below_drew1|refine below_set ?_ GE215.out)|exact HB.out)) hb);have n2_:=Am9_ (hbox);have n3_:=Am9_ ((by rw [hg];exact (below_size (by repeat (first|(with_reducible first|exact HB.out|apply below_alloc|apply pw_below_drewN|apply below_drew1|refine below_set ?_ GE215.out)|exact HB.out))):w.heap.size ≤ gb216));have n4_:=Am9_ ((by rw [hg];exact (below_size (by repeat (first|(with_reducible first|exact HB.out|apply below_alloc|apply pw_below_drewN|apply below_drew1|refine below_set ?_ GE215.out)|exact HB.out))):w.heap.size ≤ gb216));have n5_:=Am9_ ((by rw [hg];exact Nat.ne_of_lt (blk_lt (g:=gb215) (o:=.cells #[.int .i64 a0_0,.int .i64 a0_1,.slice A0_2 l0_2.length c0_2] 28 (0,0)) (by (with_reducible repeat (first|refine blk_drewN ?_ _|refine blk_drew ?_|refine blk_alloc ?_ _));exact BK215.out)):gb215 ≠ gb216));have n6_:=Am9_ ((by rw [hg];exact Nat.ne_of_gt (blk_lt (g:=gb215) (o:=.cells #[.int .i64 a0_0,.int .i64 a0_1,.slice A0_2 l0_2.length c0_2] 28 (0,0)) (by (with_reducible repeat (first|refine blk_drewN ?_ _|refine blk_drew ?_|refine blk_alloc ?_ _));exact BK215.out)):gb216 ≠ gb215));clear BK215;clear HB;have BK215:=n0_;have HB:=n1_;have BK216:=n2_;have GW216:=n3_;have GE216:=n4_;have NB215_216:=n5_;have NB216_215:=n6_;clear n0_ n1_ n2_ n3_ n4_ n5_ n6_;clear hb hbox hg;have hnb108:=NB215_216.out;have hnc108:=NB216_215.out;have hcz109_0:w107.cell? ⟨gb215,0,none⟩=some (.int .i64 a0_0):=(blk_cell BK215.out 0).trans rfl;have hcz109_1:w107.cell? ⟨gb215,1,none⟩=some (.int .i64 a0_1):=(blk_cell BK215.out 1).trans rfl;have hcz109_2:w107.cell? ⟨gb215,2,none⟩=some (.slice A0_2 l0_2.length c0_2):=(blk_cell BK215.out 2).trans rfl;have hfz109_0:=blk_frozen BK215.out 0;have hfz109_1:=blk_frozen BK215.out 1;have hfz109_2:=blk_frozen BK215.out 2)|((with_reducible refine gate_callee (f:=89) rfl ?_);refine goesL_ (some 14) rfl rfl Try.func89 (by kernel_rfl) rfl #[.agg #[.int .i64 a0_0,.int .i64 a0_1,.slice A0_2 l0_2.length c0_2]] rfl (by (try simp only [List.map_toArray,List.map_cons,List.map_nil]);first|done|rfl|(simp only [List.length_drop,List.length_take];rfl)) ?_;(with_reducible refine (impl_copyBook.calls a0_0 a0_1 _ _ l0_2 t217 t218 t219 _ ?side1 ?side2 A5.out).mono ?_);(case side1 => repeat (first|exact (Kd.C_below HR0_2.out HB.out)|(with_reducible refine Kd.C_alloc ?_ _)|(with_reducible refine Kd.C_drewN ?_ _)|(with_reducible refine Kd.C_drew ?_)));(case side2 => exact HC0_2.out);rintro e w110 ⟨v220,rfl,ho0,hb⟩;refine ⟨_,rfl,?_⟩;have n0_:=Am9_ (Kd.R_lower ho0 (below_size (by repeat (first|(with_reducible first|exact HB.out|apply below_alloc|apply pw_below_drewN|apply below_drew1|refine below_set ?_ GE215.out|refine below_set ?_ GE216.out)|exact HB.out))));have n1_:=Am9_ (blk_below (g:=gb215) (o:=.cells #[.int .i64 a0_0,.int .i64 a0_1,.slice A0_2 l0_2.length c0_2] 28 (0,0)) (by (with_reducible repeat (first|refine blk_drewN ?_ _|refine blk_drew ?_|refine blk_alloc ?_ _));exact BK215.out) hb);have n2_:=Am9_ (blk_below (g:=gb216) (o:=.cells #[.int .i64 0,.int .i64 0,.slice none 0 0] 28 (0,0)) (by (with_reducible repeat (first|refine blk_drewN ?_ _|refine blk_drew ?_|refine blk_alloc ?_ _));exact BK216.out) hb);have n3_:=Am9_ (below_step (by repeat (first|(with_reducible first|exact HB.out|apply below_alloc|apply pw_below_drewN|apply below_drew1|refine below_set ?_ GE215.out|refine below_set ?_ GE216.out)|exact HB.out)) hb);clear BK215;clear BK216;clear HB;have HO221:=n0_;have BK215:=n1_;have BK216:=n2_;have HB:=n3_;clear n0_ n1_ n2_ n3_;(try clear hb);(try clear hb2);(try clear hk);(try clear hi);(try clear ho0))|((with_reducible refine gate_dst (N:=10) rfl ?_);refine box_event ?hg (N:=10) ?hd (cs:=#[.int .i64 0,.int .i64 0,.slice none 0 0]) (t:=28) ?hr ?_;(case hd => rfl);(case hg => rfl);(case hr => first|(go_simp;done)|(go_simp;rfl));intro gb222 hg w111 hbox hb;have n0_:=Am9_ (Kd.R_below (by (with_reducible repeat (first|apply Kd.R_alloc|apply Kd.R_drewN|apply Kd.R_drew));exact HO221.out) hb);have n1_:=Am9_ (blk_below (g:=gb215) (o:=.cells #[.int .i64 a0_0,.int .i64 a0_1,.slice A0_2 l0_2.length c0_2] 28 (0,0)) (by (with_reducible repeat (first|refine blk_drewN ?_ _|refine blk_drew ?_|refine blk_alloc ?_ _));exact BK215.out) hb);have n2_:=Am9_ (blk_below (g:=gb216) (o:=.cells #[.int .i64 0,.int .i64 0,.slice none 0 0] 28 (0,0)) (by (with_reducible repeat (first|refine blk_drewN ?_ _|refine blk_drew ?_|refine blk_alloc ?_ _));exact BK216.out) hb);have n3_:=Am9_ (below_step (by repeat (first|(with_reducible first|exact HB.out|apply below_alloc|apply pw_below_drewN|apply below_drew1|refine below_set ?_ GE215.out|refine below_set ?_ GE216.out)|exact HB.out)) hb);have n4_:=Am9_ (hbox);have n5_:=Am9_ ((by rw [hg];exact (below_size (by repeat (first|(with_reducible first|exact HB.out|apply below_alloc|apply pw_below_drewN|apply below_drew1|refine below_set ?_ GE215.out|refine below_set ?_ GE216.out)|exact HB.out))):w.heap.size ≤ gb222));have n6_:=Am9_ ((by rw [hg];exact (below_size (by repeat (first|(with_reducible first|exact HB.out|apply below_alloc|apply pw_below_drewN|apply below_drew1|refine below_set ?_ GE215.out|refine below_set ?_ GE216.out)|exact HB.out))):w.heap.size ≤ gb222));have n7_:=Am9_ ((by rw [hg];exact Nat.ne_of_lt (blk_lt (g:=gb215) (o:=.cells #[.int .i64 a0_0,.int .i64 a0_1,.slice A0_2 l0_2.length c0_2] 28 (0,0)) (by (with_reducible repeat (first|refine blk_drewN ?_ _|refine blk_drew ?_|refine blk_alloc ?_ _));exact BK215.out)):gb215 ≠ gb222));have n8_:=Am9_ ((by rw [hg];exact Nat.ne_of_gt (blk_lt (g:=gb215) (o:=.cells #[.int .i64 a0_0,.int .i64 a0_1,.slice A0_2 l0_2.length c0_2] 28 (0,0)) (by (with_reducible repeat (first|refine blk_drewN ?_ _|refine blk_drew ?_|refine blk_alloc ?_ _));exact BK215.out)):gb222 ≠ gb215));have n9_:=Am9_ ((by rw [hg];exact Nat.ne_of_lt (blk_lt (g:=gb216) (o:=.cells #[.int .i64 0,.int .i64 0,.slice none 0 0] 28 (0,0)) (by (with_reducible repeat (first|refine blk_drewN ?_ _|refine blk_drew ?_|refine blk_alloc ?_ _));exact BK216.out)):gb216 ≠ gb222));have n10_:=Am9_ ((by rw [hg];exact Nat.ne_of_gt (blk_lt (g:=gb216) (o:=.cells #[.int .i64 0,.int .i64 0,.slice none 0 0] 28 (0,0)) (by (with_reducible repeat (first|refine blk_drewN ?_ _|refine blk_drew ?_|refine blk_alloc ?_ _));exact BK216.out)):gb222 ≠ gb216));clear HO221;clear BK215;clear BK216;clear HB;have HO221:=n0_;have BK215:=n1_;have BK216:=n2_;have HB:=n3_;have BK222:=n4_;have GW222:=n5_;have GE222:=n6_;have NB215_222:=n7_;have NB222_215:=n8_;have NB216_222:=n9_;have NB222_216:=n10_;clear n0_ n1_ n2_ n3_ n4_ n5_ n6_ n7_ n8_ n9_ n10_;clear hb hbox hg;have hnb112:=NB222_215.out;have hnc112:=NB215_222.out;have hnb113:=NB222_216.out;have hnc113:=NB216_222.out;have hcz114_0:w111.cell? ⟨gb222,0,none⟩=some (.int .i64 0):=(blk_cell BK222.out 0).trans rfl;have hcz114_1:w111.cell? ⟨gb222,1,none⟩=some (.int .i64 0):=(blk_cell BK222.out 1).trans rfl;have hcz114_2:w111.cell? ⟨gb222,2,none⟩=some (.slice none 0 0):=(blk_cell BK222.out 2).trans rfl;have hfz114_0:=blk_frozen BK222.out 0;have hfz114_1:=blk_frozen BK222.out 1;have hfz114_2:=blk_frozen BK222.out 2;obtain ⟨Ao115,co115,eo115⟩:=Kd.R_slice HO221.out;subst eo115;have hcz116_0:w111.cell? ⟨gb215,0,none⟩=some (.int .i64 a0_0):=(blk_cell BK215.out 0).trans rfl;have hcz116_1:w111.cell? ⟨gb215,1,none⟩=some (.int .i64 a0_1):=(blk_cell BK215.out 1).trans rfl;have hcz116_2:w111.cell? ⟨gb215,2,none⟩=some (.slice A0_2 l0_2.length c0_2):=(blk_cell BK215.out 2).trans rfl;have hfz116_0:=blk_frozen BK215.out 0;have hfz116_1:=blk_frozen BK215.out 1;have hfz116_2:=blk_frozen BK215.out 2)|((with_reducible refine gate_callee (f:=65) rfl ?_);refine goesL_ (some 17) rfl rfl Try.func65 (by kernel_rfl) rfl #[.agg #[.int .i64 a0_0,.int .i64 a0_1,.slice A0_2 l0_2.length c0_2],.int .i64 a1] rfl (by (try simp only [List.map_toArray,List.map_cons,List.map_nil]);first|done|rfl|(simp only [List.length_drop,List.length_take];rfl)) ?_;(with_reducible refine (impl_FindChallenge.calls k a0_0 a0_1 _ _ l0_2 a1 t223 _ ?side1 ?side2 A6.out).mono ?_);(case side1 => exact Kd.C_below HR0_2.out (by repeat (first|(with_reducible first|exact HB.out|apply below_alloc|apply pw_below_drewN|apply below_drew1|refine below_set ?_ GE215.out|refine below_set ?_ GE216.out|refine below_set ?_ GE222.out)|exact HB.out)));(case side2 => exact HC0_2.out);rintro e w117 ⟨rfl,hb⟩;refine ⟨_,rfl,?_⟩;have n0_:=Am9_ (Kd.R_below (by (with_reducible repeat (first|apply Kd.R_alloc|apply Kd.R_drewN|apply Kd.R_drew));exact (Kd.R_mono (Kd.R_far (p:=⟨gb222,2,none⟩) (Kd.R_far (p:=⟨gb222,1,none⟩) (Kd.R_far (p:=⟨gb222,0,none⟩) (Kd.R_types HO221.out BK222.out (by decide)) (fun _ hk => hk.2) (.int .i64 t217)) (fun _ hk => hk.2) (.int .i64 t218)) (fun _ hk => hk.2) (.slice Ao115 t219.length co115)) (fun _ h_ => h_.1))) hb);have n1_:=Am9_ (blk_below (g:=gb215) (o:=.cells #[.int .i64 a0_0,.int .i64 a0_1,.slice A0_2 l0_2.length c0_2] 28 (0,0)) (by (with_reducible repeat (first|refine blk_drewN ?_ _|refine blk_drew ?_|refine blk_alloc ?_ _));refine blk_far ?_ NB215_222.out _;(with_reducible repeat (first|refine blk_drewN ?_ _|refine blk_drew ?_|refine blk_alloc ?_ _));refine blk_far ?_ NB215_222.out _;(with_reducible repeat (first|refine blk_drewN ?_ _|refine blk_drew ?_|refine blk_alloc ?_ _));refine blk_far ?_ NB215_222.out _;(with_reducible repeat (first|refine blk_drewN ?_ _|refine blk_drew ?_|refine blk_alloc ?_ _));exact BK215.out) hb);have n2_:=Am9_ (blk_below (g:=gb216) (o:=.cells #[.int .i64 0,.int .i64 0,.slice none 0 0] 28 (0,0)) (by (with_reducible repeat (first|refine blk_drewN ?_ _|refine blk_drew ?_|refine blk_alloc ?_ _));refine blk_far ?_ NB216_222.out _;(with_reducible repeat (first|refine blk_drewN ?_ _|refine blk_drew ?_|refine blk_alloc ?_ _));refine blk_far ?_ NB216_222.out _;(with_reducible repeat (first|refine blk_drewN ?_ _|refine blk_drew ?_|refine blk_alloc ?_ _));refine blk_far ?_ NB216_222.out _;(with_reducible repeat (first|refine blk_drewN ?_ _|refine blk_drew ?_|refine blk_alloc ?_ _));exact BK216.out) hb);have n3_:=Am9_ (blk_below (g:=gb222) (o:=.cells #[.int .i64 t217,.int .i64 t218,.slice Ao115 t219.length co115] 28 (0,0)) (by (with_reducible repeat (first|refine blk_drewN ?_ _|refine blk_drew ?_|refine blk_alloc ?_ _));refine blk_put (cs:=#[.int .i64 t217,.int .i64 t218,.slice none 0 0]) ?_ 2 _ rfl;(with_reducible repeat (first|refine blk_drewN ?_ _|refine blk_drew ?_|refine blk_alloc ?_ _));refine blk_put (cs:=#[.int .i64 t217,.int .i64 0,.slice none 0 0]) ?_ 1 _ rfl;(with_reducible repeat (first|refine blk_drewN ?_ _|refine blk_drew ?_|refine blk_alloc ?_ _));refine blk_put (cs:=#[.int .i64 0,.int .i64 0,.slice none 0 0]) ?_ 0 _ rfl;(with_reducible repeat (first|refine blk_drewN ?_ _|refine blk_drew ?_|refine blk_alloc ?_ _));exact BK222.out) hb);have n4_:=Am9_ (below_step (by repeat (first|(with_reducible first|exact HB.out|apply below_alloc|apply pw_below_drewN|apply below_drew1|refine below_set ?_ GE215.out|refine below_set ?_ GE216.out|refine below_set ?_ GE222.out)|exact HB.out)) hb);clear HO221;clear BK215;clear BK216;clear BK222;clear HB;have HO221:=n0_;have BK215:=n1_;have BK216:=n2_;have BK222:=n3_;have HB:=n4_;clear n0_ n1_ n2_ n3_ n4_;(try clear hb);(try clear hb2);(try clear hk);(try clear hi);have hcz118_0:w117.cell? ⟨gb215,0,none⟩=some (.int .i64 a0_0):=(blk_cell BK215.out 0).trans rfl;have hcz118_1:w117.cell? ⟨gb215,1,none⟩=some (.int .i64 a0_1):=(blk_cell BK215.out 1).trans rfl;have hcz118_2:w117.cell? ⟨gb215,2,none⟩=some (.slice A0_2 l0_2.length c0_2):=(blk_cell BK215.out 2).trans rfl;have hfz118_0:=blk_frozen BK215.out 0;have hfz118_1:=blk_frozen BK215.out 1;have hfz118_2:=blk_frozen BK215.out 2)|((with_reducible refine gate_callee (f:=66) rfl ?_);refine goesL_ (some 19) rfl rfl Try.func66 (by kernel_rfl) rfl #[.agg #[.int .i64 a0_0,.int .i64 a0_1,.slice A0_2 l0_2.length c0_2]] rfl (by (try simp only [List.map_toArray,List.map_cons,List.map_nil]);first|done|rfl|(simp only [List.length_drop,List.length_take];rfl)) ?_;(with_reducible refine (impl_IsValidBook.calls k a0_0 a0_1 _ _ l0_2 false _ ?side1 ?side2 A7.out).mono ?_);(case side1 => repeat (first|exact (Kd.C_below HR0_2.out HB.out)|(with_reducible refine Kd.C_alloc ?_ _)|(with_reducible refine Kd.C_drewN ?_ _)|(with_reducible refine Kd.C_drew ?_)));(case side2 => exact HC0_2.out);rintro e w119 ⟨rfl,hb⟩;refine ⟨_,rfl,?_⟩;have n0_:=Am9_ (Kd.R_below (by (with_reducible repeat (first|apply Kd.R_alloc|apply Kd.R_drewN|apply Kd.R_drew));exact HO221.out) hb);have n1_:=Am9_ (blk_below (g:=gb215) (o:=.cells #[.int .i64 a0_0,.int .i64 a0_1,.slice A0_2 l0_2.length c0_2] 28 (0,0)) (by (with_reducible repeat (first|refine blk_drewN ?_ _|refine blk_drew ?_|refine blk_alloc ?_ _));exact BK215.out) hb);have n2_:=Am9_ (blk_below (g:=gb216) (o:=.cells #[.int .i64 0,.int .i64 0,.slice none 0 0] 28 (0,0)) (by (with_reducible repeat (first|refine blk_drewN ?_ _|refine blk_drew ?_|refine blk_alloc ?_ _));exact BK216.out) hb);have n3_:=Am9_ (blk_below (g:=gb222) (o:=.cells #[.int .i64 t217,.int .i64 t218,.slice Ao115 t219.length co115] 28 (0,0)) (by (with_reducible repeat (first|refine blk_drewN ?_ _|refine blk_drew ?_|refine blk_alloc ?_ _));exact BK222.out) hb);have n4_:=Am9_ (below_step (by repeat (first|(with_reducible first|exact HB.out|apply below_alloc|apply pw_below_drewN|apply below_drew1|refine below_set ?_ GE215.out|refine below_set ?_ GE216.out|refine below_set ?_ GE222.out)|exact HB.out)) hb);clear HO221;clear BK215;clear BK216;clear BK222;clear HB;have HO221:=n0_;have BK215:=n1_;have BK216:=n2_;have BK222:=n3_;have HB:=n4_;clear n0_ n1_ n2_ n3_ n4_;(try clear hb);(try clear hb2);(try clear hk);(try clear hi);have hcz120_0:w119.cell? ⟨gb222,0,none⟩=some (.int .i64 t217):=(blk_cell BK222.out 0).trans rfl;have hcz120_1:w119.cell? ⟨gb222,1,none⟩=some (.int .i64 t218):=(blk_cell BK222.out 1).trans rfl;have hcz120_2:w119.cell? ⟨gb222,2,none⟩=some (.slice Ao115 t219.length co115):=(blk_cell BK222.out 2).trans rfl;have hfz120_0:=blk_frozen BK222.out 0;have hfz120_1:=blk_frozen BK222.out 1;have hfz120_2:=blk_frozen BK222.out 2;have hcz121_0:w119.cell? ⟨gb216,0,none⟩=some (.int .i64 0):=(blk_cell BK216.out 0).trans rfl;have hcz121_1:w119.cell? ⟨gb216,1,none⟩=some (.int .i64 0):=(blk_cell BK216.out 1).trans rfl;have hcz121_2:w119.cell? ⟨gb216,2,none⟩=some (.slice none 0 0):=(blk_cell BK216.out 2).trans rfl;have hfz121_0:=blk_frozen BK216.out 0;have hfz121_1:=blk_frozen BK216.out 1;have hfz121_2:=blk_frozen BK216.out 2))
  refine bodyPost_ret (results_ct rfl _ _ gb216 28 #[.int .i64 t217,.int .i64 t218,.slice Ao115 t219.length co115] (0,0) _ rfl (by (with_reducible repeat (first|refine blk_drewN ?_ _|refine blk_drew ?_|refine blk_alloc ?_ _));refine blk_put (cs:=#[.int .i64 t217,.int .i64 t218,.slice none 0 0]) ?_ 2 _ rfl;(with_reducible repeat (first|refine blk_drewN ?_ _|refine blk_drew ?_|refine blk_alloc ?_ _));refine blk_put (cs:=#[.int .i64 t217,.int .i64 0,.slice none 0 0]) ?_ 1 _ rfl;(with_reducible repeat (first|refine blk_drewN ?_ _|refine blk_drew ?_|refine blk_alloc ?_ _));refine blk_put (cs:=#[.int .i64 0,.int .i64 0,.slice none 0 0]) ?_ 0 _ rfl;(with_reducible repeat (first|refine blk_drewN ?_ _|refine blk_drew ?_|refine blk_alloc ?_ _));exact BK216.out) Try.underlying28 rfl (by kernel_rfl)) rfl ?_
  exact ⟨_,by first|rfl|(simp [errW_none,errW_some] <;> rfl)|(simp [*,errW_none,errW_some] <;> rfl),by (with_reducible repeat (first|apply Kd.R_alloc|apply Kd.R_drewN|apply Kd.R_drew));exact Kd.R_mono (Kd.R_far (p:=⟨gb216,2,none⟩) (Kd.R_far (p:=⟨gb216,1,none⟩) (Kd.R_far (p:=⟨gb216,0,none⟩) (Kd.R_types HO221.out BK216.out (by decide)) (fun _ hk => hk.2) (.int .i64 t217)) (fun _ hk => hk.2) (.int .i64 t218)) (fun _ hk => hk.2) (.slice Ao115 t219.length co115)) (fun _ hk => trivial),by repeat (first|(with_reducible first|exact HB.out|apply below_alloc|apply pw_below_drewN|apply below_drew1|refine below_set ?_ GE215.out|refine below_set ?_ GE216.out|refine below_set ?_ GE222.out)|exact HB.out)⟩

end Go.Proofs.Ytednmbifgnpkbaa.PFnExactTakeChallenge
