/- Functions and contracts of a law's callees, written by a program of this session (a changed print): each contract says that the machine's call answers what the plain function says. Conditions: the plain function's own answer. -/
import Derived.Test.YtednmbifgnpkbaaZPFnExactExpireChallengesx0
import Derived.Test.YtednmbifgnpkbaaZPFnExactExpireChallengesx2
namespace Go.Proofs.Ytednmbifgnpkbaa.PFnExactExpireChallenges
open Go.RowKit Go.Proofs.YtednmbifgnpkbaaW.PrintWords Go.Proofs.YtednmbifgnpkbaaW.PrintLast Go.Proofs.YtednmbifgnpkbaaW.PrintMore
attribute [local go_sem] max2_int min2_int max_two min_two max_three min_three max_four min_four   -- for this text's walks alone
set_option linter.unusedVariables false
set_option linter.unusedSimpArgs false
abbrev Am3_ {p : Prop} (h : p) : Aside0 p := Aside0.mk h

/-! ### spec_l12Copy: function 87 -/
def spec_l12Copy.f (a0_0:Int) (a0_1:Int) (l0_2:List (S35)):Option (Int × Int × (List (S35))):=(some (([]:List (S35)):List (S35))).bind fun y116 => (if y116.length + l0_2.length < 5864062014805 then (some (a0_0,a0_1,(y116 ++ l0_2))) else (none))
set_option maxHeartbeats 8000000 in
set_option maxRecDepth 100000 in
theorem spec_l12Copy.calls (a0_0:Int) (a0_1:Int) (A0_2:Option Addr) (c0_2:Nat) (l0_2:List (S35)) (r1:Int) (r2:Int) (r3:List (S35)) (w:World) (hr0_2:Kd.C k35 w A0_2 l0_2.length l0_2) (hc0_2:l0_2.length ≤ c0_2) (h:spec_l12Copy.f a0_0 a0_1 l0_2=some (r1,r2,r3)) :
  Calls Try.prog 87 #[.agg #[.int .i64 a0_0,.int .i64 a0_1,.slice A0_2 l0_2.length c0_2]] w fun e w' => ∃ v2_:Value,e=.returned (.agg #[.int .i64 r1,.int .i64 r2,v2_])∧Kd.R k35 35 w' w.heap.size (fun _ => True) v2_ r3∧Below w.heap.size w w':=by
 have hu28:=Try.underlying28
 have HR0_2:=Am3_ hr0_2
 have HC0_2:=Am3_ hc0_2
 clear hr0_2 hc0_2
 have HB:=Am3_ (Below.refl w.heap.size w)
 have H:((some (([]:List (S35)):List (S35))).bind fun y116 => (if y116.length + l0_2.length < 5864062014805 then (some (a0_0,a0_1,(y116 ++ l0_2))) else (none)))=some (r1,r2,r3):=h
 clear h
 obtain ⟨y116,hy116⟩:∃ y_:List (S35),y_=(([]:List (S35))):=⟨_,rfl⟩
 replace H:(if y116.length + l0_2.length < 5864062014805 then (some (a0_0,a0_1,(y116 ++ l0_2))) else (none))=some (r1,r2,r3):=by first|(rw [hy116];with_reducible exact H)|(have H2_:=(Option.bind_some _ _).symm.trans H;rw [hy116];with_reducible exact H2_)|(have H2_:=(Option.bind_some _ _).symm.trans H;with_reducible exact H2_)|with_reducible exact H|(rw [hy116];exact H)|exact H
 have Ny116:=Am3_ hy116
 clear hy116
 by_cases c2:y116.length + l0_2.length < 5864062014805
 ·rw [if_pos c2] at H
  have LMc2:=Am3_ c2
  clear c2
  obtain ⟨y119,hy119⟩:∃ y_:List (S35),y_=(y116 ++ l0_2):=⟨_,rfl⟩
  replace H:(some (a0_0,a0_1,y119))=some (r1,r2,r3):=by first|(rw [hy119];with_reducible exact H)|(have H2_:=(Option.bind_some _ _).symm.trans H;rw [hy119];with_reducible exact H2_)|(have H2_:=(Option.bind_some _ _).symm.trans H;with_reducible exact H2_)|with_reducible exact H|(rw [hy119];exact H)|exact H
  have Ny119:=Am3_ hy119
  clear hy119
  simp only [Option.some.injEq,Prod.mk.injEq] at H
  obtain ⟨rfl,rfl,rfl⟩:=H
  go_enter Try.func87,Try.ntmps87
  go_wp2_with (first|((with_reducible refine gate_dst (N:=1) rfl ?_);refine box_event ?hg (N:=1) ?hd (cs:=#[.int .i64 a0_0,.int .i64 a0_1,.slice A0_2 l0_2.length c0_2]) (t:=28) ?hr ?_;(case hd => rfl);(case hg => rfl);(case hr => first|(go_simp;done)|(go_simp;rfl));intro gb113 hg w3 hbox hb;have n0_:=Am3_ (below_step (by repeat (first|(with_reducible first|exact HB.out|apply below_alloc|apply pw_below_drewN|apply below_drew1)|exact HB.out)) hb);have n1_:=Am3_ (hbox);have n2_:=Am3_ ((by rw [hg];exact (below_size (by repeat (first|(with_reducible first|exact HB.out|apply below_alloc|apply pw_below_drewN|apply below_drew1)|exact HB.out))):w.heap.size ≤ gb113));have n3_:=Am3_ ((by rw [hg];exact (below_size (by repeat (first|(with_reducible first|exact HB.out|apply below_alloc|apply pw_below_drewN|apply below_drew1)|exact HB.out))):w.heap.size ≤ gb113));clear HB;have HB:=n0_;have BK113:=n1_;have GW113:=n2_;have GE113:=n3_;clear n0_ n1_ n2_ n3_;clear hb hbox hg)|((with_reducible refine gate_dst (N:=2) rfl ?_);refine box_event ?hg (N:=2) ?hd (cs:=#[.int .i64 0,.int .i64 0,.slice none 0 0]) (t:=28) ?hr ?_;(case hd => rfl);(case hg => rfl);(case hr => first|(go_simp;done)|(go_simp;rfl));intro gb114 hg w4 hbox hb;have n0_:=Am3_ (blk_below (g:=gb113) (o:=.cells #[.int .i64 a0_0,.int .i64 a0_1,.slice A0_2 l0_2.length c0_2] 28 (0,0)) (by (with_reducible repeat (first|refine blk_drewN ?_ _|refine blk_drew ?_|refine blk_alloc ?_ _));exact BK113.out) hb);have n1_:=Am3_ (below_step (by repeat (first|(with_reducible first|exact HB.out|apply below_alloc|apply pw_below_drewN|apply below_drew1|refine below_set ?_ GE113.out)|exact HB.out)) hb);have n2_:=Am3_ (hbox);have n3_:=Am3_ ((by rw [hg];exact (below_size (by repeat (first|(with_reducible first|exact HB.out|apply below_alloc|apply pw_below_drewN|apply below_drew1|refine below_set ?_ GE113.out)|exact HB.out))):w.heap.size ≤ gb114));have n4_:=Am3_ ((by rw [hg];exact (below_size (by repeat (first|(with_reducible first|exact HB.out|apply below_alloc|apply pw_below_drewN|apply below_drew1|refine below_set ?_ GE113.out)|exact HB.out))):w.heap.size ≤ gb114));have n5_:=Am3_ ((by rw [hg];exact Nat.ne_of_lt (blk_lt (g:=gb113) (o:=.cells #[.int .i64 a0_0,.int .i64 a0_1,.slice A0_2 l0_2.length c0_2] 28 (0,0)) (by (with_reducible repeat (first|refine blk_drewN ?_ _|refine blk_drew ?_|refine blk_alloc ?_ _));exact BK113.out)):gb113 ≠ gb114));have n6_:=Am3_ ((by rw [hg];exact Nat.ne_of_gt (blk_lt (g:=gb113) (o:=.cells #[.int .i64 a0_0,.int .i64 a0_1,.slice A0_2 l0_2.length c0_2] 28 (0,0)) (by (with_reducible repeat (first|refine blk_drewN ?_ _|refine blk_drew ?_|refine blk_alloc ?_ _));exact BK113.out)):gb114 ≠ gb113));clear BK113;clear HB;have BK113:=n0_;have HB:=n1_;have BK114:=n2_;have GW114:=n3_;have GE114:=n4_;have NB113_114:=n5_;have NB114_113:=n6_;clear n0_ n1_ n2_ n3_ n4_ n5_ n6_;clear hb hbox hg;have hnb5:=NB113_114.out;have hnc5:=NB114_113.out;have hcz6_0:w4.cell? ⟨gb113,0,none⟩=some (.int .i64 a0_0):=(blk_cell BK113.out 0).trans rfl;have hcz6_1:w4.cell? ⟨gb113,1,none⟩=some (.int .i64 a0_1):=(blk_cell BK113.out 1).trans rfl;have hcz6_2:w4.cell? ⟨gb113,2,none⟩=some (.slice A0_2 l0_2.length c0_2):=(blk_cell BK113.out 2).trans rfl;have hfz6_0:=blk_frozen BK113.out 0;have hfz6_1:=blk_frozen BK113.out 1;have hfz6_2:=blk_frozen BK113.out 2)|((with_reducible refine gate_dst (N:=3) rfl ?_);refine box_event ?hg (N:=3) ?hd (cs:=#[.int .i64 0,.int .i64 0,.slice none 0 0]) (t:=28) ?hr ?_;(case hd => rfl);(case hg => rfl);(case hr => first|(go_simp;done)|(go_simp;rfl));intro gb115 hg w7 hbox hb;have n0_:=Am3_ (blk_below (g:=gb113) (o:=.cells #[.int .i64 a0_0,.int .i64 a0_1,.slice A0_2 l0_2.length c0_2] 28 (0,0)) (by (with_reducible repeat (first|refine blk_drewN ?_ _|refine blk_drew ?_|refine blk_alloc ?_ _));exact BK113.out) hb);have n1_:=Am3_ (blk_below (g:=gb114) (o:=.cells #[.int .i64 0,.int .i64 0,.slice none 0 0] 28 (0,0)) (by (with_reducible repeat (first|refine blk_drewN ?_ _|refine blk_drew ?_|refine blk_alloc ?_ _));exact BK114.out) hb);have n2_:=Am3_ (below_step (by repeat (first|(with_reducible first|exact HB.out|apply below_alloc|apply pw_below_drewN|apply below_drew1|refine below_set ?_ GE113.out|refine below_set ?_ GE114.out)|exact HB.out)) hb);have n3_:=Am3_ (hbox);have n4_:=Am3_ ((by rw [hg];exact (below_size (by repeat (first|(with_reducible first|exact HB.out|apply below_alloc|apply pw_below_drewN|apply below_drew1|refine below_set ?_ GE113.out|refine below_set ?_ GE114.out)|exact HB.out))):w.heap.size ≤ gb115));have n5_:=Am3_ ((by rw [hg];exact (below_size (by repeat (first|(with_reducible first|exact HB.out|apply below_alloc|apply pw_below_drewN|apply below_drew1|refine below_set ?_ GE113.out|refine below_set ?_ GE114.out)|exact HB.out))):w.heap.size ≤ gb115));have n6_:=Am3_ ((by rw [hg];exact Nat.ne_of_lt (blk_lt (g:=gb113) (o:=.cells #[.int .i64 a0_0,.int .i64 a0_1,.slice A0_2 l0_2.length c0_2] 28 (0,0)) (by (with_reducible repeat (first|refine blk_drewN ?_ _|refine blk_drew ?_|refine blk_alloc ?_ _));exact BK113.out)):gb113 ≠ gb115));have n7_:=Am3_ ((by rw [hg];exact Nat.ne_of_gt (blk_lt (g:=gb113) (o:=.cells #[.int .i64 a0_0,.int .i64 a0_1,.slice A0_2 l0_2.length c0_2] 28 (0,0)) (by (with_reducible repeat (first|refine blk_drewN ?_ _|refine blk_drew ?_|refine blk_alloc ?_ _));exact BK113.out)):gb115 ≠ gb113));have n8_:=Am3_ ((by rw [hg];exact Nat.ne_of_lt (blk_lt (g:=gb114) (o:=.cells #[.int .i64 0,.int .i64 0,.slice none 0 0] 28 (0,0)) (by (with_reducible repeat (first|refine blk_drewN ?_ _|refine blk_drew ?_|refine blk_alloc ?_ _));exact BK114.out)):gb114 ≠ gb115));have n9_:=Am3_ ((by rw [hg];exact Nat.ne_of_gt (blk_lt (g:=gb114) (o:=.cells #[.int .i64 0,.int .i64 0,.slice none 0 0] 28 (0,0)) (by (with_reducible repeat (first|refine blk_drewN ?_ _|refine blk_drew ?_|refine blk_alloc ?_ _));exact BK114.out)):gb115 ≠ gb114));clear BK113;clear BK114;clear HB;have BK113:=n0_;have BK114:=n1_;have HB:=n2_;have BK115:=n3_;have GW115:=n4_;have GE115:=n5_;have NB113_115:=n6_;have NB115_113:=n7_;have NB114_115:=n8_;have NB115_114:=n9_;clear n0_ n1_ n2_ n3_ n4_ n5_ n6_ n7_ n8_ n9_;clear hb hbox hg;have hnb8:=NB115_113.out;have hnc8:=NB113_115.out;have hnb9:=NB115_114.out;have hnc9:=NB114_115.out;have hcz10_0:w7.cell? ⟨gb115,0,none⟩=some (.int .i64 0):=(blk_cell BK115.out 0).trans rfl;have hcz10_1:w7.cell? ⟨gb115,1,none⟩=some (.int .i64 0):=(blk_cell BK115.out 1).trans rfl;have hcz10_2:w7.cell? ⟨gb115,2,none⟩=some (.slice none 0 0):=(blk_cell BK115.out 2).trans rfl;have hfz10_0:=blk_frozen BK115.out 0;have hfz10_1:=blk_frozen BK115.out 1;have hfz10_2:=blk_frozen BK115.out 2)|((with_reducible refine gate_dst (N:=5) rfl ?_);refine Kd.R_lit k35 _ 35 ?hg (N:=5) ?hd (xs:=([]:List (S35))) (inner:=[]) (ok:=fun _ => True) (okp:=fun _ => True) ?hr ?hp (fun _ hk => by first|exact hk|(revert hk;dsimp only;grind)|grind) trivial (Below.refl _ _) (Nat.le_refl _) (by simp) ?_;(case hd => rfl);(case hg => rfl);(case hr => first|(go_simp;done)|(go_simp;rfl));(case hp => exact (Reps.none _ _));intro v117 w11 ho12 hb hg_ hnew_;clear hg_ hnew_;(first|rw [← Ny116.out] at ho12|(simp only [Int.reduceToNat] at ho12;rw [← Ny116.out] at ho12));have n0_:=Am3_ (Kd.R_lower ho12 (below_size (by repeat (first|(with_reducible first|exact HB.out|apply below_alloc|apply pw_below_drewN|apply below_drew1|refine below_set ?_ GE113.out|refine below_set ?_ GE114.out|refine below_set ?_ GE115.out)|exact HB.out))));have n1_:=Am3_ (blk_below (g:=gb113) (o:=.cells #[.int .i64 a0_0,.int .i64 a0_1,.slice A0_2 l0_2.length c0_2] 28 (0,0)) (by (with_reducible repeat (first|refine blk_drewN ?_ _|refine blk_drew ?_|refine blk_alloc ?_ _));refine blk_far ?_ NB113_115.out _;(with_reducible repeat (first|refine blk_drewN ?_ _|refine blk_drew ?_|refine blk_alloc ?_ _));refine blk_far ?_ NB113_115.out _;(with_reducible repeat (first|refine blk_drewN ?_ _|refine blk_drew ?_|refine blk_alloc ?_ _));refine blk_far ?_ NB113_115.out _;(with_reducible repeat (first|refine blk_drewN ?_ _|refine blk_drew ?_|refine blk_alloc ?_ _));exact BK113.out) hb);have n2_:=Am3_ (blk_below (g:=gb114) (o:=.cells #[.int .i64 0,.int .i64 0,.slice none 0 0] 28 (0,0)) (by (with_reducible repeat (first|refine blk_drewN ?_ _|refine blk_drew ?_|refine blk_alloc ?_ _));refine blk_far ?_ NB114_115.out _;(with_reducible repeat (first|refine blk_drewN ?_ _|refine blk_drew ?_|refine blk_alloc ?_ _));refine blk_far ?_ NB114_115.out _;(with_reducible repeat (first|refine blk_drewN ?_ _|refine blk_drew ?_|refine blk_alloc ?_ _));refine blk_far ?_ NB114_115.out _;(with_reducible repeat (first|refine blk_drewN ?_ _|refine blk_drew ?_|refine blk_alloc ?_ _));exact BK114.out) hb);have n3_:=Am3_ (blk_below (g:=gb115) (o:=.cells #[.int .i64 a0_0,.int .i64 a0_1,.slice A0_2 l0_2.length c0_2] 28 (0,0)) (by (with_reducible repeat (first|refine blk_drewN ?_ _|refine blk_drew ?_|refine blk_alloc ?_ _));refine blk_put (cs:=#[.int .i64 a0_0,.int .i64 a0_1,.slice none 0 0]) ?_ 2 _ rfl;(with_reducible repeat (first|refine blk_drewN ?_ _|refine blk_drew ?_|refine blk_alloc ?_ _));refine blk_put (cs:=#[.int .i64 a0_0,.int .i64 0,.slice none 0 0]) ?_ 1 _ rfl;(with_reducible repeat (first|refine blk_drewN ?_ _|refine blk_drew ?_|refine blk_alloc ?_ _));refine blk_put (cs:=#[.int .i64 0,.int .i64 0,.slice none 0 0]) ?_ 0 _ rfl;(with_reducible repeat (first|refine blk_drewN ?_ _|refine blk_drew ?_|refine blk_alloc ?_ _));exact BK115.out) hb);have n4_:=Am3_ (below_step (by repeat (first|(with_reducible first|exact HB.out|apply below_alloc|apply pw_below_drewN|apply below_drew1|refine below_set ?_ GE113.out|refine below_set ?_ GE114.out|refine below_set ?_ GE115.out)|exact HB.out)) hb);clear BK113;clear BK114;clear BK115;clear HB;have HO118:=n0_;have BK113:=n1_;have BK114:=n2_;have BK115:=n3_;have HB:=n4_;clear n0_ n1_ n2_ n3_ n4_;clear hb ho12;have hcz13_0:w11.cell? ⟨gb113,0,none⟩=some (.int .i64 a0_0):=(blk_cell BK113.out 0).trans rfl;have hcz13_1:w11.cell? ⟨gb113,1,none⟩=some (.int .i64 a0_1):=(blk_cell BK113.out 1).trans rfl;have hcz13_2:w11.cell? ⟨gb113,2,none⟩=some (.slice A0_2 l0_2.length c0_2):=(blk_cell BK113.out 2).trans rfl;have hfz13_0:=blk_frozen BK113.out 0;have hfz13_1:=blk_frozen BK113.out 1;have hfz13_2:=blk_frozen BK113.out 2)|((with_reducible refine gate_builtin (b:=.append) (xs:=#[.tmp 5,.tmp 7]) rfl ?_);at_builtin;refine Kd.R_append_rows k35 (w0:=w) w.heap.size rfl (.tmp 5) (.tmp 7) 26 35 (.agg #[(.int .i64 0),(.int .i64 0),(.int .i64 0)]) 24 rfl Try.underlying26 info35 rfl (by decide) (by omega) v117 y116 l0_2 _ _ _ (fun _ => True) (fun _ => False) rfl rfl ?aO ?aR (fun _ _ h => h) (fun _ h => h.elim) ?aF ?aB ?aS ?aL ?_;(case aR => repeat (first|exact (Kd.C_below HR0_2.out HB.out)|(with_reducible refine Kd.C_alloc ?_ _)|(with_reducible refine Kd.C_drewN ?_ _)|(with_reducible refine Kd.C_drew ?_)));(case aB => exact (by repeat (first|(with_reducible first|exact HB.out|apply below_alloc|apply pw_below_drewN|apply below_drew1|refine below_set ?_ GE113.out|refine below_set ?_ GE114.out|refine below_set ?_ GE115.out)|exact HB.out)));(case aF => exact (fun _ _ => trivial));(case aO => exact (by (with_reducible repeat (first|apply Kd.R_alloc|apply Kd.R_drewN|apply Kd.R_drew));exact HO118.out));(case aS => exact (below_size (by repeat (first|(with_reducible first|exact HB.out|apply below_alloc|apply pw_below_drewN|apply below_drew1|refine below_set ?_ GE113.out|refine below_set ?_ GE114.out|refine below_set ?_ GE115.out)|exact HB.out))));(case aL => have:=LMc2.out;omega);intro v120 w14 ho hb hg hat;rw [← Ny119.out] at ho;have n0_:=Am3_ (blk_grown (g:=gb113) (o:=.cells #[.int .i64 a0_0,.int .i64 a0_1,.slice A0_2 l0_2.length c0_2] 28 (0,0)) (by (with_reducible repeat (first|refine blk_drewN ?_ _|refine blk_drew ?_|refine blk_alloc ?_ _));exact BK113.out) hg (Kd.R_ne HO118.out BK113.out (by decide)));have n1_:=Am3_ (blk_grown (g:=gb114) (o:=.cells #[.int .i64 0,.int .i64 0,.slice none 0 0] 28 (0,0)) (by (with_reducible repeat (first|refine blk_drewN ?_ _|refine blk_drew ?_|refine blk_alloc ?_ _));exact BK114.out) hg (Kd.R_ne HO118.out BK114.out (by decide)));have n2_:=Am3_ (blk_grown (g:=gb115) (o:=.cells #[.int .i64 a0_0,.int .i64 a0_1,.slice A0_2 l0_2.length c0_2] 28 (0,0)) (by (with_reducible repeat (first|refine blk_drewN ?_ _|refine blk_drew ?_|refine blk_alloc ?_ _));exact BK115.out) hg (Kd.R_ne HO118.out BK115.out (by decide)));have n3_:=Am3_ (hb);have n4_:=Am3_ (ho);clear BK113;clear BK114;clear BK115;clear HB;clear HO118;have BK113:=n0_;have BK114:=n1_;have BK115:=n2_;have HB:=n3_;have HO121:=n4_;clear n0_ n1_ n2_ n3_ n4_;clear ho hb hg hat;obtain ⟨Ao15,co15,eo15⟩:=Kd.R_slice HO121.out;subst eo15;have hcz16_0:w14.cell? ⟨gb115,0,none⟩=some (.int .i64 a0_0):=(blk_cell BK115.out 0).trans rfl;have hcz16_1:w14.cell? ⟨gb115,1,none⟩=some (.int .i64 a0_1):=(blk_cell BK115.out 1).trans rfl;have hcz16_2:w14.cell? ⟨gb115,2,none⟩=some (.slice A0_2 l0_2.length c0_2):=(blk_cell BK115.out 2).trans rfl;have hfz16_0:=blk_frozen BK115.out 0;have hfz16_1:=blk_frozen BK115.out 1;have hfz16_2:=blk_frozen BK115.out 2;have hcz17_0:w14.cell? ⟨gb114,0,none⟩=some (.int .i64 0):=(blk_cell BK114.out 0).trans rfl;have hcz17_1:w14.cell? ⟨gb114,1,none⟩=some (.int .i64 0):=(blk_cell BK114.out 1).trans rfl;have hcz17_2:w14.cell? ⟨gb114,2,none⟩=some (.slice none 0 0):=(blk_cell BK114.out 2).trans rfl;have hfz17_0:=blk_frozen BK114.out 0;have hfz17_1:=blk_frozen BK114.out 1;have hfz17_2:=blk_frozen BK114.out 2))
  refine bodyPost_ret (results_cell_row rfl _ _ gb114 28 #[.int .i64 a0_0,.int .i64 a0_1,.slice Ao15 y119.length co15] (0,0) _ rfl (by (with_reducible repeat (first|refine blk_drewN ?_ _|refine blk_drew ?_|refine blk_alloc ?_ _));refine blk_put (cs:=#[.int .i64 a0_0,.int .i64 a0_1,.slice none 0 0]) ?_ 2 _ rfl;(with_reducible repeat (first|refine blk_drewN ?_ _|refine blk_drew ?_|refine blk_alloc ?_ _));refine blk_put (cs:=#[.int .i64 a0_0,.int .i64 0,.slice none 0 0]) ?_ 1 _ rfl;(with_reducible repeat (first|refine blk_drewN ?_ _|refine blk_drew ?_|refine blk_alloc ?_ _));refine blk_put (cs:=#[.int .i64 0,.int .i64 0,.slice none 0 0]) ?_ 0 _ rfl;(with_reducible repeat (first|refine blk_drewN ?_ _|refine blk_drew ?_|refine blk_alloc ?_ _));refine blk_far ?_ NB114_115.out _;(with_reducible repeat (first|refine blk_drewN ?_ _|refine blk_drew ?_|refine blk_alloc ?_ _));exact BK114.out) Try.underlying28 rfl (by kernel_rfl)) rfl ?_
  exact ⟨_,by first|rfl|(simp [errW_none,errW_some] <;> rfl)|(simp [*,errW_none,errW_some] <;> rfl),by (with_reducible repeat (first|apply Kd.R_alloc|apply Kd.R_drewN|apply Kd.R_drew));exact Kd.R_mono (Kd.R_far (p:=⟨gb114,2,none⟩) (Kd.R_far (p:=⟨gb114,1,none⟩) (Kd.R_far (p:=⟨gb114,0,none⟩) (Kd.R_far (p:=⟨gb115,2,none⟩) (Kd.R_types (Kd.R_types HO121.out BK115.out (by decide)) BK114.out (by decide)) (fun _ hk => by first|exact hk.1.2|(revert hk;dsimp only;grind)|grind) (.slice Ao15 y119.length co15)) (fun _ hk => by first|exact hk.2|(revert hk;dsimp only;grind)|grind) (.int .i64 a0_0)) (fun _ hk => by first|exact hk.2|(revert hk;dsimp only;grind)|grind) (.int .i64 a0_1)) (fun _ hk => by first|exact hk.2|(revert hk;dsimp only;grind)|grind) (.slice Ao15 y119.length co15)) (fun _ hk => trivial),by repeat (first|(with_reducible first|exact HB.out|apply below_alloc|apply pw_below_drewN|apply below_drew1|refine below_set ?_ GE113.out|refine below_set ?_ GE114.out|refine below_set ?_ GE115.out)|exact HB.out)⟩
 ·rw [if_neg c2] at H
  exact absurd H (by simp)

/-! ### spec_ExpireChallenges: function 16 -/
def spec_ExpireChallenges.l0:Nat → Int → Int → Int → Int → List (S35) → Int → Int → List (S35) → Option (Int × Int × (List (S35)))
|0,_,_,_,_,_,_,_,_ => none
|k + 1,x1,x6,x123000,x123001,x123002,x131000,x131001,x131002 => if x6 < (x123002.length:Int) then (if 0 ≤ x6 then (if ((rd_T35 x123002 x6).f2) ≥ x1 then (if x131002.length < 5864062014805 then (spec_ExpireChallenges.l0 k x1 (wrap64 (x6 + 1)) x123000 x123001 x123002 x131000 x131001 (x131002 ++ [(⟨(rd_T35 x123002 x6).f0,(rd_T35 x123002 x6).f1,(rd_T35 x123002 x6).f2⟩:S35)])) else (none)) else (spec_ExpireChallenges.l0 k x1 (wrap64 (x6 + 1)) x123000 x123001 x123002 x131000 x131001 x131002)) else (none)) else (some (x131000,x131001,x131002))
def spec_ExpireChallenges.f (k:Nat) (a0_0:Int) (a0_1:Int) (l0_2:List (S35)) (a1:Int):Option (Int × Int × (List (S35))):=(spec_IsValidBook.f k a0_0 a0_1 l0_2).bind fun t124 => (if t124=true then (spec_ExpireChallenges.l0 k a1 0 a0_0 a0_1 l0_2 a0_0 a0_1 (([]:List (S35)))) else ((spec_l12Copy.f a0_0 a0_1 l0_2).bind fun bt125 => (some (bt125.1,bt125.2.1,bt125.2.2))))
theorem spec_ExpireChallenges.mono_l:∀ k,(∀ y0 y1 y2 y3 y4 y5 y6 y7,LeO (spec_ExpireChallenges.l0 k y0 y1 y2 y3 y4 y5 y6 y7) (spec_ExpireChallenges.l0 (k + 1) y0 y1 y2 y3 y4 y5 y6 y7))
|0 => fun _ _ _ _ _ _ _ _ r h => by simp [spec_ExpireChallenges.l0] at h
|k + 1 => by
  have ih0:=spec_ExpireChallenges.mono_l k
  ·intro y0 y1 y2 y3 y4 y5 y6 y7
   unfold spec_ExpireChallenges.l0
   repeat' first
  |(with_reducible exact ih0 _ _ _ _ _ _ _ _)
  |(with_reducible exact spec_IsValidBook.mono _ _ _ _)
  |(with_reducible exact LeO.refl _)
  |(with_reducible exact LeO.none _)
  |(with_reducible refine LeO.ite ?_ ?_)
  |(with_reducible refine LeO.bind ?_ (fun _ => ?_))
  |exact ih0 _ _ _ _ _ _ _ _
  |exact spec_IsValidBook.mono _ _ _ _
  |exact LeO.none _
  |refine LeO.ite ?_ ?_
  |refine LeO.bind ?_ (fun _ => ?_)
theorem spec_ExpireChallenges.mono:∀ a0 a1 a2 a3 k,LeO (spec_ExpireChallenges.f k a0 a1 a2 a3) (spec_ExpireChallenges.f (k + 1) a0 a1 a2 a3):=by
 intro a0 a1 a2 a3 k
 have ih0:=spec_ExpireChallenges.mono_l k
 unfold spec_ExpireChallenges.f
 repeat' first
  |(with_reducible exact ih0 _ _ _ _ _ _ _ _)
  |(with_reducible exact spec_IsValidBook.mono _ _ _ _)
  |(with_reducible exact LeO.refl _)
  |(with_reducible exact LeO.none _)
  |(with_reducible refine LeO.ite ?_ ?_)
  |(with_reducible refine LeO.bind ?_ (fun _ => ?_))
  |exact ih0 _ _ _ _ _ _ _ _
  |exact spec_IsValidBook.mono _ _ _ _
  |exact LeO.none _
  |refine LeO.ite ?_ ?_
  |refine LeO.bind ?_ (fun _ => ?_)
def spec_ExpireChallenges.T9:Bool × List (List Nat × List Nat):=(true,[([],[]),([0],[0]),([],[]),([2],[2]),([],[]),([3,4],[3,4]),([5],[5]),([6],[6]),([1,7],[1,7]),([0,1,2,3,4,5,6,7,8],[]),([9,8,8,0,1,2,3,4,5,6,7,8],[8,9])])
def spec_ExpireChallenges.B9:List Nat:=[0,1,0,4,0,28,60,124,255,511,1023]
theorem spec_ExpireChallenges.tab9:rtab .any (opsOf Try.f16 9)=spec_ExpireChallenges.T9:=by kernel_rfl
theorem spec_ExpireChallenges.bits9:waitsOk spec_ExpireChallenges.T9.2 spec_ExpireChallenges.B9=true:=by kernel_rfl
set_option maxHeartbeats 8000000 in
set_option maxRecDepth 100000 in
theorem spec_ExpireChallenges.calls (k:Nat) (a0_0:Int) (a0_1:Int) (A0_2:Option Addr) (c0_2:Nat) (l0_2:List (S35)) (a1:Int) (r1:Int) (r2:Int) (r3:List (S35)) (w:World) (hr0_2:Kd.C k35 w A0_2 l0_2.length l0_2) (hc0_2:l0_2.length ≤ c0_2) (h:spec_ExpireChallenges.f k a0_0 a0_1 l0_2 a1=some (r1,r2,r3)) :
  Calls Try.prog 16 #[.agg #[.int .i64 a0_0,.int .i64 a0_1,.slice A0_2 l0_2.length c0_2],.int .i64 a1] w fun e w' => ∃ v2_:Value,e=.returned (.agg #[.int .i64 r1,.int .i64 r2,v2_])∧Kd.R k35 35 w' w.heap.size (fun _ => True) v2_ r3∧Below w.heap.size w w':=by
 have hu28:=Try.underlying28
 have hu35:=Try.underlying35
 have HR0_2:=Am3_ hr0_2
 have HC0_2:=Am3_ hc0_2
 clear hr0_2 hc0_2
 have HB:=Am3_ (Below.refl w.heap.size w)
 have H:((spec_IsValidBook.f k a0_0 a0_1 l0_2).bind fun t124 => (if t124=true then (spec_ExpireChallenges.l0 k a1 0 a0_0 a0_1 l0_2 a0_0 a0_1 (([]:List (S35)))) else ((spec_l12Copy.f a0_0 a0_1 l0_2).bind fun bt125 => (some (bt125.1,bt125.2.1,bt125.2.2)))))=some (r1,r2,r3):=h
 clear h
 replace H:=Option.bind_eq_some_iff.mp H
 obtain ⟨t124,A30,H⟩:=H
 replace H:(if t124=true then (spec_ExpireChallenges.l0 k a1 0 a0_0 a0_1 l0_2 a0_0 a0_1 (([]:List (S35)))) else ((spec_l12Copy.f a0_0 a0_1 l0_2).bind fun bt125 => (some (bt125.1,bt125.2.1,bt125.2.2))))=some (r1,r2,r3):=H
 have A3:=Am3_ A30
 clear A30
 by_cases c4:t124=true
 ·subst c4
  have H1:(spec_ExpireChallenges.l0 k a1 0 a0_0 a0_1 l0_2 a0_0 a0_1 (([]:List (S35))))=some (r1,r2,r3):=by rw [if_pos rfl] at H;exact H
  clear H
  have H:=H1
  clear H1
  obtain ⟨y131,hy131⟩:∃ y_:List (S35),y_=(([]:List (S35))):=⟨_,rfl⟩
  replace H:(spec_ExpireChallenges.l0 k a1 0 a0_0 a0_1 l0_2 a0_0 a0_1 y131)=some (r1,r2,r3):=by first|(rw [hy131];with_reducible exact H)|(have H2_:=(Option.bind_some _ _).symm.trans H;rw [hy131];with_reducible exact H2_)|(have H2_:=(Option.bind_some _ _).symm.trans H;with_reducible exact H2_)|with_reducible exact H|(rw [hy131];exact H)|exact H
  have Ny131:=Am3_ hy131
  clear hy131
  have H':=Am3_ H
  clear H
  go_enter Try.func16,Try.ntmps16
  go_wp2_with (first|((with_reducible refine gate_dst (N:=2) rfl ?_);refine box_event ?hg (N:=2) ?hd (cs:=#[.int .i64 a0_0,.int .i64 a0_1,.slice A0_2 l0_2.length c0_2]) (t:=28) ?hr ?_;(case hd => rfl);(case hg => rfl);(case hr => first|(go_simp;done)|(go_simp;rfl));intro gb122 hg w5 hbox hb;have n0_:=Am3_ (below_step (by repeat (first|(with_reducible first|exact HB.out|apply below_alloc|apply pw_below_drewN|apply below_drew1)|exact HB.out)) hb);have n1_:=Am3_ (hbox);have n2_:=Am3_ ((by rw [hg];exact (below_size (by repeat (first|(with_reducible first|exact HB.out|apply below_alloc|apply pw_below_drewN|apply below_drew1)|exact HB.out))):w.heap.size ≤ gb122));have n3_:=Am3_ ((by rw [hg];exact (below_size (by repeat (first|(with_reducible first|exact HB.out|apply below_alloc|apply pw_below_drewN|apply below_drew1)|exact HB.out))):w.heap.size ≤ gb122));clear HB;have HB:=n0_;have BK122:=n1_;have GW122:=n2_;have GE122:=n3_;clear n0_ n1_ n2_ n3_;clear hb hbox hg)|((with_reducible refine gate_dst (N:=4) rfl ?_);refine box_event ?hg (N:=4) ?hd (cs:=#[.int .i64 0,.int .i64 0,.slice none 0 0]) (t:=28) ?hr ?_;(case hd => rfl);(case hg => rfl);(case hr => first|(go_simp;done)|(go_simp;rfl));intro gb123 hg w6 hbox hb;have n0_:=Am3_ (blk_below (g:=gb122) (o:=.cells #[.int .i64 a0_0,.int .i64 a0_1,.slice A0_2 l0_2.length c0_2] 28 (0,0)) (by (with_reducible repeat (first|refine blk_drewN ?_ _|refine blk_drew ?_|refine blk_alloc ?_ _));exact BK122.out) hb);have n1_:=Am3_ (below_step (by repeat (first|(with_reducible first|exact HB.out|apply below_alloc|apply pw_below_drewN|apply below_drew1|refine below_set ?_ GE122.out)|exact HB.out)) hb);have n2_:=Am3_ (hbox);have n3_:=Am3_ ((by rw [hg];exact (below_size (by repeat (first|(with_reducible first|exact HB.out|apply below_alloc|apply pw_below_drewN|apply below_drew1|refine below_set ?_ GE122.out)|exact HB.out))):w.heap.size ≤ gb123));have n4_:=Am3_ ((by rw [hg];exact (below_size (by repeat (first|(with_reducible first|exact HB.out|apply below_alloc|apply pw_below_drewN|apply below_drew1|refine below_set ?_ GE122.out)|exact HB.out))):w.heap.size ≤ gb123));have n5_:=Am3_ ((by rw [hg];exact Nat.ne_of_lt (blk_lt (g:=gb122) (o:=.cells #[.int .i64 a0_0,.int .i64 a0_1,.slice A0_2 l0_2.length c0_2] 28 (0,0)) (by (with_reducible repeat (first|refine blk_drewN ?_ _|refine blk_drew ?_|refine blk_alloc ?_ _));exact BK122.out)):gb122 ≠ gb123));have n6_:=Am3_ ((by rw [hg];exact Nat.ne_of_gt (blk_lt (g:=gb122) (o:=.cells #[.int .i64 a0_0,.int .i64 a0_1,.slice A0_2 l0_2.length c0_2] 28 (0,0)) (by (with_reducible repeat (first|refine blk_drewN ?_ _|refine blk_drew ?_|refine blk_alloc ?_ _));exact BK122.out)):gb123 ≠ gb122));clear BK122;clear HB;have BK122:=n0_;have HB:=n1_;have BK123:=n2_;have GW123:=n3_;have GE123:=n4_;have NB122_123:=n5_;have NB123_122:=n6_;clear n0_ n1_ n2_ n3_ n4_ n5_ n6_;clear hb hbox hg;have hnb7:=NB122_123.out;have hnc7:=NB123_122.out;have hcz8_0:w6.cell? ⟨gb122,0,none⟩=some (.int .i64 a0_0):=(blk_cell BK122.out 0).trans rfl;have hcz8_1:w6.cell? ⟨gb122,1,none⟩=some (.int .i64 a0_1):=(blk_cell BK122.out 1).trans rfl;have hcz8_2:w6.cell? ⟨gb122,2,none⟩=some (.slice A0_2 l0_2.length c0_2):=(blk_cell BK122.out 2).trans rfl;have hfz8_0:=blk_frozen BK122.out 0;have hfz8_1:=blk_frozen BK122.out 1;have hfz8_2:=blk_frozen BK122.out 2)|((with_reducible refine gate_callee (f:=86) rfl ?_);refine goesL_ (some 8) rfl rfl Try.func86 (by kernel_rfl) rfl #[.agg #[.int .i64 a0_0,.int .i64 a0_1,.slice A0_2 l0_2.length c0_2]] rfl (by (try simp only [List.map_toArray,List.map_cons,List.map_nil]);first|done|rfl|(simp only [List.length_drop,List.length_take];rfl)) ?_;(with_reducible refine (spec_IsValidBook.calls k a0_0 a0_1 _ _ l0_2 true _ ?side1 ?side2 A3.out).mono ?_);(case side1 => repeat (first|exact (Kd.C_below HR0_2.out HB.out)|(with_reducible refine Kd.C_alloc ?_ _)|(with_reducible refine Kd.C_drewN ?_ _)|(with_reducible refine Kd.C_drew ?_)));(case side2 => exact HC0_2.out);rintro e w9 ⟨rfl,hb⟩;refine ⟨_,rfl,?_⟩;have n0_:=Am3_ (blk_below (g:=gb122) (o:=.cells #[.int .i64 a0_0,.int .i64 a0_1,.slice A0_2 l0_2.length c0_2] 28 (0,0)) (by (with_reducible repeat (first|refine blk_drewN ?_ _|refine blk_drew ?_|refine blk_alloc ?_ _));exact BK122.out) hb);have n1_:=Am3_ (blk_below (g:=gb123) (o:=.cells #[.int .i64 0,.int .i64 0,.slice none 0 0] 28 (0,0)) (by (with_reducible repeat (first|refine blk_drewN ?_ _|refine blk_drew ?_|refine blk_alloc ?_ _));exact BK123.out) hb);have n2_:=Am3_ (below_step (by repeat (first|(with_reducible first|exact HB.out|apply below_alloc|apply pw_below_drewN|apply below_drew1|refine below_set ?_ GE122.out|refine below_set ?_ GE123.out)|exact HB.out)) hb);clear BK122;clear BK123;clear HB;have BK122:=n0_;have BK123:=n1_;have HB:=n2_;clear n0_ n1_ n2_;(try clear hb);(try clear hb2);(try clear hk);(try clear hi);have hcz10_0:w9.cell? ⟨gb122,0,none⟩=some (.int .i64 a0_0):=(blk_cell BK122.out 0).trans rfl;have hcz10_1:w9.cell? ⟨gb122,1,none⟩=some (.int .i64 a0_1):=(blk_cell BK122.out 1).trans rfl;have hcz10_2:w9.cell? ⟨gb122,2,none⟩=some (.slice A0_2 l0_2.length c0_2):=(blk_cell BK122.out 2).trans rfl;have hfz10_0:=blk_frozen BK122.out 0;have hfz10_1:=blk_frozen BK122.out 1;have hfz10_2:=blk_frozen BK122.out 2)|((with_reducible refine gate_dst (N:=5) rfl ?_);refine box_event ?hg (N:=5) ?hd (cs:=#[.int .i64 0,.int .i64 0,.slice none 0 0]) (t:=28) ?hr ?_;(case hd => rfl);(case hg => rfl);(case hr => first|(go_simp;done)|(go_simp;rfl));intro gb130 hg w11 hbox hb;have n0_:=Am3_ (blk_below (g:=gb122) (o:=.cells #[.int .i64 a0_0,.int .i64 a0_1,.slice A0_2 l0_2.length c0_2] 28 (0,0)) (by (with_reducible repeat (first|refine blk_drewN ?_ _|refine blk_drew ?_|refine blk_alloc ?_ _));exact BK122.out) hb);have n1_:=Am3_ (blk_below (g:=gb123) (o:=.cells #[.int .i64 0,.int .i64 0,.slice none 0 0] 28 (0,0)) (by (with_reducible repeat (first|refine blk_drewN ?_ _|refine blk_drew ?_|refine blk_alloc ?_ _));exact BK123.out) hb);have n2_:=Am3_ (below_step (by repeat (first|(with_reducible first|exact HB.out|apply below_alloc|apply pw_below_drewN|apply below_drew1|refine below_set ?_ GE122.out|refine below_set ?_ GE123.out)|exact HB.out)) hb);have n3_:=Am3_ (hbox);have n4_:=Am3_ ((by rw [hg];exact (below_size (by repeat (first|(with_reducible first|exact HB.out|apply below_alloc|apply pw_below_drewN|apply below_drew1|refine below_set ?_ GE122.out|refine below_set ?_ GE123.out)|exact HB.out))):w.heap.size ≤ gb130));have n5_:=Am3_ ((by rw [hg];exact (below_size (by repeat (first|(with_reducible first|exact HB.out|apply below_alloc|apply pw_below_drewN|apply below_drew1|refine below_set ?_ GE122.out|refine below_set ?_ GE123.out)|exact HB.out))):w.heap.size ≤ gb130));have n6_:=Am3_ ((by rw [hg];exact Nat.ne_of_lt (blk_lt (g:=gb122) (o:=.cells #[.int .i64 a0_0,.int .i64 a0_1,.slice A0_2 l0_2.length c0_2] 28 (0,0)) (by (with_reducible repeat (first|refine blk_drewN ?_ _|refine blk_drew ?_|refine blk_alloc ?_ _));exact BK122.out)):gb122 ≠ gb130));have n7_:=Am3_ ((by rw [hg];exact Nat.ne_of_gt (blk_lt (g:=gb122) (o:=.cells #[.int .i64 a0_0,.int .i64 a0_1,.slice A0_2 l0_2.length c0_2] 28 (0,0)) (by (with_reducible repeat (first|refine blk_drewN ?_ _|refine blk_drew ?_|refine blk_alloc ?_ _));exact BK122.out)):gb130 ≠ gb122));have n8_:=Am3_ ((by rw [hg];exact Nat.ne_of_lt (blk_lt (g:=gb123) (o:=.cells #[.int .i64 0,.int .i64 0,.slice none 0 0] 28 (0,0)) (by (with_reducible repeat (first|refine blk_drewN ?_ _|refine blk_drew ?_|refine blk_alloc ?_ _));exact BK123.out)):gb123 ≠ gb130));have n9_:=Am3_ ((by rw [hg];exact Nat.ne_of_gt (blk_lt (g:=gb123) (o:=.cells #[.int .i64 0,.int .i64 0,.slice none 0 0] 28 (0,0)) (by (with_reducible repeat (first|refine blk_drewN ?_ _|refine blk_drew ?_|refine blk_alloc ?_ _));exact BK123.out)):gb130 ≠ gb123));clear BK122;clear BK123;clear HB;have BK122:=n0_;have BK123:=n1_;have HB:=n2_;have BK130:=n3_;have GW130:=n4_;have GE130:=n5_;have NB122_130:=n6_;have NB130_122:=n7_;have NB123_130:=n8_;have NB130_123:=n9_;clear n0_ n1_ n2_ n3_ n4_ n5_ n6_ n7_ n8_ n9_;clear hb hbox hg;have hnb12:=NB130_122.out;have hnc12:=NB122_130.out;have hnb13:=NB130_123.out;have hnc13:=NB123_130.out;have hcz14_0:w11.cell? ⟨gb130,0,none⟩=some (.int .i64 0):=(blk_cell BK130.out 0).trans rfl;have hcz14_1:w11.cell? ⟨gb130,1,none⟩=some (.int .i64 0):=(blk_cell BK130.out 1).trans rfl;have hcz14_2:w11.cell? ⟨gb130,2,none⟩=some (.slice none 0 0):=(blk_cell BK130.out 2).trans rfl;have hfz14_0:=blk_frozen BK130.out 0;have hfz14_1:=blk_frozen BK130.out 1;have hfz14_2:=blk_frozen BK130.out 2)|((with_reducible refine gate_dst (N:=13) rfl ?_);refine Kd.R_lit k35 _ 35 ?hg (N:=13) ?hd (xs:=([]:List (S35))) (inner:=[]) (ok:=fun _ => True) (okp:=fun _ => True) ?hr ?hp (fun _ hk => by first|exact hk|(revert hk;dsimp only;grind)|grind) trivial (Below.refl _ _) (Nat.le_refl _) (by simp) ?_;(case hd => rfl);(case hg => rfl);(case hr => first|(go_simp;done)|(go_simp;rfl));(case hp => exact (Reps.none _ _));intro v132 w15 ho16 hb hg_ hnew_;clear hg_ hnew_;(first|rw [← Ny131.out] at ho16|(simp only [Int.reduceToNat] at ho16;rw [← Ny131.out] at ho16));have n0_:=Am3_ (Kd.R_lower ho16 (below_size (by repeat (first|(with_reducible first|exact HB.out|apply below_alloc|apply pw_below_drewN|apply below_drew1|refine below_set ?_ GE122.out|refine below_set ?_ GE123.out|refine below_set ?_ GE130.out)|exact HB.out))));have n1_:=Am3_ (blk_below (g:=gb122) (o:=.cells #[.int .i64 a0_0,.int .i64 a0_1,.slice A0_2 l0_2.length c0_2] 28 (0,0)) (by (with_reducible repeat (first|refine blk_drewN ?_ _|refine blk_drew ?_|refine blk_alloc ?_ _));refine blk_far ?_ NB122_130.out _;(with_reducible repeat (first|refine blk_drewN ?_ _|refine blk_drew ?_|refine blk_alloc ?_ _));refine blk_far ?_ NB122_130.out _;(with_reducible repeat (first|refine blk_drewN ?_ _|refine blk_drew ?_|refine blk_alloc ?_ _));refine blk_far ?_ NB122_130.out _;(with_reducible repeat (first|refine blk_drewN ?_ _|refine blk_drew ?_|refine blk_alloc ?_ _));exact BK122.out) hb);have n2_:=Am3_ (blk_below (g:=gb123) (o:=.cells #[.int .i64 0,.int .i64 0,.slice none 0 0] 28 (0,0)) (by (with_reducible repeat (first|refine blk_drewN ?_ _|refine blk_drew ?_|refine blk_alloc ?_ _));refine blk_far ?_ NB123_130.out _;(with_reducible repeat (first|refine blk_drewN ?_ _|refine blk_drew ?_|refine blk_alloc ?_ _));refine blk_far ?_ NB123_130.out _;(with_reducible repeat (first|refine blk_drewN ?_ _|refine blk_drew ?_|refine blk_alloc ?_ _));refine blk_far ?_ NB123_130.out _;(with_reducible repeat (first|refine blk_drewN ?_ _|refine blk_drew ?_|refine blk_alloc ?_ _));exact BK123.out) hb);have n3_:=Am3_ (blk_below (g:=gb130) (o:=.cells #[.int .i64 a0_0,.int .i64 a0_1,.slice A0_2 l0_2.length c0_2] 28 (0,0)) (by (with_reducible repeat (first|refine blk_drewN ?_ _|refine blk_drew ?_|refine blk_alloc ?_ _));refine blk_put (cs:=#[.int .i64 a0_0,.int .i64 a0_1,.slice none 0 0]) ?_ 2 _ rfl;(with_reducible repeat (first|refine blk_drewN ?_ _|refine blk_drew ?_|refine blk_alloc ?_ _));refine blk_put (cs:=#[.int .i64 a0_0,.int .i64 0,.slice none 0 0]) ?_ 1 _ rfl;(with_reducible repeat (first|refine blk_drewN ?_ _|refine blk_drew ?_|refine blk_alloc ?_ _));refine blk_put (cs:=#[.int .i64 0,.int .i64 0,.slice none 0 0]) ?_ 0 _ rfl;(with_reducible repeat (first|refine blk_drewN ?_ _|refine blk_drew ?_|refine blk_alloc ?_ _));exact BK130.out) hb);have n4_:=Am3_ (below_step (by repeat (first|(with_reducible first|exact HB.out|apply below_alloc|apply pw_below_drewN|apply below_drew1|refine below_set ?_ GE122.out|refine below_set ?_ GE123.out|refine below_set ?_ GE130.out)|exact HB.out)) hb);clear BK122;clear BK123;clear BK130;clear HB;have HO133:=n0_;have BK122:=n1_;have BK123:=n2_;have BK130:=n3_;have HB:=n4_;clear n0_ n1_ n2_ n3_ n4_;clear hb ho16;obtain ⟨Ao17,co17,eo17⟩:=Kd.R_slice HO133.out;subst eo17;have hcz18_0:w15.cell? ⟨gb130,0,none⟩=some (.int .i64 a0_0):=(blk_cell BK130.out 0).trans rfl;have hcz18_1:w15.cell? ⟨gb130,1,none⟩=some (.int .i64 a0_1):=(blk_cell BK130.out 1).trans rfl;have hcz18_2:w15.cell? ⟨gb130,2,none⟩=some (.slice A0_2 l0_2.length c0_2):=(blk_cell BK130.out 2).trans rfl;have hfz18_0:=blk_frozen BK130.out 0;have hfz18_1:=blk_frozen BK130.out 1;have hfz18_2:=blk_frozen BK130.out 2))
  go_loopg [6] k (fun kq v6 w' => ∃ (x6_1:Int) (x131002_1:List (S35)) (u131002:Value),v6=.int .i64 x6_1∧Aside0 (spec_ExpireChallenges.l0 kq a1 x6_1 a0_0 a0_1 l0_2 a0_0 a0_1 x131002_1=some (r1,r2,r3))∧Aside0 (kq ≤ k)∧Aside0 (Kd.R k35 35 w' w.heap.size (fun _ => True) u131002 x131002_1)∧Aside0 (w'.heap[gb122]?=some (.cells #[.int .i64 a0_0,.int .i64 a0_1,(.slice A0_2 l0_2.length c0_2)] 28 (0,0)))∧Aside0 (w'.heap[gb123]?=some (.cells #[.int .i64 0,.int .i64 0,(.slice none 0 0)] 28 (0,0)))∧Aside0 (w'.heap[gb130]?=some (.cells #[.int .i64 a0_0,.int .i64 a0_1,u131002] 28 (0,0)))∧Aside0 (Below w.heap.size w w'))
  case atStart => exact ⟨(0),(y131),(.slice Ao17 y131.length co17),(by first|rfl|(simp;done)|(simp [*];done)),H',⟨Nat.le_refl _⟩,⟨by (with_reducible repeat (first|apply Kd.R_alloc|apply Kd.R_drewN|apply Kd.R_drew));exact Kd.R_mono (Kd.R_far (p:=⟨gb130,2,none⟩) (Kd.R_types HO133.out BK130.out (by decide)) (fun _ hk => by first|exact hk.2|(revert hk;dsimp only;grind)|grind) (.slice Ao17 y131.length co17)) (fun _ hk => trivial)⟩,⟨by (with_reducible repeat (first|refine blk_drewN ?_ _|refine blk_drew ?_|refine blk_alloc ?_ _));refine blk_far ?_ NB122_130.out _;(with_reducible repeat (first|refine blk_drewN ?_ _|refine blk_drew ?_|refine blk_alloc ?_ _));exact BK122.out⟩,⟨by (with_reducible repeat (first|refine blk_drewN ?_ _|refine blk_drew ?_|refine blk_alloc ?_ _));refine blk_far ?_ NB123_130.out _;(with_reducible repeat (first|refine blk_drewN ?_ _|refine blk_drew ?_|refine blk_alloc ?_ _));exact BK123.out⟩,⟨by (with_reducible repeat (first|refine blk_drewN ?_ _|refine blk_drew ?_|refine blk_alloc ?_ _));refine blk_put (cs:=#[.int .i64 a0_0,.int .i64 a0_1,.slice A0_2 l0_2.length c0_2]) ?_ 2 _ rfl;(with_reducible repeat (first|refine blk_drewN ?_ _|refine blk_drew ?_|refine blk_alloc ?_ _));exact BK130.out⟩,⟨by repeat (first|(with_reducible first|exact HB.out|apply below_alloc|apply pw_below_drewN|apply below_drew1|refine below_set ?_ GE122.out|refine below_set ?_ GE123.out|refine below_set ?_ GE130.out)|exact HB.out)⟩⟩
  case round =>
   clear H'
   try clear c1
   try clear p2
   try clear c4
   try clear c7
   try clear c8
   try clear c12
   try clear c13
   try clear c16
   try clear hcz10_0
   try clear hcz10_1
   try clear hcz10_2
   try clear hcz14_0
   try clear hcz14_1
   try clear hcz14_2
   try clear hcz18_0
   try clear hcz18_1
   try clear hcz18_2
   try clear hcz8_0
   try clear hcz8_1
   try clear hcz8_2
   try clear hfz10_0
   try clear hfz10_1
   try clear hfz10_2
   try clear hfz14_0
   try clear hfz14_1
   try clear hfz14_2
   try clear hfz18_0
   try clear hfz18_1
   try clear hfz18_2
   try clear hfz8_0
   try clear hfz8_1
   try clear hfz8_2
   try clear HO_131002
   try clear BK122
   try clear BK123
   try clear BK130
   obtain ⟨x6_1,x131002_1,u131002,rfl,HA,HK1,HO_131002,BK122,BK123,BK130,HB⟩:=hrel
   cases gk with
  |zero => exact absurd HA.out (by simp [spec_ExpireChallenges.l0])
  |succ k1 =>
    have H:=HA.out
    clear HA
    simp only [spec_ExpireChallenges.l0] at H
    by_cases c19:x6_1 < (l0_2.length:Int)
    ·rw [if_pos c19] at H
     have c19b0:decide (x6_1 < (l0_2.length:Int))=true:=decide_eq_true c19
     clear c19
     by_cases c20:0 ≤ x6_1
     ·rw [if_pos c20] at H
      have c20b0:decide (0 ≤ x6_1)=true:=decide_eq_true c20
      clear c20
      by_cases c21:((rd_T35 l0_2 x6_1).f2) ≥ a1
      ·rw [if_pos c21] at H
       have c21b0:decide (a1 ≤ ((rd_T35 l0_2 x6_1).f2))=true:=decide_eq_true c21
       clear c21
       by_cases c22:x131002_1.length < 5864062014805
       ·rw [if_pos c22] at H
        have LMc22:=Am3_ c22
        clear c22
        obtain ⟨y136,hy136⟩:∃ y_:List (S35),y_=(x131002_1 ++ [(⟨(rd_T35 l0_2 x6_1).f0,(rd_T35 l0_2 x6_1).f1,(rd_T35 l0_2 x6_1).f2⟩:S35)]):=⟨_,rfl⟩
        replace H:(spec_ExpireChallenges.l0 k1 a1 (wrap64 (x6_1 + 1)) a0_0 a0_1 l0_2 a0_0 a0_1 y136)=some (r1,r2,r3):=by first|(rw [hy136];with_reducible exact H)|(have H2_:=(Option.bind_some _ _).symm.trans H;rw [hy136];with_reducible exact H2_)|(have H2_:=(Option.bind_some _ _).symm.trans H;with_reducible exact H2_)|with_reducible exact H|(rw [hy136];exact H)|exact H
        have Ny136:=Am3_ hy136
        clear hy136
        have H':=Am3_ H
        clear H
        have hnb23:=NB122_123.out
        have hnc23:=NB123_122.out
        have hnb24:=NB122_130.out
        have hnc24:=NB130_122.out
        have hcz25_0:wr.cell? ⟨gb122,0,none⟩=some (.int .i64 a0_0):=(blk_cell BK122.out 0).trans rfl
        have hcz25_1:wr.cell? ⟨gb122,1,none⟩=some (.int .i64 a0_1):=(blk_cell BK122.out 1).trans rfl
        have hcz25_2:wr.cell? ⟨gb122,2,none⟩=some (.slice A0_2 l0_2.length c0_2):=(blk_cell BK122.out 2).trans rfl
        have hfz25_0:=blk_frozen BK122.out 0
        have hfz25_1:=blk_frozen BK122.out 1
        have hfz25_2:=blk_frozen BK122.out 2
        have p134:0 ≤ (x6_1:Int):=of_decide_eq_true (by first|(with_reducible assumption)|assumption)
        have q134:x6_1 < (l0_2.length:Int):=of_decide_eq_true (by first|(with_reducible assumption)|assumption)
        obtain ⟨ad134,e134,hx134_0,hx134_1,hx134_2⟩:=at_T35 HR0_2.out x6_1 p134 q134
        cases e134
        replace hx134_0:=(HB.out.cell (World.block_lt_of_cell? w _ hx134_0)).trans hx134_0
        replace hx134_1:=(HB.out.cell (World.block_lt_of_cell? w _ hx134_1)).trans hx134_1
        replace hx134_2:=(HB.out.cell (World.block_lt_of_cell? w _ hx134_2)).trans hx134_2
        replace p134:=eq_true p134
        replace q134:=eq_true q134
        try go_wp2
        have n0_:=Am3_ (Kd.R_drew HO_131002.out)
        have n1_:=Am3_ (blk_drew BK122.out)
        have n2_:=Am3_ (blk_drew BK123.out)
        have n3_:=Am3_ (blk_drew BK130.out)
        have n4_:=Am3_ (below_drew1 HB.out)
        clear HO_131002
        clear BK122
        clear BK123
        clear BK130
        clear HB
        have HO_131002:=n0_
        have BK122:=n1_
        have BK123:=n2_
        have BK130:=n3_
        have HB:=n4_
        clear n0_ n1_ n2_ n3_ n4_
        have p135:0 ≤ (x6_1:Int):=of_decide_eq_true (by first|(with_reducible assumption)|assumption)
        have q135:x6_1 < (l0_2.length:Int):=of_decide_eq_true (by first|(with_reducible assumption)|assumption)
        obtain ⟨ad135,e135,hx135_0,hx135_1,hx135_2⟩:=at_T35 HR0_2.out x6_1 p135 q135
        have hw135_2:=hx135_2
        have hw135_1:=hx135_1
        have hw135_0:=hx135_0
        obtain rfl:ad134=ad135:=(by injection e135)
        replace hx135_0:=(HB.out.cell (World.block_lt_of_cell? w _ hx135_0)).trans hx135_0
        replace hx135_1:=(HB.out.cell (World.block_lt_of_cell? w _ hx135_1)).trans hx135_1
        replace hx135_2:=(HB.out.cell (World.block_lt_of_cell? w _ hx135_2)).trans hx135_2
        replace p135:=eq_true p135
        replace q135:=eq_true q135
        refine start_ (n:=11) (S:=fun w' => w'.cell? ⟨gb130,0,none⟩=some (.int .i64 a0_0)∧w'.cell? ⟨gb130,1,none⟩=some (.int .i64 a0_1)∧w'.cell? ⟨gb130,2,none⟩=some (u131002)∧w'.cell? ⟨gb122,0,none⟩=some (.int .i64 a0_0)∧w'.cell? ⟨gb122,1,none⟩=some (.int .i64 a0_1)∧w'.cell? ⟨gb122,2,none⟩=some (.slice (some ad134) l0_2.length c0_2)∧w'.cell? (ad134.add ((x6_1).toNat * 3))=some (.int .i64 ((rd_T35 l0_2 x6_1).f0))∧w'.cell? ⟨(ad134.add ((x6_1).toNat * 3)).block,(ad134.add ((x6_1).toNat * 3)).off + 1,none⟩=some (.int .i64 ((rd_T35 l0_2 x6_1).f1))∧w'.cell? ⟨(ad134.add ((x6_1).toNat * 3)).block,(ad134.add ((x6_1).toNat * 3)).off + 2,none⟩=some (.int .i64 ((rd_T35 l0_2 x6_1).f2))) (ds:=[10]) #[false,false,false,false,false,false,false,false,false,false,false] (by kernel_rfl) rfl rfl ⟨(blk_cell BK130.out 0).trans rfl,(blk_cell BK130.out 1).trans rfl,(blk_cell BK130.out 2).trans rfl,(blk_cell BK122.out 0).trans rfl,(blk_cell BK122.out 1).trans rfl,(blk_cell BK122.out 2).trans rfl,((HB.out.cell (World.block_lt_of_cell? w _ hw135_0)).trans hw135_0),((HB.out.cell (World.block_lt_of_cell? w _ hw135_1)).trans hw135_1),((HB.out.cell (World.block_lt_of_cell? w _ hw135_2)).trans hw135_2)⟩ (fun hHeld => ?_);refine with_tabW spec_ExpireChallenges.tab9 spec_ExpireChallenges.bits9 (fun HT_ HW_ => ?_)
        generalize wr.drew=w26 at HO_131002 BK122 BK123 BK130 HB hx135_0 hx135_1 hx135_2 hHeld ⊢
        refine pure_ (i:=0) (N:=some 30) (v:=?_) (a':=?_) #[true,false,false,false,false,false,false,false,false,false,false] rfl rfl (any_of HT_.out (by kernel_rfl)) (fun _ _ _ h => h) (Or.inl ⟨by rfl,?_⟩) ?_ ?_
        rotate_left
        ·intro w'
         go_simp
         with_reducible rfl
        rotate_left
        ·simp only [Act.put,List.setIfInBounds_toArray,List.set_cons_zero,List.set_cons_succ,i64_w,i32_w]
         rfl
        refine pure_ (i:=2) (N:=some 32) (v:=?_) (a':=?_) #[true,false,true,false,false,false,false,false,false,false,false] rfl rfl (any_of HT_.out (by kernel_rfl)) (fun _ _ _ h => h) (Or.inl ⟨by rfl,?_⟩) ?_ ?_
        rotate_left
        ·intro w'
         go_simp
         with_reducible rfl
        rotate_left
        ·simp only [Act.put,List.setIfInBounds_toArray,List.set_cons_zero,List.set_cons_succ,i64_w,i32_w]
         rfl
        refine pure_ (i:=4) (N:=some 34) (v:=?_) (a':=?_) #[true,false,true,false,true,false,false,false,false,false,false] rfl rfl (any_of HT_.out (by kernel_rfl)) (fun _ _ _ h => h) (Or.inl ⟨by rfl,?_⟩) ?_ ?_
        rotate_left
        ·intro w'
         go_simp
         with_reducible rfl
        rotate_left
        ·simp only [Act.put,List.setIfInBounds_toArray,List.set_cons_zero,List.set_cons_succ,i64_w,i32_w]
         rfl
        refine take_ (i:=1) (N:=some 31) (v:=?_) (a':=?_) #[true,true,true,false,true,false,false,false,false,false,false] rfl rfl (take_ofW HT_.out HW_.out (by kernel_rfl)) (fun _ _ _ h => h) (Or.inl ⟨by rfl,?_⟩) hHeld ?_ ?_
        rotate_left
        ·rintro w' ⟨s0,s1,s2,s3,s4,s5,s6,s7,s8⟩
         go_simp
         with_reducible rfl
        rotate_left
        ·simp only [Act.put,List.setIfInBounds_toArray,List.set_cons_zero,List.set_cons_succ,i64_w,i32_w]
         rfl
        refine take_ (i:=3) (N:=some 33) (v:=?_) (a':=?_) #[true,true,true,true,true,false,false,false,false,false,false] rfl rfl (take_ofW HT_.out HW_.out (by kernel_rfl)) (fun _ _ _ h => h) (Or.inl ⟨by rfl,?_⟩) hHeld ?_ ?_
        rotate_left
        ·rintro w' ⟨s0,s1,s2,s3,s4,s5,s6,s7,s8⟩
         go_simp
         with_reducible rfl
        rotate_left
        ·simp only [Act.put,List.setIfInBounds_toArray,List.set_cons_zero,List.set_cons_succ,i64_w,i32_w]
         rfl
        refine pure_ (i:=5) (N:=some 35) (v:=?_) (a':=?_) #[true,true,true,true,true,true,false,false,false,false,false] rfl rfl (any_of HT_.out (by kernel_rfl)) (fun _ _ _ h => h) (Or.inl ⟨by rfl,?_⟩) ?_ ?_
        rotate_left
        ·intro w'
         go_simp
         with_reducible rfl
        rotate_left
        ·simp only [Act.put,List.setIfInBounds_toArray,List.set_cons_zero,List.set_cons_succ,i64_w,i32_w]
         rfl
        refine take_ (i:=6) (N:=some 36) (v:=?_) (a':=?_) #[true,true,true,true,true,true,true,false,false,false,false] rfl rfl (take_ofW HT_.out HW_.out (by kernel_rfl)) (fun _ _ _ h => h) (Or.inl ⟨by rfl,?_⟩) hHeld ?_ ?_
        rotate_left
        ·rintro w' ⟨s0,s1,s2,s3,s4,s5,s6,s7,s8⟩
         go_simp
         with_reducible rfl
        rotate_left
        ·simp only [Act.put,List.setIfInBounds_toArray,List.set_cons_zero,List.set_cons_succ,i64_w,i32_w]
         rfl
        refine one_ (i:=7) (N:=some 37) #[true,true,true,true,true,true,true,true,false,false,false] rfl rfl (one_of HT_.out (by kernel_rfl)) (by decide) (fun K hK => ?_)
        refine value_ (w1:=?_) (v:=?_) (by rfl) rfl ?_ ?_
        rotate_left 2
        ·go_simp
         constructor
         ·rfl
         ·rfl
        refine hK.out _ _ ⟨(blk_cell (blk_alloc BK130.out _) 0).trans rfl,(blk_cell (blk_alloc BK130.out _) 1).trans rfl,(blk_cell (blk_alloc BK130.out _) 2).trans rfl,(blk_cell (blk_alloc BK122.out _) 0).trans rfl,(blk_cell (blk_alloc BK122.out _) 1).trans rfl,(blk_cell (blk_alloc BK122.out _) 2).trans rfl,(World.cell?_alloc_lt _ _ _ (World.block_lt_of_cell? _ _ (((HB.out.cell (World.block_lt_of_cell? w _ hw135_0)).trans hw135_0)))).trans (((HB.out.cell (World.block_lt_of_cell? w _ hw135_0)).trans hw135_0)),(World.cell?_alloc_lt _ _ _ (World.block_lt_of_cell? _ _ (((HB.out.cell (World.block_lt_of_cell? w _ hw135_1)).trans hw135_1)))).trans (((HB.out.cell (World.block_lt_of_cell? w _ hw135_1)).trans hw135_1)),(World.cell?_alloc_lt _ _ _ (World.block_lt_of_cell? _ _ (((HB.out.cell (World.block_lt_of_cell? w _ hw135_2)).trans hw135_2)))).trans (((HB.out.cell (World.block_lt_of_cell? w _ hw135_2)).trans hw135_2))⟩ (fun hHeld => ?_)
        clear hK K
        refine norm_ (a':=?_) ?_ ?_
        rotate_left
        ·show Act.put _ (some 37) _=_
         simp only [Act.put,List.setIfInBounds_toArray,List.set_cons_zero,List.set_cons_succ,i64_w,i32_w]
         rfl
        refine one_ (i:=8) (N:=some 38) #[true,true,true,true,true,true,true,true,true,false,false] rfl rfl (one_of HT_.out (by kernel_rfl)) (by decide) (fun K hK => ?_)
        refine Kd.R_append_step k35 (w0:=w) w.heap.size (by rfl) (.tmp 31) (.tmp 37) 26 35 (.agg #[(.int .i64 0),(.int .i64 0),(.int .i64 0)]) 24 rfl Try.underlying26 info35 rfl (by decide) (by omega) u131002 x131002_1 (⟨(rd_T35 l0_2 x6_1).f0,(rd_T35 l0_2 x6_1).f1,(rd_T35 l0_2 x6_1).f2⟩:S35) [.int .i64 ((rd_T35 l0_2 x6_1).f0),.int .i64 ((rd_T35 l0_2 x6_1).f1),.int .i64 ((rd_T35 l0_2 x6_1).f2)] (fun _ => True) (fun _ => False) rfl rfl ?aP (fun _ hk => hk.elim) ?aF ?aO ?aB ?aS ?aL ?_
        (case aP => exact k35_mkM _ _ _ (⟨(rd_T35 l0_2 x6_1).f0,(rd_T35 l0_2 x6_1).f1,(rd_T35 l0_2 x6_1).f2⟩:S35))
        (case aB => exact (by repeat (first|(with_reducible first|exact HB.out|apply below_alloc|apply pw_below_drewN|apply below_drew1|refine below_set ?_ GE122.out|refine below_set ?_ GE123.out|refine below_set ?_ GE130.out)|exact HB.out)))
        (case aF => exact (fun _ _ => trivial))
        (case aO => exact (by (with_reducible repeat (first|apply Kd.R_alloc|apply Kd.R_drewN|apply Kd.R_drew));exact HO_131002.out))
        (case aS => exact (below_size (by repeat (first|(with_reducible first|exact HB.out|apply below_alloc|apply pw_below_drewN|apply below_drew1|refine below_set ?_ GE122.out|refine below_set ?_ GE123.out|refine below_set ?_ GE130.out)|exact HB.out))))
        (case aL => have:=LMc22.out;omega)
        intro v137 w27 ho hb hg hat
        rw [← Ny136.out] at ho
        have n0_:=Am3_ (blk_grown (g:=gb122) (o:=.cells #[.int .i64 a0_0,.int .i64 a0_1,.slice (some ad134) l0_2.length c0_2] 28 (0,0)) (by (with_reducible repeat (first|refine blk_drewN ?_ _|refine blk_drew ?_|refine blk_alloc ?_ _));exact BK122.out) hg (Kd.R_ne HO_131002.out BK122.out (by decide)))
        have n1_:=Am3_ (blk_grown (g:=gb123) (o:=.cells #[.int .i64 0,.int .i64 0,.slice none 0 0] 28 (0,0)) (by (with_reducible repeat (first|refine blk_drewN ?_ _|refine blk_drew ?_|refine blk_alloc ?_ _));exact BK123.out) hg (Kd.R_ne HO_131002.out BK123.out (by decide)))
        have n2_:=Am3_ (blk_grown (g:=gb130) (o:=.cells #[.int .i64 a0_0,.int .i64 a0_1,u131002] 28 (0,0)) (by (with_reducible repeat (first|refine blk_drewN ?_ _|refine blk_drew ?_|refine blk_alloc ?_ _));exact BK130.out) hg (Kd.R_ne HO_131002.out BK130.out (by decide)))
        have n3_:=Am3_ (hb)
        have n4_:=Am3_ (ho)
        clear BK122
        clear BK123
        clear BK130
        clear HB
        clear HO_131002
        have BK122:=n0_
        have BK123:=n1_
        have BK130:=n2_
        have HB:=n3_
        have HO138:=n4_
        clear n0_ n1_ n2_ n3_ n4_
        clear ho hb hg hat
        obtain ⟨Ao28,co28,eo28⟩:=Kd.R_slice HO138.out
        (first|subst eo28|(injection eo28 with f1_ f2_ f3_;have f4_:=f1_.symm;have f5_:=f3_.symm;clear f1_ f2_ f3_;subst f4_;subst f5_))
        refine hK.out _ _ ⟨(blk_cell BK130.out 0).trans rfl,(blk_cell BK130.out 1).trans rfl,(blk_cell BK130.out 2).trans rfl,(blk_cell BK122.out 0).trans rfl,(blk_cell BK122.out 1).trans rfl,(blk_cell BK122.out 2).trans rfl,((HB.out.cell (World.block_lt_of_cell? w _ hw135_0)).trans hw135_0),((HB.out.cell (World.block_lt_of_cell? w _ hw135_1)).trans hw135_1),((HB.out.cell (World.block_lt_of_cell? w _ hw135_2)).trans hw135_2)⟩ (fun hHeld => ?_)
        clear hK K
        refine norm_ (a':=?_) ?_ ?_
        rotate_left
        ·show Act.put _ (some 38) _=_
         simp only [Act.put,List.setIfInBounds_toArray,List.set_cons_zero,List.set_cons_succ,i64_w,i32_w]
         rfl
        refine pure_ (i:=9) (N:=some 39) (v:=?_) (a':=?_) #[true,true,true,true,true,true,true,true,true,true,false] rfl rfl (any_of HT_.out (by kernel_rfl)) (fun _ _ _ h => h) (Or.inl ⟨by rfl,?_⟩) ?_ ?_
        rotate_left
        ·intro w'
         go_simp
         with_reducible rfl
        rotate_left
        ·simp only [Act.put,List.setIfInBounds_toArray,List.set_cons_zero,List.set_cons_succ,i64_w,i32_w]
         rfl
        refine last_ (i:=10) (N:=none) #[true,true,true,true,true,true,true,true,true,true,true] rfl rfl (one_of HT_.out (by kernel_rfl)) (by decide) (fun K hK => ?_)
        have hs29:w27.cell? ⟨gb130,2,none⟩=some (u131002):=(blk_cell BK130.out 2).trans rfl
        have hfs29:=blk_frozen BK130.out 2
        have hns29_0:=NB122_130.out
        have hns29_1:=NB123_130.out
        have hms29_0:=NB130_122.out
        have hms29_1:=NB130_123.out
        refine skip_ (w1:=?_) (by rfl) rfl ?_ ?_
        rotate_left
        ·go_simp
         rfl
        refine hK.out _ _ ?_
        clear hK K
        refine done_ (done_of HT_.out (by kernel_rfl)) ?_
        try go_wp2
        go_roundg k1
        case measure => have:=HK1.out;omega
        case rel => exact ⟨(wrap64 (x6_1 + 1)),(y136),(.slice Ao28 y136.length co28),(by first|rfl|(simp;done)|(simp [*];done)),H',⟨by have:=HK1.out;omega⟩,⟨by (with_reducible repeat (first|apply Kd.R_alloc|apply Kd.R_drewN|apply Kd.R_drew));exact Kd.R_mono (Kd.R_far (p:=⟨gb130,2,none⟩) (Kd.R_types HO138.out BK130.out (by decide)) (fun _ hk => by first|exact hk.2|(revert hk;dsimp only;grind)|grind) (.slice Ao28 y136.length co28)) (fun _ hk => trivial)⟩,⟨by (with_reducible repeat (first|refine blk_drewN ?_ _|refine blk_drew ?_|refine blk_alloc ?_ _));refine blk_far ?_ NB122_130.out _;(with_reducible repeat (first|refine blk_drewN ?_ _|refine blk_drew ?_|refine blk_alloc ?_ _));exact BK122.out⟩,⟨by (with_reducible repeat (first|refine blk_drewN ?_ _|refine blk_drew ?_|refine blk_alloc ?_ _));refine blk_far ?_ NB123_130.out _;(with_reducible repeat (first|refine blk_drewN ?_ _|refine blk_drew ?_|refine blk_alloc ?_ _));exact BK123.out⟩,⟨by (with_reducible repeat (first|refine blk_drewN ?_ _|refine blk_drew ?_|refine blk_alloc ?_ _));refine blk_put (cs:=#[.int .i64 a0_0,.int .i64 a0_1,u131002]) ?_ 2 _ rfl;(with_reducible repeat (first|refine blk_drewN ?_ _|refine blk_drew ?_|refine blk_alloc ?_ _));exact BK130.out⟩,⟨by repeat (first|(with_reducible first|exact HB.out|apply below_alloc|apply pw_below_drewN|apply below_drew1|refine below_set ?_ GE122.out|refine below_set ?_ GE123.out|refine below_set ?_ GE130.out)|exact HB.out)⟩⟩
       ·rw [if_neg c22] at H
        exact absurd H (by simp)
      ·rw [if_neg c21] at H
       have c21b0:decide (a1 ≤ ((rd_T35 l0_2 x6_1).f2))=false:=decide_eq_false c21
       clear c21
       have H':=Am3_ H
       clear H
       have hnb30:=NB122_123.out
       have hnc30:=NB123_122.out
       have hnb31:=NB122_130.out
       have hnc31:=NB130_122.out
       have hcz32_0:wr.cell? ⟨gb122,0,none⟩=some (.int .i64 a0_0):=(blk_cell BK122.out 0).trans rfl
       have hcz32_1:wr.cell? ⟨gb122,1,none⟩=some (.int .i64 a0_1):=(blk_cell BK122.out 1).trans rfl
       have hcz32_2:wr.cell? ⟨gb122,2,none⟩=some (.slice A0_2 l0_2.length c0_2):=(blk_cell BK122.out 2).trans rfl
       have hfz32_0:=blk_frozen BK122.out 0
       have hfz32_1:=blk_frozen BK122.out 1
       have hfz32_2:=blk_frozen BK122.out 2
       have p134:0 ≤ (x6_1:Int):=of_decide_eq_true (by first|(with_reducible assumption)|assumption)
       have q134:x6_1 < (l0_2.length:Int):=of_decide_eq_true (by first|(with_reducible assumption)|assumption)
       obtain ⟨ad134,e134,hx134_0,hx134_1,hx134_2⟩:=at_T35 HR0_2.out x6_1 p134 q134
       cases e134
       replace hx134_0:=(HB.out.cell (World.block_lt_of_cell? w _ hx134_0)).trans hx134_0
       replace hx134_1:=(HB.out.cell (World.block_lt_of_cell? w _ hx134_1)).trans hx134_1
       replace hx134_2:=(HB.out.cell (World.block_lt_of_cell? w _ hx134_2)).trans hx134_2
       replace p134:=eq_true p134
       replace q134:=eq_true q134
       go_wp2
       go_roundg k1
       case measure => have:=HK1.out;omega
       case rel => exact ⟨(wrap64 (x6_1 + 1)),(x131002_1),(u131002),(by first|rfl|(simp;done)|(simp [*];done)),H',⟨by have:=HK1.out;omega⟩,⟨by (with_reducible repeat (first|apply Kd.R_alloc|apply Kd.R_drewN|apply Kd.R_drew));exact HO_131002.out⟩,⟨by (with_reducible repeat (first|refine blk_drewN ?_ _|refine blk_drew ?_|refine blk_alloc ?_ _));exact BK122.out⟩,⟨by (with_reducible repeat (first|refine blk_drewN ?_ _|refine blk_drew ?_|refine blk_alloc ?_ _));exact BK123.out⟩,⟨by (with_reducible repeat (first|refine blk_drewN ?_ _|refine blk_drew ?_|refine blk_alloc ?_ _));exact BK130.out⟩,⟨by repeat (first|(with_reducible first|exact HB.out|apply below_alloc|apply pw_below_drewN|apply below_drew1|refine below_set ?_ GE122.out|refine below_set ?_ GE123.out|refine below_set ?_ GE130.out)|exact HB.out)⟩⟩
     ·rw [if_neg c20] at H
      exact absurd H (by simp)
    ·rw [if_neg c19] at H
     have c19b0:decide (x6_1 < (l0_2.length:Int))=false:=decide_eq_false c19
     clear c19
     simp only [Option.some.injEq,Prod.mk.injEq] at H
     obtain ⟨rfl,rfl,rfl⟩:=H
     have hnb33:=NB122_123.out
     have hnc33:=NB123_122.out
     have hnb34:=NB122_130.out
     have hnc34:=NB130_122.out
     have hcz35_0:wr.cell? ⟨gb122,0,none⟩=some (.int .i64 a0_0):=(blk_cell BK122.out 0).trans rfl
     have hcz35_1:wr.cell? ⟨gb122,1,none⟩=some (.int .i64 a0_1):=(blk_cell BK122.out 1).trans rfl
     have hcz35_2:wr.cell? ⟨gb122,2,none⟩=some (.slice A0_2 l0_2.length c0_2):=(blk_cell BK122.out 2).trans rfl
     have hfz35_0:=blk_frozen BK122.out 0
     have hfz35_1:=blk_frozen BK122.out 1
     have hfz35_2:=blk_frozen BK122.out 2
     have hnb36:=NB130_123.out
     have hnc36:=NB123_130.out
     have hcz37_0:wr.cell? ⟨gb130,0,none⟩=some (.int .i64 a0_0):=(blk_cell BK130.out 0).trans rfl
     have hcz37_1:wr.cell? ⟨gb130,1,none⟩=some (.int .i64 a0_1):=(blk_cell BK130.out 1).trans rfl
     have hcz37_2:wr.cell? ⟨gb130,2,none⟩=some (u131002):=(blk_cell BK130.out 2).trans rfl
     have hfz37_0:=blk_frozen BK130.out 0
     have hfz37_1:=blk_frozen BK130.out 1
     have hfz37_2:=blk_frozen BK130.out 2
     have hcz38_0:wr.cell? ⟨gb123,0,none⟩=some (.int .i64 0):=(blk_cell BK123.out 0).trans rfl
     have hcz38_1:wr.cell? ⟨gb123,1,none⟩=some (.int .i64 0):=(blk_cell BK123.out 1).trans rfl
     have hcz38_2:wr.cell? ⟨gb123,2,none⟩=some (.slice none 0 0):=(blk_cell BK123.out 2).trans rfl
     have hfz38_0:=blk_frozen BK123.out 0
     have hfz38_1:=blk_frozen BK123.out 1
     have hfz38_2:=blk_frozen BK123.out 2
     obtain ⟨Ao39,co39,eo39⟩:=Kd.R_slice HO_131002.out
     subst eo39
     go_wp2
     refine bodyPost_ret (results_cell_row rfl _ _ gb123 28 #[.int .i64 a0_0,.int .i64 a0_1,.slice Ao39 x131002_1.length co39] (0,0) _ rfl (by (with_reducible repeat (first|refine blk_drewN ?_ _|refine blk_drew ?_|refine blk_alloc ?_ _));refine blk_put (cs:=#[.int .i64 a0_0,.int .i64 a0_1,.slice none 0 0]) ?_ 2 _ rfl;(with_reducible repeat (first|refine blk_drewN ?_ _|refine blk_drew ?_|refine blk_alloc ?_ _));refine blk_put (cs:=#[.int .i64 a0_0,.int .i64 0,.slice none 0 0]) ?_ 1 _ rfl;(with_reducible repeat (first|refine blk_drewN ?_ _|refine blk_drew ?_|refine blk_alloc ?_ _));refine blk_put (cs:=#[.int .i64 0,.int .i64 0,.slice none 0 0]) ?_ 0 _ rfl;(with_reducible repeat (first|refine blk_drewN ?_ _|refine blk_drew ?_|refine blk_alloc ?_ _));exact BK123.out) Try.underlying28 rfl (by kernel_rfl)) rfl ?_
     exact ⟨_,by first|rfl|(simp [errW_none,errW_some] <;> rfl)|(simp [*,errW_none,errW_some] <;> rfl),by (with_reducible repeat (first|apply Kd.R_alloc|apply Kd.R_drewN|apply Kd.R_drew));exact Kd.R_mono (Kd.R_far (p:=⟨gb123,2,none⟩) (Kd.R_far (p:=⟨gb123,1,none⟩) (Kd.R_far (p:=⟨gb123,0,none⟩) (Kd.R_types HO_131002.out BK123.out (by decide)) (fun _ hk => by first|exact hk.2|(revert hk;dsimp only;grind)|grind) (.int .i64 a0_0)) (fun _ hk => by first|exact hk.2|(revert hk;dsimp only;grind)|grind) (.int .i64 a0_1)) (fun _ hk => by first|exact hk.2|(revert hk;dsimp only;grind)|grind) (.slice Ao39 x131002_1.length co39)) (fun _ hk => trivial),by repeat (first|(with_reducible first|exact HB.out|apply below_alloc|apply pw_below_drewN|apply below_drew1|refine below_set ?_ GE122.out|refine below_set ?_ GE123.out|refine below_set ?_ GE130.out)|exact HB.out)⟩
 ·replace c4:=Bool.eq_false_iff.mpr c4
  subst c4
  have H1:((spec_l12Copy.f a0_0 a0_1 l0_2).bind fun bt125 => (some (bt125.1,bt125.2.1,bt125.2.2)))=some (r1,r2,r3):=by rw [if_neg (show ¬ (false=true) by decide)] at H;exact H
  clear H
  have H:=H1
  clear H1
  replace H:=Option.bind_eq_some_iff.mp H
  obtain ⟨⟨t125,t126,t127⟩,A400,H⟩:=H
  replace H:(some (t125,t126,t127))=some (r1,r2,r3):=H
  have A40:=Am3_ A400
  clear A400
  simp only [Option.some.injEq,Prod.mk.injEq] at H
  obtain ⟨rfl,rfl,rfl⟩:=H
  go_enter Try.func16,Try.ntmps16
  go_wp2_with (first|((with_reducible refine gate_dst (N:=2) rfl ?_);refine box_event ?hg (N:=2) ?hd (cs:=#[.int .i64 a0_0,.int .i64 a0_1,.slice A0_2 l0_2.length c0_2]) (t:=28) ?hr ?_;(case hd => rfl);(case hg => rfl);(case hr => first|(go_simp;done)|(go_simp;rfl));intro gb122 hg w41 hbox hb;have n0_:=Am3_ (below_step (by repeat (first|(with_reducible first|exact HB.out|apply below_alloc|apply pw_below_drewN|apply below_drew1)|exact HB.out)) hb);have n1_:=Am3_ (hbox);have n2_:=Am3_ ((by rw [hg];exact (below_size (by repeat (first|(with_reducible first|exact HB.out|apply below_alloc|apply pw_below_drewN|apply below_drew1)|exact HB.out))):w.heap.size ≤ gb122));have n3_:=Am3_ ((by rw [hg];exact (below_size (by repeat (first|(with_reducible first|exact HB.out|apply below_alloc|apply pw_below_drewN|apply below_drew1)|exact HB.out))):w.heap.size ≤ gb122));clear HB;have HB:=n0_;have BK122:=n1_;have GW122:=n2_;have GE122:=n3_;clear n0_ n1_ n2_ n3_;clear hb hbox hg)|((with_reducible refine gate_dst (N:=4) rfl ?_);refine box_event ?hg (N:=4) ?hd (cs:=#[.int .i64 0,.int .i64 0,.slice none 0 0]) (t:=28) ?hr ?_;(case hd => rfl);(case hg => rfl);(case hr => first|(go_simp;done)|(go_simp;rfl));intro gb123 hg w42 hbox hb;have n0_:=Am3_ (blk_below (g:=gb122) (o:=.cells #[.int .i64 a0_0,.int .i64 a0_1,.slice A0_2 l0_2.length c0_2] 28 (0,0)) (by (with_reducible repeat (first|refine blk_drewN ?_ _|refine blk_drew ?_|refine blk_alloc ?_ _));exact BK122.out) hb);have n1_:=Am3_ (below_step (by repeat (first|(with_reducible first|exact HB.out|apply below_alloc|apply pw_below_drewN|apply below_drew1|refine below_set ?_ GE122.out)|exact HB.out)) hb);have n2_:=Am3_ (hbox);have n3_:=Am3_ ((by rw [hg];exact (below_size (by repeat (first|(with_reducible first|exact HB.out|apply below_alloc|apply pw_below_drewN|apply below_drew1|refine below_set ?_ GE122.out)|exact HB.out))):w.heap.size ≤ gb123));have n4_:=Am3_ ((by rw [hg];exact (below_size (by repeat (first|(with_reducible first|exact HB.out|apply below_alloc|apply pw_below_drewN|apply below_drew1|refine below_set ?_ GE122.out)|exact HB.out))):w.heap.size ≤ gb123));have n5_:=Am3_ ((by rw [hg];exact Nat.ne_of_lt (blk_lt (g:=gb122) (o:=.cells #[.int .i64 a0_0,.int .i64 a0_1,.slice A0_2 l0_2.length c0_2] 28 (0,0)) (by (with_reducible repeat (first|refine blk_drewN ?_ _|refine blk_drew ?_|refine blk_alloc ?_ _));exact BK122.out)):gb122 ≠ gb123));have n6_:=Am3_ ((by rw [hg];exact Nat.ne_of_gt (blk_lt (g:=gb122) (o:=.cells #[.int .i64 a0_0,.int .i64 a0_1,.slice A0_2 l0_2.length c0_2] 28 (0,0)) (by (with_reducible repeat (first|refine blk_drewN ?_ _|refine blk_drew ?_|refine blk_alloc ?_ _));exact BK122.out)):gb123 ≠ gb122));clear BK122;clear HB;have BK122:=n0_;have HB:=n1_;have BK123:=n2_;have GW123:=n3_;have GE123:=n4_;have NB122_123:=n5_;have NB123_122:=n6_;clear n0_ n1_ n2_ n3_ n4_ n5_ n6_;clear hb hbox hg;have hnb43:=NB122_123.out;have hnc43:=NB123_122.out;have hcz44_0:w42.cell? ⟨gb122,0,none⟩=some (.int .i64 a0_0):=(blk_cell BK122.out 0).trans rfl;have hcz44_1:w42.cell? ⟨gb122,1,none⟩=some (.int .i64 a0_1):=(blk_cell BK122.out 1).trans rfl;have hcz44_2:w42.cell? ⟨gb122,2,none⟩=some (.slice A0_2 l0_2.length c0_2):=(blk_cell BK122.out 2).trans rfl;have hfz44_0:=blk_frozen BK122.out 0;have hfz44_1:=blk_frozen BK122.out 1;have hfz44_2:=blk_frozen BK122.out 2)|((with_reducible refine gate_callee (f:=86) rfl ?_);refine goesL_ (some 8) rfl rfl Try.func86 (by kernel_rfl) rfl #[.agg #[.int .i64 a0_0,.int .i64 a0_1,.slice A0_2 l0_2.length c0_2]] rfl (by (try simp only [List.map_toArray,List.map_cons,List.map_nil]);first|done|rfl|(simp only [List.length_drop,List.length_take];rfl)) ?_;(with_reducible refine (spec_IsValidBook.calls k a0_0 a0_1 _ _ l0_2 false _ ?side1 ?side2 A3.out).mono ?_);(case side1 => repeat (first|exact (Kd.C_below HR0_2.out HB.out)|(with_reducible refine Kd.C_alloc ?_ _)|(with_reducible refine Kd.C_drewN ?_ _)|(with_reducible refine Kd.C_drew ?_)));(case side2 => exact HC0_2.out);rintro e w45 ⟨rfl,hb⟩;refine ⟨_,rfl,?_⟩;have n0_:=Am3_ (blk_below (g:=gb122) (o:=.cells #[.int .i64 a0_0,.int .i64 a0_1,.slice A0_2 l0_2.length c0_2] 28 (0,0)) (by (with_reducible repeat (first|refine blk_drewN ?_ _|refine blk_drew ?_|refine blk_alloc ?_ _));exact BK122.out) hb);have n1_:=Am3_ (blk_below (g:=gb123) (o:=.cells #[.int .i64 0,.int .i64 0,.slice none 0 0] 28 (0,0)) (by (with_reducible repeat (first|refine blk_drewN ?_ _|refine blk_drew ?_|refine blk_alloc ?_ _));exact BK123.out) hb);have n2_:=Am3_ (below_step (by repeat (first|(with_reducible first|exact HB.out|apply below_alloc|apply pw_below_drewN|apply below_drew1|refine below_set ?_ GE122.out|refine below_set ?_ GE123.out)|exact HB.out)) hb);clear BK122;clear BK123;clear HB;have BK122:=n0_;have BK123:=n1_;have HB:=n2_;clear n0_ n1_ n2_;(try clear hb);(try clear hb2);(try clear hk);(try clear hi);have hcz46_0:w45.cell? ⟨gb122,0,none⟩=some (.int .i64 a0_0):=(blk_cell BK122.out 0).trans rfl;have hcz46_1:w45.cell? ⟨gb122,1,none⟩=some (.int .i64 a0_1):=(blk_cell BK122.out 1).trans rfl;have hcz46_2:w45.cell? ⟨gb122,2,none⟩=some (.slice A0_2 l0_2.length c0_2):=(blk_cell BK122.out 2).trans rfl;have hfz46_0:=blk_frozen BK122.out 0;have hfz46_1:=blk_frozen BK122.out 1;have hfz46_2:=blk_frozen BK122.out 2)|((with_reducible refine gate_callee (f:=87) rfl ?_);refine goesL_ (some 11) rfl rfl Try.func87 (by kernel_rfl) rfl #[.agg #[.int .i64 a0_0,.int .i64 a0_1,.slice A0_2 l0_2.length c0_2]] rfl (by (try simp only [List.map_toArray,List.map_cons,List.map_nil]);first|done|rfl|(simp only [List.length_drop,List.length_take];rfl)) ?_;(with_reducible refine (spec_l12Copy.calls a0_0 a0_1 _ _ l0_2 t125 t126 t127 _ ?side1 ?side2 A40.out).mono ?_);(case side1 => repeat (first|exact (Kd.C_below HR0_2.out HB.out)|(with_reducible refine Kd.C_alloc ?_ _)|(with_reducible refine Kd.C_drewN ?_ _)|(with_reducible refine Kd.C_drew ?_)));(case side2 => exact HC0_2.out);rintro e w47 ⟨v128,rfl,ho0,hb⟩;refine ⟨_,rfl,?_⟩;have n0_:=Am3_ (Kd.R_lower ho0 (below_size (by repeat (first|(with_reducible first|exact HB.out|apply below_alloc|apply pw_below_drewN|apply below_drew1|refine below_set ?_ GE122.out|refine below_set ?_ GE123.out)|exact HB.out))));have n1_:=Am3_ (blk_below (g:=gb122) (o:=.cells #[.int .i64 a0_0,.int .i64 a0_1,.slice A0_2 l0_2.length c0_2] 28 (0,0)) (by (with_reducible repeat (first|refine blk_drewN ?_ _|refine blk_drew ?_|refine blk_alloc ?_ _));exact BK122.out) hb);have n2_:=Am3_ (blk_below (g:=gb123) (o:=.cells #[.int .i64 0,.int .i64 0,.slice none 0 0] 28 (0,0)) (by (with_reducible repeat (first|refine blk_drewN ?_ _|refine blk_drew ?_|refine blk_alloc ?_ _));exact BK123.out) hb);have n3_:=Am3_ (below_step (by repeat (first|(with_reducible first|exact HB.out|apply below_alloc|apply pw_below_drewN|apply below_drew1|refine below_set ?_ GE122.out|refine below_set ?_ GE123.out)|exact HB.out)) hb);clear BK122;clear BK123;clear HB;have HO129:=n0_;have BK122:=n1_;have BK123:=n2_;have HB:=n3_;clear n0_ n1_ n2_ n3_;(try clear hb);(try clear hb2);(try clear hk);(try clear hi);(try clear ho0);have hcz48_0:w47.cell? ⟨gb123,0,none⟩=some (.int .i64 0):=(blk_cell BK123.out 0).trans rfl;have hcz48_1:w47.cell? ⟨gb123,1,none⟩=some (.int .i64 0):=(blk_cell BK123.out 1).trans rfl;have hcz48_2:w47.cell? ⟨gb123,2,none⟩=some (.slice none 0 0):=(blk_cell BK123.out 2).trans rfl;have hfz48_0:=blk_frozen BK123.out 0;have hfz48_1:=blk_frozen BK123.out 1;have hfz48_2:=blk_frozen BK123.out 2;obtain ⟨Ao49,co49,eo49⟩:=Kd.R_slice HO129.out;subst eo49))
  refine bodyPost_ret (results_cell_row rfl _ _ gb123 28 #[.int .i64 t125,.int .i64 t126,.slice Ao49 t127.length co49] (0,0) _ rfl (by (with_reducible repeat (first|refine blk_drewN ?_ _|refine blk_drew ?_|refine blk_alloc ?_ _));refine blk_put (cs:=#[.int .i64 t125,.int .i64 t126,.slice none 0 0]) ?_ 2 _ rfl;(with_reducible repeat (first|refine blk_drewN ?_ _|refine blk_drew ?_|refine blk_alloc ?_ _));refine blk_put (cs:=#[.int .i64 t125,.int .i64 0,.slice none 0 0]) ?_ 1 _ rfl;(with_reducible repeat (first|refine blk_drewN ?_ _|refine blk_drew ?_|refine blk_alloc ?_ _));refine blk_put (cs:=#[.int .i64 0,.int .i64 0,.slice none 0 0]) ?_ 0 _ rfl;(with_reducible repeat (first|refine blk_drewN ?_ _|refine blk_drew ?_|refine blk_alloc ?_ _));exact BK123.out) Try.underlying28 rfl (by kernel_rfl)) rfl ?_
  exact ⟨_,by first|rfl|(simp [errW_none,errW_some] <;> rfl)|(simp [*,errW_none,errW_some] <;> rfl),by (with_reducible repeat (first|apply Kd.R_alloc|apply Kd.R_drewN|apply Kd.R_drew));exact Kd.R_mono (Kd.R_far (p:=⟨gb123,2,none⟩) (Kd.R_far (p:=⟨gb123,1,none⟩) (Kd.R_far (p:=⟨gb123,0,none⟩) (Kd.R_types HO129.out BK123.out (by decide)) (fun _ hk => by first|exact hk.2|(revert hk;dsimp only;grind)|grind) (.int .i64 t125)) (fun _ hk => by first|exact hk.2|(revert hk;dsimp only;grind)|grind) (.int .i64 t126)) (fun _ hk => by first|exact hk.2|(revert hk;dsimp only;grind)|grind) (.slice Ao49 t127.length co49)) (fun _ hk => trivial),by repeat (first|(with_reducible first|exact HB.out|apply below_alloc|apply pw_below_drewN|apply below_drew1|refine below_set ?_ GE122.out|refine below_set ?_ GE123.out)|exact HB.out)⟩

/-! ### laws_toChallenge: function 148 -/
def laws_toChallenge.f (a0_0:Int) (a0_1:Int) (a0_2:Int):Option (Int × Int × Int):=some (a0_0,a0_1,a0_2)
set_option maxHeartbeats 8000000 in
set_option maxRecDepth 100000 in
theorem laws_toChallenge.calls (a0_0:Int) (a0_1:Int) (a0_2:Int) (r1:Int) (r2:Int) (r3:Int) (w:World) (h:laws_toChallenge.f a0_0 a0_1 a0_2=some (r1,r2,r3)) :
  Calls Try.prog 148 #[.agg #[.int .i64 a0_0,.int .i64 a0_1,.int .i64 a0_2]] w fun e w' => e=.returned (.agg #[.int .i64 r1,.int .i64 r2,.int .i64 r3])∧Below w.heap.size w w':=by
 have hu141:=Try.underlying141
 have hu35:=Try.underlying35
 have HB:=Am3_ (Below.refl w.heap.size w)
 have H:(some (a0_0,a0_1,a0_2))=some (r1,r2,r3):=h
 clear h
 simp only [Option.some.injEq,Prod.mk.injEq] at H
 obtain ⟨rfl,rfl,rfl⟩:=H
 go_enter Try.func148,Try.ntmps148
 go_wp2_with (first|((with_reducible refine gate_dst (N:=1) rfl ?_);refine box_event ?hg (N:=1) ?hd (cs:=#[.int .i64 a0_0,.int .i64 a0_1,.int .i64 a0_2]) (t:=141) ?hr ?_;(case hd => rfl);(case hg => rfl);(case hr => first|(go_simp;done)|(go_simp;rfl));intro gb139 hg w2 hbox hb;have n0_:=Am3_ (below_step (by repeat (first|(with_reducible first|exact HB.out|apply below_alloc|apply pw_below_drewN|apply below_drew1)|exact HB.out)) hb);have n1_:=Am3_ (hbox);have n2_:=Am3_ ((by rw [hg];exact (below_size (by repeat (first|(with_reducible first|exact HB.out|apply below_alloc|apply pw_below_drewN|apply below_drew1)|exact HB.out))):w.heap.size ≤ gb139));have n3_:=Am3_ ((by rw [hg];exact (below_size (by repeat (first|(with_reducible first|exact HB.out|apply below_alloc|apply pw_below_drewN|apply below_drew1)|exact HB.out))):w.heap.size ≤ gb139));clear HB;have HB:=n0_;have BK139:=n1_;have GW139:=n2_;have GE139:=n3_;clear n0_ n1_ n2_ n3_;clear hb hbox hg)|((with_reducible refine gate_dst (N:=2) rfl ?_);refine box_event ?hg (N:=2) ?hd (cs:=#[.int .i64 0,.int .i64 0,.int .i64 0]) (t:=35) ?hr ?_;(case hd => rfl);(case hg => rfl);(case hr => first|(go_simp;done)|(go_simp;rfl));intro gb140 hg w3 hbox hb;have n0_:=Am3_ (blk_below (g:=gb139) (o:=.cells #[.int .i64 a0_0,.int .i64 a0_1,.int .i64 a0_2] 141 (0,0)) (by (with_reducible repeat (first|refine blk_drewN ?_ _|refine blk_drew ?_|refine blk_alloc ?_ _));exact BK139.out) hb);have n1_:=Am3_ (below_step (by repeat (first|(with_reducible first|exact HB.out|apply below_alloc|apply pw_below_drewN|apply below_drew1|refine below_set ?_ GE139.out)|exact HB.out)) hb);have n2_:=Am3_ (hbox);have n3_:=Am3_ ((by rw [hg];exact (below_size (by repeat (first|(with_reducible first|exact HB.out|apply below_alloc|apply pw_below_drewN|apply below_drew1|refine below_set ?_ GE139.out)|exact HB.out))):w.heap.size ≤ gb140));have n4_:=Am3_ ((by rw [hg];exact (below_size (by repeat (first|(with_reducible first|exact HB.out|apply below_alloc|apply pw_below_drewN|apply below_drew1|refine below_set ?_ GE139.out)|exact HB.out))):w.heap.size ≤ gb140));have n5_:=Am3_ ((by rw [hg];exact Nat.ne_of_lt (blk_lt (g:=gb139) (o:=.cells #[.int .i64 a0_0,.int .i64 a0_1,.int .i64 a0_2] 141 (0,0)) (by (with_reducible repeat (first|refine blk_drewN ?_ _|refine blk_drew ?_|refine blk_alloc ?_ _));exact BK139.out)):gb139 ≠ gb140));have n6_:=Am3_ ((by rw [hg];exact Nat.ne_of_gt (blk_lt (g:=gb139) (o:=.cells #[.int .i64 a0_0,.int .i64 a0_1,.int .i64 a0_2] 141 (0,0)) (by (with_reducible repeat (first|refine blk_drewN ?_ _|refine blk_drew ?_|refine blk_alloc ?_ _));exact BK139.out)):gb140 ≠ gb139));clear BK139;clear HB;have BK139:=n0_;have HB:=n1_;have BK140:=n2_;have GW140:=n3_;have GE140:=n4_;have NB139_140:=n5_;have NB140_139:=n6_;clear n0_ n1_ n2_ n3_ n4_ n5_ n6_;clear hb hbox hg)|((with_reducible refine gate_dst (N:=3) rfl ?_);refine box_event ?hg (N:=3) ?hd (cs:=#[.int .i64 0,.int .i64 0,.int .i64 0]) (t:=35) ?hr ?_;(case hd => rfl);(case hg => rfl);(case hr => first|(go_simp;done)|(go_simp;rfl));intro gb141 hg w4 hbox hb;have n0_:=Am3_ (blk_below (g:=gb139) (o:=.cells #[.int .i64 a0_0,.int .i64 a0_1,.int .i64 a0_2] 141 (0,0)) (by (with_reducible repeat (first|refine blk_drewN ?_ _|refine blk_drew ?_|refine blk_alloc ?_ _));exact BK139.out) hb);have n1_:=Am3_ (blk_below (g:=gb140) (o:=.cells #[.int .i64 0,.int .i64 0,.int .i64 0] 35 (0,0)) (by (with_reducible repeat (first|refine blk_drewN ?_ _|refine blk_drew ?_|refine blk_alloc ?_ _));exact BK140.out) hb);have n2_:=Am3_ (below_step (by repeat (first|(with_reducible first|exact HB.out|apply below_alloc|apply pw_below_drewN|apply below_drew1|refine below_set ?_ GE139.out|refine below_set ?_ GE140.out)|exact HB.out)) hb);have n3_:=Am3_ (hbox);have n4_:=Am3_ ((by rw [hg];exact (below_size (by repeat (first|(with_reducible first|exact HB.out|apply below_alloc|apply pw_below_drewN|apply below_drew1|refine below_set ?_ GE139.out|refine below_set ?_ GE140.out)|exact HB.out))):w.heap.size ≤ gb141));have n5_:=Am3_ ((by rw [hg];exact (below_size (by repeat (first|(with_reducible first|exact HB.out|apply below_alloc|apply pw_below_drewN|apply below_drew1|refine below_set ?_ GE139.out|refine below_set ?_ GE140.out)|exact HB.out))):w.heap.size ≤ gb141));have n6_:=Am3_ ((by rw [hg];exact Nat.ne_of_lt (blk_lt (g:=gb139) (o:=.cells #[.int .i64 a0_0,.int .i64 a0_1,.int .i64 a0_2] 141 (0,0)) (by (with_reducible repeat (first|refine blk_drewN ?_ _|refine blk_drew ?_|refine blk_alloc ?_ _));exact BK139.out)):gb139 ≠ gb141));have n7_:=Am3_ ((by rw [hg];exact Nat.ne_of_gt (blk_lt (g:=gb139) (o:=.cells #[.int .i64 a0_0,.int .i64 a0_1,.int .i64 a0_2] 141 (0,0)) (by (with_reducible repeat (first|refine blk_drewN ?_ _|refine blk_drew ?_|refine blk_alloc ?_ _));exact BK139.out)):gb141 ≠ gb139));have n8_:=Am3_ ((by rw [hg];exact Nat.ne_of_lt (blk_lt (g:=gb140) (o:=.cells #[.int .i64 0,.int .i64 0,.int .i64 0] 35 (0,0)) (by (with_reducible repeat (first|refine blk_drewN ?_ _|refine blk_drew ?_|refine blk_alloc ?_ _));exact BK140.out)):gb140 ≠ gb141));have n9_:=Am3_ ((by rw [hg];exact Nat.ne_of_gt (blk_lt (g:=gb140) (o:=.cells #[.int .i64 0,.int .i64 0,.int .i64 0] 35 (0,0)) (by (with_reducible repeat (first|refine blk_drewN ?_ _|refine blk_drew ?_|refine blk_alloc ?_ _));exact BK140.out)):gb141 ≠ gb140));clear BK139;clear BK140;clear HB;have BK139:=n0_;have BK140:=n1_;have HB:=n2_;have BK141:=n3_;have GW141:=n4_;have GE141:=n5_;have NB139_141:=n6_;have NB141_139:=n7_;have NB140_141:=n8_;have NB141_140:=n9_;clear n0_ n1_ n2_ n3_ n4_ n5_ n6_ n7_ n8_ n9_;clear hb hbox hg;have hnb5:=NB139_140.out;have hnc5:=NB140_139.out;have hnb6:=NB139_141.out;have hnc6:=NB141_139.out;have hcz7_0:w4.cell? ⟨gb139,0,none⟩=some (.int .i64 a0_0):=(blk_cell BK139.out 0).trans rfl;have hcz7_1:w4.cell? ⟨gb139,1,none⟩=some (.int .i64 a0_1):=(blk_cell BK139.out 1).trans rfl;have hcz7_2:w4.cell? ⟨gb139,2,none⟩=some (.int .i64 a0_2):=(blk_cell BK139.out 2).trans rfl;have hfz7_0:=blk_frozen BK139.out 0;have hfz7_1:=blk_frozen BK139.out 1;have hfz7_2:=blk_frozen BK139.out 2;have hnb8:=NB141_140.out;have hnc8:=NB140_141.out;have hcz9_0:w4.cell? ⟨gb141,0,none⟩=some (.int .i64 0):=(blk_cell BK141.out 0).trans rfl;have hcz9_1:w4.cell? ⟨gb141,1,none⟩=some (.int .i64 0):=(blk_cell BK141.out 1).trans rfl;have hcz9_2:w4.cell? ⟨gb141,2,none⟩=some (.int .i64 0):=(blk_cell BK141.out 2).trans rfl;have hfz9_0:=blk_frozen BK141.out 0;have hfz9_1:=blk_frozen BK141.out 1;have hfz9_2:=blk_frozen BK141.out 2;have hcz10_0:w4.cell? ⟨gb140,0,none⟩=some (.int .i64 0):=(blk_cell BK140.out 0).trans rfl;have hcz10_1:w4.cell? ⟨gb140,1,none⟩=some (.int .i64 0):=(blk_cell BK140.out 1).trans rfl;have hcz10_2:w4.cell? ⟨gb140,2,none⟩=some (.int .i64 0):=(blk_cell BK140.out 2).trans rfl;have hfz10_0:=blk_frozen BK140.out 0;have hfz10_1:=blk_frozen BK140.out 1;have hfz10_2:=blk_frozen BK140.out 2))
 refine bodyPost_ret (results_cell_row rfl _ _ gb140 35 #[.int .i64 a0_0,.int .i64 a0_1,.int .i64 a0_2] (0,0) _ rfl (by (with_reducible repeat (first|refine blk_drewN ?_ _|refine blk_drew ?_|refine blk_alloc ?_ _));refine blk_put (cs:=#[.int .i64 a0_0,.int .i64 a0_1,.int .i64 0]) ?_ 2 _ rfl;(with_reducible repeat (first|refine blk_drewN ?_ _|refine blk_drew ?_|refine blk_alloc ?_ _));refine blk_put (cs:=#[.int .i64 a0_0,.int .i64 0,.int .i64 0]) ?_ 1 _ rfl;(with_reducible repeat (first|refine blk_drewN ?_ _|refine blk_drew ?_|refine blk_alloc ?_ _));refine blk_put (cs:=#[.int .i64 0,.int .i64 0,.int .i64 0]) ?_ 0 _ rfl;(with_reducible repeat (first|refine blk_drewN ?_ _|refine blk_drew ?_|refine blk_alloc ?_ _));refine blk_far ?_ NB140_141.out _;(with_reducible repeat (first|refine blk_drewN ?_ _|refine blk_drew ?_|refine blk_alloc ?_ _));refine blk_far ?_ NB140_141.out _;(with_reducible repeat (first|refine blk_drewN ?_ _|refine blk_drew ?_|refine blk_alloc ?_ _));refine blk_far ?_ NB140_141.out _;(with_reducible repeat (first|refine blk_drewN ?_ _|refine blk_drew ?_|refine blk_alloc ?_ _));exact BK140.out) Try.underlying35 rfl (by kernel_rfl)) rfl ?_
 exact ⟨by first|rfl|(simp [errW_none,errW_some] <;> rfl)|(simp [*,errW_none,errW_some] <;> rfl),by repeat (first|(with_reducible first|exact HB.out|apply below_alloc|apply pw_below_drewN|apply below_drew1|refine below_set ?_ GE139.out|refine below_set ?_ GE140.out|refine below_set ?_ GE141.out)|exact HB.out)⟩

/-! ### laws_toChallengeS: function 88 -/
def laws_toChallengeS.l0:Nat → List (S141) → List (S35) → Int → Option ((List (S35)))
|0,_,_,_ => none
|k + 1,x0,x3,x4 => if x4 < (x0.length:Int) then (if 0 ≤ x4 then ((laws_toChallenge.f ((rd_T141 x0 x4).f0) ((rd_T141 x0 x4).f1) ((rd_T141 x0 x4).f2)).bind fun bt146 => (if x4 < (x3.length:Int) then (laws_toChallengeS.l0 k x0 (x3.set (x4:Int).toNat (⟨bt146.1,bt146.2.1,bt146.2.2⟩:S35)) (wrap64 (x4 + 1))) else (none))) else (none)) else (some x3)
def laws_toChallengeS.f (k:Nat) (l0:List (S141)):Option ((List (S35))):=if 0 ≤ (l0.length:Int) then (if ((l0.length:Int):Int).toNat ≤ 11728124029610 then (laws_toChallengeS.l0 k l0 (List.replicate ((l0.length:Int):Int).toNat z35) 0) else (none)) else (none)
theorem laws_toChallengeS.mono_l:∀ k,(∀ y0 y1 y2,LeO (laws_toChallengeS.l0 k y0 y1 y2) (laws_toChallengeS.l0 (k + 1) y0 y1 y2))
|0 => fun _ _ _ r h => by simp [laws_toChallengeS.l0] at h
|k + 1 => by
  have ih0:=laws_toChallengeS.mono_l k
  ·intro y0 y1 y2
   unfold laws_toChallengeS.l0
   repeat' first
  |(with_reducible exact ih0 _ _ _)
  |(with_reducible exact LeO.refl _)
  |(with_reducible exact LeO.none _)
  |(with_reducible refine LeO.ite ?_ ?_)
  |(with_reducible refine LeO.bind ?_ (fun _ => ?_))
  |exact ih0 _ _ _
  |exact LeO.none _
  |refine LeO.ite ?_ ?_
  |refine LeO.bind ?_ (fun _ => ?_)
theorem laws_toChallengeS.mono:∀ a0 k,LeO (laws_toChallengeS.f k a0) (laws_toChallengeS.f (k + 1) a0):=by
 intro a0 k
 have ih0:=laws_toChallengeS.mono_l k
 unfold laws_toChallengeS.f
 repeat' first
  |(with_reducible exact ih0 _ _ _)
  |(with_reducible exact LeO.refl _)
  |(with_reducible exact LeO.none _)
  |(with_reducible refine LeO.ite ?_ ?_)
  |(with_reducible refine LeO.bind ?_ (fun _ => ?_))
  |exact ih0 _ _ _
  |exact LeO.none _
  |refine LeO.ite ?_ ?_
  |refine LeO.bind ?_ (fun _ => ?_)
set_option maxHeartbeats 8000000 in
set_option maxRecDepth 100000 in
theorem laws_toChallengeS.calls (k:Nat) (A0:Option Addr) (c0:Nat) (l0:List (S141)) (r:List (S35)) (w:World) (hr0:Kd.C k141 w A0 l0.length l0) (hc0:l0.length ≤ c0) (h:laws_toChallengeS.f k l0=some r) :
  Calls Try.prog 88 #[.slice A0 l0.length c0] w fun e w' => ∃ v0_:Value,e=.returned (v0_)∧Kd.R k35 35 w' w.heap.size (fun _ => True) v0_ r∧Below w.heap.size w w':=by
 have hu141:=Try.underlying141
 have hu35:=Try.underlying35
 have HR0:=Am3_ hr0
 have HC0:=Am3_ hc0
 clear hr0 hc0
 have HB:=Am3_ (Below.refl w.heap.size w)
 have H:(if 0 ≤ (l0.length:Int) then (if ((l0.length:Int):Int).toNat ≤ 11728124029610 then (laws_toChallengeS.l0 k l0 (List.replicate ((l0.length:Int):Int).toNat z35) 0) else (none)) else (none))=some r:=h
 clear h
 by_cases c2:0 ≤ (l0.length:Int)
 ·rw [if_pos c2] at H
  have c2b0:=eq_true c2
  have c2b1:decide (0 ≤ (l0.length:Int))=true:=decide_eq_true c2
  clear c2
  by_cases c3:((l0.length:Int):Int).toNat ≤ 11728124029610
  ·rw [if_pos c3] at H
   have c3b0:=eq_true c3
   have c3b1:decide (((l0.length:Int):Int).toNat ≤ 11728124029610)=true:=decide_eq_true c3
   clear c3
   obtain ⟨y142,hy142⟩:∃ y_:List (S35),y_=(List.replicate ((l0.length:Int):Int).toNat z35):=⟨_,rfl⟩
   replace H:(laws_toChallengeS.l0 k l0 y142 0)=some r:=by first|(rw [hy142];with_reducible exact H)|(have H2_:=(Option.bind_some _ _).symm.trans H;rw [hy142];with_reducible exact H2_)|(have H2_:=(Option.bind_some _ _).symm.trans H;with_reducible exact H2_)|with_reducible exact H|(rw [hy142];exact H)|exact H
   have Ny142:=Am3_ hy142
   clear hy142
   have H':=Am3_ H
   clear H
   go_enter Try.func88,Try.ntmps88
   go_wp2_with (first|((with_reducible refine gate_dst (N:=7) rfl ?_);refine Kd.R_make k35 _ 35 rfl (N:=7) rfl 26 _ _ rfl (l0.length:Int) rfl rfl Try.underlying26 (.agg #[(.int .i64 0),(.int .i64 0),(.int .i64 0)]) 24 info35 rfl (by decide) (by omega) z35 (ok:=fun _ => True) (okp:=fun _ => True) (k35_mkM _ _ _ z35 ) (fun _ hk => by first|exact hk|(revert hk;dsimp only;grind)|grind) trivial (of_decide_eq_true (by first|(with_reducible assumption)|assumption)) (Nat.le_trans (Nat.mul_le_mul_right _ (of_decide_eq_true (by first|(with_reducible assumption)|assumption):(l0.length:Int).toNat ≤ 11728124029610)) (by omega)) (Below.refl _ _) (Nat.le_refl _) ?_;intro v143 w4 ho5 hb hg_ hnew_;clear hg_ hnew_;(first|rw [← Ny142.out] at ho5|(simp only [Int.reduceToNat] at ho5;rw [← Ny142.out] at ho5));have n0_:=Am3_ (Kd.R_lower ho5 (below_size (by repeat (first|(with_reducible first|exact HB.out|apply below_alloc|apply pw_below_drewN|apply below_drew1)|exact HB.out))));have n1_:=Am3_ (below_step (by repeat (first|(with_reducible first|exact HB.out|apply below_alloc|apply pw_below_drewN|apply below_drew1)|exact HB.out)) hb);clear HB;have HO144:=n0_;have HB:=n1_;clear n0_ n1_;clear hb ho5))
   go_loopg [4] k (fun kq v4 w' => ∃ (x3_1:List (S35)) (x4_1:Int),v4=.int .i64 x4_1∧Aside0 (laws_toChallengeS.l0 kq l0 x3_1 x4_1=some r)∧Aside0 (kq ≤ k)∧Aside0 (Kd.R k35 35 w' w.heap.size (fun _ => True) v143 x3_1)∧Aside0 (Below w.heap.size w w'))
   case atStart => exact ⟨(y142),(0),(by first|rfl|(simp;done)|(simp [*];done)),H',⟨Nat.le_refl _⟩,⟨by (with_reducible repeat (first|apply Kd.R_alloc|apply Kd.R_drewN|apply Kd.R_drew));exact HO144.out⟩,⟨by repeat (first|(with_reducible first|exact HB.out|apply below_alloc|apply pw_below_drewN|apply below_drew1)|exact HB.out)⟩⟩
   case round =>
    clear H'
    try clear c2
    try clear c2b0
    try clear c2b1
    try clear p2
    try clear c3
    try clear c3b0
    try clear c3b1
    try clear HO_3
    obtain ⟨x3_1,x4_1,rfl,HA,HK1,HO_3,HB⟩:=hrel
    cases gk with
   |zero => exact absurd HA.out (by simp [laws_toChallengeS.l0])
   |succ k1 =>
     have H:=HA.out
     clear HA
     simp only [laws_toChallengeS.l0] at H
     by_cases c6:x4_1 < (l0.length:Int)
     ·rw [if_pos c6] at H
      have c6b0:decide (x4_1 < (l0.length:Int))=true:=decide_eq_true c6
      clear c6
      by_cases c7:0 ≤ x4_1
      ·rw [if_pos c7] at H
       have c7b0:decide (0 ≤ x4_1)=true:=decide_eq_true c7
       clear c7
       replace H:=Option.bind_eq_some_iff.mp H
       obtain ⟨⟨t146,t147,t148⟩,A80,H⟩:=H
       replace H:(if x4_1 < (x3_1.length:Int) then (laws_toChallengeS.l0 k1 l0 (x3_1.set (x4_1:Int).toNat (⟨t146,t147,t148⟩:S35)) (wrap64 (x4_1 + 1))) else (none))=some r:=H
       have A8:=Am3_ A80
       clear A80
       by_cases c9:x4_1 < (x3_1.length:Int)
       ·rw [if_pos c9] at H
        have c9b0:decide (x4_1 < (x3_1.length:Int))=true:=decide_eq_true c9
        clear c9
        obtain ⟨y149,hy149⟩:∃ y_:List (S35),y_=(x3_1.set (x4_1:Int).toNat (⟨t146,t147,t148⟩:S35)):=⟨_,rfl⟩
        replace H:(laws_toChallengeS.l0 k1 l0 y149 (wrap64 (x4_1 + 1)))=some r:=by first|(rw [hy149];with_reducible exact H)|(have H2_:=(Option.bind_some _ _).symm.trans H;rw [hy149];with_reducible exact H2_)|(have H2_:=(Option.bind_some _ _).symm.trans H;with_reducible exact H2_)|with_reducible exact H|(rw [hy149];exact H)|exact H
        have Ny149:=Am3_ hy149
        clear hy149
        have H':=Am3_ H
        clear H
        have p145:0 ≤ (x4_1:Int):=of_decide_eq_true (by first|(with_reducible assumption)|assumption)
        have q145:x4_1 < (l0.length:Int):=of_decide_eq_true (by first|(with_reducible assumption)|assumption)
        obtain ⟨ad145,e145,hx145_0,hx145_1,hx145_2⟩:=at_T141 HR0.out x4_1 p145 q145
        cases e145
        replace hx145_0:=(HB.out.cell (World.block_lt_of_cell? w _ hx145_0)).trans hx145_0
        replace hx145_1:=(HB.out.cell (World.block_lt_of_cell? w _ hx145_1)).trans hx145_1
        replace hx145_2:=(HB.out.cell (World.block_lt_of_cell? w _ hx145_2)).trans hx145_2
        replace p145:=eq_true p145
        replace q145:=eq_true q145
        go_wp2_with (first|((with_reducible refine gate_callee (f:=148) rfl ?_);refine goesL_ (some 20) rfl rfl Try.func148 (by kernel_rfl) rfl #[.agg #[.int .i64 ((rd_T141 l0 x4_1).f0),.int .i64 ((rd_T141 l0 x4_1).f1),.int .i64 ((rd_T141 l0 x4_1).f2)]] rfl (by (try simp only [List.map_toArray,List.map_cons,List.map_nil]);first|done|rfl|(simp only [List.length_drop,List.length_take];rfl)) ?_;(with_reducible refine (laws_toChallenge.calls ((rd_T141 l0 x4_1).f0) ((rd_T141 l0 x4_1).f1) ((rd_T141 l0 x4_1).f2) t146 t147 t148 _ A8.out).mono ?_);rintro e w11 ⟨rfl,hb⟩;refine ⟨_,rfl,?_⟩;have n0_:=Am3_ (Kd.R_below (by (with_reducible repeat (first|apply Kd.R_alloc|apply Kd.R_drewN|apply Kd.R_drew));exact HO_3.out) hb);have n1_:=Am3_ (below_step (by repeat (first|(with_reducible first|exact HB.out|apply below_alloc|apply pw_below_drewN|apply below_drew1)|exact HB.out)) hb);clear HO_3;clear HB;have HO_3:=n0_;have HB:=n1_;clear n0_ n1_;(try clear hb);(try clear hb2);(try clear hk);(try clear hi);have p10:0 ≤ (x4_1:Int):=of_decide_eq_true (by first|(with_reducible assumption)|assumption);have q10:(x4_1:Int) < ((x3_1.length:Int):Int):=of_decide_eq_true (by first|(with_reducible assumption)|assumption);obtain ⟨go10,co10,eo10,gb10,gl10,cl10,HG10⟩:=Kd.R_form HO_3.out (by omega);(first|cases eo10|(injection eo10 with ea_ en_ ec_;(first|subst ea_|(injection ea_ with ea_;subst ea_));subst ec_;clear en_));have GB10:=Am3_ gb10;have GG10:=Am3_ HG10;clear gb10 gl10 HG10;obtain ⟨ce10,hcl10,hM10,hcc10,hfr10⟩:=Kd.R_elem HO_3.out z35 (x4_1:Int) p10 q10;obtain rfl:=k35_openM hM10;have hx10_0:w11.cell? ⟨go10,(x4_1:Int).toNat * 3,none⟩=some (.int .i64 ((rd_T35 x3_1 x4_1).f0)):=hcc10 0 _ rfl;have hx10_1:w11.cell? ⟨go10,(x4_1:Int).toNat * 3 + 1,none⟩=some (.int .i64 ((rd_T35 x3_1 x4_1).f1)):=hcc10 1 _ rfl;have hx10_2:w11.cell? ⟨go10,(x4_1:Int).toNat * 3 + 2,none⟩=some (.int .i64 ((rd_T35 x3_1 x4_1).f2)):=hcc10 2 _ rfl;have hf10_0:w11.frozen? ⟨go10,(x4_1:Int).toNat * 3,none⟩=false:=hfr10 0;have hf10_1:w11.frozen? ⟨go10,(x4_1:Int).toNat * 3 + 1,none⟩=false:=hfr10 1;have hf10_2:w11.frozen? ⟨go10,(x4_1:Int).toNat * 3 + 2,none⟩=false:=hfr10 2;clear hcl10 hcc10 hfr10 hM10;replace p10:=eq_true p10;replace q10:=eq_true q10;have HX12:=Am3_ (show Kd.R k35 35 w11 w.heap.size (fun _ => True) (.slice (some ⟨go10,0,none⟩) x3_1.length co10) x3_1 from (by (with_reducible repeat (first|apply Kd.R_alloc|apply Kd.R_drewN|apply Kd.R_drew));exact HO_3.out));obtain ⟨ce12,hcl12,hM12,hcc12,hfr12⟩:=Kd.R_elem HX12.out z35 (x4_1:Int) (of_decide_eq_true (by first|(with_reducible assumption)|assumption)) (by have h_:(x4_1:Int) < ((x3_1.length:Int):Int):=of_decide_eq_true (by first|(with_reducible assumption)|assumption);first|exact h_|(have e_:=(Kd.R_reads' HO_3.out).1;omega)|simpa using h_);obtain rfl:=k35_openM hM12;have HP12:=Kd.R_seg HX12.out (x4_1:Int) (of_decide_eq_true (by first|(with_reducible assumption)|assumption)) (by have h_:(x4_1:Int) < ((x3_1.length:Int):Int):=of_decide_eq_true (by first|(with_reducible assumption)|assumption);first|exact h_|(have e_:=(Kd.R_reads' HO_3.out).1;omega)|simpa using h_) (seg:=[.int .i64 t146,.int .i64 t147,.int .i64 t148]) (j:=0) hcl12 hcc12 (show 3 ≤ 3 from by decide) (x':=(⟨t146,t147,t148⟩:S35)) (k35_mkM _ _ _ (⟨t146,t147,t148⟩:S35) ) (fun _ hk => by first|exact hk|(revert hk;dsimp only;grind)|grind);have hx12_0:=hcc12 0 _ rfl;(try simp only [show (k35).sz=3 from rfl,Nat.mul_one,Nat.add_zero] at hx12_0);have hf12_0:=hfr12 0;(try simp only [show (k35).sz=3 from rfl,Nat.mul_one,Nat.add_zero] at hf12_0);have hx12_1:=hcc12 1 _ rfl;(try simp only [show (k35).sz=3 from rfl,Nat.mul_one,Nat.add_zero] at hx12_1);have hf12_1:=hfr12 1;(try simp only [show (k35).sz=3 from rfl,Nat.mul_one,Nat.add_zero] at hf12_1);have hx12_2:=hcc12 2 _ rfl;(try simp only [show (k35).sz=3 from rfl,Nat.mul_one,Nat.add_zero] at hx12_2);have hf12_2:=hfr12 2;(try simp only [show (k35).sz=3 from rfl,Nat.mul_one,Nat.add_zero] at hf12_2);clear hcl12 hcc12 hfr12 hM12)|((with_reducible refine gate_store (t:=35) (p:=21) rfl ?_);refine store_event (t:=35) (p:=21) (v:=?vo_w13) (w1:=(((w11.setCell ⟨go10,(x4_1:Int).toNat * 3,none⟩ (.int .i64 t146)).setCell ⟨go10,(x4_1:Int).toNat * 3 + 1,none⟩ (.int .i64 t147)).setCell ⟨go10,(x4_1:Int).toNat * 3 + 2,none⟩ (.int .i64 t148))) ?hg ?ho ?hn ?hr ?_;(case ho => rfl);(case hg => rfl);(case hn => rfl);(case hr => first|(go_simp;done)|(go_simp;rfl));intro w13 hw;have hg:w11.grownBy w13 (some go10):=(by rw [hw];exact HP12.2);have hp_:Kd.R k35 35 w13 w.heap.size (fun _ => True) (.slice (some ⟨go10,0,none⟩) x3_1.length co10) y149:=(by rw [hw,Ny149.out];exact HP12.1);clear HP12;have n0_:=Am3_ (hp_);have n1_:=Am3_ ((by rw [hw];exact below_set (below_set (below_set (HB.out) GB10.out) GB10.out) GB10.out:Below w.heap.size w w13));clear HO_3;clear HB;have HO_3:=n0_;have HB:=n1_;clear n0_ n1_;clear hg hw hp_))
        go_roundg k1
        case measure => have:=HK1.out;omega
        case rel => exact ⟨(y149),(wrap64 (x4_1 + 1)),(by first|rfl|(simp;done)|(simp [*];done)),H',⟨by have:=HK1.out;omega⟩,⟨by (with_reducible repeat (first|apply Kd.R_alloc|apply Kd.R_drewN|apply Kd.R_drew));exact HO_3.out⟩,⟨by repeat (first|(with_reducible first|exact HB.out|apply below_alloc|apply pw_below_drewN|apply below_drew1)|exact HB.out)⟩⟩
       ·rw [if_neg c9] at H
        exact absurd H (by simp)
      ·rw [if_neg c7] at H
       exact absurd H (by simp)
     ·rw [if_neg c6] at H
      have c6b0:decide (x4_1 < (l0.length:Int))=false:=decide_eq_false c6
      clear c6
      obtain rfl:=Option.some.inj H
      go_wp2
      go_ret
      exact ⟨_,by first|rfl|(simp [errW_none,errW_some] <;> rfl)|(simp [*,errW_none,errW_some] <;> rfl),by (with_reducible repeat (first|apply Kd.R_alloc|apply Kd.R_drewN|apply Kd.R_drew));exact HO_3.out,by repeat (first|(with_reducible first|exact HB.out|apply below_alloc|apply pw_below_drewN|apply below_drew1)|exact HB.out)⟩
  ·rw [if_neg c3] at H
   exact absurd H (by simp)
 ·rw [if_neg c2] at H
  exact absurd H (by simp)

/-! ### laws_toChallengeBook: function 17 -/
def laws_toChallengeBook.f (k:Nat) (a0_0:Int) (a0_1:Int) (l0_2:List (S141)):Option (Int × Int × (List (S35))):=(laws_toChallengeS.f k l0_2).bind fun t153 => (some (a0_0,a0_1,t153))
theorem laws_toChallengeBook.mono:∀ a0 a1 a2 k,LeO (laws_toChallengeBook.f k a0 a1 a2) (laws_toChallengeBook.f (k + 1) a0 a1 a2):=by
 intro a0 a1 a2 k
 unfold laws_toChallengeBook.f
 repeat' first
  |(with_reducible exact laws_toChallengeS.mono _ _)
  |(with_reducible exact LeO.refl _)
  |(with_reducible exact LeO.none _)
  |(with_reducible refine LeO.ite ?_ ?_)
  |(with_reducible refine LeO.bind ?_ (fun _ => ?_))
  |exact laws_toChallengeS.mono _ _
  |exact LeO.none _
  |refine LeO.ite ?_ ?_
  |refine LeO.bind ?_ (fun _ => ?_)
set_option maxHeartbeats 8000000 in
set_option maxRecDepth 100000 in
theorem laws_toChallengeBook.calls (k:Nat) (a0_0:Int) (a0_1:Int) (A0_2:Option Addr) (c0_2:Nat) (l0_2:List (S141)) (r1:Int) (r2:Int) (r3:List (S35)) (w:World) (hr0_2:Kd.C k141 w A0_2 l0_2.length l0_2) (hc0_2:l0_2.length ≤ c0_2) (h:laws_toChallengeBook.f k a0_0 a0_1 l0_2=some (r1,r2,r3)) :
  Calls Try.prog 17 #[.agg #[.int .i64 a0_0,.int .i64 a0_1,.slice A0_2 l0_2.length c0_2]] w fun e w' => ∃ v2_:Value,e=.returned (.agg #[.int .i64 r1,.int .i64 r2,v2_])∧Kd.R k35 35 w' w.heap.size (fun _ => True) v2_ r3∧Below w.heap.size w w':=by
 have hu24:=Try.underlying24
 have hu28:=Try.underlying28
 have HR0_2:=Am3_ hr0_2
 have HC0_2:=Am3_ hc0_2
 clear hr0_2 hc0_2
 have HB:=Am3_ (Below.refl w.heap.size w)
 have H:((laws_toChallengeS.f k l0_2).bind fun t153 => (some (a0_0,a0_1,t153)))=some (r1,r2,r3):=h
 clear h
 replace H:=Option.bind_eq_some_iff.mp H
 obtain ⟨t153,A20,H⟩:=H
 replace H:(some (a0_0,a0_1,t153))=some (r1,r2,r3):=H
 have A2:=Am3_ A20
 clear A20
 simp only [Option.some.injEq,Prod.mk.injEq] at H
 obtain ⟨rfl,rfl,rfl⟩:=H
 go_enter Try.func17,Try.ntmps17
 go_wp2_with (first|((with_reducible refine gate_dst (N:=1) rfl ?_);refine box_event ?hg (N:=1) ?hd (cs:=#[.int .i64 a0_0,.int .i64 a0_1,.slice A0_2 l0_2.length c0_2]) (t:=24) ?hr ?_;(case hd => rfl);(case hg => rfl);(case hr => first|(go_simp;done)|(go_simp;rfl));intro gb150 hg w3 hbox hb;have n0_:=Am3_ (below_step (by repeat (first|(with_reducible first|exact HB.out|apply below_alloc|apply pw_below_drewN|apply below_drew1)|exact HB.out)) hb);have n1_:=Am3_ (hbox);have n2_:=Am3_ ((by rw [hg];exact (below_size (by repeat (first|(with_reducible first|exact HB.out|apply below_alloc|apply pw_below_drewN|apply below_drew1)|exact HB.out))):w.heap.size ≤ gb150));have n3_:=Am3_ ((by rw [hg];exact (below_size (by repeat (first|(with_reducible first|exact HB.out|apply below_alloc|apply pw_below_drewN|apply below_drew1)|exact HB.out))):w.heap.size ≤ gb150));clear HB;have HB:=n0_;have BK150:=n1_;have GW150:=n2_;have GE150:=n3_;clear n0_ n1_ n2_ n3_;clear hb hbox hg)|((with_reducible refine gate_dst (N:=2) rfl ?_);refine box_event ?hg (N:=2) ?hd (cs:=#[.int .i64 0,.int .i64 0,.slice none 0 0]) (t:=28) ?hr ?_;(case hd => rfl);(case hg => rfl);(case hr => first|(go_simp;done)|(go_simp;rfl));intro gb151 hg w4 hbox hb;have n0_:=Am3_ (blk_below (g:=gb150) (o:=.cells #[.int .i64 a0_0,.int .i64 a0_1,.slice A0_2 l0_2.length c0_2] 24 (0,0)) (by (with_reducible repeat (first|refine blk_drewN ?_ _|refine blk_drew ?_|refine blk_alloc ?_ _));exact BK150.out) hb);have n1_:=Am3_ (below_step (by repeat (first|(with_reducible first|exact HB.out|apply below_alloc|apply pw_below_drewN|apply below_drew1|refine below_set ?_ GE150.out)|exact HB.out)) hb);have n2_:=Am3_ (hbox);have n3_:=Am3_ ((by rw [hg];exact (below_size (by repeat (first|(with_reducible first|exact HB.out|apply below_alloc|apply pw_below_drewN|apply below_drew1|refine below_set ?_ GE150.out)|exact HB.out))):w.heap.size ≤ gb151));have n4_:=Am3_ ((by rw [hg];exact (below_size (by repeat (first|(with_reducible first|exact HB.out|apply below_alloc|apply pw_below_drewN|apply below_drew1|refine below_set ?_ GE150.out)|exact HB.out))):w.heap.size ≤ gb151));have n5_:=Am3_ ((by rw [hg];exact Nat.ne_of_lt (blk_lt (g:=gb150) (o:=.cells #[.int .i64 a0_0,.int .i64 a0_1,.slice A0_2 l0_2.length c0_2] 24 (0,0)) (by (with_reducible repeat (first|refine blk_drewN ?_ _|refine blk_drew ?_|refine blk_alloc ?_ _));exact BK150.out)):gb150 ≠ gb151));have n6_:=Am3_ ((by rw [hg];exact Nat.ne_of_gt (blk_lt (g:=gb150) (o:=.cells #[.int .i64 a0_0,.int .i64 a0_1,.slice A0_2 l0_2.length c0_2] 24 (0,0)) (by (with_reducible repeat (first|refine blk_drewN ?_ _|refine blk_drew ?_|refine blk_alloc ?_ _));exact BK150.out)):gb151 ≠ gb150));clear BK150;clear HB;have BK150:=n0_;have HB:=n1_;have BK151:=n2_;have GW151:=n3_;have GE151:=n4_;have NB150_151:=n5_;have NB151_150:=n6_;clear n0_ n1_ n2_ n3_ n4_ n5_ n6_;clear hb hbox hg)|((with_reducible refine gate_dst (N:=3) rfl ?_);refine box_event ?hg (N:=3) ?hd (cs:=#[.int .i64 0,.int .i64 0,.slice none 0 0]) (t:=28) ?hr ?_;(case hd => rfl);(case hg => rfl);(case hr => first|(go_simp;done)|(go_simp;rfl));intro gb152 hg w5 hbox hb;have n0_:=Am3_ (blk_below (g:=gb150) (o:=.cells #[.int .i64 a0_0,.int .i64 a0_1,.slice A0_2 l0_2.length c0_2] 24 (0,0)) (by (with_reducible repeat (first|refine blk_drewN ?_ _|refine blk_drew ?_|refine blk_alloc ?_ _));exact BK150.out) hb);have n1_:=Am3_ (blk_below (g:=gb151) (o:=.cells #[.int .i64 0,.int .i64 0,.slice none 0 0] 28 (0,0)) (by (with_reducible repeat (first|refine blk_drewN ?_ _|refine blk_drew ?_|refine blk_alloc ?_ _));exact BK151.out) hb);have n2_:=Am3_ (below_step (by repeat (first|(with_reducible first|exact HB.out|apply below_alloc|apply pw_below_drewN|apply below_drew1|refine below_set ?_ GE150.out|refine below_set ?_ GE151.out)|exact HB.out)) hb);have n3_:=Am3_ (hbox);have n4_:=Am3_ ((by rw [hg];exact (below_size (by repeat (first|(with_reducible first|exact HB.out|apply below_alloc|apply pw_below_drewN|apply below_drew1|refine below_set ?_ GE150.out|refine below_set ?_ GE151.out)|exact HB.out))):w.heap.size ≤ gb152));have n5_:=Am3_ ((by rw [hg];exact (below_size (by repeat (first|(with_reducible first|exact HB.out|apply below_alloc|apply pw_below_drewN|apply below_drew1|refine below_set ?_ GE150.out|refine below_set ?_ GE151.out)|exact HB.out))):w.heap.size ≤ gb152));have n6_:=Am3_ ((by rw [hg];exact Nat.ne_of_lt (blk_lt (g:=gb150) (o:=.cells #[.int .i64 a0_0,.int .i64 a0_1,.slice A0_2 l0_2.length c0_2] 24 (0,0)) (by (with_reducible repeat (first|refine blk_drewN ?_ _|refine blk_drew ?_|refine blk_alloc ?_ _));exact BK150.out)):gb150 ≠ gb152));have n7_:=Am3_ ((by rw [hg];exact Nat.ne_of_gt (blk_lt (g:=gb150) (o:=.cells #[.int .i64 a0_0,.int .i64 a0_1,.slice A0_2 l0_2.length c0_2] 24 (0,0)) (by (with_reducible repeat (first|refine blk_drewN ?_ _|refine blk_drew ?_|refine blk_alloc ?_ _));exact BK150.out)):gb152 ≠ gb150));have n8_:=Am3_ ((by rw [hg];exact Nat.ne_of_lt (blk_lt (g:=gb151) (o:=.cells #[.int .i64 0,.int .i64 0,.slice none 0 0] 28 (0,0)) (by (with_reducible repeat (first|refine blk_drewN ?_ _|refine blk_drew ?_|refine blk_alloc ?_ _));exact BK151.out)):gb151 ≠ gb152));have n9_:=Am3_ ((by rw [hg];exact Nat.ne_of_gt (blk_lt (g:=gb151) (o:=.cells #[.int .i64 0,.int .i64 0,.slice none 0 0] 28 (0,0)) (by (with_reducible repeat (first|refine blk_drewN ?_ _|refine blk_drew ?_|refine blk_alloc ?_ _));exact BK151.out)):gb152 ≠ gb151));clear BK150;clear BK151;clear HB;have BK150:=n0_;have BK151:=n1_;have HB:=n2_;have BK152:=n3_;have GW152:=n4_;have GE152:=n5_;have NB150_152:=n6_;have NB152_150:=n7_;have NB151_152:=n8_;have NB152_151:=n9_;clear n0_ n1_ n2_ n3_ n4_ n5_ n6_ n7_ n8_ n9_;clear hb hbox hg;have hnb6:=NB150_151.out;have hnc6:=NB151_150.out;have hnb7:=NB150_152.out;have hnc7:=NB152_150.out;have hcz8_0:w5.cell? ⟨gb150,0,none⟩=some (.int .i64 a0_0):=(blk_cell BK150.out 0).trans rfl;have hcz8_1:w5.cell? ⟨gb150,1,none⟩=some (.int .i64 a0_1):=(blk_cell BK150.out 1).trans rfl;have hcz8_2:w5.cell? ⟨gb150,2,none⟩=some (.slice A0_2 l0_2.length c0_2):=(blk_cell BK150.out 2).trans rfl;have hfz8_0:=blk_frozen BK150.out 0;have hfz8_1:=blk_frozen BK150.out 1;have hfz8_2:=blk_frozen BK150.out 2;have hnb9:=NB152_151.out;have hnc9:=NB151_152.out;have hcz10_0:w5.cell? ⟨gb152,0,none⟩=some (.int .i64 0):=(blk_cell BK152.out 0).trans rfl;have hcz10_1:w5.cell? ⟨gb152,1,none⟩=some (.int .i64 0):=(blk_cell BK152.out 1).trans rfl;have hcz10_2:w5.cell? ⟨gb152,2,none⟩=some (.slice none 0 0):=(blk_cell BK152.out 2).trans rfl;have hfz10_0:=blk_frozen BK152.out 0;have hfz10_1:=blk_frozen BK152.out 1;have hfz10_2:=blk_frozen BK152.out 2)|((with_reducible refine gate_callee (f:=88) rfl ?_);refine goesL_ (some 12) rfl rfl Try.func88 (by kernel_rfl) rfl #[.slice A0_2 l0_2.length c0_2] rfl (by (try simp only [List.map_toArray,List.map_cons,List.map_nil]);first|done|rfl|(simp only [List.length_drop,List.length_take];rfl)) ?_;(with_reducible refine (laws_toChallengeS.calls k _ _ l0_2 t153 _ ?side1 ?side2 A2.out).mono ?_);(case side1 => exact Kd.C_below HR0_2.out (by repeat (first|(with_reducible first|exact HB.out|apply below_alloc|apply pw_below_drewN|apply below_drew1|refine below_set ?_ GE150.out|refine below_set ?_ GE151.out|refine below_set ?_ GE152.out)|exact HB.out)));(case side2 => exact HC0_2.out);rintro e w11 ⟨v154,rfl,ho0,hb⟩;refine ⟨_,rfl,?_⟩;have n0_:=Am3_ (Kd.R_lower ho0 (below_size (by repeat (first|(with_reducible first|exact HB.out|apply below_alloc|apply pw_below_drewN|apply below_drew1|refine below_set ?_ GE150.out|refine below_set ?_ GE151.out|refine below_set ?_ GE152.out)|exact HB.out))));have n1_:=Am3_ (blk_below (g:=gb150) (o:=.cells #[.int .i64 a0_0,.int .i64 a0_1,.slice A0_2 l0_2.length c0_2] 24 (0,0)) (by (with_reducible repeat (first|refine blk_drewN ?_ _|refine blk_drew ?_|refine blk_alloc ?_ _));refine blk_far ?_ NB150_152.out _;(with_reducible repeat (first|refine blk_drewN ?_ _|refine blk_drew ?_|refine blk_alloc ?_ _));refine blk_far ?_ NB150_152.out _;(with_reducible repeat (first|refine blk_drewN ?_ _|refine blk_drew ?_|refine blk_alloc ?_ _));exact BK150.out) hb);have n2_:=Am3_ (blk_below (g:=gb151) (o:=.cells #[.int .i64 0,.int .i64 0,.slice none 0 0] 28 (0,0)) (by (with_reducible repeat (first|refine blk_drewN ?_ _|refine blk_drew ?_|refine blk_alloc ?_ _));refine blk_far ?_ NB151_152.out _;(with_reducible repeat (first|refine blk_drewN ?_ _|refine blk_drew ?_|refine blk_alloc ?_ _));refine blk_far ?_ NB151_152.out _;(with_reducible repeat (first|refine blk_drewN ?_ _|refine blk_drew ?_|refine blk_alloc ?_ _));exact BK151.out) hb);have n3_:=Am3_ (blk_below (g:=gb152) (o:=.cells #[.int .i64 a0_0,.int .i64 a0_1,.slice none 0 0] 28 (0,0)) (by (with_reducible repeat (first|refine blk_drewN ?_ _|refine blk_drew ?_|refine blk_alloc ?_ _));refine blk_put (cs:=#[.int .i64 a0_0,.int .i64 0,.slice none 0 0]) ?_ 1 _ rfl;(with_reducible repeat (first|refine blk_drewN ?_ _|refine blk_drew ?_|refine blk_alloc ?_ _));refine blk_put (cs:=#[.int .i64 0,.int .i64 0,.slice none 0 0]) ?_ 0 _ rfl;(with_reducible repeat (first|refine blk_drewN ?_ _|refine blk_drew ?_|refine blk_alloc ?_ _));exact BK152.out) hb);have n4_:=Am3_ (below_step (by repeat (first|(with_reducible first|exact HB.out|apply below_alloc|apply pw_below_drewN|apply below_drew1|refine below_set ?_ GE150.out|refine below_set ?_ GE151.out|refine below_set ?_ GE152.out)|exact HB.out)) hb);clear BK150;clear BK151;clear BK152;clear HB;have HO155:=n0_;have BK150:=n1_;have BK151:=n2_;have BK152:=n3_;have HB:=n4_;clear n0_ n1_ n2_ n3_ n4_;(try clear hb);(try clear hb2);(try clear hk);(try clear hi);(try clear ho0);obtain ⟨Ao12,co12,eo12⟩:=Kd.R_slice HO155.out;subst eo12;have hcz13_0:w11.cell? ⟨gb152,0,none⟩=some (.int .i64 a0_0):=(blk_cell BK152.out 0).trans rfl;have hcz13_1:w11.cell? ⟨gb152,1,none⟩=some (.int .i64 a0_1):=(blk_cell BK152.out 1).trans rfl;have hcz13_2:w11.cell? ⟨gb152,2,none⟩=some (.slice none 0 0):=(blk_cell BK152.out 2).trans rfl;have hfz13_0:=blk_frozen BK152.out 0;have hfz13_1:=blk_frozen BK152.out 1;have hfz13_2:=blk_frozen BK152.out 2;have hcz14_0:w11.cell? ⟨gb151,0,none⟩=some (.int .i64 0):=(blk_cell BK151.out 0).trans rfl;have hcz14_1:w11.cell? ⟨gb151,1,none⟩=some (.int .i64 0):=(blk_cell BK151.out 1).trans rfl;have hcz14_2:w11.cell? ⟨gb151,2,none⟩=some (.slice none 0 0):=(blk_cell BK151.out 2).trans rfl;have hfz14_0:=blk_frozen BK151.out 0;have hfz14_1:=blk_frozen BK151.out 1;have hfz14_2:=blk_frozen BK151.out 2))
 refine bodyPost_ret (results_cell_row rfl _ _ gb151 28 #[.int .i64 a0_0,.int .i64 a0_1,.slice Ao12 t153.length co12] (0,0) _ rfl (by (with_reducible repeat (first|refine blk_drewN ?_ _|refine blk_drew ?_|refine blk_alloc ?_ _));refine blk_put (cs:=#[.int .i64 a0_0,.int .i64 a0_1,.slice none 0 0]) ?_ 2 _ rfl;(with_reducible repeat (first|refine blk_drewN ?_ _|refine blk_drew ?_|refine blk_alloc ?_ _));refine blk_put (cs:=#[.int .i64 a0_0,.int .i64 0,.slice none 0 0]) ?_ 1 _ rfl;(with_reducible repeat (first|refine blk_drewN ?_ _|refine blk_drew ?_|refine blk_alloc ?_ _));refine blk_put (cs:=#[.int .i64 0,.int .i64 0,.slice none 0 0]) ?_ 0 _ rfl;(with_reducible repeat (first|refine blk_drewN ?_ _|refine blk_drew ?_|refine blk_alloc ?_ _));refine blk_far ?_ NB151_152.out _;(with_reducible repeat (first|refine blk_drewN ?_ _|refine blk_drew ?_|refine blk_alloc ?_ _));exact BK151.out) Try.underlying28 rfl (by kernel_rfl)) rfl ?_
 exact ⟨_,by first|rfl|(simp [errW_none,errW_some] <;> rfl)|(simp [*,errW_none,errW_some] <;> rfl),by (with_reducible repeat (first|apply Kd.R_alloc|apply Kd.R_drewN|apply Kd.R_drew));exact Kd.R_mono (Kd.R_far (p:=⟨gb151,2,none⟩) (Kd.R_far (p:=⟨gb151,1,none⟩) (Kd.R_far (p:=⟨gb151,0,none⟩) (Kd.R_far (p:=⟨gb152,2,none⟩) (Kd.R_types (Kd.R_types HO155.out BK152.out (by decide)) BK151.out (by decide)) (fun _ hk => by first|exact hk.1.2|(revert hk;dsimp only;grind)|grind) (.slice Ao12 t153.length co12)) (fun _ hk => by first|exact hk.2|(revert hk;dsimp only;grind)|grind) (.int .i64 a0_0)) (fun _ hk => by first|exact hk.2|(revert hk;dsimp only;grind)|grind) (.int .i64 a0_1)) (fun _ hk => by first|exact hk.2|(revert hk;dsimp only;grind)|grind) (.slice Ao12 t153.length co12)) (fun _ hk => trivial),by repeat (first|(with_reducible first|exact HB.out|apply below_alloc|apply pw_below_drewN|apply below_drew1|refine below_set ?_ GE150.out|refine below_set ?_ GE151.out|refine below_set ?_ GE152.out)|exact HB.out)⟩

/-! ### impl_InRange: function 94 -/
def impl_InRange.f (a0:Int) (a1:Int) (a2:Int):Option (Bool):=if a1 ≤ a0 then (some (decide (a0 ≤ a2))) else (some false)
set_option maxHeartbeats 8000000 in
set_option maxRecDepth 100000 in
theorem impl_InRange.calls (a0:Int) (a1:Int) (a2:Int) (r:Bool) (w:World) (h:impl_InRange.f a0 a1 a2=some r) :
  Calls Try.prog 94 #[.int .i64 a0,.int .i64 a1,.int .i64 a2] w fun e w' => e=.returned (.bool r)∧Drawn0 w w':=by
 have H:(if a1 ≤ a0 then (some (decide (a0 ≤ a2))) else (some false))=some r:=h
 clear h
 by_cases c4:a1 ≤ a0
 ·rw [if_pos c4] at H
  have c4b0:decide (a1 ≤ a0)=true:=decide_eq_true c4
  clear c4
  obtain rfl:=Option.some.inj H
  go_enter Try.func94,Try.ntmps94
  go_wp2
  go_ret
  exact ⟨by first|rfl|(simp;done)|(simp [*];done),by repeat (first|exact Drawn0.refl _|apply Drawn0.step)⟩
 ·rw [if_neg c4] at H
  have c4b0:decide (a1 ≤ a0)=false:=decide_eq_false c4
  clear c4
  obtain rfl:=Option.some.inj H
  go_enter Try.func94,Try.ntmps94
  go_wp2
  go_ret
  exact ⟨by first|rfl|(simp;done)|(simp [*];done),by repeat (first|exact Drawn0.refl _|apply Drawn0.step)⟩

end Go.Proofs.Ytednmbifgnpkbaa.PFnExactExpireChallenges
