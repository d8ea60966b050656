/- Functions and contracts of a law's callees, written by a program of this session (a changed print): each contract says that the machine's call answers what the plain function says. Conditions: the plain function's own answer. -/
import Derived.Test.YtogcoedmagoogaaGreatDoorZPFnExactCheckAssertionx0
import Derived.Test.YtogcoedmagoogaaGreatDoorZPFnExactCheckAssertionx6
import Derived.Test.YtogcoedmagoogaaGreatDoorZPFnExactCheckAssertionx7
import Derived.Test.YtogcoedmagoogaaGreatDoorZPFnExactCheckAssertionx10
namespace Go.Proofs.YtogcoedmagoogaaGreatDoor.PFnExactCheckAssertion
open Go.RowKit Go.Proofs.YtogcoedmagoogaaGreatDoorW.PrintWords Go.Proofs.YtogcoedmagoogaaGreatDoorW.PrintLast Go.Proofs.YtogcoedmagoogaaGreatDoorW.PrintMore
attribute [local go_sem] max2_int min2_int max_two min_two max_three min_three max_four min_four   -- for this text's walks alone
set_option linter.unusedVariables false
set_option linter.unusedSimpArgs false
abbrev Am11_ {p : Prop} (h : p) : Aside0 p := Aside0.mk h

/-! ### spec_PrivateKey: function 73 -/
def spec_PrivateKey.f (k:Nat) (a0:Int):Option (Int):=(spec_l1In.f a0 1 2147483646).bind fun t286 => (if t286=true then ((spec_l6Power.f k 48271 2147483645).bind fun t287 => ((spec_PublicKey.f (Int.tmod (wrap64 (a0 * t287)) 2147483647)).bind fun t288 => (if t288=a0 then (some (Int.tmod (wrap64 (a0 * t287)) 2147483647)) else (some 0)))) else (some 0))
theorem spec_PrivateKey.mono:∀ a0 k,LeO (spec_PrivateKey.f k a0) (spec_PrivateKey.f (k + 1) a0):=by
 intro a0 k
 unfold spec_PrivateKey.f
 repeat' first
  |(with_reducible exact spec_l6Power.mono _ _ _)
  |(with_reducible exact LeO.refl _)
  |(with_reducible exact LeO.none _)
  |(with_reducible refine LeO.ite ?_ ?_)
  |(with_reducible refine LeO.bind ?_ (fun _ => ?_))
  |exact spec_l6Power.mono _ _ _
  |exact LeO.none _
  |refine LeO.ite ?_ ?_
  |refine LeO.bind ?_ (fun _ => ?_)
set_option maxHeartbeats 8000000 in
set_option maxRecDepth 100000 in
theorem spec_PrivateKey.calls (k:Nat) (a0:Int) (r:Int) (w:World) (h:spec_PrivateKey.f k a0=some r) :
  Calls Tryz.prog 73 #[.int .i64 a0] w fun e w' => e=.returned (.int .i64 r)∧Drawn0 w w':=by
 have H:((spec_l1In.f a0 1 2147483646).bind fun t286 => (if t286=true then ((spec_l6Power.f k 48271 2147483645).bind fun t287 => ((spec_PublicKey.f (Int.tmod (wrap64 (a0 * t287)) 2147483647)).bind fun t288 => (if t288=a0 then (some (Int.tmod (wrap64 (a0 * t287)) 2147483647)) else (some 0)))) else (some 0)))=some r:=h
 clear h
 replace H:=Option.bind_eq_some_iff.mp H
 obtain ⟨t286,A20,H⟩:=H
 replace H:(if t286=true then ((spec_l6Power.f k 48271 2147483645).bind fun t287 => ((spec_PublicKey.f (Int.tmod (wrap64 (a0 * t287)) 2147483647)).bind fun t288 => (if t288=a0 then (some (Int.tmod (wrap64 (a0 * t287)) 2147483647)) else (some 0)))) else (some 0))=some r:=H
 have A2:=Am11_ A20
 clear A20
 by_cases c3:t286=true
 ·subst c3
  have H1:((spec_l6Power.f k 48271 2147483645).bind fun t287 => ((spec_PublicKey.f (Int.tmod (wrap64 (a0 * t287)) 2147483647)).bind fun t288 => (if t288=a0 then (some (Int.tmod (wrap64 (a0 * t287)) 2147483647)) else (some 0))))=some r:=by rw [if_pos rfl] at H;exact H
  clear H
  have H:=H1
  clear H1
  replace H:=Option.bind_eq_some_iff.mp H
  obtain ⟨t287,A40,H⟩:=H
  replace H:((spec_PublicKey.f (Int.tmod (wrap64 (a0 * t287)) 2147483647)).bind fun t288 => (if t288=a0 then (some (Int.tmod (wrap64 (a0 * t287)) 2147483647)) else (some 0)))=some r:=H
  have A4:=Am11_ A40
  clear A40
  replace H:=Option.bind_eq_some_iff.mp H
  obtain ⟨t288,A50,H⟩:=H
  replace H:(if t288=a0 then (some (Int.tmod (wrap64 (a0 * t287)) 2147483647)) else (some 0))=some r:=H
  have A5:=Am11_ A50
  clear A50
  by_cases c6:t288=a0
  ·rw [if_pos c6] at H
   have c6b0:(t288 == a0)=true:=beq_iff_eq.mpr c6
   have c6b1:(t288 != a0)=false:=bne_eq_false_iff_eq.mpr c6
   clear c6
   obtain rfl:=Option.some.inj H
   go_enter Tryz.func73,Tryz.ntmps73
   go_wp2_with (first|((with_reducible refine gate_callee (f:=47) rfl ?_);refine goesL_ (some 5) rfl rfl Tryz.func47 (by kernel_rfl) rfl #[.int .i64 a0,.int .i64 1,.int .i64 2147483646] rfl (by (try simp only [List.map_toArray,List.map_cons,List.map_nil]);first|done|rfl|(simp only [List.length_drop,List.length_take];rfl)) ?_;(with_reducible refine (spec_l1In.calls a0 1 2147483646 true _ A2.out).mono ?_);rintro e w' ⟨rfl,⟨nd,rfl⟩⟩;refine ⟨_,rfl,?_⟩)|((with_reducible refine gate_callee (f:=103) rfl ?_);refine goesL_ (some 8) rfl rfl Tryz.func103 (by kernel_rfl) rfl #[.int .i64 48271,.int .i64 2147483645] rfl (by (try simp only [List.map_toArray,List.map_cons,List.map_nil]);first|done|rfl|(simp only [List.length_drop,List.length_take];rfl)) ?_;(with_reducible refine (spec_l6Power.calls k 48271 2147483645 t287 _ A4.out).mono ?_);rintro e w' ⟨rfl,⟨nd,rfl⟩⟩;refine ⟨_,rfl,?_⟩)|((with_reducible refine gate_callee (f:=39) rfl ?_);refine goesL_ (some 12) rfl rfl Tryz.func39 (by kernel_rfl) rfl #[.int .i64 (Int.tmod (wrap64 (a0 * t287)) 2147483647)] rfl (by (try simp only [List.map_toArray,List.map_cons,List.map_nil]);first|done|rfl|(simp only [List.length_drop,List.length_take];rfl)) ?_;(with_reducible refine (spec_PublicKey.calls (Int.tmod (wrap64 (a0 * t287)) 2147483647) t288 _ A5.out).mono ?_);rintro e w' ⟨rfl,⟨nd,rfl⟩⟩;refine ⟨_,rfl,?_⟩))
   go_ret
   exact ⟨by first|rfl|(simp;done)|(simp [*];done),by repeat (first|exact Drawn0.refl _|apply Drawn0.step)⟩
  ·rw [if_neg c6] at H
   have c6b0:(t288 == a0)=false:=beq_eq_false_iff_ne.mpr c6
   have c6b1:(t288 != a0)=true:=bne_iff_ne.mpr c6
   obtain rfl:=Option.some.inj H
   go_enter Tryz.func73,Tryz.ntmps73
   go_wp2_with (first|((with_reducible refine gate_callee (f:=47) rfl ?_);refine goesL_ (some 5) rfl rfl Tryz.func47 (by kernel_rfl) rfl #[.int .i64 a0,.int .i64 1,.int .i64 2147483646] rfl (by (try simp only [List.map_toArray,List.map_cons,List.map_nil]);first|done|rfl|(simp only [List.length_drop,List.length_take];rfl)) ?_;(with_reducible refine (spec_l1In.calls a0 1 2147483646 true _ A2.out).mono ?_);rintro e w' ⟨rfl,⟨nd,rfl⟩⟩;refine ⟨_,rfl,?_⟩)|((with_reducible refine gate_callee (f:=103) rfl ?_);refine goesL_ (some 8) rfl rfl Tryz.func103 (by kernel_rfl) rfl #[.int .i64 48271,.int .i64 2147483645] rfl (by (try simp only [List.map_toArray,List.map_cons,List.map_nil]);first|done|rfl|(simp only [List.length_drop,List.length_take];rfl)) ?_;(with_reducible refine (spec_l6Power.calls k 48271 2147483645 t287 _ A4.out).mono ?_);rintro e w' ⟨rfl,⟨nd,rfl⟩⟩;refine ⟨_,rfl,?_⟩)|((with_reducible refine gate_callee (f:=39) rfl ?_);refine goesL_ (some 12) rfl rfl Tryz.func39 (by kernel_rfl) rfl #[.int .i64 (Int.tmod (wrap64 (a0 * t287)) 2147483647)] rfl (by (try simp only [List.map_toArray,List.map_cons,List.map_nil]);first|done|rfl|(simp only [List.length_drop,List.length_take];rfl)) ?_;(with_reducible refine (spec_PublicKey.calls (Int.tmod (wrap64 (a0 * t287)) 2147483647) t288 _ A5.out).mono ?_);rintro e w' ⟨rfl,⟨nd,rfl⟩⟩;refine ⟨_,rfl,?_⟩))
   go_ret
   exact ⟨by first|rfl|(simp;done)|(simp [*];done),by repeat (first|exact Drawn0.refl _|apply Drawn0.step)⟩
 ·replace c3:=Bool.eq_false_iff.mpr c3
  subst c3
  have H1:(some 0)=some r:=by rw [if_neg (show ¬ (false=true) by decide)] at H;exact H
  clear H
  have H:=H1
  clear H1
  obtain rfl:=Option.some.inj H
  go_enter Tryz.func73,Tryz.ntmps73
  go_wp2_with (first|((with_reducible refine gate_callee (f:=47) rfl ?_);refine goesL_ (some 5) rfl rfl Tryz.func47 (by kernel_rfl) rfl #[.int .i64 a0,.int .i64 1,.int .i64 2147483646] rfl (by (try simp only [List.map_toArray,List.map_cons,List.map_nil]);first|done|rfl|(simp only [List.length_drop,List.length_take];rfl)) ?_;(with_reducible refine (spec_l1In.calls a0 1 2147483646 false _ A2.out).mono ?_);rintro e w' ⟨rfl,⟨nd,rfl⟩⟩;refine ⟨_,rfl,?_⟩))
  go_ret
  exact ⟨by first|rfl|(simp;done)|(simp [*];done),by repeat (first|exact Drawn0.refl _|apply Drawn0.step)⟩

/-! ### spec_SignMessage: function 74 -/
def spec_SignMessage.f (k:Nat) (a0:Int) (l1:List Int):Option (Int):=(spec_IsValidKey.f a0).bind fun t289 => (if t289=true then ((some (([139,(l1.length:Int)]:List Int):List Int)).bind fun y290 => (if y290.length + l1.length < 17592186044416 then ((spec_KeyedHash.f k a0 (y290 ++ l1)).bind fun t296 => (some t296)) else (none))) else (some 0))
theorem spec_SignMessage.mono:∀ a0 a1 k,LeO (spec_SignMessage.f k a0 a1) (spec_SignMessage.f (k + 1) a0 a1):=by
 intro a0 a1 k
 unfold spec_SignMessage.f
 repeat' first
  |(with_reducible exact spec_KeyedHash.mono _ _ _)
  |(with_reducible exact LeO.refl _)
  |(with_reducible exact LeO.none _)
  |(with_reducible refine LeO.ite ?_ ?_)
  |(with_reducible refine LeO.bind ?_ (fun _ => ?_))
  |exact spec_KeyedHash.mono _ _ _
  |exact LeO.none _
  |refine LeO.ite ?_ ?_
  |refine LeO.bind ?_ (fun _ => ?_)
set_option maxHeartbeats 8000000 in
set_option maxRecDepth 100000 in
theorem spec_SignMessage.calls (k:Nat) (a0:Int) (A1:Option Addr) (c1:Nat) (l1:List Int) (r:Int) (w:World) (hr1:Kd.C (Kd.int .i64) w A1 l1.length l1) (hc1:l1.length ≤ c1) (h:spec_SignMessage.f k a0 l1=some r) :
  Calls Tryz.prog 74 #[.int .i64 a0,.slice A1 l1.length c1] w fun e w' => e=.returned (.int .i64 r)∧Below w.heap.size w w':=by
 have HR1:=Am11_ hr1
 have HC1:=Am11_ hc1
 clear hr1 hc1
 have HB:=Am11_ (Below.refl w.heap.size w)
 have H:((spec_IsValidKey.f a0).bind fun t289 => (if t289=true then ((some (([139,(l1.length:Int)]:List Int):List Int)).bind fun y290 => (if y290.length + l1.length < 17592186044416 then ((spec_KeyedHash.f k a0 (y290 ++ l1)).bind fun t296 => (some t296)) else (none))) else (some 0)))=some r:=h
 clear h
 replace H:=Option.bind_eq_some_iff.mp H
 obtain ⟨t289,A30,H⟩:=H
 replace H:(if t289=true then ((some (([139,(l1.length:Int)]:List Int):List Int)).bind fun y290 => (if y290.length + l1.length < 17592186044416 then ((spec_KeyedHash.f k a0 (y290 ++ l1)).bind fun t296 => (some t296)) else (none))) else (some 0))=some r:=H
 have A3:=Am11_ A30
 clear A30
 by_cases c4:t289=true
 ·subst c4
  have H1:((some (([139,(l1.length:Int)]:List Int):List Int)).bind fun y290 => (if y290.length + l1.length < 17592186044416 then ((spec_KeyedHash.f k a0 (y290 ++ l1)).bind fun t296 => (some t296)) else (none)))=some r:=by rw [if_pos rfl] at H;exact H
  clear H
  have H:=H1
  clear H1
  obtain ⟨y290,hy290⟩:∃ y_:List Int,y_=(([139,(l1.length:Int)]:List Int)):=⟨_,rfl⟩
  replace H:(if y290.length + l1.length < 17592186044416 then ((spec_KeyedHash.f k a0 (y290 ++ l1)).bind fun t296 => (some t296)) else (none))=some r:=by first|(rw [hy290];with_reducible exact H)|(have H2_:=(Option.bind_some _ _).symm.trans H;rw [hy290];with_reducible exact H2_)|(have H2_:=(Option.bind_some _ _).symm.trans H;with_reducible exact H2_)|with_reducible exact H|(rw [hy290];exact H)|exact H
  have Ny290:=Am11_ hy290
  clear hy290
  by_cases c5:y290.length + l1.length < 17592186044416
  ·rw [if_pos c5] at H
   have LMc5:=Am11_ c5
   clear c5
   obtain ⟨y293,hy293⟩:∃ y_:List Int,y_=(y290 ++ l1):=⟨_,rfl⟩
   replace H:((spec_KeyedHash.f k a0 y293).bind fun t296 => (some t296))=some r:=by first|(rw [hy293];with_reducible exact H)|(have H2_:=(Option.bind_some _ _).symm.trans H;rw [hy293];with_reducible exact H2_)|(have H2_:=(Option.bind_some _ _).symm.trans H;with_reducible exact H2_)|with_reducible exact H|(rw [hy293];exact H)|exact H
   have Ny293:=Am11_ hy293
   clear hy293
   replace H:=Option.bind_eq_some_iff.mp H
   obtain ⟨t296,A60,H⟩:=H
   replace H:(some t296)=some r:=H
   have A6:=Am11_ A60
   clear A60
   obtain rfl:=Option.some.inj H
   go_enter Tryz.func74,Tryz.ntmps74
   go_wp2_with (first|((with_reducible refine gate_callee (f:=48) rfl ?_);refine goesL_ (some 6) rfl rfl Tryz.func48 (by kernel_rfl) rfl #[.int .i64 a0] rfl (by (try simp only [List.map_toArray,List.map_cons,List.map_nil]);first|done|rfl|(simp only [List.length_drop,List.length_take];rfl)) ?_;(with_reducible refine (spec_IsValidKey.calls a0 true _ A3.out).mono ?_);rintro e w' ⟨rfl,⟨nd,rfl⟩⟩;refine ⟨_,rfl,?_⟩)|((with_reducible refine gate_dst (N:=11) rfl ?_);refine Kd.R_lit (Kd.int .i64) _ 3 ?hg (N:=11) ?hd (xs:=([139,(l1.length:Int)]:List Int)) (inner:=[.int .i64 139,.int .i64 (l1.length:Int)]) (ok:=fun _ => True) (okp:=fun _ => True) ?hr ?hp (fun _ hk => hk) trivial (Below.refl _ _) (Nat.le_refl _) (by simp) ?_;(case hd => rfl);(case hg => rfl);(case hr => first|(go_simp;done)|(go_simp;rfl));(case hp => exact (Reps.one (show Kd.M (Kd.int .i64) _ _ _ 139 [.int .i64 139] from rfl) (Reps.one (show Kd.M (Kd.int .i64) _ _ _ (l1.length:Int) [.int .i64 (l1.length:Int)] from rfl) (Reps.none _ _))));intro v291 w7 ho8 hb hg_ hnew_;clear hg_ hnew_;(first|rw [← Ny290.out] at ho8|(simp only [Int.reduceToNat] at ho8;rw [← Ny290.out] at ho8));have n0_:=Am11_ (Kd.R_lower ho8 (below_size (by repeat (first|(with_reducible first|exact HB.out|apply below_alloc|apply pw_below_drewN|apply below_drew1)|exact HB.out))));have n1_:=Am11_ (below_step (by repeat (first|(with_reducible first|exact HB.out|apply below_alloc|apply pw_below_drewN|apply below_drew1)|exact HB.out)) hb);clear HB;have HO292:=n0_;have HB:=n1_;clear n0_ n1_;clear hb ho8)|((with_reducible refine gate_builtin (b:=.append) (xs:=#[.tmp 11,.tmp 12]) rfl ?_);at_builtin;refine Kd.R_append_rows (Kd.int .i64) (w0:=w) w.heap.size rfl (.tmp 11) (.tmp 12) 47 3 (.int .i64 0) 8 rfl Tryz.underlying47 info3 rfl (by decide) (by omega) v291 y290 l1 _ _ _ (fun _ => True) (fun _ => False) rfl rfl ?aO ?aR (fun _ _ h => h) (fun _ h => h.elim) ?aF ?aB ?aS ?aL ?_;(case aR => repeat (first|exact (Kd.C_below HR1.out HB.out)|(with_reducible refine Kd.C_alloc ?_ _)|(with_reducible refine Kd.C_drewN ?_ _)|(with_reducible refine Kd.C_drew ?_)));(case aB => exact (by repeat (first|(with_reducible first|exact HB.out|apply below_alloc|apply pw_below_drewN|apply below_drew1)|exact HB.out)));(case aF => exact (fun _ _ => trivial));(case aO => exact (by (with_reducible repeat (first|apply Kd.R_alloc|apply Kd.R_drewN|apply Kd.R_drew));exact HO292.out));(case aS => exact (below_size (by repeat (first|(with_reducible first|exact HB.out|apply below_alloc|apply pw_below_drewN|apply below_drew1)|exact HB.out))));(case aL => have:=LMc5.out;omega);intro v294 w9 ho hb hg hat;rw [← Ny293.out] at ho;have n0_:=Am11_ (hb);have n1_:=Am11_ (ho);clear HB;clear HO292;have HB:=n0_;have HO295:=n1_;clear n0_ n1_;clear ho hb hg hat;obtain ⟨Ao10,co10,eo10⟩:=Kd.R_slice HO295.out;subst eo10)|((with_reducible refine gate_callee (f:=83) rfl ?_);refine goesL_ (some 14) rfl rfl Tryz.func83 (by kernel_rfl) rfl #[.int .i64 a0,.slice Ao10 y293.length co10] rfl (by (try simp only [List.map_toArray,List.map_cons,List.map_nil]);first|done|rfl|(simp only [List.length_drop,List.length_take];rfl)) ?_;(with_reducible refine (spec_KeyedHash.calls k a0 _ _ y293 t296 _ ?side1 ?side2 A6.out).mono ?_);(case side1 => repeat (first|exact (Kd.R_reads' HO295.out).2.2|(with_reducible refine Kd.C_alloc ?_ _)|(with_reducible refine Kd.C_drewN ?_ _)|(with_reducible refine Kd.C_drew ?_)));(case side2 => exact (Kd.R_reads' HO295.out).2.1);rintro e w11 ⟨rfl,hb⟩;refine ⟨_,rfl,?_⟩;have n0_:=Am11_ (Kd.R_below (by (with_reducible repeat (first|apply Kd.R_alloc|apply Kd.R_drewN|apply Kd.R_drew));exact HO295.out) hb);have n1_:=Am11_ (below_step (by repeat (first|(with_reducible first|exact HB.out|apply below_alloc|apply pw_below_drewN|apply below_drew1)|exact HB.out)) hb);clear HO295;clear HB;have HO295:=n0_;have HB:=n1_;clear n0_ n1_;(try clear hb);(try clear hb2);(try clear hk);(try clear hi)))
   go_ret
   exact ⟨by first|rfl|(simp [errW_none,errW_some] <;> rfl)|(simp [*,errW_none,errW_some] <;> rfl),by repeat (first|(with_reducible first|exact HB.out|apply below_alloc|apply pw_below_drewN|apply below_drew1)|exact HB.out)⟩
  ·rw [if_neg c5] at H
   exact absurd H (by simp)
 ·replace c4:=Bool.eq_false_iff.mpr c4
  subst c4
  have H1:(some 0)=some r:=by rw [if_neg (show ¬ (false=true) by decide)] at H;exact H
  clear H
  have H:=H1
  clear H1
  obtain rfl:=Option.some.inj H
  go_enter Tryz.func74,Tryz.ntmps74
  go_wp2_with (first|((with_reducible refine gate_callee (f:=48) rfl ?_);refine goesL_ (some 6) rfl rfl Tryz.func48 (by kernel_rfl) rfl #[.int .i64 a0] rfl (by (try simp only [List.map_toArray,List.map_cons,List.map_nil]);first|done|rfl|(simp only [List.length_drop,List.length_take];rfl)) ?_;(with_reducible refine (spec_IsValidKey.calls a0 false _ A3.out).mono ?_);rintro e w' ⟨rfl,⟨nd,rfl⟩⟩;refine ⟨_,rfl,?_⟩))
  go_ret
  exact ⟨by first|rfl|(simp [errW_none,errW_some] <;> rfl)|(simp [*,errW_none,errW_some] <;> rfl),by repeat (first|(with_reducible first|exact HB.out|apply below_alloc|apply pw_below_drewN|apply below_drew1)|exact HB.out)⟩

/-! ### spec_VerifySignature: function 43 -/
def spec_VerifySignature.f (k:Nat) (a0:Int) (l1:List Int) (a2:Int):Option (Bool):=(spec_PrivateKey.f k a0).bind fun t297 => (if t297=0 then (some false) else ((spec_SignMessage.f k t297 l1).bind fun t298 => (some (t298 == a2))))
theorem spec_VerifySignature.mono:∀ a0 a1 a2 k,LeO (spec_VerifySignature.f k a0 a1 a2) (spec_VerifySignature.f (k + 1) a0 a1 a2):=by
 intro a0 a1 a2 k
 unfold spec_VerifySignature.f
 repeat' first
  |(with_reducible exact spec_PrivateKey.mono _ _)
  |(with_reducible exact spec_SignMessage.mono _ _ _)
  |(with_reducible exact LeO.refl _)
  |(with_reducible exact LeO.none _)
  |(with_reducible refine LeO.ite ?_ ?_)
  |(with_reducible refine LeO.bind ?_ (fun _ => ?_))
  |exact spec_PrivateKey.mono _ _
  |exact spec_SignMessage.mono _ _ _
  |exact LeO.none _
  |refine LeO.ite ?_ ?_
  |refine LeO.bind ?_ (fun _ => ?_)
set_option maxHeartbeats 8000000 in
set_option maxRecDepth 100000 in
theorem spec_VerifySignature.calls (k:Nat) (a0:Int) (A1:Option Addr) (c1:Nat) (l1:List Int) (a2:Int) (r:Bool) (w:World) (hr1:Kd.C (Kd.int .i64) w A1 l1.length l1) (hc1:l1.length ≤ c1) (h:spec_VerifySignature.f k a0 l1 a2=some r) :
  Calls Tryz.prog 43 #[.int .i64 a0,.slice A1 l1.length c1,.int .i64 a2] w fun e w' => e=.returned (.bool r)∧Below w.heap.size w w':=by
 have HR1:=Am11_ hr1
 have HC1:=Am11_ hc1
 clear hr1 hc1
 have HB:=Am11_ (Below.refl w.heap.size w)
 have H:((spec_PrivateKey.f k a0).bind fun t297 => (if t297=0 then (some false) else ((spec_SignMessage.f k t297 l1).bind fun t298 => (some (t298 == a2)))))=some r:=h
 clear h
 replace H:=Option.bind_eq_some_iff.mp H
 obtain ⟨t297,A40,H⟩:=H
 replace H:(if t297=0 then (some false) else ((spec_SignMessage.f k t297 l1).bind fun t298 => (some (t298 == a2))))=some r:=H
 have A4:=Am11_ A40
 clear A40
 by_cases c5:t297=0
 ·rw [if_pos c5] at H
  have c5b0:(t297 == 0)=true:=beq_iff_eq.mpr c5
  have c5b1:(t297 != 0)=false:=bne_eq_false_iff_eq.mpr c5
  clear c5
  obtain rfl:=Option.some.inj H
  go_enter Tryz.func43,Tryz.ntmps43
  go_wp2_with (first|((with_reducible refine gate_callee (f:=73) rfl ?_);refine goesL_ (some 9) rfl rfl Tryz.func73 (by kernel_rfl) rfl #[.int .i64 a0] rfl (by (try simp only [List.map_toArray,List.map_cons,List.map_nil]);first|done|rfl|(simp only [List.length_drop,List.length_take];rfl)) ?_;(with_reducible refine (spec_PrivateKey.calls k a0 t297 _ A4.out).mono ?_);rintro e w' ⟨rfl,⟨nd,rfl⟩⟩;refine ⟨_,rfl,?_⟩))
  go_ret
  exact ⟨by first|rfl|(simp [errW_none,errW_some] <;> rfl)|(simp [*,errW_none,errW_some] <;> rfl),by repeat (first|(with_reducible first|exact HB.out|apply below_alloc|apply pw_below_drewN|apply below_drew1)|exact HB.out)⟩
 ·rw [if_neg c5] at H
  have c5b0:(t297 == 0)=false:=beq_eq_false_iff_ne.mpr c5
  have c5b1:(t297 != 0)=true:=bne_iff_ne.mpr c5
  replace H:=Option.bind_eq_some_iff.mp H
  obtain ⟨t298,A60,H⟩:=H
  replace H:(some (t298 == a2))=some r:=H
  have A6:=Am11_ A60
  clear A60
  obtain rfl:=Option.some.inj H
  go_enter Tryz.func43,Tryz.ntmps43
  go_wp2_with (first|((with_reducible refine gate_callee (f:=73) rfl ?_);refine goesL_ (some 9) rfl rfl Tryz.func73 (by kernel_rfl) rfl #[.int .i64 a0] rfl (by (try simp only [List.map_toArray,List.map_cons,List.map_nil]);first|done|rfl|(simp only [List.length_drop,List.length_take];rfl)) ?_;(with_reducible refine (spec_PrivateKey.calls k a0 t297 _ A4.out).mono ?_);rintro e w' ⟨rfl,⟨nd,rfl⟩⟩;refine ⟨_,rfl,?_⟩)|(go_at_call 74;(with_reducible refine (spec_SignMessage.calls k t297 _ _ l1 t298 _ ?side1 ?side2 A6.out).mono ?_);(case side1 => repeat (first|exact HR1.out|(with_reducible refine Kd.C_alloc ?_ _)|(with_reducible refine Kd.C_drewN ?_ _)|(with_reducible refine Kd.C_drew ?_)));(case side2 => exact HC1.out);rintro e w7 ⟨rfl,hb⟩;have n0_:=Am11_ (below_step (by repeat (first|(with_reducible first|exact HB.out|apply below_alloc|apply pw_below_drewN|apply below_drew1)|exact HB.out)) hb);clear HB;have HB:=n0_;clear n0_;(try clear hb);(try clear hb2);(try clear hk);(try clear hi)))
  go_ret
  exact ⟨by first|rfl|(simp [errW_none,errW_some] <;> rfl)|(simp [*,errW_none,errW_some] <;> rfl),by repeat (first|(with_reducible first|exact HB.out|apply below_alloc|apply pw_below_drewN|apply below_drew1)|exact HB.out)⟩

end Go.Proofs.YtogcoedmagoogaaGreatDoor.PFnExactCheckAssertion
