/- Functions and contracts of a law's callees, written by a program of this session (a changed print): each contract says that the machine's call answers what the plain function says. Conditions: the plain function's own answer. -/
import Derived.Test.YtogcoedmagoogaaDoorZPFnExactMakeAssertionx0
import Derived.Test.YtogcoedmagoogaaDoorZPFnExactMakeAssertionx1
namespace Go.Proofs.YtogcoedmagoogaaDoor.PFnExactMakeAssertion
open Go.RowKit Go.Proofs.YtogcoedmagoogaaDoorW.PrintWords Go.Proofs.YtogcoedmagoogaaDoorW.PrintLast Go.Proofs.YtogcoedmagoogaaDoorW.PrintMore
attribute [local go_sem] max2_int min2_int max_two min_two max_three min_three max_four min_four   -- for this text's walks alone
set_option linter.unusedVariables false
set_option linter.unusedSimpArgs false
abbrev Am2_ {p : Prop} (h : p) : Aside0 p := Aside0.mk h

namespace Y2
class Ex_ (w W:World):Prop where
 k:∀ {g:Nat} {o:Obj},w.heap[g]?=some o → W.heap[g]?=some o
 e:∀ {v:World},Below v.heap.size v w → Below v.heap.size v W
instance (priority:=low) Ex_.rf (w:World):Ex_ w w:=⟨fun h => h,fun h => h⟩
instance Ex_.dn {w W:World} [x:Ex_ w W] (n:Nat):Ex_ w (W.drewN n):=⟨fun h => blk_drewN (x.k h) n,fun h => pw_below_drewN (x.e h) n⟩
instance Ex_.dr {w W:World} [x:Ex_ w W]:Ex_ w W.drew:=⟨fun h => blk_drew (x.k h),fun h => below_drew1 (x.e h)⟩
instance Ex_.al {w W:World} [x:Ex_ w W] (o:Obj):Ex_ w (W.alloc o):=⟨fun h => blk_alloc (x.k h) o,fun h => below_alloc (x.e h) o⟩
theorem xk_ {w W:World} {g:Nat} {o:Obj} (h:Aside0 (w.heap[g]?=some o)) [x:Ex_ w W]:W.heap[g]?=some o:=x.k h.out
theorem ne1_ {w W:World} {g g':Nat} {o:Obj} (hg:g'=W.heap.size) (h:Aside0 (w.heap[g]?=some o)) [x:Ex_ w W]:Aside0 (g ≠ g'):=Am2_ (by rw [hg];exact Nat.ne_of_lt (blk_lt (x.k h.out)))
theorem ne2_ {w W:World} {g g':Nat} {o:Obj} (hg:g'=W.heap.size) (h:Aside0 (w.heap[g]?=some o)) [x:Ex_ w W]:Aside0 (g' ≠ g):=Am2_ (by rw [hg];exact Nat.ne_of_gt (blk_lt (x.k h.out)))
theorem gw_ {v w W:World} {g':Nat} (hg:g'=W.heap.size) (h:Aside0 (Below v.heap.size v w)) [x:Ex_ w W]:Aside0 (v.heap.size ≤ g'):=Am2_ (by rw [hg];exact below_size (x.e h.out))
theorem bb_ {w W W':World} {g:Nat} {o:Obj} (h:Aside0 (w.heap[g]?=some o)) (hb:Below W.heap.size W W') [x:Ex_ w W]:Aside0 (W'.heap[g]?=some o):=Am2_ (blk_below (x.k h.out) hb)
theorem bs_ {v w W W':World} (h:Aside0 (Below v.heap.size v w)) (hb:Below W.heap.size W W') [x:Ex_ w W]:Aside0 (Below v.heap.size v W'):=Am2_ (below_step (x.e h.out) hb)
theorem xe_ {v w W:World} (h:Aside0 (Below v.heap.size v w)) [x:Ex_ w W]:Below v.heap.size v W:=x.e h.out
end Y2
open Y2

namespace Y2
abbrev Sa_ := @List.setIfInBounds_toArray
abbrev Sb_ := @List.set_cons_zero
abbrev Sc_ := @List.set_cons_succ
theorem q_ {w W : World} {g : Nat} {t : TypeId} {cs : Array Value} (h : Aside0 (w.heap[g]? = some (.cells cs t (0, 0)))) (i : Nat) {v : Option Value} (e : cs[i]? = v) [x : Ex_ w W] : W.cell? ⟨g, i, none⟩ = v := (blk_cell (x.k h.out) i).trans e
end Y2
open Y2
/-! ### spec_IsOrigin: function 21 -/
def spec_IsOrigin.f (k:Nat) (a0_0:Bool) (a0_1:ByteArray) (a0_2:Int):Option (Bool):=(spec_IsHost.f k a0_1).bind fun t121 => (if t121=true then ((spec_l1In.f a0_2 1 65535).bind fun t122 => (some t122)) else (some false))
theorem spec_IsOrigin.mono:∀ a0 a1 a2 k,LeO (spec_IsOrigin.f k a0 a1 a2) (spec_IsOrigin.f (k + 1) a0 a1 a2):=by
 intro a0 a1 a2 k
 unfold spec_IsOrigin.f
 repeat' first
  |(with_reducible exact spec_IsHost.mono _ _)
  |(with_reducible exact LeO.refl _)
  |(with_reducible exact LeO.none _)
  |(with_reducible refine LeO.ite ?_ ?_)
  |(with_reducible refine LeO.bind ?_ (fun _ => ?_))
  |exact spec_IsHost.mono _ _
  |exact LeO.none _
  |refine LeO.ite ?_ ?_
  |refine LeO.bind ?_ (fun _ => ?_)
set_option maxHeartbeats 8000000 in
set_option maxRecDepth 100000 in
theorem spec_IsOrigin.calls (k:Nat) (a0_0:Bool) (a0_1:ByteArray) (a0_2:Int) (r:Bool) (w:World) (h:spec_IsOrigin.f k a0_0 a0_1 a0_2=some r) :
  Calls Tryd.prog 21 #[.agg #[.bool a0_0,.string a0_1,.int .i64 a0_2]] w fun e w' => e=.returned (.bool r)∧Below w.heap.size w w':=by
 have hu26:=Tryd.underlying26;have HB:=Am2_ (Below.refl w.heap.size w);have H:=h;unfold spec_IsOrigin.f at H;clear h;replace H:=Option.bind_eq_some_iff.mp H;obtain ⟨t121,A20,H⟩:=H
 try dsimp only at H
 have A2:=Am2_ A20;clear A20
 by_cases c3:t121=true
 ·subst c3
  rw [if_pos rfl] at H
  replace H:=Option.bind_eq_some_iff.mp H;obtain ⟨t122,A40,H⟩:=H
  try dsimp only at H
  have A4:=Am2_ A40;clear A40;obtain rfl:=Option.some.inj H
  go_enter Tryd.func21,Tryd.ntmps21
  go_wp2_with (first|((with_reducible refine gate_dst (N:=1) rfl ?_);refine box_event ?hg (N:=1) ?hd (cs:=#[.bool a0_0,.string a0_1,.int .i64 a0_2]) (t:=26) ?hr ?_;(case hd => rfl);(case hg => rfl);(case hr => first|(go_simp;done)|(go_simp;rfl));intro gb120 hg w5 hbox hb;have n0_:=bs_ HB hb;have n1_:=Am2_ (hbox);have n2_:=gw_ hg HB;have n3_:=gw_ hg HB;clear HB;have HB:=n0_;have BK120:=n1_;have GW120:=n2_;have GE120:=n3_;clear n0_ n1_ n2_ n3_;clear hb hbox hg;have hcz6_0:w5.cell? ⟨gb120,0,none⟩=some (.bool a0_0):=q_ BK120 0 rfl;have hcz6_1:w5.cell? ⟨gb120,1,none⟩=some (.string a0_1):=q_ BK120 1 rfl;have hcz6_2:w5.cell? ⟨gb120,2,none⟩=some (.int .i64 a0_2):=q_ BK120 2 rfl;have hfz6_0:=blk_frozen BK120.out 0;have hfz6_1:=blk_frozen BK120.out 1;have hfz6_2:=blk_frozen BK120.out 2)|((with_reducible refine gate_callee (f:=35) rfl ?_);refine goesL_ (some 5) rfl rfl Tryd.func35 (by kernel_rfl) rfl #[.string a0_1] rfl (by (try simp only [List.map_toArray,List.map_cons,List.map_nil]);first|done|rfl|(simp only [List.length_drop,List.length_take];rfl)) ?_;(with_reducible refine (spec_IsHost.calls k a0_1 true _ A2.out).mono ?_);rintro e w7 ⟨rfl,hb⟩;refine ⟨_,rfl,?_⟩;have n0_:=bb_ BK120 hb;have n1_:=bs_ HB hb;clear BK120;clear HB;have BK120:=n0_;have HB:=n1_;clear n0_ n1_;(try clear hb);(try clear hb2);(try clear hk);(try clear hi);have hcz8_0:w7.cell? ⟨gb120,0,none⟩=some (.bool a0_0):=q_ BK120 0 rfl;have hcz8_1:w7.cell? ⟨gb120,1,none⟩=some (.string a0_1):=q_ BK120 1 rfl;have hcz8_2:w7.cell? ⟨gb120,2,none⟩=some (.int .i64 a0_2):=q_ BK120 2 rfl;have hfz8_0:=blk_frozen BK120.out 0;have hfz8_1:=blk_frozen BK120.out 1;have hfz8_2:=blk_frozen BK120.out 2)|(go_at_call 36;(with_reducible refine (spec_l1In.calls a0_2 1 65535 t122 _ A4.out).mono ?_);rintro e w' ⟨rfl,⟨nd,rfl⟩⟩))
  go_ret
  exact ⟨by first|rfl|(simp [errW_none,errW_some] <;> rfl)|(simp [*,errW_none,errW_some] <;> rfl),by repeat (first|(with_reducible first|exact HB.out|apply below_alloc|apply pw_below_drewN|apply below_drew1|refine below_set ?_ GE120.out)|exact HB.out)⟩
 ·replace c3:=Bool.eq_false_iff.mpr c3;subst c3
  rw [if_neg (show ¬ (false=true) by decide)] at H
  obtain rfl:=Option.some.inj H
  go_enter Tryd.func21,Tryd.ntmps21
  go_wp2_with (first|((with_reducible refine gate_dst (N:=1) rfl ?_);refine box_event ?hg (N:=1) ?hd (cs:=#[.bool a0_0,.string a0_1,.int .i64 a0_2]) (t:=26) ?hr ?_;(case hd => rfl);(case hg => rfl);(case hr => first|(go_simp;done)|(go_simp;rfl));intro gb120 hg w9 hbox hb;have n0_:=bs_ HB hb;have n1_:=Am2_ (hbox);have n2_:=gw_ hg HB;have n3_:=gw_ hg HB;clear HB;have HB:=n0_;have BK120:=n1_;have GW120:=n2_;have GE120:=n3_;clear n0_ n1_ n2_ n3_;clear hb hbox hg;have hcz10_0:w9.cell? ⟨gb120,0,none⟩=some (.bool a0_0):=q_ BK120 0 rfl;have hcz10_1:w9.cell? ⟨gb120,1,none⟩=some (.string a0_1):=q_ BK120 1 rfl;have hcz10_2:w9.cell? ⟨gb120,2,none⟩=some (.int .i64 a0_2):=q_ BK120 2 rfl;have hfz10_0:=blk_frozen BK120.out 0;have hfz10_1:=blk_frozen BK120.out 1;have hfz10_2:=blk_frozen BK120.out 2)|((with_reducible refine gate_callee (f:=35) rfl ?_);refine goesL_ (some 5) rfl rfl Tryd.func35 (by kernel_rfl) rfl #[.string a0_1] rfl (by (try simp only [List.map_toArray,List.map_cons,List.map_nil]);first|done|rfl|(simp only [List.length_drop,List.length_take];rfl)) ?_;(with_reducible refine (spec_IsHost.calls k a0_1 false _ A2.out).mono ?_);rintro e w11 ⟨rfl,hb⟩;refine ⟨_,rfl,?_⟩;have n0_:=bb_ BK120 hb;have n1_:=bs_ HB hb;clear BK120;clear HB;have BK120:=n0_;have HB:=n1_;clear n0_ n1_;(try clear hb);(try clear hb2);(try clear hk);(try clear hi)))
  go_ret
  exact ⟨by first|rfl|(simp [errW_none,errW_some] <;> rfl)|(simp [*,errW_none,errW_some] <;> rfl),by repeat (first|(with_reducible first|exact HB.out|apply below_alloc|apply pw_below_drewN|apply below_drew1|refine below_set ?_ GE120.out)|exact HB.out)⟩

/-! ### spec_FormatInt: function 22 -/
def spec_FormatInt.l0:Nat → Int → ByteArray → Int → Option (ByteArray)
|0,_,_,_ => none
|k + 1,x0,x3,x4 => if x4=0 then (if x0 < 0 then (if 1 + x3.size ≤ 9223372036854775807 then (some ((⟨#[45]⟩:ByteArray) ++ x3)) else (none)) else (some x3)) else (if (Int.tmod x4 10) < 0 then ((some (([(wrap64 (48 + (wrap64 (-(Int.tmod x4 10))))) % 256]:List Int):List Int)).bind fun y123 => (if (strOfNums y123).size + x3.size ≤ 9223372036854775807 then (spec_FormatInt.l0 k x0 ((strOfNums y123) ++ x3) (wrap64 (Int.tdiv x4 10))) else (none))) else ((some (([(wrap64 (48 + (Int.tmod x4 10))) % 256]:List Int):List Int)).bind fun y126 => (if (strOfNums y126).size + x3.size ≤ 9223372036854775807 then (spec_FormatInt.l0 k x0 ((strOfNums y126) ++ x3) (wrap64 (Int.tdiv x4 10))) else (none))))
def spec_FormatInt.f (k:Nat) (a0:Int):Option (ByteArray):=if a0=0 then (some (⟨#[48]⟩:ByteArray)) else (spec_FormatInt.l0 k a0 (⟨#[]⟩:ByteArray) a0)
theorem spec_FormatInt.mono_l:∀ k,(∀ y0 y1 y2,LeO (spec_FormatInt.l0 k y0 y1 y2) (spec_FormatInt.l0 (k + 1) y0 y1 y2))
|0 => fun _ _ _ r h => by simp [spec_FormatInt.l0] at h
|k + 1 => by
  have ih0:=spec_FormatInt.mono_l k
  ·intro y0 y1 y2
   unfold spec_FormatInt.l0
   repeat' first
  |(with_reducible exact ih0 _ _ _)
  |(with_reducible exact LeO.refl _)
  |(with_reducible exact LeO.none _)
  |(with_reducible refine LeO.ite ?_ ?_)
  |(with_reducible refine LeO.bind ?_ (fun _ => ?_))
  |exact ih0 _ _ _
  |exact LeO.none _
  |refine LeO.ite ?_ ?_
  |refine LeO.bind ?_ (fun _ => ?_)
theorem spec_FormatInt.mono:∀ a0 k,LeO (spec_FormatInt.f k a0) (spec_FormatInt.f (k + 1) a0):=by
 intro a0 k;have ih0:=spec_FormatInt.mono_l k
 unfold spec_FormatInt.f
 repeat' first
  |(with_reducible exact ih0 _ _ _)
  |(with_reducible exact LeO.refl _)
  |(with_reducible exact LeO.none _)
  |(with_reducible refine LeO.ite ?_ ?_)
  |(with_reducible refine LeO.bind ?_ (fun _ => ?_))
  |exact ih0 _ _ _
  |exact LeO.none _
  |refine LeO.ite ?_ ?_
  |refine LeO.bind ?_ (fun _ => ?_)
set_option maxHeartbeats 8000000 in
set_option maxRecDepth 100000 in
theorem spec_FormatInt.calls (k:Nat) (a0:Int) (r:ByteArray) (w:World) (h:spec_FormatInt.f k a0=some r) :
  Calls Tryd.prog 22 #[.int .i64 a0] w fun e w' => e=.returned (.string r)∧Below w.heap.size w w':=by
 have HB:=Am2_ (Below.refl w.heap.size w);have H:=h;unfold spec_FormatInt.f at H;clear h
 by_cases c2:a0=0
 ·rw [if_pos c2] at H
  have c2b0:(a0 == 0)=true:=beq_iff_eq.mpr c2;have c2b1:(a0 != 0)=false:=bne_eq_false_iff_eq.mpr c2;clear c2;obtain rfl:=Option.some.inj H
  go_enter Tryd.func22,Tryd.ntmps22
  go_wp2
  go_ret
  exact ⟨by first|rfl|(simp [errW_none,errW_some] <;> rfl)|(simp [*,errW_none,errW_some] <;> rfl),by repeat (first|(with_reducible first|exact HB.out|apply below_alloc|apply pw_below_drewN|apply below_drew1)|exact HB.out)⟩
 ·rw [if_neg c2] at H
  have c2b0:(a0 == 0)=false:=beq_eq_false_iff_ne.mpr c2;have c2b1:(a0 != 0)=true:=bne_iff_ne.mpr c2;have H':=Am2_ H;clear H
  go_enter Tryd.func22,Tryd.ntmps22
  go_wp2
  go_loopg [3,4] k (fun kq v3 v4 w' => ∃ (x3_1:ByteArray) (x4_1:Int),v3=.string x3_1∧v4=.int .i64 x4_1∧Aside0 (spec_FormatInt.l0 kq a0 x3_1 x4_1=some r)∧Aside0 (kq ≤ k)∧Aside0 (Below w.heap.size w w'))
  case atStart => exact ⟨((⟨#[]⟩:ByteArray)),(a0),(by first|rfl|(simp;done)|(simp [*];done)),(by first|rfl|(simp;done)|(simp [*];done)),H',⟨Nat.le_refl _⟩,⟨by repeat (first|(with_reducible first|exact HB.out|apply below_alloc|apply pw_below_drewN|apply below_drew1)|exact HB.out)⟩⟩
  case round =>
   clear H'
   try clear c2
   try clear c2b0
   try clear c2b1
   try clear p2
   obtain ⟨x3_1,x4_1,rfl,rfl,HA,HK1,HB⟩:=hrel
   cases gk with
  |zero => exact absurd HA.out (by simp [spec_FormatInt.l0])
  |succ k1 =>
    have H:=HA.out;clear HA;simp only [spec_FormatInt.l0] at H
    by_cases c3:x4_1=0
    ·rw [if_pos c3] at H
     have c3b0:(x4_1 == 0)=true:=beq_iff_eq.mpr c3;have c3b1:(x4_1 != 0)=false:=bne_eq_false_iff_eq.mpr c3;clear c3
     by_cases c4:a0 < 0
     ·rw [if_pos c4] at H
      have c4b0:decide (a0 < 0)=true:=decide_eq_true c4;clear c4
      by_cases c5:1 + x3_1.size ≤ 9223372036854775807
      ·rw [if_pos c5] at H
       have c5b0:=eq_true c5;have c5b1:decide (1 + x3_1.size ≤ 9223372036854775807)=true:=decide_eq_true c5
       try have c5b2:(9223372036854775807 < 1 + x3_1.size)=False:=eq_false (Nat.not_lt.2 c5)
       obtain rfl:=Option.some.inj H
       go_wp2
       go_ret
       exact ⟨by first|rfl|(simp [errW_none,errW_some] <;> rfl)|(simp [*,errW_none,errW_some] <;> rfl),by repeat (first|(with_reducible first|exact HB.out|apply below_alloc|apply pw_below_drewN|apply below_drew1)|exact HB.out)⟩
      ·rw [if_neg c5] at H
       exact absurd H (by simp)
     ·rw [if_neg c4] at H
      have c4b0:decide (a0 < 0)=false:=decide_eq_false c4;clear c4;obtain rfl:=Option.some.inj H
      go_wp2
      go_ret
      exact ⟨by first|rfl|(simp [errW_none,errW_some] <;> rfl)|(simp [*,errW_none,errW_some] <;> rfl),by repeat (first|(with_reducible first|exact HB.out|apply below_alloc|apply pw_below_drewN|apply below_drew1)|exact HB.out)⟩
    ·rw [if_neg c3] at H
     have c3b0:(x4_1 == 0)=false:=beq_eq_false_iff_ne.mpr c3;have c3b1:(x4_1 != 0)=true:=bne_iff_ne.mpr c3
     by_cases c6:(Int.tmod x4_1 10) < 0
     ·rw [if_pos c6] at H
      have c6b0:decide ((Int.tmod x4_1 10) < 0)=true:=decide_eq_true c6;clear c6;obtain ⟨y123,hy123⟩:∃ y_:List Int,y_=(([(wrap64 (48 + (wrap64 (-(Int.tmod x4_1 10))))) % 256]:List Int)):=⟨_,rfl⟩;replace H:(if (strOfNums y123).size + x3_1.size ≤ 9223372036854775807 then (spec_FormatInt.l0 k1 a0 ((strOfNums y123) ++ x3_1) (wrap64 (Int.tdiv x4_1 10))) else (none))=some r:=by first|(rw [hy123];with_reducible exact H)|(have H2_:=(Option.bind_some _ _).symm.trans H;rw [hy123];with_reducible exact H2_)|(have H2_:=(Option.bind_some _ _).symm.trans H;with_reducible exact H2_)|with_reducible exact H|(rw [hy123];exact H)|exact H
      have Ny123:=Am2_ hy123;clear hy123
      by_cases c7:(strOfNums y123).size + x3_1.size ≤ 9223372036854775807
      ·rw [if_pos c7] at H
       have c7b0:=eq_true c7;have c7b1:decide ((strOfNums y123).size + x3_1.size ≤ 9223372036854775807)=true:=decide_eq_true c7
       try have c7b2:(9223372036854775807 < (strOfNums y123).size + x3_1.size)=False:=eq_false (Nat.not_lt.2 c7)
       have H':=Am2_ H;clear H
       go_wp2_with (first|((with_reducible refine gate_dst (N:=22) rfl ?_);refine Kd.R_lit (Kd.int .u8) _ 5 ?hg (N:=22) ?hd (xs:=([(wrap64 (48 + (wrap64 (-(Int.tmod x4_1 10))))) % 256]:List Int)) (inner:=[.int .u8 ((wrap64 (48 + (wrap64 (-(Int.tmod x4_1 10))))) % 256)]) (ok:=fun _ => True) (okp:=fun _ => True) ?hr ?hp (fun _ hk => hk) trivial (Below.refl _ _) (Nat.le_refl _) (by simp) ?_;(case hd => rfl);(case hg => rfl);(case hr => first|(go_simp;done)|(go_simp;rfl));(case hp => exact (Reps.one (show Kd.M (Kd.int .u8) _ _ _ ((wrap64 (48 + (wrap64 (-(Int.tmod x4_1 10))))) % 256) [.int .u8 ((wrap64 (48 + (wrap64 (-(Int.tmod x4_1 10))))) % 256)] from rfl) (Reps.none _ _)));intro v124 w8 ho9 hb hg_ hnew_;clear hg_ hnew_;(first|rw [← Ny123.out] at ho9|(simp only [Int.reduceToNat] at ho9;rw [← Ny123.out] at ho9));have n0_:=Am2_ (Kd.R_lower ho9 (below_size (xe_ HB)));have n1_:=bs_ HB hb;clear HB;have HO125:=n0_;have HB:=n1_;clear n0_ n1_;clear hb ho9;have hcv10:=own_string (P:=Tryd.prog) Tryd.underlying60 Tryd.underlying5 Tryd.underlying9 (Kd.own_of_R HO125.out)))
       go_roundg k1
       case measure => have:=HK1.out;omega
       case rel => exact ⟨((strOfNums y123) ++ x3_1),(wrap64 (Int.tdiv x4_1 10)),(by first|rfl|(simp;done)|(simp [*];done)),(by first|rfl|(simp;done)|(simp [*];done)),H',⟨by have:=HK1.out;omega⟩,⟨by repeat (first|(with_reducible first|exact HB.out|apply below_alloc|apply pw_below_drewN|apply below_drew1)|exact HB.out)⟩⟩
      ·rw [if_neg c7] at H
       exact absurd H (by simp)
     ·rw [if_neg c6] at H
      have c6b0:decide ((Int.tmod x4_1 10) < 0)=false:=decide_eq_false c6;clear c6;obtain ⟨y126,hy126⟩:∃ y_:List Int,y_=(([(wrap64 (48 + (Int.tmod x4_1 10))) % 256]:List Int)):=⟨_,rfl⟩;replace H:(if (strOfNums y126).size + x3_1.size ≤ 9223372036854775807 then (spec_FormatInt.l0 k1 a0 ((strOfNums y126) ++ x3_1) (wrap64 (Int.tdiv x4_1 10))) else (none))=some r:=by first|(rw [hy126];with_reducible exact H)|(have H2_:=(Option.bind_some _ _).symm.trans H;rw [hy126];with_reducible exact H2_)|(have H2_:=(Option.bind_some _ _).symm.trans H;with_reducible exact H2_)|with_reducible exact H|(rw [hy126];exact H)|exact H
      have Ny126:=Am2_ hy126;clear hy126
      by_cases c11:(strOfNums y126).size + x3_1.size ≤ 9223372036854775807
      ·rw [if_pos c11] at H
       have c11b0:=eq_true c11;have c11b1:decide ((strOfNums y126).size + x3_1.size ≤ 9223372036854775807)=true:=decide_eq_true c11
       try have c11b2:(9223372036854775807 < (strOfNums y126).size + x3_1.size)=False:=eq_false (Nat.not_lt.2 c11)
       have H':=Am2_ H;clear H
       go_wp2_with (first|((with_reducible refine gate_dst (N:=22) rfl ?_);refine Kd.R_lit (Kd.int .u8) _ 5 ?hg (N:=22) ?hd (xs:=([(wrap64 (48 + (Int.tmod x4_1 10))) % 256]:List Int)) (inner:=[.int .u8 ((wrap64 (48 + (Int.tmod x4_1 10))) % 256)]) (ok:=fun _ => True) (okp:=fun _ => True) ?hr ?hp (fun _ hk => hk) trivial (Below.refl _ _) (Nat.le_refl _) (by simp) ?_;(case hd => rfl);(case hg => rfl);(case hr => first|(go_simp;done)|(go_simp;rfl));(case hp => exact (Reps.one (show Kd.M (Kd.int .u8) _ _ _ ((wrap64 (48 + (Int.tmod x4_1 10))) % 256) [.int .u8 ((wrap64 (48 + (Int.tmod x4_1 10))) % 256)] from rfl) (Reps.none _ _)));intro v127 w12 ho13 hb hg_ hnew_;clear hg_ hnew_;(first|rw [← Ny126.out] at ho13|(simp only [Int.reduceToNat] at ho13;rw [← Ny126.out] at ho13));have n0_:=Am2_ (Kd.R_lower ho13 (below_size (xe_ HB)));have n1_:=bs_ HB hb;clear HB;have HO128:=n0_;have HB:=n1_;clear n0_ n1_;clear hb ho13;have hcv14:=own_string (P:=Tryd.prog) Tryd.underlying60 Tryd.underlying5 Tryd.underlying9 (Kd.own_of_R HO128.out)))
       go_roundg k1
       case measure => have:=HK1.out;omega
       case rel => exact ⟨((strOfNums y126) ++ x3_1),(wrap64 (Int.tdiv x4_1 10)),(by first|rfl|(simp;done)|(simp [*];done)),(by first|rfl|(simp;done)|(simp [*];done)),H',⟨by have:=HK1.out;omega⟩,⟨by repeat (first|(with_reducible first|exact HB.out|apply below_alloc|apply pw_below_drewN|apply below_drew1)|exact HB.out)⟩⟩
      ·rw [if_neg c11] at H
       exact absurd H (by simp)

/-! ### spec_FormatOrigin: function 8 -/
def spec_FormatOrigin.f (k:Nat) (a0_0:Bool) (a0_1:ByteArray) (a0_2:Int):Option (ByteArray):=(spec_IsOrigin.f k a0_0 a0_1 a0_2).bind fun t130 => (if t130=true then (if a0_0=true then (if a0_2=443 then (if 8 + a0_1.size ≤ 9223372036854775807 then (some ((⟨#[104,116,116,112,115,58,47,47]⟩:ByteArray) ++ a0_1)) else (none)) else (if 8 + a0_1.size ≤ 9223372036854775807 then (if ((⟨#[104,116,116,112,115,58,47,47]⟩:ByteArray) ++ a0_1).size + 1 ≤ 9223372036854775807 then ((spec_FormatInt.f k a0_2).bind fun t131 => (if (((⟨#[104,116,116,112,115,58,47,47]⟩:ByteArray) ++ a0_1) ++ (⟨#[58]⟩:ByteArray)).size + t131.size ≤ 9223372036854775807 then (some ((((⟨#[104,116,116,112,115,58,47,47]⟩:ByteArray) ++ a0_1) ++ (⟨#[58]⟩:ByteArray)) ++ t131)) else (none))) else (none)) else (none))) else (if a0_2=80 then (if 7 + a0_1.size ≤ 9223372036854775807 then (some ((⟨#[104,116,116,112,58,47,47]⟩:ByteArray) ++ a0_1)) else (none)) else (if 7 + a0_1.size ≤ 9223372036854775807 then (if ((⟨#[104,116,116,112,58,47,47]⟩:ByteArray) ++ a0_1).size + 1 ≤ 9223372036854775807 then ((spec_FormatInt.f k a0_2).bind fun t132 => (if (((⟨#[104,116,116,112,58,47,47]⟩:ByteArray) ++ a0_1) ++ (⟨#[58]⟩:ByteArray)).size + t132.size ≤ 9223372036854775807 then (some ((((⟨#[104,116,116,112,58,47,47]⟩:ByteArray) ++ a0_1) ++ (⟨#[58]⟩:ByteArray)) ++ t132)) else (none))) else (none)) else (none)))) else (some (⟨#[]⟩:ByteArray)))
theorem spec_FormatOrigin.mono:∀ a0 a1 a2 k,LeO (spec_FormatOrigin.f k a0 a1 a2) (spec_FormatOrigin.f (k + 1) a0 a1 a2):=by
 intro a0 a1 a2 k
 unfold spec_FormatOrigin.f
 repeat' first
  |(with_reducible exact spec_FormatInt.mono _ _)
  |(with_reducible exact spec_IsOrigin.mono _ _ _ _)
  |(with_reducible exact LeO.refl _)
  |(with_reducible exact LeO.none _)
  |(with_reducible refine LeO.ite ?_ ?_)
  |(with_reducible refine LeO.bind ?_ (fun _ => ?_))
  |exact spec_FormatInt.mono _ _
  |exact spec_IsOrigin.mono _ _ _ _
  |exact LeO.none _
  |refine LeO.ite ?_ ?_
  |refine LeO.bind ?_ (fun _ => ?_)
def spec_FormatOrigin.T10:Bool × List (List Nat × List Nat):=(true,[([],[]),([],[]),([1],[1]),([0,2],[0,2]),([3],[3]),([],[]),([5],[5]),([6],[6]),([4,7],[4,7]),([8,7,0,1,2,3,4,5,6,7,8],[8])])
def spec_FormatOrigin.B10:List Nat:=[0,0,2,7,15,0,32,96,255,511]
theorem spec_FormatOrigin.tab10:rtab .any (opsOf Tryd.f8 10)=spec_FormatOrigin.T10:=by kernel_rfl
theorem spec_FormatOrigin.bits10:waitsOk spec_FormatOrigin.T10.2 spec_FormatOrigin.B10=true:=by kernel_rfl
set_option maxHeartbeats 8000000 in
set_option maxRecDepth 100000 in
theorem spec_FormatOrigin.calls (k:Nat) (a0_0:Bool) (a0_1:ByteArray) (a0_2:Int) (r:ByteArray) (w:World) (h:spec_FormatOrigin.f k a0_0 a0_1 a0_2=some r) :
  Calls Tryd.prog 8 #[.agg #[.bool a0_0,.string a0_1,.int .i64 a0_2]] w fun e w' => e=.returned (.string r)∧Below w.heap.size w w':=by
 have hu26:=Tryd.underlying26;have HB:=Am2_ (Below.refl w.heap.size w);have H:=h;unfold spec_FormatOrigin.f at H;clear h;replace H:=Option.bind_eq_some_iff.mp H;obtain ⟨t130,A20,H⟩:=H
 try dsimp only at H
 have A2:=Am2_ A20;clear A20
 by_cases c3:t130=true
 ·subst c3
  rw [if_pos rfl] at H
  by_cases c4:a0_0=true
  ·subst c4
   rw [if_pos rfl] at H
   by_cases c5:a0_2=443
   ·rw [if_pos c5] at H
    have c5b0:(a0_2 == 443)=true:=beq_iff_eq.mpr c5;have c5b1:(a0_2 != 443)=false:=bne_eq_false_iff_eq.mpr c5;clear c5
    by_cases c6:8 + a0_1.size ≤ 9223372036854775807
    ·rw [if_pos c6] at H
     have c6b0:=eq_true c6;have c6b1:decide (8 + a0_1.size ≤ 9223372036854775807)=true:=decide_eq_true c6
     try have c6b2:(9223372036854775807 < 8 + a0_1.size)=False:=eq_false (Nat.not_lt.2 c6)
     obtain rfl:=Option.some.inj H
     go_enter Tryd.func8,Tryd.ntmps8
     go_wp2_with (first|((with_reducible refine gate_dst (N:=1) rfl ?_);refine box_event ?hg (N:=1) ?hd (cs:=#[.bool true,.string a0_1,.int .i64 a0_2]) (t:=26) ?hr ?_;(case hd => rfl);(case hg => rfl);(case hr => first|(go_simp;done)|(go_simp;rfl));intro gb129 hg w7 hbox hb;have n0_:=bs_ HB hb;have n1_:=Am2_ (hbox);have n2_:=gw_ hg HB;have n3_:=gw_ hg HB;clear HB;have HB:=n0_;have BK129:=n1_;have GW129:=n2_;have GE129:=n3_;clear n0_ n1_ n2_ n3_;clear hb hbox hg;have hcz8_0:w7.cell? ⟨gb129,0,none⟩=some (.bool true):=q_ BK129 0 rfl;have hcz8_1:w7.cell? ⟨gb129,1,none⟩=some (.string a0_1):=q_ BK129 1 rfl;have hcz8_2:w7.cell? ⟨gb129,2,none⟩=some (.int .i64 a0_2):=q_ BK129 2 rfl;have hfz8_0:=blk_frozen BK129.out 0;have hfz8_1:=blk_frozen BK129.out 1;have hfz8_2:=blk_frozen BK129.out 2)|((with_reducible refine gate_callee (f:=21) rfl ?_);refine goesL_ (some 6) rfl rfl Tryd.func21 (by kernel_rfl) rfl #[.agg #[.bool true,.string a0_1,.int .i64 a0_2]] rfl (by (try simp only [List.map_toArray,List.map_cons,List.map_nil]);first|done|rfl|(simp only [List.length_drop,List.length_take];rfl)) ?_;(with_reducible refine (spec_IsOrigin.calls k true a0_1 a0_2 true _ A2.out).mono ?_);rintro e w9 ⟨rfl,hb⟩;refine ⟨_,rfl,?_⟩;have n0_:=bb_ BK129 hb;have n1_:=bs_ HB hb;clear BK129;clear HB;have BK129:=n0_;have HB:=n1_;clear n0_ n1_;(try clear hb);(try clear hb2);(try clear hk);(try clear hi);have hcz10_0:w9.cell? ⟨gb129,0,none⟩=some (.bool true):=q_ BK129 0 rfl;have hcz10_1:w9.cell? ⟨gb129,1,none⟩=some (.string a0_1):=q_ BK129 1 rfl;have hcz10_2:w9.cell? ⟨gb129,2,none⟩=some (.int .i64 a0_2):=q_ BK129 2 rfl;have hfz10_0:=blk_frozen BK129.out 0;have hfz10_1:=blk_frozen BK129.out 1;have hfz10_2:=blk_frozen BK129.out 2))
     go_ret
     exact ⟨by first|rfl|(simp [errW_none,errW_some] <;> rfl)|(simp [*,errW_none,errW_some] <;> rfl),by repeat (first|(with_reducible first|exact HB.out|apply below_alloc|apply pw_below_drewN|apply below_drew1|refine below_set ?_ GE129.out)|exact HB.out)⟩
    ·rw [if_neg c6] at H
     exact absurd H (by simp)
   ·rw [if_neg c5] at H
    have c5b0:(a0_2 == 443)=false:=beq_eq_false_iff_ne.mpr c5;have c5b1:(a0_2 != 443)=true:=bne_iff_ne.mpr c5
    by_cases c11:8 + a0_1.size ≤ 9223372036854775807
    ·rw [if_pos c11] at H
     have c11b0:=eq_true c11;have c11b1:decide (8 + a0_1.size ≤ 9223372036854775807)=true:=decide_eq_true c11
     try have c11b2:(9223372036854775807 < 8 + a0_1.size)=False:=eq_false (Nat.not_lt.2 c11)
     by_cases c12:((⟨#[104,116,116,112,115,58,47,47]⟩:ByteArray) ++ a0_1).size + 1 ≤ 9223372036854775807
     ·rw [if_pos c12] at H
      have c12b0:=eq_true c12;have c12b1:decide (((⟨#[104,116,116,112,115,58,47,47]⟩:ByteArray) ++ a0_1).size + 1 ≤ 9223372036854775807)=true:=decide_eq_true c12
      try have c12b2:(9223372036854775807 < ((⟨#[104,116,116,112,115,58,47,47]⟩:ByteArray) ++ a0_1).size + 1)=False:=eq_false (Nat.not_lt.2 c12)
      have c12b3:(9223372036854775807 < 8 + a0_1.size + 1)=False:=by
       have e:=c12b2;simp only [ByteArray.size_append] at e;exact e
      replace H:=Option.bind_eq_some_iff.mp H;obtain ⟨t131,A130,H⟩:=H
      try dsimp only at H
      have A13:=Am2_ A130;clear A130
      by_cases c14:(((⟨#[104,116,116,112,115,58,47,47]⟩:ByteArray) ++ a0_1) ++ (⟨#[58]⟩:ByteArray)).size + t131.size ≤ 9223372036854775807
      ·rw [if_pos c14] at H
       have c14b0:=eq_true c14;have c14b1:decide ((((⟨#[104,116,116,112,115,58,47,47]⟩:ByteArray) ++ a0_1) ++ (⟨#[58]⟩:ByteArray)).size + t131.size ≤ 9223372036854775807)=true:=decide_eq_true c14
       try have c14b2:(9223372036854775807 < (((⟨#[104,116,116,112,115,58,47,47]⟩:ByteArray) ++ a0_1) ++ (⟨#[58]⟩:ByteArray)).size + t131.size)=False:=eq_false (Nat.not_lt.2 c14)
       have c14b3:(9223372036854775807 < 8 + a0_1.size + 1 + t131.size)=False:=by
        have e:=c14b2;simp only [ByteArray.size_append] at e;exact e
       obtain rfl:=Option.some.inj H
       go_enter Tryd.func8,Tryd.ntmps8
       try go_wp2_with (first|((with_reducible refine gate_dst (N:=1) rfl ?_);refine box_event ?hg (N:=1) ?hd (cs:=#[.bool true,.string a0_1,.int .i64 a0_2]) (t:=26) ?hr ?_;(case hd => rfl);(case hg => rfl);(case hr => first|(go_simp;done)|(go_simp;rfl));intro gb129 hg w15 hbox hb;have n0_:=bs_ HB hb;have n1_:=Am2_ (hbox);have n2_:=gw_ hg HB;have n3_:=gw_ hg HB;clear HB;have HB:=n0_;have BK129:=n1_;have GW129:=n2_;have GE129:=n3_;clear n0_ n1_ n2_ n3_;clear hb hbox hg;have hcz16_0:w15.cell? ⟨gb129,0,none⟩=some (.bool true):=q_ BK129 0 rfl;have hcz16_1:w15.cell? ⟨gb129,1,none⟩=some (.string a0_1):=q_ BK129 1 rfl;have hcz16_2:w15.cell? ⟨gb129,2,none⟩=some (.int .i64 a0_2):=q_ BK129 2 rfl;have hfz16_0:=blk_frozen BK129.out 0;have hfz16_1:=blk_frozen BK129.out 1;have hfz16_2:=blk_frozen BK129.out 2)|((with_reducible refine gate_callee (f:=21) rfl ?_);refine goesL_ (some 6) rfl rfl Tryd.func21 (by kernel_rfl) rfl #[.agg #[.bool true,.string a0_1,.int .i64 a0_2]] rfl (by (try simp only [List.map_toArray,List.map_cons,List.map_nil]);first|done|rfl|(simp only [List.length_drop,List.length_take];rfl)) ?_;(with_reducible refine (spec_IsOrigin.calls k true a0_1 a0_2 true _ A2.out).mono ?_);rintro e w17 ⟨rfl,hb⟩;refine ⟨_,rfl,?_⟩;have n0_:=bb_ BK129 hb;have n1_:=bs_ HB hb;clear BK129;clear HB;have BK129:=n0_;have HB:=n1_;clear n0_ n1_;(try clear hb);(try clear hb2);(try clear hk);(try clear hi);have hcz18_0:w17.cell? ⟨gb129,0,none⟩=some (.bool true):=q_ BK129 0 rfl;have hcz18_1:w17.cell? ⟨gb129,1,none⟩=some (.string a0_1):=q_ BK129 1 rfl;have hcz18_2:w17.cell? ⟨gb129,2,none⟩=some (.int .i64 a0_2):=q_ BK129 2 rfl;have hfz18_0:=blk_frozen BK129.out 0;have hfz18_1:=blk_frozen BK129.out 1;have hfz18_2:=blk_frozen BK129.out 2))
       replace BK129:=Am2_ (blk_drew BK129.out);replace HB:=Am2_ (below_drew1 HB.out);refine start_ (n:=10) (S:=fun w' => w'.cell? ⟨gb129,0,none⟩=some (.bool true)∧w'.cell? ⟨gb129,1,none⟩=some (.string a0_1)∧w'.cell? ⟨gb129,2,none⟩=some (.int .i64 a0_2)) (ds:=[]) #[false,false,false,false,false,false,false,false,false,false] (by kernel_rfl) rfl rfl ⟨q_ BK129 0 rfl,q_ BK129 1 rfl,q_ BK129 2 rfl⟩ (fun hHeld => ?_);refine with_tabW spec_FormatOrigin.tab10 spec_FormatOrigin.bits10 (fun HT_ HW_ => ?_);generalize w17.drew=w19 at BK129 HB hHeld ⊢;refine pure_ (i:=0) (N:=some 18) (v:=?_) (a':=?_) #[true,false,false,false,false,false,false,false,false,false] rfl rfl (any_of HT_.out (by kernel_rfl)) (fun _ _ _ h => h) (Or.inl ⟨by rfl,?_⟩) ?_ ?_;rotate_left
       ·intro w'
        go_simp
        with_reducible rfl
       rotate_left
       ·simp only [Act.put,Sa_,Sb_,Sc_,i64_w,i32_w]
        rfl
       refine pure_ (i:=1) (N:=some 19) (v:=?_) (a':=?_) #[true,true,false,false,false,false,false,false,false,false] rfl rfl (any_of HT_.out (by kernel_rfl)) (fun _ _ _ h => h) (Or.inl ⟨by rfl,?_⟩) ?_ ?_;rotate_left
       ·intro w'
        go_simp
        with_reducible rfl
       rotate_left
       ·simp only [Act.put,Sa_,Sb_,Sc_,i64_w,i32_w]
        rfl
       refine pure_ (i:=5) (N:=some 23) (v:=?_) (a':=?_) #[true,true,false,false,false,true,false,false,false,false] rfl rfl (any_of HT_.out (by kernel_rfl)) (fun _ _ _ h => h) (Or.inl ⟨by rfl,?_⟩) ?_ ?_;rotate_left
       ·intro w'
        go_simp
        with_reducible rfl
       rotate_left
       ·simp only [Act.put,Sa_,Sb_,Sc_,i64_w,i32_w]
        rfl
       refine take_ (i:=2) (N:=some 20) (v:=?_) (a':=?_) #[true,true,true,false,false,true,false,false,false,false] rfl rfl (take_ofW HT_.out HW_.out (by kernel_rfl)) (fun _ _ _ h => h) (Or.inl ⟨by rfl,?_⟩) hHeld ?_ ?_;rotate_left
       ·rintro w' ⟨s0,s1,s2⟩
        go_simp
        with_reducible rfl
       rotate_left
       ·simp only [Act.put,Sa_,Sb_,Sc_,i64_w,i32_w]
        rfl
       refine pure_ (i:=3) (N:=some 21) (v:=?_) (a':=?_) #[true,true,true,true,false,true,false,false,false,false] rfl rfl (any_of HT_.out (by kernel_rfl)) (fun _ _ _ h => h) (Or.inl ⟨by rfl,?_⟩) ?_ ?_;rotate_left
       ·intro w'
        go_simp
        with_reducible rfl
       rotate_left
       ·simp only [Act.put,Sa_,Sb_,Sc_,i64_w,i32_w]
        rfl
       refine pure_ (i:=4) (N:=some 22) (v:=?_) (a':=?_) #[true,true,true,true,true,true,false,false,false,false] rfl rfl (any_of HT_.out (by kernel_rfl)) (fun _ _ _ h => h) (Or.inl ⟨by rfl,?_⟩) ?_ ?_;rotate_left
       ·intro w'
        go_simp
        with_reducible rfl
       rotate_left
       ·simp only [Act.put,Sa_,Sb_,Sc_,i64_w,i32_w]
        rfl
       refine take_ (i:=6) (N:=some 24) (v:=?_) (a':=?_) #[true,true,true,true,true,true,true,false,false,false] rfl rfl (take_ofW HT_.out HW_.out (by kernel_rfl)) (fun _ _ _ h => h) (Or.inl ⟨by rfl,?_⟩) hHeld ?_ ?_;rotate_left
       ·rintro w' ⟨s0,s1,s2⟩
        go_simp
        with_reducible rfl
       rotate_left
       ·simp only [Act.put,Sa_,Sb_,Sc_,i64_w,i32_w]
        rfl
       refine one_ (i:=7) (N:=some 25) #[true,true,true,true,true,true,true,true,false,false] rfl rfl (one_of HT_.out (by kernel_rfl)) (by decide) (fun K hK => ?_);refine goes_ Tryd.func22 (by kernel_rfl) rfl #[.int .i64 a0_2] (by rfl) rfl rfl (by (try simp only [List.map_toArray,List.map_cons,List.map_nil]);first|done|rfl|(simp only [List.length_drop,List.length_take];rfl)) ?_;with_reducible refine (spec_FormatInt.calls k a0_2 t131 _ A13.out).mono ?_;rintro e w20 ⟨rfl,hb⟩;refine ⟨_,rfl,?_⟩;replace BK129:=bb_ BK129 hb;replace HB:=bs_ HB hb;(try clear hb);(try clear hb2);(try clear hk);(try clear hi);refine hK.out _ _ ⟨q_ BK129 0 rfl,q_ BK129 1 rfl,q_ BK129 2 rfl⟩ (fun hHeld => ?_);clear hK K;refine norm_ (a':=?_) ?_ ?_;rotate_left
       ·show Act.put _ (some 25) _=_
        simp only [Act.put,Sa_,Sb_,Sc_,i64_w,i32_w]
        rfl
       refine pure_ (i:=8) (N:=some 26) (v:=?_) (a':=?_) #[true,true,true,true,true,true,true,true,true,false] rfl rfl (any_of HT_.out (by kernel_rfl)) (fun _ _ _ h => h) (Or.inl ⟨by rfl,?_⟩) ?_ ?_;rotate_left
       ·intro w'
        go_simp
        with_reducible rfl
       rotate_left
       ·simp only [Act.put,Sa_,Sb_,Sc_,i64_w,i32_w]
        rfl
       refine pure_ (i:=9) (N:=some 2) (v:=?_) (a':=?_) #[true,true,true,true,true,true,true,true,true,true] rfl rfl (any_of HT_.out (by kernel_rfl)) (fun _ _ _ h => h) (Or.inl ⟨by rfl,?_⟩) ?_ ?_;rotate_left
       ·intro w'
        go_simp
        with_reducible rfl
       rotate_left
       ·simp only [Act.put,Sa_,Sb_,Sc_,i64_w,i32_w]
        rfl
       refine done_ (done_of HT_.out (by kernel_rfl)) ?_
       try go_wp2
       go_ret
       exact ⟨by first|rfl|(simp [errW_none,errW_some] <;> rfl)|(simp [*,errW_none,errW_some] <;> rfl),by repeat (first|(with_reducible first|exact HB.out|apply below_alloc|apply pw_below_drewN|apply below_drew1|refine below_set ?_ GE129.out)|exact HB.out)⟩
      ·rw [if_neg c14] at H
       exact absurd H (by simp)
     ·rw [if_neg c12] at H
      exact absurd H (by simp)
    ·rw [if_neg c11] at H
     exact absurd H (by simp)
  ·replace c4:=Bool.eq_false_iff.mpr c4;subst c4
   rw [if_neg (show ¬ (false=true) by decide)] at H
   by_cases c21:a0_2=80
   ·rw [if_pos c21] at H
    have c21b0:(a0_2 == 80)=true:=beq_iff_eq.mpr c21;have c21b1:(a0_2 != 80)=false:=bne_eq_false_iff_eq.mpr c21;clear c21
    by_cases c22:7 + a0_1.size ≤ 9223372036854775807
    ·rw [if_pos c22] at H
     have c22b0:=eq_true c22;have c22b1:decide (7 + a0_1.size ≤ 9223372036854775807)=true:=decide_eq_true c22
     try have c22b2:(9223372036854775807 < 7 + a0_1.size)=False:=eq_false (Nat.not_lt.2 c22)
     obtain rfl:=Option.some.inj H
     go_enter Tryd.func8,Tryd.ntmps8
     go_wp2_with (first|((with_reducible refine gate_dst (N:=1) rfl ?_);refine box_event ?hg (N:=1) ?hd (cs:=#[.bool false,.string a0_1,.int .i64 a0_2]) (t:=26) ?hr ?_;(case hd => rfl);(case hg => rfl);(case hr => first|(go_simp;done)|(go_simp;rfl));intro gb129 hg w23 hbox hb;have n0_:=bs_ HB hb;have n1_:=Am2_ (hbox);have n2_:=gw_ hg HB;have n3_:=gw_ hg HB;clear HB;have HB:=n0_;have BK129:=n1_;have GW129:=n2_;have GE129:=n3_;clear n0_ n1_ n2_ n3_;clear hb hbox hg;have hcz24_0:w23.cell? ⟨gb129,0,none⟩=some (.bool false):=q_ BK129 0 rfl;have hcz24_1:w23.cell? ⟨gb129,1,none⟩=some (.string a0_1):=q_ BK129 1 rfl;have hcz24_2:w23.cell? ⟨gb129,2,none⟩=some (.int .i64 a0_2):=q_ BK129 2 rfl;have hfz24_0:=blk_frozen BK129.out 0;have hfz24_1:=blk_frozen BK129.out 1;have hfz24_2:=blk_frozen BK129.out 2)|((with_reducible refine gate_callee (f:=21) rfl ?_);refine goesL_ (some 6) rfl rfl Tryd.func21 (by kernel_rfl) rfl #[.agg #[.bool false,.string a0_1,.int .i64 a0_2]] rfl (by (try simp only [List.map_toArray,List.map_cons,List.map_nil]);first|done|rfl|(simp only [List.length_drop,List.length_take];rfl)) ?_;(with_reducible refine (spec_IsOrigin.calls k false a0_1 a0_2 true _ A2.out).mono ?_);rintro e w25 ⟨rfl,hb⟩;refine ⟨_,rfl,?_⟩;have n0_:=bb_ BK129 hb;have n1_:=bs_ HB hb;clear BK129;clear HB;have BK129:=n0_;have HB:=n1_;clear n0_ n1_;(try clear hb);(try clear hb2);(try clear hk);(try clear hi);have hcz26_0:w25.cell? ⟨gb129,0,none⟩=some (.bool false):=q_ BK129 0 rfl;have hcz26_1:w25.cell? ⟨gb129,1,none⟩=some (.string a0_1):=q_ BK129 1 rfl;have hcz26_2:w25.cell? ⟨gb129,2,none⟩=some (.int .i64 a0_2):=q_ BK129 2 rfl;have hfz26_0:=blk_frozen BK129.out 0;have hfz26_1:=blk_frozen BK129.out 1;have hfz26_2:=blk_frozen BK129.out 2))
     go_ret
     exact ⟨by first|rfl|(simp [errW_none,errW_some] <;> rfl)|(simp [*,errW_none,errW_some] <;> rfl),by repeat (first|(with_reducible first|exact HB.out|apply below_alloc|apply pw_below_drewN|apply below_drew1|refine below_set ?_ GE129.out)|exact HB.out)⟩
    ·rw [if_neg c22] at H
     exact absurd H (by simp)
   ·rw [if_neg c21] at H
    have c21b0:(a0_2 == 80)=false:=beq_eq_false_iff_ne.mpr c21;have c21b1:(a0_2 != 80)=true:=bne_iff_ne.mpr c21
    by_cases c27:7 + a0_1.size ≤ 9223372036854775807
    ·rw [if_pos c27] at H
     have c27b0:=eq_true c27;have c27b1:decide (7 + a0_1.size ≤ 9223372036854775807)=true:=decide_eq_true c27
     try have c27b2:(9223372036854775807 < 7 + a0_1.size)=False:=eq_false (Nat.not_lt.2 c27)
     by_cases c28:((⟨#[104,116,116,112,58,47,47]⟩:ByteArray) ++ a0_1).size + 1 ≤ 9223372036854775807
     ·rw [if_pos c28] at H
      have c28b0:=eq_true c28;have c28b1:decide (((⟨#[104,116,116,112,58,47,47]⟩:ByteArray) ++ a0_1).size + 1 ≤ 9223372036854775807)=true:=decide_eq_true c28
      try have c28b2:(9223372036854775807 < ((⟨#[104,116,116,112,58,47,47]⟩:ByteArray) ++ a0_1).size + 1)=False:=eq_false (Nat.not_lt.2 c28)
      have c28b3:(9223372036854775807 < 7 + a0_1.size + 1)=False:=by
       have e:=c28b2;simp only [ByteArray.size_append] at e;exact e
      replace H:=Option.bind_eq_some_iff.mp H;obtain ⟨t132,A290,H⟩:=H
      try dsimp only at H
      have A29:=Am2_ A290;clear A290
      by_cases c30:(((⟨#[104,116,116,112,58,47,47]⟩:ByteArray) ++ a0_1) ++ (⟨#[58]⟩:ByteArray)).size + t132.size ≤ 9223372036854775807
      ·rw [if_pos c30] at H
       have c30b0:=eq_true c30;have c30b1:decide ((((⟨#[104,116,116,112,58,47,47]⟩:ByteArray) ++ a0_1) ++ (⟨#[58]⟩:ByteArray)).size + t132.size ≤ 9223372036854775807)=true:=decide_eq_true c30
       try have c30b2:(9223372036854775807 < (((⟨#[104,116,116,112,58,47,47]⟩:ByteArray) ++ a0_1) ++ (⟨#[58]⟩:ByteArray)).size + t132.size)=False:=eq_false (Nat.not_lt.2 c30)
       have c30b3:(9223372036854775807 < 7 + a0_1.size + 1 + t132.size)=False:=by
        have e:=c30b2;simp only [ByteArray.size_append] at e;exact e
       obtain rfl:=Option.some.inj H
       go_enter Tryd.func8,Tryd.ntmps8
       try go_wp2_with (first|((with_reducible refine gate_dst (N:=1) rfl ?_);refine box_event ?hg (N:=1) ?hd (cs:=#[.bool false,.string a0_1,.int .i64 a0_2]) (t:=26) ?hr ?_;(case hd => rfl);(case hg => rfl);(case hr => first|(go_simp;done)|(go_simp;rfl));intro gb129 hg w31 hbox hb;have n0_:=bs_ HB hb;have n1_:=Am2_ (hbox);have n2_:=gw_ hg HB;have n3_:=gw_ hg HB;clear HB;have HB:=n0_;have BK129:=n1_;have GW129:=n2_;have GE129:=n3_;clear n0_ n1_ n2_ n3_;clear hb hbox hg;have hcz32_0:w31.cell? ⟨gb129,0,none⟩=some (.bool false):=q_ BK129 0 rfl;have hcz32_1:w31.cell? ⟨gb129,1,none⟩=some (.string a0_1):=q_ BK129 1 rfl;have hcz32_2:w31.cell? ⟨gb129,2,none⟩=some (.int .i64 a0_2):=q_ BK129 2 rfl;have hfz32_0:=blk_frozen BK129.out 0;have hfz32_1:=blk_frozen BK129.out 1;have hfz32_2:=blk_frozen BK129.out 2)|((with_reducible refine gate_callee (f:=21) rfl ?_);refine goesL_ (some 6) rfl rfl Tryd.func21 (by kernel_rfl) rfl #[.agg #[.bool false,.string a0_1,.int .i64 a0_2]] rfl (by (try simp only [List.map_toArray,List.map_cons,List.map_nil]);first|done|rfl|(simp only [List.length_drop,List.length_take];rfl)) ?_;(with_reducible refine (spec_IsOrigin.calls k false a0_1 a0_2 true _ A2.out).mono ?_);rintro e w33 ⟨rfl,hb⟩;refine ⟨_,rfl,?_⟩;have n0_:=bb_ BK129 hb;have n1_:=bs_ HB hb;clear BK129;clear HB;have BK129:=n0_;have HB:=n1_;clear n0_ n1_;(try clear hb);(try clear hb2);(try clear hk);(try clear hi);have hcz34_0:w33.cell? ⟨gb129,0,none⟩=some (.bool false):=q_ BK129 0 rfl;have hcz34_1:w33.cell? ⟨gb129,1,none⟩=some (.string a0_1):=q_ BK129 1 rfl;have hcz34_2:w33.cell? ⟨gb129,2,none⟩=some (.int .i64 a0_2):=q_ BK129 2 rfl;have hfz34_0:=blk_frozen BK129.out 0;have hfz34_1:=blk_frozen BK129.out 1;have hfz34_2:=blk_frozen BK129.out 2))
       replace BK129:=Am2_ (blk_drew BK129.out);replace HB:=Am2_ (below_drew1 HB.out);refine start_ (n:=10) (S:=fun w' => w'.cell? ⟨gb129,0,none⟩=some (.bool false)∧w'.cell? ⟨gb129,1,none⟩=some (.string a0_1)∧w'.cell? ⟨gb129,2,none⟩=some (.int .i64 a0_2)) (ds:=[]) #[false,false,false,false,false,false,false,false,false,false] (by kernel_rfl) rfl rfl ⟨q_ BK129 0 rfl,q_ BK129 1 rfl,q_ BK129 2 rfl⟩ (fun hHeld => ?_);refine with_tabW spec_FormatOrigin.tab10 spec_FormatOrigin.bits10 (fun HT_ HW_ => ?_);generalize w33.drew=w35 at BK129 HB hHeld ⊢;refine pure_ (i:=0) (N:=some 18) (v:=?_) (a':=?_) #[true,false,false,false,false,false,false,false,false,false] rfl rfl (any_of HT_.out (by kernel_rfl)) (fun _ _ _ h => h) (Or.inl ⟨by rfl,?_⟩) ?_ ?_;rotate_left
       ·intro w'
        go_simp
        with_reducible rfl
       rotate_left
       ·simp only [Act.put,Sa_,Sb_,Sc_,i64_w,i32_w]
        rfl
       refine pure_ (i:=1) (N:=some 19) (v:=?_) (a':=?_) #[true,true,false,false,false,false,false,false,false,false] rfl rfl (any_of HT_.out (by kernel_rfl)) (fun _ _ _ h => h) (Or.inl ⟨by rfl,?_⟩) ?_ ?_;rotate_left
       ·intro w'
        go_simp
        with_reducible rfl
       rotate_left
       ·simp only [Act.put,Sa_,Sb_,Sc_,i64_w,i32_w]
        rfl
       refine pure_ (i:=5) (N:=some 23) (v:=?_) (a':=?_) #[true,true,false,false,false,true,false,false,false,false] rfl rfl (any_of HT_.out (by kernel_rfl)) (fun _ _ _ h => h) (Or.inl ⟨by rfl,?_⟩) ?_ ?_;rotate_left
       ·intro w'
        go_simp
        with_reducible rfl
       rotate_left
       ·simp only [Act.put,Sa_,Sb_,Sc_,i64_w,i32_w]
        rfl
       refine take_ (i:=2) (N:=some 20) (v:=?_) (a':=?_) #[true,true,true,false,false,true,false,false,false,false] rfl rfl (take_ofW HT_.out HW_.out (by kernel_rfl)) (fun _ _ _ h => h) (Or.inl ⟨by rfl,?_⟩) hHeld ?_ ?_;rotate_left
       ·rintro w' ⟨s0,s1,s2⟩
        go_simp
        with_reducible rfl
       rotate_left
       ·simp only [Act.put,Sa_,Sb_,Sc_,i64_w,i32_w]
        rfl
       refine pure_ (i:=3) (N:=some 21) (v:=?_) (a':=?_) #[true,true,true,true,false,true,false,false,false,false] rfl rfl (any_of HT_.out (by kernel_rfl)) (fun _ _ _ h => h) (Or.inl ⟨by rfl,?_⟩) ?_ ?_;rotate_left
       ·intro w'
        go_simp
        with_reducible rfl
       rotate_left
       ·simp only [Act.put,Sa_,Sb_,Sc_,i64_w,i32_w]
        rfl
       refine pure_ (i:=4) (N:=some 22) (v:=?_) (a':=?_) #[true,true,true,true,true,true,false,false,false,false] rfl rfl (any_of HT_.out (by kernel_rfl)) (fun _ _ _ h => h) (Or.inl ⟨by rfl,?_⟩) ?_ ?_;rotate_left
       ·intro w'
        go_simp
        with_reducible rfl
       rotate_left
       ·simp only [Act.put,Sa_,Sb_,Sc_,i64_w,i32_w]
        rfl
       refine take_ (i:=6) (N:=some 24) (v:=?_) (a':=?_) #[true,true,true,true,true,true,true,false,false,false] rfl rfl (take_ofW HT_.out HW_.out (by kernel_rfl)) (fun _ _ _ h => h) (Or.inl ⟨by rfl,?_⟩) hHeld ?_ ?_;rotate_left
       ·rintro w' ⟨s0,s1,s2⟩
        go_simp
        with_reducible rfl
       rotate_left
       ·simp only [Act.put,Sa_,Sb_,Sc_,i64_w,i32_w]
        rfl
       refine one_ (i:=7) (N:=some 25) #[true,true,true,true,true,true,true,true,false,false] rfl rfl (one_of HT_.out (by kernel_rfl)) (by decide) (fun K hK => ?_);refine goes_ Tryd.func22 (by kernel_rfl) rfl #[.int .i64 a0_2] (by rfl) rfl rfl (by (try simp only [List.map_toArray,List.map_cons,List.map_nil]);first|done|rfl|(simp only [List.length_drop,List.length_take];rfl)) ?_;with_reducible refine (spec_FormatInt.calls k a0_2 t132 _ A29.out).mono ?_;rintro e w36 ⟨rfl,hb⟩;refine ⟨_,rfl,?_⟩;replace BK129:=bb_ BK129 hb;replace HB:=bs_ HB hb;(try clear hb);(try clear hb2);(try clear hk);(try clear hi);refine hK.out _ _ ⟨q_ BK129 0 rfl,q_ BK129 1 rfl,q_ BK129 2 rfl⟩ (fun hHeld => ?_);clear hK K;refine norm_ (a':=?_) ?_ ?_;rotate_left
       ·show Act.put _ (some 25) _=_
        simp only [Act.put,Sa_,Sb_,Sc_,i64_w,i32_w]
        rfl
       refine pure_ (i:=8) (N:=some 26) (v:=?_) (a':=?_) #[true,true,true,true,true,true,true,true,true,false] rfl rfl (any_of HT_.out (by kernel_rfl)) (fun _ _ _ h => h) (Or.inl ⟨by rfl,?_⟩) ?_ ?_;rotate_left
       ·intro w'
        go_simp
        with_reducible rfl
       rotate_left
       ·simp only [Act.put,Sa_,Sb_,Sc_,i64_w,i32_w]
        rfl
       refine pure_ (i:=9) (N:=some 2) (v:=?_) (a':=?_) #[true,true,true,true,true,true,true,true,true,true] rfl rfl (any_of HT_.out (by kernel_rfl)) (fun _ _ _ h => h) (Or.inl ⟨by rfl,?_⟩) ?_ ?_;rotate_left
       ·intro w'
        go_simp
        with_reducible rfl
       rotate_left
       ·simp only [Act.put,Sa_,Sb_,Sc_,i64_w,i32_w]
        rfl
       refine done_ (done_of HT_.out (by kernel_rfl)) ?_
       try go_wp2
       go_ret
       exact ⟨by first|rfl|(simp [errW_none,errW_some] <;> rfl)|(simp [*,errW_none,errW_some] <;> rfl),by repeat (first|(with_reducible first|exact HB.out|apply below_alloc|apply pw_below_drewN|apply below_drew1|refine below_set ?_ GE129.out)|exact HB.out)⟩
      ·rw [if_neg c30] at H
       exact absurd H (by simp)
     ·rw [if_neg c28] at H
      exact absurd H (by simp)
    ·rw [if_neg c27] at H
     exact absurd H (by simp)
 ·replace c3:=Bool.eq_false_iff.mpr c3;subst c3
  rw [if_neg (show ¬ (false=true) by decide)] at H
  obtain rfl:=Option.some.inj H
  go_enter Tryd.func8,Tryd.ntmps8
  go_wp2_with (first|((with_reducible refine gate_dst (N:=1) rfl ?_);refine box_event ?hg (N:=1) ?hd (cs:=#[.bool a0_0,.string a0_1,.int .i64 a0_2]) (t:=26) ?hr ?_;(case hd => rfl);(case hg => rfl);(case hr => first|(go_simp;done)|(go_simp;rfl));intro gb129 hg w37 hbox hb;have n0_:=bs_ HB hb;have n1_:=Am2_ (hbox);have n2_:=gw_ hg HB;have n3_:=gw_ hg HB;clear HB;have HB:=n0_;have BK129:=n1_;have GW129:=n2_;have GE129:=n3_;clear n0_ n1_ n2_ n3_;clear hb hbox hg;have hcz38_0:w37.cell? ⟨gb129,0,none⟩=some (.bool a0_0):=q_ BK129 0 rfl;have hcz38_1:w37.cell? ⟨gb129,1,none⟩=some (.string a0_1):=q_ BK129 1 rfl;have hcz38_2:w37.cell? ⟨gb129,2,none⟩=some (.int .i64 a0_2):=q_ BK129 2 rfl;have hfz38_0:=blk_frozen BK129.out 0;have hfz38_1:=blk_frozen BK129.out 1;have hfz38_2:=blk_frozen BK129.out 2)|((with_reducible refine gate_callee (f:=21) rfl ?_);refine goesL_ (some 6) rfl rfl Tryd.func21 (by kernel_rfl) rfl #[.agg #[.bool a0_0,.string a0_1,.int .i64 a0_2]] rfl (by (try simp only [List.map_toArray,List.map_cons,List.map_nil]);first|done|rfl|(simp only [List.length_drop,List.length_take];rfl)) ?_;(with_reducible refine (spec_IsOrigin.calls k a0_0 a0_1 a0_2 false _ A2.out).mono ?_);rintro e w39 ⟨rfl,hb⟩;refine ⟨_,rfl,?_⟩;have n0_:=bb_ BK129 hb;have n1_:=bs_ HB hb;clear BK129;clear HB;have BK129:=n0_;have HB:=n1_;clear n0_ n1_;(try clear hb);(try clear hb2);(try clear hk);(try clear hi)))
  go_ret
  exact ⟨by first|rfl|(simp [errW_none,errW_some] <;> rfl)|(simp [*,errW_none,errW_some] <;> rfl),by repeat (first|(with_reducible first|exact HB.out|apply below_alloc|apply pw_below_drewN|apply below_drew1|refine below_set ?_ GE129.out)|exact HB.out)⟩

/-! ### spec_IsValidKey: function 61 -/
def spec_IsValidKey.f (a0:Int):Option (Bool):=(spec_l1In.f a0 1 2147483646).bind fun t133 => (some t133)
set_option maxHeartbeats 8000000 in
set_option maxRecDepth 100000 in
theorem spec_IsValidKey.calls (a0:Int) (r:Bool) (w:World) (h:spec_IsValidKey.f a0=some r) :
  Calls Tryd.prog 61 #[.int .i64 a0] w fun e w' => e=.returned (.bool r)∧Drawn0 w w':=by
 have H:((spec_l1In.f a0 1 2147483646).bind fun t133 => (some t133))=some r:=h;clear h;replace H:=Option.bind_eq_some_iff.mp H;obtain ⟨t133,A20,H⟩:=H
 try dsimp only at H
 have A2:=Am2_ A20;clear A20;obtain rfl:=Option.some.inj H
 go_enter Tryd.func61,Tryd.ntmps61
 go_wp2_with (first|((with_reducible refine gate_callee (f:=36) rfl ?_);refine goesL_ (some 4) rfl rfl Tryd.func36 (by kernel_rfl) rfl #[.int .i64 a0,.int .i64 1,.int .i64 2147483646] rfl (by (try simp only [List.map_toArray,List.map_cons,List.map_nil]);first|done|rfl|(simp only [List.length_drop,List.length_take];rfl)) ?_;(with_reducible refine (spec_l1In.calls a0 1 2147483646 t133 _ A2.out).mono ?_);rintro e w' ⟨rfl,⟨nd,rfl⟩⟩;refine ⟨_,rfl,?_⟩))
 go_ret
 exact ⟨by first|rfl|(simp;done)|(simp [*];done),by repeat (first|exact Drawn0.refl _|apply Drawn0.step)⟩

/-! ### spec_IsValidStore: function 40 -/
def spec_IsValidStore.f (a0_0:Int) (a0_1:Int) (a0_2:Int) (a0_3:Int):Option (Bool):=(spec_l1In.f a0_0 1 9).bind fun t135 => (if t135=true then ((spec_l1In.f a0_1 0 1000000).bind fun t136 => (if t136=true then ((spec_IsValidKey.f a0_2).bind fun t137 => (if t137=true then ((spec_l1In.f a0_3 0 1000000).bind fun t138 => (some t138)) else (some false))) else (some false))) else (some false))
set_option maxHeartbeats 8000000 in
set_option maxRecDepth 100000 in
theorem spec_IsValidStore.calls (a0_0:Int) (a0_1:Int) (a0_2:Int) (a0_3:Int) (r:Bool) (w:World) (h:spec_IsValidStore.f a0_0 a0_1 a0_2 a0_3=some r) :
  Calls Tryd.prog 40 #[.agg #[.int .i64 a0_0,.int .i64 a0_1,.int .i64 a0_2,.int .i64 a0_3]] w fun e w' => e=.returned (.bool r)∧Below w.heap.size w w':=by
 have hu31:=Tryd.underlying31;have HB:=Am2_ (Below.refl w.heap.size w);have H:=h;unfold spec_IsValidStore.f at H;clear h;replace H:=Option.bind_eq_some_iff.mp H;obtain ⟨t135,A20,H⟩:=H
 try dsimp only at H
 have A2:=Am2_ A20;clear A20
 by_cases c3:t135=true
 ·subst c3
  rw [if_pos rfl] at H
  replace H:=Option.bind_eq_some_iff.mp H;obtain ⟨t136,A40,H⟩:=H
  try dsimp only at H
  have A4:=Am2_ A40;clear A40
  by_cases c5:t136=true
  ·subst c5
   rw [if_pos rfl] at H
   replace H:=Option.bind_eq_some_iff.mp H;obtain ⟨t137,A60,H⟩:=H
   try dsimp only at H
   have A6:=Am2_ A60;clear A60
   by_cases c7:t137=true
   ·subst c7
    rw [if_pos rfl] at H
    replace H:=Option.bind_eq_some_iff.mp H;obtain ⟨t138,A80,H⟩:=H
    try dsimp only at H
    have A8:=Am2_ A80;clear A80;obtain rfl:=Option.some.inj H
    go_enter Tryd.func40,Tryd.ntmps40
    go_wp2_with (first|((with_reducible refine gate_dst (N:=1) rfl ?_);refine box_event ?hg (N:=1) ?hd (cs:=#[.int .i64 a0_0,.int .i64 a0_1,.int .i64 a0_2,.int .i64 a0_3]) (t:=31) ?hr ?_;(case hd => rfl);(case hg => rfl);(case hr => first|(go_simp;done)|(go_simp;rfl));intro gb134 hg w9 hbox hb;have n0_:=bs_ HB hb;have n1_:=Am2_ (hbox);have n2_:=gw_ hg HB;have n3_:=gw_ hg HB;clear HB;have HB:=n0_;have BK134:=n1_;have GW134:=n2_;have GE134:=n3_;clear n0_ n1_ n2_ n3_;clear hb hbox hg;have hcz10_0:w9.cell? ⟨gb134,0,none⟩=some (.int .i64 a0_0):=q_ BK134 0 rfl;have hcz10_1:w9.cell? ⟨gb134,1,none⟩=some (.int .i64 a0_1):=q_ BK134 1 rfl;have hcz10_2:w9.cell? ⟨gb134,2,none⟩=some (.int .i64 a0_2):=q_ BK134 2 rfl;have hcz10_3:w9.cell? ⟨gb134,3,none⟩=some (.int .i64 a0_3):=q_ BK134 3 rfl;have hfz10_0:=blk_frozen BK134.out 0;have hfz10_1:=blk_frozen BK134.out 1;have hfz10_2:=blk_frozen BK134.out 2;have hfz10_3:=blk_frozen BK134.out 3)|((with_reducible refine gate_callee (f:=36) rfl ?_);refine goesL_ (some 5) rfl rfl Tryd.func36 (by kernel_rfl) rfl #[.int .i64 a0_0,.int .i64 1,.int .i64 9] rfl (by (try simp only [List.map_toArray,List.map_cons,List.map_nil]);first|done|rfl|(simp only [List.length_drop,List.length_take];rfl)) ?_;(with_reducible refine (spec_l1In.calls a0_0 1 9 true _ A2.out).mono ?_);rintro e w' ⟨rfl,⟨nd,rfl⟩⟩;refine ⟨_,rfl,?_⟩)|(go_at_call 36;(with_reducible refine (spec_l1In.calls a0_1 0 1000000 true _ A4.out).mono ?_);rintro e w' ⟨rfl,⟨nd,rfl⟩⟩)|(go_at_call 61;(with_reducible refine (spec_IsValidKey.calls a0_2 true _ A6.out).mono ?_);rintro e w' ⟨rfl,⟨nd,rfl⟩⟩)|(go_at_call 36;(with_reducible refine (spec_l1In.calls a0_3 0 1000000 t138 _ A8.out).mono ?_);rintro e w' ⟨rfl,⟨nd,rfl⟩⟩))
    go_ret
    exact ⟨by first|rfl|(simp [errW_none,errW_some] <;> rfl)|(simp [*,errW_none,errW_some] <;> rfl),by repeat (first|(with_reducible first|exact HB.out|apply below_alloc|apply pw_below_drewN|apply below_drew1|refine below_set ?_ GE134.out)|exact HB.out)⟩
   ·replace c7:=Bool.eq_false_iff.mpr c7;subst c7
    rw [if_neg (show ¬ (false=true) by decide)] at H
    obtain rfl:=Option.some.inj H
    go_enter Tryd.func40,Tryd.ntmps40
    go_wp2_with (first|((with_reducible refine gate_dst (N:=1) rfl ?_);refine box_event ?hg (N:=1) ?hd (cs:=#[.int .i64 a0_0,.int .i64 a0_1,.int .i64 a0_2,.int .i64 a0_3]) (t:=31) ?hr ?_;(case hd => rfl);(case hg => rfl);(case hr => first|(go_simp;done)|(go_simp;rfl));intro gb134 hg w11 hbox hb;have n0_:=bs_ HB hb;have n1_:=Am2_ (hbox);have n2_:=gw_ hg HB;have n3_:=gw_ hg HB;clear HB;have HB:=n0_;have BK134:=n1_;have GW134:=n2_;have GE134:=n3_;clear n0_ n1_ n2_ n3_;clear hb hbox hg;have hcz12_0:w11.cell? ⟨gb134,0,none⟩=some (.int .i64 a0_0):=q_ BK134 0 rfl;have hcz12_1:w11.cell? ⟨gb134,1,none⟩=some (.int .i64 a0_1):=q_ BK134 1 rfl;have hcz12_2:w11.cell? ⟨gb134,2,none⟩=some (.int .i64 a0_2):=q_ BK134 2 rfl;have hcz12_3:w11.cell? ⟨gb134,3,none⟩=some (.int .i64 a0_3):=q_ BK134 3 rfl;have hfz12_0:=blk_frozen BK134.out 0;have hfz12_1:=blk_frozen BK134.out 1;have hfz12_2:=blk_frozen BK134.out 2;have hfz12_3:=blk_frozen BK134.out 3)|((with_reducible refine gate_callee (f:=36) rfl ?_);refine goesL_ (some 5) rfl rfl Tryd.func36 (by kernel_rfl) rfl #[.int .i64 a0_0,.int .i64 1,.int .i64 9] rfl (by (try simp only [List.map_toArray,List.map_cons,List.map_nil]);first|done|rfl|(simp only [List.length_drop,List.length_take];rfl)) ?_;(with_reducible refine (spec_l1In.calls a0_0 1 9 true _ A2.out).mono ?_);rintro e w' ⟨rfl,⟨nd,rfl⟩⟩;refine ⟨_,rfl,?_⟩)|(go_at_call 36;(with_reducible refine (spec_l1In.calls a0_1 0 1000000 true _ A4.out).mono ?_);rintro e w' ⟨rfl,⟨nd,rfl⟩⟩)|(go_at_call 61;(with_reducible refine (spec_IsValidKey.calls a0_2 false _ A6.out).mono ?_);rintro e w' ⟨rfl,⟨nd,rfl⟩⟩))
    go_ret
    exact ⟨by first|rfl|(simp [errW_none,errW_some] <;> rfl)|(simp [*,errW_none,errW_some] <;> rfl),by repeat (first|(with_reducible first|exact HB.out|apply below_alloc|apply pw_below_drewN|apply below_drew1|refine below_set ?_ GE134.out)|exact HB.out)⟩
  ·replace c5:=Bool.eq_false_iff.mpr c5;subst c5
   rw [if_neg (show ¬ (false=true) by decide)] at H
   obtain rfl:=Option.some.inj H
   go_enter Tryd.func40,Tryd.ntmps40
   go_wp2_with (first|((with_reducible refine gate_dst (N:=1) rfl ?_);refine box_event ?hg (N:=1) ?hd (cs:=#[.int .i64 a0_0,.int .i64 a0_1,.int .i64 a0_2,.int .i64 a0_3]) (t:=31) ?hr ?_;(case hd => rfl);(case hg => rfl);(case hr => first|(go_simp;done)|(go_simp;rfl));intro gb134 hg w13 hbox hb;have n0_:=bs_ HB hb;have n1_:=Am2_ (hbox);have n2_:=gw_ hg HB;have n3_:=gw_ hg HB;clear HB;have HB:=n0_;have BK134:=n1_;have GW134:=n2_;have GE134:=n3_;clear n0_ n1_ n2_ n3_;clear hb hbox hg;have hcz14_0:w13.cell? ⟨gb134,0,none⟩=some (.int .i64 a0_0):=q_ BK134 0 rfl;have hcz14_1:w13.cell? ⟨gb134,1,none⟩=some (.int .i64 a0_1):=q_ BK134 1 rfl;have hcz14_2:w13.cell? ⟨gb134,2,none⟩=some (.int .i64 a0_2):=q_ BK134 2 rfl;have hcz14_3:w13.cell? ⟨gb134,3,none⟩=some (.int .i64 a0_3):=q_ BK134 3 rfl;have hfz14_0:=blk_frozen BK134.out 0;have hfz14_1:=blk_frozen BK134.out 1;have hfz14_2:=blk_frozen BK134.out 2;have hfz14_3:=blk_frozen BK134.out 3)|((with_reducible refine gate_callee (f:=36) rfl ?_);refine goesL_ (some 5) rfl rfl Tryd.func36 (by kernel_rfl) rfl #[.int .i64 a0_0,.int .i64 1,.int .i64 9] rfl (by (try simp only [List.map_toArray,List.map_cons,List.map_nil]);first|done|rfl|(simp only [List.length_drop,List.length_take];rfl)) ?_;(with_reducible refine (spec_l1In.calls a0_0 1 9 true _ A2.out).mono ?_);rintro e w' ⟨rfl,⟨nd,rfl⟩⟩;refine ⟨_,rfl,?_⟩)|(go_at_call 36;(with_reducible refine (spec_l1In.calls a0_1 0 1000000 false _ A4.out).mono ?_);rintro e w' ⟨rfl,⟨nd,rfl⟩⟩))
   go_ret
   exact ⟨by first|rfl|(simp [errW_none,errW_some] <;> rfl)|(simp [*,errW_none,errW_some] <;> rfl),by repeat (first|(with_reducible first|exact HB.out|apply below_alloc|apply pw_below_drewN|apply below_drew1|refine below_set ?_ GE134.out)|exact HB.out)⟩
 ·replace c3:=Bool.eq_false_iff.mpr c3;subst c3
  rw [if_neg (show ¬ (false=true) by decide)] at H
  obtain rfl:=Option.some.inj H
  go_enter Tryd.func40,Tryd.ntmps40
  go_wp2_with (first|((with_reducible refine gate_dst (N:=1) rfl ?_);refine box_event ?hg (N:=1) ?hd (cs:=#[.int .i64 a0_0,.int .i64 a0_1,.int .i64 a0_2,.int .i64 a0_3]) (t:=31) ?hr ?_;(case hd => rfl);(case hg => rfl);(case hr => first|(go_simp;done)|(go_simp;rfl));intro gb134 hg w15 hbox hb;have n0_:=bs_ HB hb;have n1_:=Am2_ (hbox);have n2_:=gw_ hg HB;have n3_:=gw_ hg HB;clear HB;have HB:=n0_;have BK134:=n1_;have GW134:=n2_;have GE134:=n3_;clear n0_ n1_ n2_ n3_;clear hb hbox hg;have hcz16_0:w15.cell? ⟨gb134,0,none⟩=some (.int .i64 a0_0):=q_ BK134 0 rfl;have hcz16_1:w15.cell? ⟨gb134,1,none⟩=some (.int .i64 a0_1):=q_ BK134 1 rfl;have hcz16_2:w15.cell? ⟨gb134,2,none⟩=some (.int .i64 a0_2):=q_ BK134 2 rfl;have hcz16_3:w15.cell? ⟨gb134,3,none⟩=some (.int .i64 a0_3):=q_ BK134 3 rfl;have hfz16_0:=blk_frozen BK134.out 0;have hfz16_1:=blk_frozen BK134.out 1;have hfz16_2:=blk_frozen BK134.out 2;have hfz16_3:=blk_frozen BK134.out 3)|((with_reducible refine gate_callee (f:=36) rfl ?_);refine goesL_ (some 5) rfl rfl Tryd.func36 (by kernel_rfl) rfl #[.int .i64 a0_0,.int .i64 1,.int .i64 9] rfl (by (try simp only [List.map_toArray,List.map_cons,List.map_nil]);first|done|rfl|(simp only [List.length_drop,List.length_take];rfl)) ?_;(with_reducible refine (spec_l1In.calls a0_0 1 9 false _ A2.out).mono ?_);rintro e w' ⟨rfl,⟨nd,rfl⟩⟩;refine ⟨_,rfl,?_⟩))
  go_ret
  exact ⟨by first|rfl|(simp [errW_none,errW_some] <;> rfl)|(simp [*,errW_none,errW_some] <;> rfl),by repeat (first|(with_reducible first|exact HB.out|apply below_alloc|apply pw_below_drewN|apply below_drew1|refine below_set ?_ GE134.out)|exact HB.out)⟩

/-! ### spec_Mod: function 96 -/
def spec_Mod.f (a0:Int) (a1:Int):Option (Int):=(spec_l1In.f a1 1 1000000000000).bind fun t139 => (if t139=true then (if a1=0 then (none) else (some (Int.tmod (wrap64 ((Int.tmod a0 a1) + a1)) a1))) else (some 0))
set_option maxHeartbeats 8000000 in
set_option maxRecDepth 100000 in
theorem spec_Mod.calls (a0:Int) (a1:Int) (r:Int) (w:World) (h:spec_Mod.f a0 a1=some r) :
  Calls Tryd.prog 96 #[.int .i64 a0,.int .i64 a1] w fun e w' => e=.returned (.int .i64 r)∧Drawn0 w w':=by
 have H:=h;unfold spec_Mod.f at H;clear h;replace H:=Option.bind_eq_some_iff.mp H;obtain ⟨t139,A30,H⟩:=H
 try dsimp only at H
 have A3:=Am2_ A30;clear A30
 by_cases c4:t139=true
 ·subst c4
  rw [if_pos rfl] at H
  by_cases c5:a1=0
  ·rw [if_pos c5] at H
   exact absurd H (by simp)
  ·rw [if_neg c5] at H
   have c5b0:(a1 == 0)=false:=beq_eq_false_iff_ne.mpr c5;have c5b1:(a1 != 0)=true:=bne_iff_ne.mpr c5;obtain rfl:=Option.some.inj H
   go_enter Tryd.func96,Tryd.ntmps96
   go_wp2_with (first|((with_reducible refine gate_callee (f:=36) rfl ?_);refine goesL_ (some 6) rfl rfl Tryd.func36 (by kernel_rfl) rfl #[.int .i64 a1,.int .i64 1,.int .i64 1000000000000] rfl (by (try simp only [List.map_toArray,List.map_cons,List.map_nil]);first|done|rfl|(simp only [List.length_drop,List.length_take];rfl)) ?_;(with_reducible refine (spec_l1In.calls a1 1 1000000000000 true _ A3.out).mono ?_);rintro e w' ⟨rfl,⟨nd,rfl⟩⟩;refine ⟨_,rfl,?_⟩))
   go_ret
   exact ⟨by first|rfl|(simp;done)|(simp [*];done),by repeat (first|exact Drawn0.refl _|apply Drawn0.step)⟩
 ·replace c4:=Bool.eq_false_iff.mpr c4;subst c4
  rw [if_neg (show ¬ (false=true) by decide)] at H
  obtain rfl:=Option.some.inj H
  go_enter Tryd.func96,Tryd.ntmps96
  go_wp2_with (first|((with_reducible refine gate_callee (f:=36) rfl ?_);refine goesL_ (some 6) rfl rfl Tryd.func36 (by kernel_rfl) rfl #[.int .i64 a1,.int .i64 1,.int .i64 1000000000000] rfl (by (try simp only [List.map_toArray,List.map_cons,List.map_nil]);first|done|rfl|(simp only [List.length_drop,List.length_take];rfl)) ?_;(with_reducible refine (spec_l1In.calls a1 1 1000000000000 false _ A3.out).mono ?_);rintro e w' ⟨rfl,⟨nd,rfl⟩⟩;refine ⟨_,rfl,?_⟩))
  go_ret
  exact ⟨by first|rfl|(simp;done)|(simp [*];done),by repeat (first|exact Drawn0.refl _|apply Drawn0.step)⟩

/-! ### spec_Hash: function 79 -/
def spec_Hash.l0:Nat → List Int → Int → Int → Option (Int)
|0,_,_,_ => none
|k + 1,x0,x3,x4 => if x4 < (x0.length:Int) then (if 0 ≤ x4 then ((spec_Mod.f (rd x0 x4) 2147483647).bind fun t141 => (spec_Hash.l0 k x0 (Int.tmod (wrap64 ((wrap64 ((wrap64 (x3 * 1000003)) + t141)) + 13)) 2147483647) (wrap64 (x4 + 1)))) else (none)) else (some x3)
def spec_Hash.f (k:Nat) (l0:List Int):Option (Int):=spec_Hash.l0 k l0 11 0
theorem spec_Hash.mono_l:∀ k,(∀ y0 y1 y2,LeO (spec_Hash.l0 k y0 y1 y2) (spec_Hash.l0 (k + 1) y0 y1 y2))
|0 => fun _ _ _ r h => by simp [spec_Hash.l0] at h
|k + 1 => by
  have ih0:=spec_Hash.mono_l k
  ·intro y0 y1 y2
   unfold spec_Hash.l0
   repeat' first
  |(with_reducible exact ih0 _ _ _)
  |(with_reducible exact LeO.refl _)
  |(with_reducible exact LeO.none _)
  |(with_reducible refine LeO.ite ?_ ?_)
  |(with_reducible refine LeO.bind ?_ (fun _ => ?_))
  |exact ih0 _ _ _
  |exact LeO.none _
  |refine LeO.ite ?_ ?_
  |refine LeO.bind ?_ (fun _ => ?_)
theorem spec_Hash.mono:∀ a0 k,LeO (spec_Hash.f k a0) (spec_Hash.f (k + 1) a0):=by
 intro a0 k;have ih0:=spec_Hash.mono_l k
 unfold spec_Hash.f
 repeat' first
  |(with_reducible exact ih0 _ _ _)
  |(with_reducible exact LeO.refl _)
  |(with_reducible exact LeO.none _)
  |(with_reducible refine LeO.ite ?_ ?_)
  |(with_reducible refine LeO.bind ?_ (fun _ => ?_))
  |exact ih0 _ _ _
  |exact LeO.none _
  |refine LeO.ite ?_ ?_
  |refine LeO.bind ?_ (fun _ => ?_)
set_option maxHeartbeats 8000000 in
set_option maxRecDepth 100000 in
theorem spec_Hash.calls (k:Nat) (A0:Option Addr) (c0:Nat) (l0:List Int) (r:Int) (w:World) (hr0:Kd.C (Kd.int .i64) w A0 l0.length l0) (hc0:l0.length ≤ c0) (h:spec_Hash.f k l0=some r) :
  Calls Tryd.prog 79 #[.slice A0 l0.length c0] w fun e w' => e=.returned (.int .i64 r)∧Drawn0 w w':=by
 have HR0:=Am2_ hr0;have HC0:=Am2_ hc0;clear hr0 hc0;have H:(spec_Hash.l0 k l0 11 0)=some r:=h;clear h;have H':=Am2_ H;clear H
 go_enter Tryd.func79,Tryd.ntmps79
 go_wp2
 go_loopg [3,4] k (fun kq v3 v4 w' => ∃ (x3_1:Int) (x4_1:Int),v3=.int .i64 x3_1∧v4=.int .i64 x4_1∧Aside0 (spec_Hash.l0 kq l0 x3_1 x4_1=some r)∧Aside0 (kq ≤ k)∧Drawn0 w w')
 case atStart => exact ⟨(11),(0),(by first|rfl|(simp;done)|(simp [*];done)),(by first|rfl|(simp;done)|(simp [*];done)),H',⟨Nat.le_refl _⟩,by repeat (first|exact Drawn0.refl _|apply Drawn0.step)⟩
 case round =>
  clear H';obtain ⟨x3_1,x4_1,rfl,rfl,HA,HK1,⟨m1,rfl⟩⟩:=hrel
  cases gk with
 |zero => exact absurd HA.out (by simp [spec_Hash.l0])
 |succ k1 =>
   have H:=HA.out;clear HA;simp only [spec_Hash.l0] at H
   by_cases c2:x4_1 < (l0.length:Int)
   ·rw [if_pos c2] at H
    have c2b0:decide (x4_1 < (l0.length:Int))=true:=decide_eq_true c2;clear c2
    by_cases c3:0 ≤ x4_1
    ·rw [if_pos c3] at H
     have c3b0:decide (0 ≤ x4_1)=true:=decide_eq_true c3;clear c3;replace H:=Option.bind_eq_some_iff.mp H;obtain ⟨t141,A40,H⟩:=H
     try dsimp only at H
     have A4:=Am2_ A40;clear A40;have H':=Am2_ H;clear H;have p140:0 ≤ (x4_1:Int):=of_decide_eq_true (by first|(with_reducible assumption)|assumption);have q140:x4_1 < (l0.length:Int):=of_decide_eq_true (by first|(with_reducible assumption)|assumption);obtain ⟨ad140,e140,hx140_0⟩:=Kd.at_int HR0.out x4_1 p140 q140
     cases e140
     replace p140:=eq_true p140;replace q140:=eq_true q140
     go_wp2_with (first|((with_reducible refine gate_callee (f:=96) rfl ?_);refine goesL_ (some 17) rfl rfl Tryd.func96 (by kernel_rfl) rfl #[.int .i64 (rd l0 x4_1),.int .i64 2147483647] rfl (by (try simp only [List.map_toArray,List.map_cons,List.map_nil]);first|done|rfl|(simp only [List.length_drop,List.length_take];rfl)) ?_;(with_reducible refine (spec_Mod.calls (rd l0 x4_1) 2147483647 t141 _ A4.out).mono ?_);rintro e w' ⟨rfl,⟨nd,rfl⟩⟩;refine ⟨_,rfl,?_⟩))
     go_roundg k1
     case measure => have:=HK1.out;omega
     case rel => exact ⟨(Int.tmod (wrap64 ((wrap64 ((wrap64 (x3_1 * 1000003)) + t141)) + 13)) 2147483647),(wrap64 (x4_1 + 1)),(by first|rfl|(simp;done)|(simp [*];done)),(by first|rfl|(simp;done)|(simp [*];done)),H',⟨by have:=HK1.out;omega⟩,by repeat (first|exact Drawn0.refl _|apply Drawn0.step)⟩
    ·rw [if_neg c3] at H
     exact absurd H (by simp)
   ·rw [if_neg c2] at H
    have c2b0:decide (x4_1 < (l0.length:Int))=false:=decide_eq_false c2;clear c2;obtain rfl:=Option.some.inj H
    go_wp2
    go_ret
    exact ⟨by first|rfl|(simp;done)|(simp [*];done),by repeat (first|exact Drawn0.refl _|apply Drawn0.step)⟩

/-! ### spec_KeyedHash: function 62 -/
def spec_KeyedHash.f (k:Nat) (a0:Int) (l1:List Int):Option (Int):=(some (([a0]:List Int):List Int)).bind fun y142 => (if y142.length + l1.length < 17592186044416 then ((some (y142 ++ l1:List Int)).bind fun y145 => (if y145.length < 17592186044416 then ((spec_Hash.f k (y145 ++ [a0])).bind fun t151 => (some t151)) else (none))) else (none))
theorem spec_KeyedHash.mono:∀ a0 a1 k,LeO (spec_KeyedHash.f k a0 a1) (spec_KeyedHash.f (k + 1) a0 a1):=by
 intro a0 a1 k
 unfold spec_KeyedHash.f
 repeat' first
  |(with_reducible exact spec_Hash.mono _ _)
  |(with_reducible exact LeO.refl _)
  |(with_reducible exact LeO.none _)
  |(with_reducible refine LeO.ite ?_ ?_)
  |(with_reducible refine LeO.bind ?_ (fun _ => ?_))
  |exact spec_Hash.mono _ _
  |exact LeO.none _
  |refine LeO.ite ?_ ?_
  |refine LeO.bind ?_ (fun _ => ?_)
set_option maxHeartbeats 8000000 in
set_option maxRecDepth 100000 in
theorem spec_KeyedHash.calls (k:Nat) (a0:Int) (A1:Option Addr) (c1:Nat) (l1:List Int) (r:Int) (w:World) (hr1:Kd.C (Kd.int .i64) w A1 l1.length l1) (hc1:l1.length ≤ c1) (h:spec_KeyedHash.f k a0 l1=some r) :
  Calls Tryd.prog 62 #[.int .i64 a0,.slice A1 l1.length c1] w fun e w' => e=.returned (.int .i64 r)∧Below w.heap.size w w':=by
 have HR1:=Am2_ hr1;have HC1:=Am2_ hc1;clear hr1 hc1;have HB:=Am2_ (Below.refl w.heap.size w);have H:=h;unfold spec_KeyedHash.f at H;clear h;obtain ⟨y142,hy142⟩:∃ y_:List Int,y_=(([a0]:List Int)):=⟨_,rfl⟩;replace H:(if y142.length + l1.length < 17592186044416 then ((some (y142 ++ l1:List Int)).bind fun y145 => (if y145.length < 17592186044416 then ((spec_Hash.f k (y145 ++ [a0])).bind fun t151 => (some t151)) else (none))) else (none))=some r:=by first|(rw [hy142];with_reducible exact H)|(have H2_:=(Option.bind_some _ _).symm.trans H;rw [hy142];with_reducible exact H2_)|(have H2_:=(Option.bind_some _ _).symm.trans H;with_reducible exact H2_)|with_reducible exact H|(rw [hy142];exact H)|exact H
 have Ny142:=Am2_ hy142;clear hy142
 by_cases c3:y142.length + l1.length < 17592186044416
 ·rw [if_pos c3] at H
  have LMc3:=Am2_ c3;clear c3;obtain ⟨y145,hy145⟩:∃ y_:List Int,y_=(y142 ++ l1):=⟨_,rfl⟩;replace H:(if y145.length < 17592186044416 then ((spec_Hash.f k (y145 ++ [a0])).bind fun t151 => (some t151)) else (none))=some r:=by first|(rw [hy145];with_reducible exact H)|(have H2_:=(Option.bind_some _ _).symm.trans H;rw [hy145];with_reducible exact H2_)|(have H2_:=(Option.bind_some _ _).symm.trans H;with_reducible exact H2_)|with_reducible exact H|(rw [hy145];exact H)|exact H
  have Ny145:=Am2_ hy145;clear hy145
  by_cases c4:y145.length < 17592186044416
  ·rw [if_pos c4] at H
   have LMc4:=Am2_ c4;clear c4;obtain ⟨y148,hy148⟩:∃ y_:List Int,y_=(y145 ++ [a0]):=⟨_,rfl⟩;replace H:((spec_Hash.f k y148).bind fun t151 => (some t151))=some r:=by first|(rw [hy148];with_reducible exact H)|(have H2_:=(Option.bind_some _ _).symm.trans H;rw [hy148];with_reducible exact H2_)|(have H2_:=(Option.bind_some _ _).symm.trans H;with_reducible exact H2_)|with_reducible exact H|(rw [hy148];exact H)|exact H
   have Ny148:=Am2_ hy148;clear hy148;replace H:=Option.bind_eq_some_iff.mp H;obtain ⟨t151,A50,H⟩:=H
   try dsimp only at H
   have A5:=Am2_ A50;clear A50;obtain rfl:=Option.some.inj H
   go_enter Tryd.func62,Tryd.ntmps62
   go_wp2_with (first|((with_reducible refine gate_dst (N:=6) rfl ?_);refine Kd.R_lit (Kd.int .i64) _ 3 ?hg (N:=6) ?hd (xs:=([a0]:List Int)) (inner:=[.int .i64 a0]) (ok:=fun _ => True) (okp:=fun _ => True) ?hr ?hp (fun _ hk => hk) trivial (Below.refl _ _) (Nat.le_refl _) (by simp) ?_;(case hd => rfl);(case hg => rfl);(case hr => first|(go_simp;done)|(go_simp;rfl));(case hp => exact (Reps.one (show Kd.M (Kd.int .i64) _ _ _ a0 [.int .i64 a0] from rfl) (Reps.none _ _)));intro v143 w6 ho7 hb hg_ hnew_;clear hg_ hnew_;(first|rw [← Ny142.out] at ho7|(simp only [Int.reduceToNat] at ho7;rw [← Ny142.out] at ho7));have n0_:=Am2_ (Kd.R_lower ho7 (below_size (xe_ HB)));have n1_:=bs_ HB hb;clear HB;have HO144:=n0_;have HB:=n1_;clear n0_ n1_;clear hb ho7)|((with_reducible refine gate_builtin (b:=.append) (xs:=#[.tmp 6,.tmp 7]) rfl ?_);at_builtin;refine Kd.R_append_rows (Kd.int .i64) (w0:=w) w.heap.size rfl (.tmp 6) (.tmp 7) 50 3 (.int .i64 0) 8 rfl Tryd.underlying50 info3 rfl (by decide) (by omega) v143 y142 l1 _ _ _ (fun _ => True) (fun _ => False) rfl rfl ?aO ?aR (fun _ _ h => h) (fun _ h => h.elim) ?aF ?aB ?aS ?aL ?_;(case aR => repeat (first|exact (Kd.C_below HR1.out HB.out)|(with_reducible refine Kd.C_alloc ?_ _)|(with_reducible refine Kd.C_drewN ?_ _)|(with_reducible refine Kd.C_drew ?_)));(case aB => exact (xe_ HB));(case aF => exact (fun _ _ => trivial));(case aO => exact (by (with_reducible repeat (first|apply Kd.R_alloc|apply Kd.R_drewN|apply Kd.R_drew));exact HO144.out));(case aS => exact (below_size (xe_ HB)));(case aL => have:=LMc3.out;omega);intro v146 w8 ho hb hg hat;rw [← Ny145.out] at ho;have n0_:=Am2_ (hb);have n1_:=Am2_ (ho);clear HB;clear HO144;have HB:=n0_;have HO147:=n1_;clear n0_ n1_;clear ho hb hg hat)|((with_reducible refine gate_builtin (b:=.append) (xs:=#[.tmp 8,.tmp 10]) rfl ?_);at_builtin;refine Kd.R_append (Kd.int .i64) (w0:=w) w.heap.size rfl (.tmp 8) (.tmp 10) 50 3 (.int .i64 0) 8 rfl Tryd.underlying50 info3 rfl (by decide) (by omega) v146 y145 a0 [.int .i64 a0] (fun _ => True) (fun _ => False) rfl rfl ?aP (fun _ hk => hk.elim) ?aF ?aO ?aB ?aS ?aL ?_;(case aP => exact rfl);(case aB => exact (xe_ HB));(case aF => exact (fun _ _ => trivial));(case aO => exact (by (with_reducible repeat (first|apply Kd.R_alloc|apply Kd.R_drewN|apply Kd.R_drew));exact HO147.out));(case aS => exact (below_size (xe_ HB)));(case aL => have:=LMc4.out;omega);intro v149 w9 ho hb hg hat;rw [← Ny148.out] at ho;have n0_:=Am2_ (hb);have n1_:=Am2_ (ho);clear HB;clear HO147;have HB:=n0_;have HO150:=n1_;clear n0_ n1_;clear ho hb hg hat;obtain ⟨Ao10,co10,eo10⟩:=Kd.R_slice HO150.out;subst eo10)|((with_reducible refine gate_callee (f:=79) rfl ?_);refine goesL_ (some 12) rfl rfl Tryd.func79 (by kernel_rfl) rfl #[.slice Ao10 y148.length co10] rfl (by (try simp only [List.map_toArray,List.map_cons,List.map_nil]);first|done|rfl|(simp only [List.length_drop,List.length_take];rfl)) ?_;(with_reducible refine (spec_Hash.calls k _ _ y148 t151 _ ?side1 ?side2 A5.out).mono ?_);(case side1 => repeat (first|exact (Kd.R_reads' HO150.out).2.2|(with_reducible refine Kd.C_alloc ?_ _)|(with_reducible refine Kd.C_drewN ?_ _)|(with_reducible refine Kd.C_drew ?_)));(case side2 => exact (Kd.R_reads' HO150.out).2.1);rintro e w' ⟨rfl,⟨nd,rfl⟩⟩;refine ⟨_,rfl,?_⟩))
   go_ret
   exact ⟨by first|rfl|(simp [errW_none,errW_some] <;> rfl)|(simp [*,errW_none,errW_some] <;> rfl),by repeat (first|(with_reducible first|exact HB.out|apply below_alloc|apply pw_below_drewN|apply below_drew1)|exact HB.out)⟩
  ·rw [if_neg c4] at H
   exact absurd H (by simp)
 ·rw [if_neg c3] at H
  exact absurd H (by simp)

end Go.Proofs.YtogcoedmagoogaaDoor.PFnExactMakeAssertion
