/- Functions and contracts of a law's callees, written by a program of this session (a changed print): each contract says that the machine's call answers what the plain function says. Conditions: the plain function's own answer. -/
import Derived.Test.YtogcoedmagoogaaDoorZPFnExactMakeAssertionx0
import Derived.Test.YtogcoedmagoogaaDoorZPFnExactMakeAssertionx2
namespace Go.Proofs.YtogcoedmagoogaaDoor.PFnExactMakeAssertion
open Go.RowKit Go.Proofs.YtogcoedmagoogaaDoorW.PrintWords Go.Proofs.YtogcoedmagoogaaDoorW.PrintLast Go.Proofs.YtogcoedmagoogaaDoorW.PrintMore
attribute [local go_sem] max2_int min2_int max_two min_two max_three min_three max_four min_four   -- for this text's walks alone
set_option linter.unusedVariables false
set_option linter.unusedSimpArgs false
abbrev Am3_ {p : Prop} (h : p) : Aside0 p := Aside0.mk h

namespace Y3
class Ex_ (w W:World):Prop where
 k:∀ {g:Nat} {o:Obj},w.heap[g]?=some o → W.heap[g]?=some o
 e:∀ {v:World},Below v.heap.size v w → Below v.heap.size v W
instance (priority:=low) Ex_.rf (w:World):Ex_ w w:=⟨fun h => h,fun h => h⟩
instance Ex_.dn {w W:World} [x:Ex_ w W] (n:Nat):Ex_ w (W.drewN n):=⟨fun h => blk_drewN (x.k h) n,fun h => pw_below_drewN (x.e h) n⟩
instance Ex_.dr {w W:World} [x:Ex_ w W]:Ex_ w W.drew:=⟨fun h => blk_drew (x.k h),fun h => below_drew1 (x.e h)⟩
instance Ex_.al {w W:World} [x:Ex_ w W] (o:Obj):Ex_ w (W.alloc o):=⟨fun h => blk_alloc (x.k h) o,fun h => below_alloc (x.e h) o⟩
theorem xk_ {w W:World} {g:Nat} {o:Obj} (h:Aside0 (w.heap[g]?=some o)) [x:Ex_ w W]:W.heap[g]?=some o:=x.k h.out
theorem ne1_ {w W:World} {g g':Nat} {o:Obj} (hg:g'=W.heap.size) (h:Aside0 (w.heap[g]?=some o)) [x:Ex_ w W]:Aside0 (g ≠ g'):=Am3_ (by rw [hg];exact Nat.ne_of_lt (blk_lt (x.k h.out)))
theorem ne2_ {w W:World} {g g':Nat} {o:Obj} (hg:g'=W.heap.size) (h:Aside0 (w.heap[g]?=some o)) [x:Ex_ w W]:Aside0 (g' ≠ g):=Am3_ (by rw [hg];exact Nat.ne_of_gt (blk_lt (x.k h.out)))
theorem gw_ {v w W:World} {g':Nat} (hg:g'=W.heap.size) (h:Aside0 (Below v.heap.size v w)) [x:Ex_ w W]:Aside0 (v.heap.size ≤ g'):=Am3_ (by rw [hg];exact below_size (x.e h.out))
theorem bb_ {w W W':World} {g:Nat} {o:Obj} (h:Aside0 (w.heap[g]?=some o)) (hb:Below W.heap.size W W') [x:Ex_ w W]:Aside0 (W'.heap[g]?=some o):=Am3_ (blk_below (x.k h.out) hb)
theorem bs_ {v w W W':World} (h:Aside0 (Below v.heap.size v w)) (hb:Below W.heap.size W W') [x:Ex_ w W]:Aside0 (Below v.heap.size v W'):=Am3_ (below_step (x.e h.out) hb)
theorem xe_ {v w W:World} (h:Aside0 (Below v.heap.size v w)) [x:Ex_ w W]:Below v.heap.size v W:=x.e h.out
end Y3
open Y3

namespace Y3
abbrev Sa_ := @List.setIfInBounds_toArray
abbrev Sb_ := @List.set_cons_zero
abbrev Sc_ := @List.set_cons_succ
theorem q_ {w W : World} {g : Nat} {t : TypeId} {cs : Array Value} (h : Aside0 (w.heap[g]? = some (.cells cs t (0, 0)))) (i : Nat) {v : Option Value} (e : cs[i]? = v) [x : Ex_ w W] : W.cell? ⟨g, i, none⟩ = v := (blk_cell (x.k h.out) i).trans e
end Y3
open Y3
/-! ### spec_SignMessage: function 41 -/
def spec_SignMessage.f (k:Nat) (a0:Int) (l1:List Int):Option (Int):=(spec_IsValidKey.f a0).bind fun t152 => (if t152=true then ((some (([139,(l1.length:Int)]:List Int):List Int)).bind fun y153 => (if y153.length + l1.length < 17592186044416 then ((spec_KeyedHash.f k a0 (y153 ++ l1)).bind fun t159 => (some t159)) else (none))) else (some 0))
theorem spec_SignMessage.mono:∀ a0 a1 k,LeO (spec_SignMessage.f k a0 a1) (spec_SignMessage.f (k + 1) a0 a1):=by
 intro a0 a1 k
 unfold spec_SignMessage.f
 repeat' first
  |(with_reducible exact spec_KeyedHash.mono _ _ _)
  |(with_reducible exact LeO.refl _)
  |(with_reducible exact LeO.none _)
  |(with_reducible refine LeO.ite ?_ ?_)
  |(with_reducible refine LeO.bind ?_ (fun _ => ?_))
  |exact spec_KeyedHash.mono _ _ _
  |exact LeO.none _
  |refine LeO.ite ?_ ?_
  |refine LeO.bind ?_ (fun _ => ?_)
set_option maxHeartbeats 8000000 in
set_option maxRecDepth 100000 in
theorem spec_SignMessage.calls (k:Nat) (a0:Int) (A1:Option Addr) (c1:Nat) (l1:List Int) (r:Int) (w:World) (hr1:Kd.C (Kd.int .i64) w A1 l1.length l1) (hc1:l1.length ≤ c1) (h:spec_SignMessage.f k a0 l1=some r) :
  Calls Tryd.prog 41 #[.int .i64 a0,.slice A1 l1.length c1] w fun e w' => e=.returned (.int .i64 r)∧Below w.heap.size w w':=by
 have HR1:=Am3_ hr1;have HC1:=Am3_ hc1;clear hr1 hc1;have HB:=Am3_ (Below.refl w.heap.size w);have H:=h;unfold spec_SignMessage.f at H;clear h;replace H:=Option.bind_eq_some_iff.mp H;obtain ⟨t152,A30,H⟩:=H
 try dsimp only at H
 have A3:=Am3_ A30;clear A30
 by_cases c4:t152=true
 ·subst c4
  rw [if_pos rfl] at H
  obtain ⟨y153,hy153⟩:∃ y_:List Int,y_=(([139,(l1.length:Int)]:List Int)):=⟨_,rfl⟩;replace H:(if y153.length + l1.length < 17592186044416 then ((spec_KeyedHash.f k a0 (y153 ++ l1)).bind fun t159 => (some t159)) else (none))=some r:=by first|(rw [hy153];with_reducible exact H)|(have H2_:=(Option.bind_some _ _).symm.trans H;rw [hy153];with_reducible exact H2_)|(have H2_:=(Option.bind_some _ _).symm.trans H;with_reducible exact H2_)|with_reducible exact H|(rw [hy153];exact H)|exact H
  have Ny153:=Am3_ hy153;clear hy153
  by_cases c5:y153.length + l1.length < 17592186044416
  ·rw [if_pos c5] at H
   have LMc5:=Am3_ c5;clear c5;obtain ⟨y156,hy156⟩:∃ y_:List Int,y_=(y153 ++ l1):=⟨_,rfl⟩;replace H:((spec_KeyedHash.f k a0 y156).bind fun t159 => (some t159))=some r:=by first|(rw [hy156];with_reducible exact H)|(have H2_:=(Option.bind_some _ _).symm.trans H;rw [hy156];with_reducible exact H2_)|(have H2_:=(Option.bind_some _ _).symm.trans H;with_reducible exact H2_)|with_reducible exact H|(rw [hy156];exact H)|exact H
   have Ny156:=Am3_ hy156;clear hy156;replace H:=Option.bind_eq_some_iff.mp H;obtain ⟨t159,A60,H⟩:=H
   try dsimp only at H
   have A6:=Am3_ A60;clear A60;obtain rfl:=Option.some.inj H
   go_enter Tryd.func41,Tryd.ntmps41
   go_wp2_with (first|((with_reducible refine gate_callee (f:=61) rfl ?_);refine goesL_ (some 6) rfl rfl Tryd.func61 (by kernel_rfl) rfl #[.int .i64 a0] rfl (by (try simp only [List.map_toArray,List.map_cons,List.map_nil]);first|done|rfl|(simp only [List.length_drop,List.length_take];rfl)) ?_;(with_reducible refine (spec_IsValidKey.calls a0 true _ A3.out).mono ?_);rintro e w' ⟨rfl,⟨nd,rfl⟩⟩;refine ⟨_,rfl,?_⟩)|((with_reducible refine gate_dst (N:=11) rfl ?_);refine Kd.R_lit (Kd.int .i64) _ 3 ?hg (N:=11) ?hd (xs:=([139,(l1.length:Int)]:List Int)) (inner:=[.int .i64 139,.int .i64 (l1.length:Int)]) (ok:=fun _ => True) (okp:=fun _ => True) ?hr ?hp (fun _ hk => hk) trivial (Below.refl _ _) (Nat.le_refl _) (by simp) ?_;(case hd => rfl);(case hg => rfl);(case hr => first|(go_simp;done)|(go_simp;rfl));(case hp => exact (Reps.one (show Kd.M (Kd.int .i64) _ _ _ 139 [.int .i64 139] from rfl) (Reps.one (show Kd.M (Kd.int .i64) _ _ _ (l1.length:Int) [.int .i64 (l1.length:Int)] from rfl) (Reps.none _ _))));intro v154 w7 ho8 hb hg_ hnew_;clear hg_ hnew_;(first|rw [← Ny153.out] at ho8|(simp only [Int.reduceToNat] at ho8;rw [← Ny153.out] at ho8));have n0_:=Am3_ (Kd.R_lower ho8 (below_size (xe_ HB)));have n1_:=bs_ HB hb;clear HB;have HO155:=n0_;have HB:=n1_;clear n0_ n1_;clear hb ho8)|((with_reducible refine gate_builtin (b:=.append) (xs:=#[.tmp 11,.tmp 12]) rfl ?_);at_builtin;refine Kd.R_append_rows (Kd.int .i64) (w0:=w) w.heap.size rfl (.tmp 11) (.tmp 12) 50 3 (.int .i64 0) 8 rfl Tryd.underlying50 info3 rfl (by decide) (by omega) v154 y153 l1 _ _ _ (fun _ => True) (fun _ => False) rfl rfl ?aO ?aR (fun _ _ h => h) (fun _ h => h.elim) ?aF ?aB ?aS ?aL ?_;(case aR => repeat (first|exact (Kd.C_below HR1.out HB.out)|(with_reducible refine Kd.C_alloc ?_ _)|(with_reducible refine Kd.C_drewN ?_ _)|(with_reducible refine Kd.C_drew ?_)));(case aB => exact (xe_ HB));(case aF => exact (fun _ _ => trivial));(case aO => exact (by (with_reducible repeat (first|apply Kd.R_alloc|apply Kd.R_drewN|apply Kd.R_drew));exact HO155.out));(case aS => exact (below_size (xe_ HB)));(case aL => have:=LMc5.out;omega);intro v157 w9 ho hb hg hat;rw [← Ny156.out] at ho;have n0_:=Am3_ (hb);have n1_:=Am3_ (ho);clear HB;clear HO155;have HB:=n0_;have HO158:=n1_;clear n0_ n1_;clear ho hb hg hat;obtain ⟨Ao10,co10,eo10⟩:=Kd.R_slice HO158.out;subst eo10)|((with_reducible refine gate_callee (f:=62) rfl ?_);refine goesL_ (some 14) rfl rfl Tryd.func62 (by kernel_rfl) rfl #[.int .i64 a0,.slice Ao10 y156.length co10] rfl (by (try simp only [List.map_toArray,List.map_cons,List.map_nil]);first|done|rfl|(simp only [List.length_drop,List.length_take];rfl)) ?_;(with_reducible refine (spec_KeyedHash.calls k a0 _ _ y156 t159 _ ?side1 ?side2 A6.out).mono ?_);(case side1 => repeat (first|exact (Kd.R_reads' HO158.out).2.2|(with_reducible refine Kd.C_alloc ?_ _)|(with_reducible refine Kd.C_drewN ?_ _)|(with_reducible refine Kd.C_drew ?_)));(case side2 => exact (Kd.R_reads' HO158.out).2.1);rintro e w11 ⟨rfl,hb⟩;refine ⟨_,rfl,?_⟩;have n0_:=Am3_ (Kd.R_below (by (with_reducible repeat (first|apply Kd.R_alloc|apply Kd.R_drewN|apply Kd.R_drew));exact HO158.out) hb);have n1_:=bs_ HB hb;clear HO158;clear HB;have HO158:=n0_;have HB:=n1_;clear n0_ n1_;(try clear hb);(try clear hb2);(try clear hk);(try clear hi)))
   go_ret
   exact ⟨by first|rfl|(simp [errW_none,errW_some] <;> rfl)|(simp [*,errW_none,errW_some] <;> rfl),by repeat (first|(with_reducible first|exact HB.out|apply below_alloc|apply pw_below_drewN|apply below_drew1)|exact HB.out)⟩
  ·rw [if_neg c5] at H
   exact absurd H (by simp)
 ·replace c4:=Bool.eq_false_iff.mpr c4;subst c4
  rw [if_neg (show ¬ (false=true) by decide)] at H
  obtain rfl:=Option.some.inj H
  go_enter Tryd.func41,Tryd.ntmps41
  go_wp2_with (first|((with_reducible refine gate_callee (f:=61) rfl ?_);refine goesL_ (some 6) rfl rfl Tryd.func61 (by kernel_rfl) rfl #[.int .i64 a0] rfl (by (try simp only [List.map_toArray,List.map_cons,List.map_nil]);first|done|rfl|(simp only [List.length_drop,List.length_take];rfl)) ?_;(with_reducible refine (spec_IsValidKey.calls a0 false _ A3.out).mono ?_);rintro e w' ⟨rfl,⟨nd,rfl⟩⟩;refine ⟨_,rfl,?_⟩))
  go_ret
  exact ⟨by first|rfl|(simp [errW_none,errW_some] <;> rfl)|(simp [*,errW_none,errW_some] <;> rfl),by repeat (first|(with_reducible first|exact HB.out|apply below_alloc|apply pw_below_drewN|apply below_drew1)|exact HB.out)⟩

/-! ### spec_Max: function 64 -/
def spec_Max.f (a0:Int) (a1:Int):Option (Int):=if a1 > a0 then (some a1) else (some a0)
set_option maxHeartbeats 8000000 in
set_option maxRecDepth 100000 in
theorem spec_Max.calls (a0:Int) (a1:Int) (r:Int) (w:World) (h:spec_Max.f a0 a1=some r) :
  Calls Tryd.prog 64 #[.int .i64 a0,.int .i64 a1] w fun e w' => e=.returned (.int .i64 r)∧Drawn0 w w':=by
 have H:(if a1 > a0 then (some a1) else (some a0))=some r:=h;clear h
 by_cases c3:a1 > a0
 ·rw [if_pos c3] at H
  have c3b0:decide (a0 < a1)=true:=decide_eq_true c3;clear c3;obtain rfl:=Option.some.inj H
  go_enter Tryd.func64,Tryd.ntmps64
  go_wp2
  go_ret
  exact ⟨by first|rfl|(simp;done)|(simp [*];done),by repeat (first|exact Drawn0.refl _|apply Drawn0.step)⟩
 ·rw [if_neg c3] at H
  have c3b0:decide (a0 < a1)=false:=decide_eq_false c3;clear c3;obtain rfl:=Option.some.inj H
  go_enter Tryd.func64,Tryd.ntmps64
  go_wp2
  go_ret
  exact ⟨by first|rfl|(simp;done)|(simp [*];done),by repeat (first|exact Drawn0.refl _|apply Drawn0.step)⟩

/-! ### spec_BytesToInts: function 65 -/
def spec_BytesToInts.l0:Nat → List Int → List Int → Int → Option (List Int)
|0,_,_,_ => none
|k + 1,x0,x3,x4 => if x4 < (x0.length:Int) then (if 0 ≤ x4 then (if x3.length < 17592186044416 then (spec_BytesToInts.l0 k x0 (x3 ++ [wrap64 (rd x0 x4)]) (wrap64 (x4 + 1))) else (none)) else (none)) else (some x3)
def spec_BytesToInts.f (k:Nat) (l0:List Int):Option (List Int):=spec_BytesToInts.l0 k l0 (([(l0.length:Int)]:List Int)) 0
theorem spec_BytesToInts.mono_l:∀ k,(∀ y0 y1 y2,LeO (spec_BytesToInts.l0 k y0 y1 y2) (spec_BytesToInts.l0 (k + 1) y0 y1 y2))
|0 => fun _ _ _ r h => by simp [spec_BytesToInts.l0] at h
|k + 1 => by
  have ih0:=spec_BytesToInts.mono_l k
  ·intro y0 y1 y2
   unfold spec_BytesToInts.l0
   repeat' first
  |(with_reducible exact ih0 _ _ _)
  |(with_reducible exact LeO.refl _)
  |(with_reducible exact LeO.none _)
  |(with_reducible refine LeO.ite ?_ ?_)
  |(with_reducible refine LeO.bind ?_ (fun _ => ?_))
  |exact ih0 _ _ _
  |exact LeO.none _
  |refine LeO.ite ?_ ?_
  |refine LeO.bind ?_ (fun _ => ?_)
theorem spec_BytesToInts.mono:∀ a0 k,LeO (spec_BytesToInts.f k a0) (spec_BytesToInts.f (k + 1) a0):=by
 intro a0 k;have ih0:=spec_BytesToInts.mono_l k
 unfold spec_BytesToInts.f
 repeat' first
  |(with_reducible exact ih0 _ _ _)
  |(with_reducible exact LeO.refl _)
  |(with_reducible exact LeO.none _)
  |(with_reducible refine LeO.ite ?_ ?_)
  |(with_reducible refine LeO.bind ?_ (fun _ => ?_))
  |exact ih0 _ _ _
  |exact LeO.none _
  |refine LeO.ite ?_ ?_
  |refine LeO.bind ?_ (fun _ => ?_)
set_option maxHeartbeats 8000000 in
set_option maxRecDepth 100000 in
theorem spec_BytesToInts.calls (k:Nat) (A0:Option Addr) (c0:Nat) (l0:List Int) (r:List Int) (w:World) (hr0:Kd.C (Kd.int .u8) w A0 l0.length l0) (hc0:l0.length ≤ c0) (h:spec_BytesToInts.f k l0=some r) :
  Calls Tryd.prog 65 #[.slice A0 l0.length c0] w fun e w' => ∃ v0_:Value,e=.returned (v0_)∧Kd.R (Kd.int .i64) 3 w' w.heap.size (fun _ => True) v0_ r∧Below w.heap.size w w':=by
 have HR0:=Am3_ hr0;have HC0:=Am3_ hc0;clear hr0 hc0;have HB:=Am3_ (Below.refl w.heap.size w);have H:(spec_BytesToInts.l0 k l0 (([(l0.length:Int)]:List Int)) 0)=some r:=h;clear h;obtain ⟨y160,hy160⟩:∃ y_:List Int,y_=(([(l0.length:Int)]:List Int)):=⟨_,rfl⟩;replace H:(spec_BytesToInts.l0 k l0 y160 0)=some r:=by first|(rw [hy160];with_reducible exact H)|(have H2_:=(Option.bind_some _ _).symm.trans H;rw [hy160];with_reducible exact H2_)|(have H2_:=(Option.bind_some _ _).symm.trans H;with_reducible exact H2_)|with_reducible exact H|(rw [hy160];exact H)|exact H
 have Ny160:=Am3_ hy160;clear hy160;have H':=Am3_ H;clear H
 go_enter Tryd.func65,Tryd.ntmps65
 go_wp2_with (first|((with_reducible refine gate_dst (N:=7) rfl ?_);refine Kd.R_lit (Kd.int .i64) _ 3 ?hg (N:=7) ?hd (xs:=([(l0.length:Int)]:List Int)) (inner:=[.int .i64 (l0.length:Int)]) (ok:=fun _ => True) (okp:=fun _ => True) ?hr ?hp (fun _ hk => hk) trivial (Below.refl _ _) (Nat.le_refl _) (by simp) ?_;(case hd => rfl);(case hg => rfl);(case hr => first|(go_simp;done)|(go_simp;rfl));(case hp => exact (Reps.one (show Kd.M (Kd.int .i64) _ _ _ (l0.length:Int) [.int .i64 (l0.length:Int)] from rfl) (Reps.none _ _)));intro v161 w2 ho3 hb hg_ hnew_;clear hg_ hnew_;(first|rw [← Ny160.out] at ho3|(simp only [Int.reduceToNat] at ho3;rw [← Ny160.out] at ho3));have n0_:=Am3_ (Kd.R_lower ho3 (below_size (xe_ HB)));have n1_:=bs_ HB hb;clear HB;have HO162:=n0_;have HB:=n1_;clear n0_ n1_;clear hb ho3))
 go_loopg [3,4] k (fun kq v3 v4 w' => ∃ (x3_1:List Int) (x4_1:Int),v4=.int .i64 x4_1∧Aside0 (spec_BytesToInts.l0 kq l0 x3_1 x4_1=some r)∧Aside0 (kq ≤ k)∧Aside0 (Kd.R (Kd.int .i64) 3 w' w.heap.size (fun _ => True) v3 x3_1)∧Aside0 (Below w.heap.size w w'))
 case atStart => exact ⟨(y160),(0),(by first|rfl|(simp;done)|(simp [*];done)),H',⟨Nat.le_refl _⟩,⟨by (with_reducible repeat (first|apply Kd.R_alloc|apply Kd.R_drewN|apply Kd.R_drew));exact HO162.out⟩,⟨by repeat (first|(with_reducible first|exact HB.out|apply below_alloc|apply pw_below_drewN|apply below_drew1)|exact HB.out)⟩⟩
 case round =>
  clear H'
  try clear p2
  obtain ⟨x3_1,x4_1,rfl,HA,HK1,HO_3,HB⟩:=hrel
  cases gk with
 |zero => exact absurd HA.out (by simp [spec_BytesToInts.l0])
 |succ k1 =>
   have H:=HA.out;clear HA;simp only [spec_BytesToInts.l0] at H
   by_cases c4:x4_1 < (l0.length:Int)
   ·rw [if_pos c4] at H
    have c4b0:decide (x4_1 < (l0.length:Int))=true:=decide_eq_true c4;clear c4
    by_cases c5:0 ≤ x4_1
    ·rw [if_pos c5] at H
     have c5b0:decide (0 ≤ x4_1)=true:=decide_eq_true c5;clear c5
     by_cases c6:x3_1.length < 17592186044416
     ·rw [if_pos c6] at H
      have LMc6:=Am3_ c6;clear c6;obtain ⟨y164,hy164⟩:∃ y_:List Int,y_=(x3_1 ++ [wrap64 (rd l0 x4_1)]):=⟨_,rfl⟩;replace H:(spec_BytesToInts.l0 k1 l0 y164 (wrap64 (x4_1 + 1)))=some r:=by first|(rw [hy164];with_reducible exact H)|(have H2_:=(Option.bind_some _ _).symm.trans H;rw [hy164];with_reducible exact H2_)|(have H2_:=(Option.bind_some _ _).symm.trans H;with_reducible exact H2_)|with_reducible exact H|(rw [hy164];exact H)|exact H
      have Ny164:=Am3_ hy164;clear hy164;have H':=Am3_ H;clear H;have p163:0 ≤ (x4_1:Int):=of_decide_eq_true (by first|(with_reducible assumption)|assumption);have q163:x4_1 < (l0.length:Int):=of_decide_eq_true (by first|(with_reducible assumption)|assumption);obtain ⟨ad163,e163,hx163_0⟩:=Kd.at_int HR0.out x4_1 p163 q163
      cases e163
      replace hx163_0:=(HB.out.cell (World.block_lt_of_cell? w _ hx163_0)).trans hx163_0;replace p163:=eq_true p163;replace q163:=eq_true q163
      go_wp2_with (first|((with_reducible refine gate_builtin (b:=.append) (xs:=#[.tmp 14,.tmp 20]) rfl ?_);at_builtin;refine Kd.R_append (Kd.int .i64) (w0:=w) w.heap.size rfl (.tmp 14) (.tmp 20) 50 3 (.int .i64 0) 8 rfl Tryd.underlying50 info3 rfl (by decide) (by omega) u3 x3_1 (wrap64 (rd l0 x4_1)) [.int .i64 (wrap64 (rd l0 x4_1))] (fun _ => True) (fun _ => False) rfl rfl ?aP (fun _ hk => hk.elim) ?aF ?aO ?aB ?aS ?aL ?_;(case aP => exact rfl);(case aB => exact (xe_ HB));(case aF => exact (fun _ _ => trivial));(case aO => exact (by (with_reducible repeat (first|apply Kd.R_alloc|apply Kd.R_drewN|apply Kd.R_drew));exact HO_3.out));(case aS => exact (below_size (xe_ HB)));(case aL => have:=LMc6.out;omega);intro v165 w7 ho hb hg hat;rw [← Ny164.out] at ho;have n0_:=Am3_ (hb);have n1_:=Am3_ (ho);clear HB;clear HO_3;have HB:=n0_;have HO166:=n1_;clear n0_ n1_;clear ho hb hg hat))
      go_roundg k1
      case measure => have:=HK1.out;omega
      case rel => exact ⟨(y164),(wrap64 (x4_1 + 1)),(by first|rfl|(simp;done)|(simp [*];done)),H',⟨by have:=HK1.out;omega⟩,⟨by (with_reducible repeat (first|apply Kd.R_alloc|apply Kd.R_drewN|apply Kd.R_drew));exact HO166.out⟩,⟨by repeat (first|(with_reducible first|exact HB.out|apply below_alloc|apply pw_below_drewN|apply below_drew1)|exact HB.out)⟩⟩
     ·rw [if_neg c6] at H
      exact absurd H (by simp)
    ·rw [if_neg c5] at H
     exact absurd H (by simp)
   ·rw [if_neg c4] at H
    have c4b0:decide (x4_1 < (l0.length:Int))=false:=decide_eq_false c4;clear c4;obtain rfl:=Option.some.inj H
    go_wp2
    go_ret
    exact ⟨_,by first|rfl|(simp [errW_none,errW_some] <;> rfl)|(simp [*,errW_none,errW_some] <;> rfl),by (with_reducible repeat (first|apply Kd.R_alloc|apply Kd.R_drewN|apply Kd.R_drew));exact HO_3.out,by repeat (first|(with_reducible first|exact HB.out|apply below_alloc|apply pw_below_drewN|apply below_drew1)|exact HB.out)⟩


/-! ### spec_DeriveFromString: function 44 -/
def spec_DeriveFromString.f (k:Nat) (a0:Int) (a1:ByteArray):Option (Int):=if a1.size < 17592186044416 then ((spec_BytesToInts.f k (bytesOf a1)).bind fun t => ((spec_KeyedHash.f k a0 t).bind fun u => ((spec_Max.f 1 u).bind fun v => (some v)))) else none
theorem spec_DeriveFromString.mono:∀ a0 a1 k,LeO (spec_DeriveFromString.f k a0 a1) (spec_DeriveFromString.f (k + 1) a0 a1):=by
 intro a0 a1 k
 unfold spec_DeriveFromString.f;exact LeO.ite (LeO.bind (spec_BytesToInts.mono _ _) (fun _ => LeO.bind (spec_KeyedHash.mono _ _ _) (fun _ => LeO.refl _))) (LeO.refl _)
set_option maxHeartbeats 800000 in
theorem spec_DeriveFromString.calls (k:Nat) (a0:Int) (a1:ByteArray) (r:Int) (w:World) (h:spec_DeriveFromString.f k a0 a1=some r) :
  Calls Tryd.prog 44 #[.int .i64 a0,.string a1] w fun e w' => e=.returned (.int .i64 r)∧Below w.heap.size w w':=by
 unfold spec_DeriveFromString.f at h
 by_cases hs:a1.size < 17592186044416
 case neg => rw [if_neg hs] at h;cases h
 rw [if_pos hs] at h
 obtain ⟨t,ht,h⟩:=Option.bind_eq_some_iff.1 h;obtain ⟨u,hu,h⟩:=Option.bind_eq_some_iff.1 h;obtain ⟨v,hv,h⟩:=Option.bind_eq_some_iff.1 h;obtain rfl:v=r:=by simpa using h
 clear h;have HU:=Am3_ hu;have HV:=Am3_ hv;have hcap:(bytesOf a1).length ≤ grownCap w a1.size 0 5:=by rw [bytesOf_length];exact grownCap_ge _ _ _ _
 have C1:=spec_BytesToInts.calls k _ _ (bytesOf a1) t _ (Man.bytes_C w 5 a1 hs) hcap ht;rw [bytesOf_length] at C1;have HC:=Am3_ C1;have HB0:=Am3_ (Man.bytes_below w 5 a1);clear hu hv ht C1 hcap hs;have hcv:=fun W:World => Lib.run_convert_string_bytes (P:=Tryd.prog) W 9 60 5 a1 Tryd.underlying9 Tryd.underlying60 Tryd.underlying5
 go_enter Tryd.func44,Tryd.ntmps44
 go_wp2_with fail
 refine HC.out.mono ?_;rintro e w1 ⟨v0,rfl,hR,hb⟩;obtain ⟨A,c,rfl⟩:=Kd.R_slice hR;have HR:=Am3_ hR;have HB1:=Am3_ (below_step HB0.out hb);clear hR hb
 go_wp2_with fail
 refine (spec_KeyedHash.calls k a0 A c t u w1 (Kd.R_reads' HR.out).2.2 (Kd.R_reads' HR.out).2.1 HU.out).mono ?_;rintro e w2 ⟨rfl,hb⟩;have HB2:=Am3_ (below_step HB1.out hb);clear hb
 go_wp2_with fail
 refine (spec_Max.calls 1 u v w2 HV.out).mono ?_;rintro e w3 ⟨rfl,hb⟩;have HB3:=Am3_ (below_step HB2.out hb.below);clear hb
 go_wp2_with fail
 go_ret
 exact ⟨rfl,HB3.out⟩

/-! ### spec_SiteHash: function 43 -/
def spec_SiteHash.f (k:Nat) (a0:ByteArray):Option (Int):=(spec_DeriveFromString.f k 173 a0).bind fun t167 => (some t167)
theorem spec_SiteHash.mono:∀ a0 k,LeO (spec_SiteHash.f k a0) (spec_SiteHash.f (k + 1) a0):=by
 intro a0 k
 unfold spec_SiteHash.f
 repeat' first
  |(with_reducible exact spec_DeriveFromString.mono _ _ _)
  |(with_reducible exact LeO.refl _)
  |(with_reducible exact LeO.none _)
  |(with_reducible refine LeO.ite ?_ ?_)
  |(with_reducible refine LeO.bind ?_ (fun _ => ?_))
  |exact spec_DeriveFromString.mono _ _ _
  |exact LeO.none _
  |refine LeO.ite ?_ ?_
  |refine LeO.bind ?_ (fun _ => ?_)
set_option maxHeartbeats 8000000 in
set_option maxRecDepth 100000 in
theorem spec_SiteHash.calls (k:Nat) (a0:ByteArray) (r:Int) (w:World) (h:spec_SiteHash.f k a0=some r) :
  Calls Tryd.prog 43 #[.string a0] w fun e w' => e=.returned (.int .i64 r)∧Below w.heap.size w w':=by
 have HB:=Am3_ (Below.refl w.heap.size w);have H:((spec_DeriveFromString.f k 173 a0).bind fun t167 => (some t167))=some r:=h;clear h;replace H:=Option.bind_eq_some_iff.mp H;obtain ⟨t167,A20,H⟩:=H
 try dsimp only at H
 have A2:=Am3_ A20;clear A20;obtain rfl:=Option.some.inj H
 go_enter Tryd.func43,Tryd.ntmps43
 go_wp2_with (first|((with_reducible refine gate_callee (f:=44) rfl ?_);refine goesL_ (some 4) rfl rfl Tryd.func44 (by kernel_rfl) rfl #[.int .i64 173,.string a0] rfl (by (try simp only [List.map_toArray,List.map_cons,List.map_nil]);first|done|rfl|(simp only [List.length_drop,List.length_take];rfl)) ?_;(with_reducible refine (spec_DeriveFromString.calls k 173 a0 t167 _ A2.out).mono ?_);rintro e w3 ⟨rfl,hb⟩;refine ⟨_,rfl,?_⟩;have n0_:=bs_ HB hb;clear HB;have HB:=n0_;clear n0_;(try clear hb);(try clear hb2);(try clear hk);(try clear hi)))
 go_ret
 exact ⟨by first|rfl|(simp [errW_none,errW_some] <;> rfl)|(simp [*,errW_none,errW_some] <;> rfl),by repeat (first|(with_reducible first|exact HB.out|apply below_alloc|apply pw_below_drewN|apply below_drew1)|exact HB.out)⟩

/-! ### spec_DeriveKey: function 63 -/
def spec_DeriveKey.f (k:Nat) (a0:Int) (l1:List Int):Option (Int):=(some (([151]:List Int):List Int)).bind fun y168 => (if y168.length + l1.length < 17592186044416 then ((spec_KeyedHash.f k a0 (y168 ++ l1)).bind fun t174 => ((spec_Max.f 1 t174).bind fun t175 => (some t175))) else (none))
theorem spec_DeriveKey.mono:∀ a0 a1 k,LeO (spec_DeriveKey.f k a0 a1) (spec_DeriveKey.f (k + 1) a0 a1):=by
 intro a0 a1 k
 unfold spec_DeriveKey.f
 repeat' first
  |(with_reducible exact spec_KeyedHash.mono _ _ _)
  |(with_reducible exact LeO.refl _)
  |(with_reducible exact LeO.none _)
  |(with_reducible refine LeO.ite ?_ ?_)
  |(with_reducible refine LeO.bind ?_ (fun _ => ?_))
  |exact spec_KeyedHash.mono _ _ _
  |exact LeO.none _
  |refine LeO.ite ?_ ?_
  |refine LeO.bind ?_ (fun _ => ?_)
set_option maxHeartbeats 8000000 in
set_option maxRecDepth 100000 in
theorem spec_DeriveKey.calls (k:Nat) (a0:Int) (A1:Option Addr) (c1:Nat) (l1:List Int) (r:Int) (w:World) (hr1:Kd.C (Kd.int .i64) w A1 l1.length l1) (hc1:l1.length ≤ c1) (h:spec_DeriveKey.f k a0 l1=some r) :
  Calls Tryd.prog 63 #[.int .i64 a0,.slice A1 l1.length c1] w fun e w' => e=.returned (.int .i64 r)∧Below w.heap.size w w':=by
 have HR1:=Am3_ hr1;have HC1:=Am3_ hc1;clear hr1 hc1;have HB:=Am3_ (Below.refl w.heap.size w);have H:=h;unfold spec_DeriveKey.f at H;clear h;obtain ⟨y168,hy168⟩:∃ y_:List Int,y_=(([151]:List Int)):=⟨_,rfl⟩;replace H:(if y168.length + l1.length < 17592186044416 then ((spec_KeyedHash.f k a0 (y168 ++ l1)).bind fun t174 => ((spec_Max.f 1 t174).bind fun t175 => (some t175))) else (none))=some r:=by first|(rw [hy168];with_reducible exact H)|(have H2_:=(Option.bind_some _ _).symm.trans H;rw [hy168];with_reducible exact H2_)|(have H2_:=(Option.bind_some _ _).symm.trans H;with_reducible exact H2_)|with_reducible exact H|(rw [hy168];exact H)|exact H
 have Ny168:=Am3_ hy168;clear hy168
 by_cases c3:y168.length + l1.length < 17592186044416
 ·rw [if_pos c3] at H
  have LMc3:=Am3_ c3;clear c3;obtain ⟨y171,hy171⟩:∃ y_:List Int,y_=(y168 ++ l1):=⟨_,rfl⟩;replace H:((spec_KeyedHash.f k a0 y171).bind fun t174 => ((spec_Max.f 1 t174).bind fun t175 => (some t175)))=some r:=by first|(rw [hy171];with_reducible exact H)|(have H2_:=(Option.bind_some _ _).symm.trans H;rw [hy171];with_reducible exact H2_)|(have H2_:=(Option.bind_some _ _).symm.trans H;with_reducible exact H2_)|with_reducible exact H|(rw [hy171];exact H)|exact H
  have Ny171:=Am3_ hy171;clear hy171;replace H:=Option.bind_eq_some_iff.mp H;obtain ⟨t174,A40,H⟩:=H
  try dsimp only at H
  have A4:=Am3_ A40;clear A40;replace H:=Option.bind_eq_some_iff.mp H;obtain ⟨t175,A50,H⟩:=H
  try dsimp only at H
  have A5:=Am3_ A50;clear A50;obtain rfl:=Option.some.inj H
  go_enter Tryd.func63,Tryd.ntmps63
  go_wp2_with (first|((with_reducible refine gate_dst (N:=6) rfl ?_);refine Kd.R_lit (Kd.int .i64) _ 3 ?hg (N:=6) ?hd (xs:=([151]:List Int)) (inner:=[.int .i64 151]) (ok:=fun _ => True) (okp:=fun _ => True) ?hr ?hp (fun _ hk => hk) trivial (Below.refl _ _) (Nat.le_refl _) (by simp) ?_;(case hd => rfl);(case hg => rfl);(case hr => first|(go_simp;done)|(go_simp;rfl));(case hp => exact (Reps.one (show Kd.M (Kd.int .i64) _ _ _ 151 [.int .i64 151] from rfl) (Reps.none _ _)));intro v169 w6 ho7 hb hg_ hnew_;clear hg_ hnew_;(first|rw [← Ny168.out] at ho7|(simp only [Int.reduceToNat] at ho7;rw [← Ny168.out] at ho7));have n0_:=Am3_ (Kd.R_lower ho7 (below_size (xe_ HB)));have n1_:=bs_ HB hb;clear HB;have HO170:=n0_;have HB:=n1_;clear n0_ n1_;clear hb ho7)|((with_reducible refine gate_builtin (b:=.append) (xs:=#[.tmp 6,.tmp 7]) rfl ?_);at_builtin;refine Kd.R_append_rows (Kd.int .i64) (w0:=w) w.heap.size rfl (.tmp 6) (.tmp 7) 50 3 (.int .i64 0) 8 rfl Tryd.underlying50 info3 rfl (by decide) (by omega) v169 y168 l1 _ _ _ (fun _ => True) (fun _ => False) rfl rfl ?aO ?aR (fun _ _ h => h) (fun _ h => h.elim) ?aF ?aB ?aS ?aL ?_;(case aR => repeat (first|exact (Kd.C_below HR1.out HB.out)|(with_reducible refine Kd.C_alloc ?_ _)|(with_reducible refine Kd.C_drewN ?_ _)|(with_reducible refine Kd.C_drew ?_)));(case aB => exact (xe_ HB));(case aF => exact (fun _ _ => trivial));(case aO => exact (by (with_reducible repeat (first|apply Kd.R_alloc|apply Kd.R_drewN|apply Kd.R_drew));exact HO170.out));(case aS => exact (below_size (xe_ HB)));(case aL => have:=LMc3.out;omega);intro v172 w8 ho hb hg hat;rw [← Ny171.out] at ho;have n0_:=Am3_ (hb);have n1_:=Am3_ (ho);clear HB;clear HO170;have HB:=n0_;have HO173:=n1_;clear n0_ n1_;clear ho hb hg hat;obtain ⟨Ao9,co9,eo9⟩:=Kd.R_slice HO173.out;subst eo9)|((with_reducible refine gate_callee (f:=62) rfl ?_);refine goesL_ (some 9) rfl rfl Tryd.func62 (by kernel_rfl) rfl #[.int .i64 a0,.slice Ao9 y171.length co9] rfl (by (try simp only [List.map_toArray,List.map_cons,List.map_nil]);first|done|rfl|(simp only [List.length_drop,List.length_take];rfl)) ?_;(with_reducible refine (spec_KeyedHash.calls k a0 _ _ y171 t174 _ ?side1 ?side2 A4.out).mono ?_);(case side1 => repeat (first|exact (Kd.R_reads' HO173.out).2.2|(with_reducible refine Kd.C_alloc ?_ _)|(with_reducible refine Kd.C_drewN ?_ _)|(with_reducible refine Kd.C_drew ?_)));(case side2 => exact (Kd.R_reads' HO173.out).2.1);rintro e w10 ⟨rfl,hb⟩;refine ⟨_,rfl,?_⟩;have n0_:=Am3_ (Kd.R_below (by (with_reducible repeat (first|apply Kd.R_alloc|apply Kd.R_drewN|apply Kd.R_drew));exact HO173.out) hb);have n1_:=bs_ HB hb;clear HO173;clear HB;have HO173:=n0_;have HB:=n1_;clear n0_ n1_;(try clear hb);(try clear hb2);(try clear hk);(try clear hi))|((with_reducible refine gate_callee (f:=64) rfl ?_);refine goesL_ (some 10) rfl rfl Tryd.func64 (by kernel_rfl) rfl #[.int .i64 1,.int .i64 t174] rfl (by (try simp only [List.map_toArray,List.map_cons,List.map_nil]);first|done|rfl|(simp only [List.length_drop,List.length_take];rfl)) ?_;(with_reducible refine (spec_Max.calls 1 t174 t175 _ A5.out).mono ?_);rintro e w' ⟨rfl,⟨nd,rfl⟩⟩;refine ⟨_,rfl,?_⟩))
  go_ret
  exact ⟨by first|rfl|(simp [errW_none,errW_some] <;> rfl)|(simp [*,errW_none,errW_some] <;> rfl),by repeat (first|(with_reducible first|exact HB.out|apply below_alloc|apply pw_below_drewN|apply below_drew1)|exact HB.out)⟩
 ·rw [if_neg c3] at H
  exact absurd H (by simp)

/-! ### spec_SitePrivate: function 42 -/
def spec_SitePrivate.f (k:Nat) (a0_0:Int) (a0_1:Int) (a0_2:Int) (a0_3:Int) (a1:ByteArray) (a2:Int):Option (Int):=(spec_SiteHash.f k a1).bind fun t177 => ((spec_DeriveKey.f k a0_2 (([179,t177,a2]:List Int))).bind fun t181 => (some t181))
theorem spec_SitePrivate.mono:∀ a0 a1 a2 a3 a4 a5 k,LeO (spec_SitePrivate.f k a0 a1 a2 a3 a4 a5) (spec_SitePrivate.f (k + 1) a0 a1 a2 a3 a4 a5):=by
 intro a0 a1 a2 a3 a4 a5 k
 unfold spec_SitePrivate.f
 repeat' first
  |(with_reducible exact spec_DeriveKey.mono _ _ _)
  |(with_reducible exact spec_SiteHash.mono _ _)
  |(with_reducible exact LeO.refl _)
  |(with_reducible exact LeO.none _)
  |(with_reducible refine LeO.ite ?_ ?_)
  |(with_reducible refine LeO.bind ?_ (fun _ => ?_))
  |exact spec_DeriveKey.mono _ _ _
  |exact spec_SiteHash.mono _ _
  |exact LeO.none _
  |refine LeO.ite ?_ ?_
  |refine LeO.bind ?_ (fun _ => ?_)
def spec_SitePrivate.T1:Bool × List (List Nat × List Nat):=(true,[([],[]),([0],[0]),([],[]),([2],[2]),([],[]),([3,4],[3,4]),([1,5,3],[1,5]),([6,6,0,1,2,3,4,5,6],[6])])
def spec_SitePrivate.B1:List Nat:=[0,1,0,4,0,28,63,127]
theorem spec_SitePrivate.tab1:rtab .any (opsOf Tryd.f42 1)=spec_SitePrivate.T1:=by kernel_rfl
theorem spec_SitePrivate.bits1:waitsOk spec_SitePrivate.T1.2 spec_SitePrivate.B1=true:=by kernel_rfl
set_option maxHeartbeats 8000000 in
set_option maxRecDepth 100000 in
theorem spec_SitePrivate.calls (k:Nat) (a0_0:Int) (a0_1:Int) (a0_2:Int) (a0_3:Int) (a1:ByteArray) (a2:Int) (r:Int) (w:World) (h:spec_SitePrivate.f k a0_0 a0_1 a0_2 a0_3 a1 a2=some r) :
  Calls Tryd.prog 42 #[.agg #[.int .i64 a0_0,.int .i64 a0_1,.int .i64 a0_2,.int .i64 a0_3],.string a1,.int .i64 a2] w fun e w' => e=.returned (.int .i64 r)∧Below w.heap.size w w':=by
 have hu31:=Tryd.underlying31;have HB:=Am3_ (Below.refl w.heap.size w);have H:=h;unfold spec_SitePrivate.f at H;clear h;replace H:=Option.bind_eq_some_iff.mp H;obtain ⟨t177,A40,H⟩:=H
 try dsimp only at H
 have A4:=Am3_ A40;clear A40;obtain ⟨y178,hy178⟩:∃ y_:List Int,y_=(([179,t177,a2]:List Int)):=⟨_,rfl⟩;replace H:((spec_DeriveKey.f k a0_2 y178).bind fun t181 => (some t181))=some r:=by first|(rw [hy178];with_reducible exact H)|(have H2_:=(Option.bind_some _ _).symm.trans H;rw [hy178];with_reducible exact H2_)|(have H2_:=(Option.bind_some _ _).symm.trans H;with_reducible exact H2_)|with_reducible exact H|(rw [hy178];exact H)|exact H
 have Ny178:=Am3_ hy178;clear hy178;replace H:=Option.bind_eq_some_iff.mp H;obtain ⟨t181,A50,H⟩:=H
 try dsimp only at H
 have A5:=Am3_ A50;clear A50;obtain rfl:=Option.some.inj H
 go_enter Tryd.func42,Tryd.ntmps42
 try go_wp2_with (first|((with_reducible refine gate_dst (N:=3) rfl ?_);refine box_event ?hg (N:=3) ?hd (cs:=#[.int .i64 a0_0,.int .i64 a0_1,.int .i64 a0_2,.int .i64 a0_3]) (t:=31) ?hr ?_;(case hd => rfl);(case hg => rfl);(case hr => first|(go_simp;done)|(go_simp;rfl));intro gb176 hg w6 hbox hb;have n0_:=bs_ HB hb;have n1_:=Am3_ (hbox);have n2_:=gw_ hg HB;have n3_:=gw_ hg HB;clear HB;have HB:=n0_;have BK176:=n1_;have GW176:=n2_;have GE176:=n3_;clear n0_ n1_ n2_ n3_;clear hb hbox hg))
 replace BK176:=Am3_ (blk_drew BK176.out);replace HB:=Am3_ (below_drew1 HB.out);refine start_ (n:=8) (S:=fun w' => w'.cell? ⟨gb176,0,none⟩=some (.int .i64 a0_0)∧w'.cell? ⟨gb176,1,none⟩=some (.int .i64 a0_1)∧w'.cell? ⟨gb176,2,none⟩=some (.int .i64 a0_2)∧w'.cell? ⟨gb176,3,none⟩=some (.int .i64 a0_3)) (ds:=[]) #[false,false,false,false,false,false,false,false] (by kernel_rfl) rfl rfl ⟨q_ BK176 0 rfl,q_ BK176 1 rfl,q_ BK176 2 rfl,q_ BK176 3 rfl⟩ (fun hHeld => ?_);refine with_tabW spec_SitePrivate.tab1 spec_SitePrivate.bits1 (fun HT_ HW_ => ?_);generalize w6.drew=w7 at BK176 HB hHeld ⊢;refine pure_ (i:=0) (N:=some 7) (v:=?_) (a':=?_) #[true,false,false,false,false,false,false,false] rfl rfl (any_of HT_.out (by kernel_rfl)) (fun _ _ _ h => h) (Or.inl ⟨by rfl,?_⟩) ?_ ?_;rotate_left
 ·intro w'
  go_simp
  with_reducible rfl
 rotate_left
 ·simp only [Act.put,Sa_,Sb_,Sc_,i64_w,i32_w]
  rfl
 refine pure_ (i:=2) (N:=some 9) (v:=?_) (a':=?_) #[true,false,true,false,false,false,false,false] rfl rfl (any_of HT_.out (by kernel_rfl)) (fun _ _ _ h => h) (Or.inl ⟨by rfl,?_⟩) ?_ ?_;rotate_left
 ·intro w'
  go_simp
  with_reducible rfl
 rotate_left
 ·simp only [Act.put,Sa_,Sb_,Sc_,i64_w,i32_w]
  rfl
 refine pure_ (i:=4) (N:=some 11) (v:=?_) (a':=?_) #[true,false,true,false,true,false,false,false] rfl rfl (any_of HT_.out (by kernel_rfl)) (fun _ _ _ h => h) (Or.inl ⟨by rfl,?_⟩) ?_ ?_;rotate_left
 ·intro w'
  go_simp
  with_reducible rfl
 rotate_left
 ·simp only [Act.put,Sa_,Sb_,Sc_,i64_w,i32_w]
  rfl
 refine take_ (i:=1) (N:=some 8) (v:=?_) (a':=?_) #[true,true,true,false,true,false,false,false] rfl rfl (take_ofW HT_.out HW_.out (by kernel_rfl)) (fun _ _ _ h => h) (Or.inl ⟨by rfl,?_⟩) hHeld ?_ ?_;rotate_left
 ·rintro w' ⟨s0,s1,s2,s3⟩
  go_simp
  with_reducible rfl
 rotate_left
 ·simp only [Act.put,Sa_,Sb_,Sc_,i64_w,i32_w]
  rfl
 refine one_ (i:=3) (N:=some 10) #[true,true,true,true,true,false,false,false] rfl rfl (one_of HT_.out (by kernel_rfl)) (by decide) (fun K hK => ?_);refine goes_ Tryd.func43 (by kernel_rfl) rfl #[.string a1] (by rfl) rfl rfl (by (try simp only [List.map_toArray,List.map_cons,List.map_nil]);first|done|rfl|(simp only [List.length_drop,List.length_take];rfl)) ?_;with_reducible refine (spec_SiteHash.calls k a1 t177 _ A4.out).mono ?_;rintro e w8 ⟨rfl,hb⟩;refine ⟨_,rfl,?_⟩;replace BK176:=bb_ BK176 hb;replace HB:=bs_ HB hb;(try clear hb);(try clear hb2);(try clear hk);(try clear hi);refine hK.out _ _ ⟨q_ BK176 0 rfl,q_ BK176 1 rfl,q_ BK176 2 rfl,q_ BK176 3 rfl⟩ (fun hHeld => ?_);clear hK K;refine norm_ (a':=?_) ?_ ?_;rotate_left
 ·show Act.put _ (some 10) _=_
  simp only [Act.put,Sa_,Sb_,Sc_,i64_w,i32_w]
  rfl
 refine one_ (i:=5) (N:=some 12) #[true,true,true,true,true,true,false,false] rfl rfl (one_of HT_.out (by kernel_rfl)) (by decide) (fun K hK => ?_);refine Kd.R_lit_step (Kd.int .i64) _ 3 ?hg (N:=12) ?hd (xs:=([179,t177,a2]:List Int)) (inner:=[.int .i64 179,.int .i64 t177,.int .i64 a2]) (ok:=fun _ => True) (okp:=fun _ => True) ?hr ?hp (fun _ hk => hk) trivial (Below.refl _ _) (Nat.le_refl _) (by simp) ?_;(case hd => rfl);(case hg => rfl);(case hr => first|(go_simp;done)|(go_simp;rfl));(case hp => exact (Reps.one (show Kd.M (Kd.int .i64) _ _ _ 179 [.int .i64 179] from rfl) (Reps.one (show Kd.M (Kd.int .i64) _ _ _ t177 [.int .i64 t177] from rfl) (Reps.one (show Kd.M (Kd.int .i64) _ _ _ a2 [.int .i64 a2] from rfl) (Reps.none _ _)))));intro v179 w9 ho10 hb hg_ hnew_;clear hg_ hnew_
 (first|rw [← Ny178.out] at ho10|(simp only [Int.reduceToNat] at ho10;rw [← Ny178.out] at ho10))
 have HO180:=Am3_ (Kd.R_lower ho10 (below_size (xe_ HB)));replace BK176:=bb_ BK176 hb;replace HB:=bs_ HB hb;clear hb ho10;obtain ⟨Ao11,co11,eo11⟩:=Kd.R_slice HO180.out
 (first|subst eo11|(injection eo11 with f1_ f2_ f3_;have f4_:=f1_.symm;have f5_:=f3_.symm;clear f1_ f2_ f3_;subst f4_;subst f5_))
 refine hK.out _ _ ⟨q_ BK176 0 rfl,q_ BK176 1 rfl,q_ BK176 2 rfl,q_ BK176 3 rfl⟩ (fun hHeld => ?_);clear hK K;refine norm_ (a':=?_) ?_ ?_;rotate_left
 ·show Act.put _ (some 12) _=_
  simp only [Act.put,Sa_,Sb_,Sc_,i64_w,i32_w]
  rfl
 refine one_ (i:=6) (N:=some 13) #[true,true,true,true,true,true,true,false] rfl rfl (one_of HT_.out (by kernel_rfl)) (by decide) (fun K hK => ?_);refine goes_ Tryd.func63 (by kernel_rfl) rfl #[.int .i64 a0_2,.slice Ao11 y178.length co11] (by rfl) rfl rfl (by (try simp only [List.map_toArray,List.map_cons,List.map_nil]);first|done|rfl|(simp only [List.length_drop,List.length_take];rfl)) ?_;with_reducible refine (spec_DeriveKey.calls k a0_2 _ _ y178 t181 _ ?side1 ?side2 A5.out).mono ?_
 (case side1 => repeat (first|exact (Kd.R_reads' HO180.out).2.2|(with_reducible refine Kd.C_alloc ?_ _)|(with_reducible refine Kd.C_drewN ?_ _)|(with_reducible refine Kd.C_drew ?_)))
 (case side2 => exact (Kd.R_reads' HO180.out).2.1)
 rintro e w12 ⟨rfl,hb⟩;refine ⟨_,rfl,?_⟩;replace HO180:=Am3_ (Kd.R_below (by (with_reducible repeat (first|apply Kd.R_alloc|apply Kd.R_drewN|apply Kd.R_drew));exact HO180.out) hb);replace BK176:=bb_ BK176 hb;replace HB:=bs_ HB hb;(try clear hb);(try clear hb2);(try clear hk);(try clear hi);refine hK.out _ _ ⟨q_ BK176 0 rfl,q_ BK176 1 rfl,q_ BK176 2 rfl,q_ BK176 3 rfl⟩ (fun hHeld => ?_);clear hK K;refine norm_ (a':=?_) ?_ ?_;rotate_left
 ·show Act.put _ (some 13) _=_
  simp only [Act.put,Sa_,Sb_,Sc_,i64_w,i32_w]
  rfl
 refine pure_ (i:=7) (N:=some 6) (v:=?_) (a':=?_) #[true,true,true,true,true,true,true,true] rfl rfl (any_of HT_.out (by kernel_rfl)) (fun _ _ _ h => h) (Or.inl ⟨by rfl,?_⟩) ?_ ?_;rotate_left
 ·intro w'
  go_simp
  with_reducible rfl
 rotate_left
 ·simp only [Act.put,Sa_,Sb_,Sc_,i64_w,i32_w]
  rfl
 refine done_ (done_of HT_.out (by kernel_rfl)) ?_
 try go_wp2
 go_ret
 exact ⟨by first|rfl|(simp [errW_none,errW_some] <;> rfl)|(simp [*,errW_none,errW_some] <;> rfl),by repeat (first|(with_reducible first|exact HB.out|apply below_alloc|apply pw_below_drewN|apply below_drew1|refine below_set ?_ GE176.out)|exact HB.out)⟩

end Go.Proofs.YtogcoedmagoogaaDoor.PFnExactMakeAssertion
