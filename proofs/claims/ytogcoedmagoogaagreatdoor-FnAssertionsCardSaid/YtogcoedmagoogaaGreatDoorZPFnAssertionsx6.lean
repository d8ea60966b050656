/- Functions and contracts of a law's callees, written by a program of this session (a changed print): each contract says that the machine's call answers what the plain function says. Conditions: the plain function's own answer. -/
import Derived.Test.YtogcoedmagoogaaGreatDoorZPFnAssertionsx0
namespace Go.Proofs.YtogcoedmagoogaaGreatDoor.PFnAssertions
open Go.RowKit Go.Proofs.YtogcoedmagoogaaGreatDoorW.PrintWords Go.Proofs.YtogcoedmagoogaaGreatDoorW.PrintLast Go.Proofs.YtogcoedmagoogaaGreatDoorW.PrintMore
attribute [local go_sem] max2_int min2_int max_two min_two max_three min_three max_four min_four   -- for this text's walks alone
set_option linter.unusedVariables false
set_option linter.unusedSimpArgs false
abbrev Am6_ {p : Prop} (h : p) : Aside0 p := Aside0.mk h

namespace Y6
class Ex_ (w W:World):Prop where
 k:∀ {g:Nat} {o:Obj},w.heap[g]?=some o → W.heap[g]?=some o
 e:∀ {v:World},Below v.heap.size v w → Below v.heap.size v W
instance (priority:=low) Ex_.rf (w:World):Ex_ w w:=⟨fun h => h,fun h => h⟩
instance Ex_.dn {w W:World} [x:Ex_ w W] (n:Nat):Ex_ w (W.drewN n):=⟨fun h => blk_drewN (x.k h) n,fun h => pw_below_drewN (x.e h) n⟩
instance Ex_.dr {w W:World} [x:Ex_ w W]:Ex_ w W.drew:=⟨fun h => blk_drew (x.k h),fun h => below_drew1 (x.e h)⟩
instance Ex_.al {w W:World} [x:Ex_ w W] (o:Obj):Ex_ w (W.alloc o):=⟨fun h => blk_alloc (x.k h) o,fun h => below_alloc (x.e h) o⟩
theorem xk_ {w W:World} {g:Nat} {o:Obj} (h:Aside0 (w.heap[g]?=some o)) [x:Ex_ w W]:W.heap[g]?=some o:=x.k h.out
theorem ne1_ {w W:World} {g g':Nat} {o:Obj} (hg:g'=W.heap.size) (h:Aside0 (w.heap[g]?=some o)) [x:Ex_ w W]:Aside0 (g ≠ g'):=Am6_ (by rw [hg];exact Nat.ne_of_lt (blk_lt (x.k h.out)))
theorem ne2_ {w W:World} {g g':Nat} {o:Obj} (hg:g'=W.heap.size) (h:Aside0 (w.heap[g]?=some o)) [x:Ex_ w W]:Aside0 (g' ≠ g):=Am6_ (by rw [hg];exact Nat.ne_of_gt (blk_lt (x.k h.out)))
theorem gw_ {v w W:World} {g':Nat} (hg:g'=W.heap.size) (h:Aside0 (Below v.heap.size v w)) [x:Ex_ w W]:Aside0 (v.heap.size ≤ g'):=Am6_ (by rw [hg];exact below_size (x.e h.out))
theorem bb_ {w W W':World} {g:Nat} {o:Obj} (h:Aside0 (w.heap[g]?=some o)) (hb:Below W.heap.size W W') [x:Ex_ w W]:Aside0 (W'.heap[g]?=some o):=Am6_ (blk_below (x.k h.out) hb)
theorem bs_ {v w W W':World} (h:Aside0 (Below v.heap.size v w)) (hb:Below W.heap.size W W') [x:Ex_ w W]:Aside0 (Below v.heap.size v W'):=Am6_ (below_step (x.e h.out) hb)
theorem xe_ {v w W:World} (h:Aside0 (Below v.heap.size v w)) [x:Ex_ w W]:Below v.heap.size v W:=x.e h.out
end Y6
open Y6

namespace Y6
abbrev Sa_ := @List.setIfInBounds_toArray
abbrev Sb_ := @List.set_cons_zero
abbrev Sc_ := @List.set_cons_succ
theorem q_ {w W : World} {g : Nat} {t : TypeId} {cs : Array Value} (h : Aside0 (w.heap[g]? = some (.cells cs t (0, 0)))) (i : Nat) {v : Option Value} (e : cs[i]? = v) [x : Ex_ w W] : W.cell? ⟨g, i, none⟩ = v := (blk_cell (x.k h.out) i).trans e
end Y6
open Y6
/-! ### spec_l1In: function 47 -/
def spec_l1In.f (a0:Int) (a1:Int) (a2:Int):Option (Bool):=if a0 ≥ a1 then (some (decide (a0 ≤ a2))) else (some false)
set_option maxHeartbeats 8000000 in
set_option maxRecDepth 100000 in
theorem spec_l1In.calls (a0:Int) (a1:Int) (a2:Int) (r:Bool) (w:World) (h:spec_l1In.f a0 a1 a2=some r) :
  Calls Tryz.prog 47 #[.int .i64 a0,.int .i64 a1,.int .i64 a2] w fun e w' => e=.returned (.bool r)∧Drawn0 w w':=by
 have H:(if a0 ≥ a1 then (some (decide (a0 ≤ a2))) else (some false))=some r:=h;clear h
 by_cases c4:a0 ≥ a1
 ·rw [if_pos c4] at H
  have c4b0:decide (a1 ≤ a0)=true:=decide_eq_true c4;clear c4;obtain rfl:=Option.some.inj H
  go_enter Tryz.func47,Tryz.ntmps47
  go_wp2
  go_ret
  exact ⟨by first|rfl|(simp;done)|(simp [*];done),by repeat (first|exact Drawn0.refl _|apply Drawn0.step)⟩
 ·rw [if_neg c4] at H
  have c4b0:decide (a1 ≤ a0)=false:=decide_eq_false c4;clear c4;obtain rfl:=Option.some.inj H
  go_enter Tryz.func47,Tryz.ntmps47
  go_wp2
  go_ret
  exact ⟨by first|rfl|(simp;done)|(simp [*];done),by repeat (first|exact Drawn0.refl _|apply Drawn0.step)⟩

/-! ### spec_IsValidKey: function 48 -/
def spec_IsValidKey.f (a0:Int):Option (Bool):=(spec_l1In.f a0 1 2147483646).bind fun t225 => (some t225)
set_option maxHeartbeats 8000000 in
set_option maxRecDepth 100000 in
theorem spec_IsValidKey.calls (a0:Int) (r:Bool) (w:World) (h:spec_IsValidKey.f a0=some r) :
  Calls Tryz.prog 48 #[.int .i64 a0] w fun e w' => e=.returned (.bool r)∧Drawn0 w w':=by
 have H:((spec_l1In.f a0 1 2147483646).bind fun t225 => (some t225))=some r:=h;clear h;replace H:=Option.bind_eq_some_iff.mp H;obtain ⟨t225,A20,H⟩:=H
 try dsimp only at H
 have A2:=Am6_ A20;clear A20;obtain rfl:=Option.some.inj H
 go_enter Tryz.func48,Tryz.ntmps48
 go_wp2_with (first|((with_reducible refine gate_callee (f:=47) rfl ?_);refine goesL_ (some 4) rfl rfl Tryz.func47 (by kernel_rfl) rfl #[.int .i64 a0,.int .i64 1,.int .i64 2147483646] rfl (by (try simp only [List.map_toArray,List.map_cons,List.map_nil]);first|done|rfl|(simp only [List.length_drop,List.length_take];rfl)) ?_;(with_reducible refine (spec_l1In.calls a0 1 2147483646 t225 _ A2.out).mono ?_);rintro e w' ⟨rfl,⟨nd,rfl⟩⟩;refine ⟨_,rfl,?_⟩))
 go_ret
 exact ⟨by first|rfl|(simp;done)|(simp [*];done),by repeat (first|exact Drawn0.refl _|apply Drawn0.step)⟩

/-! ### spec_PublicKey: function 39 -/
def spec_PublicKey.f (a0:Int):Option (Int):=(spec_IsValidKey.f a0).bind fun t226 => (if t226=true then (some (Int.tmod (wrap64 (a0 * 48271)) 2147483647)) else (some 0))
set_option maxHeartbeats 8000000 in
set_option maxRecDepth 100000 in
theorem spec_PublicKey.calls (a0:Int) (r:Int) (w:World) (h:spec_PublicKey.f a0=some r) :
  Calls Tryz.prog 39 #[.int .i64 a0] w fun e w' => e=.returned (.int .i64 r)∧Drawn0 w w':=by
 have H:=h;unfold spec_PublicKey.f at H;clear h;replace H:=Option.bind_eq_some_iff.mp H;obtain ⟨t226,A20,H⟩:=H
 try dsimp only at H
 have A2:=Am6_ A20;clear A20
 by_cases c3:t226=true
 ·subst c3
  rw [if_pos rfl] at H
  obtain rfl:=Option.some.inj H
  go_enter Tryz.func39,Tryz.ntmps39
  go_wp2_with (first|((with_reducible refine gate_callee (f:=48) rfl ?_);refine goesL_ (some 4) rfl rfl Tryz.func48 (by kernel_rfl) rfl #[.int .i64 a0] rfl (by (try simp only [List.map_toArray,List.map_cons,List.map_nil]);first|done|rfl|(simp only [List.length_drop,List.length_take];rfl)) ?_;(with_reducible refine (spec_IsValidKey.calls a0 true _ A2.out).mono ?_);rintro e w' ⟨rfl,⟨nd,rfl⟩⟩;refine ⟨_,rfl,?_⟩))
  go_ret
  exact ⟨by first|rfl|(simp;done)|(simp [*];done),by repeat (first|exact Drawn0.refl _|apply Drawn0.step)⟩
 ·replace c3:=Bool.eq_false_iff.mpr c3;subst c3
  rw [if_neg (show ¬ (false=true) by decide)] at H
  obtain rfl:=Option.some.inj H
  go_enter Tryz.func39,Tryz.ntmps39
  go_wp2_with (first|((with_reducible refine gate_callee (f:=48) rfl ?_);refine goesL_ (some 4) rfl rfl Tryz.func48 (by kernel_rfl) rfl #[.int .i64 a0] rfl (by (try simp only [List.map_toArray,List.map_cons,List.map_nil]);first|done|rfl|(simp only [List.length_drop,List.length_take];rfl)) ?_;(with_reducible refine (spec_IsValidKey.calls a0 false _ A2.out).mono ?_);rintro e w' ⟨rfl,⟨nd,rfl⟩⟩;refine ⟨_,rfl,?_⟩))
  go_ret
  exact ⟨by first|rfl|(simp;done)|(simp [*];done),by repeat (first|exact Drawn0.refl _|apply Drawn0.step)⟩

/-! ### spec_Max: function 82 -/
def spec_Max.f (a0:Int) (a1:Int):Option (Int):=if a1 > a0 then (some a1) else (some a0)
set_option maxHeartbeats 8000000 in
set_option maxRecDepth 100000 in
theorem spec_Max.calls (a0:Int) (a1:Int) (r:Int) (w:World) (h:spec_Max.f a0 a1=some r) :
  Calls Tryz.prog 82 #[.int .i64 a0,.int .i64 a1] w fun e w' => e=.returned (.int .i64 r)∧Drawn0 w w':=by
 have H:(if a1 > a0 then (some a1) else (some a0))=some r:=h;clear h
 by_cases c3:a1 > a0
 ·rw [if_pos c3] at H
  have c3b0:decide (a0 < a1)=true:=decide_eq_true c3;clear c3;obtain rfl:=Option.some.inj H
  go_enter Tryz.func82,Tryz.ntmps82
  go_wp2
  go_ret
  exact ⟨by first|rfl|(simp;done)|(simp [*];done),by repeat (first|exact Drawn0.refl _|apply Drawn0.step)⟩
 ·rw [if_neg c3] at H
  have c3b0:decide (a0 < a1)=false:=decide_eq_false c3;clear c3;obtain rfl:=Option.some.inj H
  go_enter Tryz.func82,Tryz.ntmps82
  go_wp2
  go_ret
  exact ⟨by first|rfl|(simp;done)|(simp [*];done),by repeat (first|exact Drawn0.refl _|apply Drawn0.step)⟩

/-! ### spec_Mod: function 119 -/
def spec_Mod.f (a0:Int) (a1:Int):Option (Int):=(spec_l1In.f a1 1 1000000000000).bind fun t227 => (if t227=true then (if a1=0 then (none) else (some (Int.tmod (wrap64 ((Int.tmod a0 a1) + a1)) a1))) else (some 0))
set_option maxHeartbeats 8000000 in
set_option maxRecDepth 100000 in
theorem spec_Mod.calls (a0:Int) (a1:Int) (r:Int) (w:World) (h:spec_Mod.f a0 a1=some r) :
  Calls Tryz.prog 119 #[.int .i64 a0,.int .i64 a1] w fun e w' => e=.returned (.int .i64 r)∧Drawn0 w w':=by
 have H:=h;unfold spec_Mod.f at H;clear h;replace H:=Option.bind_eq_some_iff.mp H;obtain ⟨t227,A30,H⟩:=H
 try dsimp only at H
 have A3:=Am6_ A30;clear A30
 by_cases c4:t227=true
 ·subst c4
  rw [if_pos rfl] at H
  by_cases c5:a1=0
  ·rw [if_pos c5] at H
   exact absurd H (by simp)
  ·rw [if_neg c5] at H
   have c5b0:(a1 == 0)=false:=beq_eq_false_iff_ne.mpr c5;have c5b1:(a1 != 0)=true:=bne_iff_ne.mpr c5;obtain rfl:=Option.some.inj H
   go_enter Tryz.func119,Tryz.ntmps119
   go_wp2_with (first|((with_reducible refine gate_callee (f:=47) rfl ?_);refine goesL_ (some 6) rfl rfl Tryz.func47 (by kernel_rfl) rfl #[.int .i64 a1,.int .i64 1,.int .i64 1000000000000] rfl (by (try simp only [List.map_toArray,List.map_cons,List.map_nil]);first|done|rfl|(simp only [List.length_drop,List.length_take];rfl)) ?_;(with_reducible refine (spec_l1In.calls a1 1 1000000000000 true _ A3.out).mono ?_);rintro e w' ⟨rfl,⟨nd,rfl⟩⟩;refine ⟨_,rfl,?_⟩))
   go_ret
   exact ⟨by first|rfl|(simp;done)|(simp [*];done),by repeat (first|exact Drawn0.refl _|apply Drawn0.step)⟩
 ·replace c4:=Bool.eq_false_iff.mpr c4;subst c4
  rw [if_neg (show ¬ (false=true) by decide)] at H
  obtain rfl:=Option.some.inj H
  go_enter Tryz.func119,Tryz.ntmps119
  go_wp2_with (first|((with_reducible refine gate_callee (f:=47) rfl ?_);refine goesL_ (some 6) rfl rfl Tryz.func47 (by kernel_rfl) rfl #[.int .i64 a1,.int .i64 1,.int .i64 1000000000000] rfl (by (try simp only [List.map_toArray,List.map_cons,List.map_nil]);first|done|rfl|(simp only [List.length_drop,List.length_take];rfl)) ?_;(with_reducible refine (spec_l1In.calls a1 1 1000000000000 false _ A3.out).mono ?_);rintro e w' ⟨rfl,⟨nd,rfl⟩⟩;refine ⟨_,rfl,?_⟩))
  go_ret
  exact ⟨by first|rfl|(simp;done)|(simp [*];done),by repeat (first|exact Drawn0.refl _|apply Drawn0.step)⟩

/-! ### spec_Hash: function 108 -/
def spec_Hash.l0:Nat → List Int → Int → Int → Option (Int)
|0,_,_,_ => none
|k + 1,x0,x3,x4 => if x4 < (x0.length:Int) then (if 0 ≤ x4 then ((spec_Mod.f (rd x0 x4) 2147483647).bind fun t229 => (spec_Hash.l0 k x0 (Int.tmod (wrap64 ((wrap64 ((wrap64 (x3 * 1000003)) + t229)) + 13)) 2147483647) (wrap64 (x4 + 1)))) else (none)) else (some x3)
def spec_Hash.f (k:Nat) (l0:List Int):Option (Int):=spec_Hash.l0 k l0 11 0
theorem spec_Hash.mono_l:∀ k,(∀ y0 y1 y2,LeO (spec_Hash.l0 k y0 y1 y2) (spec_Hash.l0 (k + 1) y0 y1 y2))
|0 => fun _ _ _ r h => by simp [spec_Hash.l0] at h
|k + 1 => by
  have ih0:=spec_Hash.mono_l k
  ·intro y0 y1 y2
   unfold spec_Hash.l0
   repeat' first
  |(with_reducible exact ih0 _ _ _)
  |(with_reducible exact LeO.refl _)
  |(with_reducible exact LeO.none _)
  |(with_reducible refine LeO.ite ?_ ?_)
  |(with_reducible refine LeO.bind ?_ (fun _ => ?_))
  |exact ih0 _ _ _
  |exact LeO.none _
  |refine LeO.ite ?_ ?_
  |refine LeO.bind ?_ (fun _ => ?_)
theorem spec_Hash.mono:∀ a0 k,LeO (spec_Hash.f k a0) (spec_Hash.f (k + 1) a0):=by
 intro a0 k;have ih0:=spec_Hash.mono_l k
 unfold spec_Hash.f
 repeat' first
  |(with_reducible exact ih0 _ _ _)
  |(with_reducible exact LeO.refl _)
  |(with_reducible exact LeO.none _)
  |(with_reducible refine LeO.ite ?_ ?_)
  |(with_reducible refine LeO.bind ?_ (fun _ => ?_))
  |exact ih0 _ _ _
  |exact LeO.none _
  |refine LeO.ite ?_ ?_
  |refine LeO.bind ?_ (fun _ => ?_)
set_option maxHeartbeats 8000000 in
set_option maxRecDepth 100000 in
theorem spec_Hash.calls (k:Nat) (A0:Option Addr) (c0:Nat) (l0:List Int) (r:Int) (w:World) (hr0:Kd.C (Kd.int .i64) w A0 l0.length l0) (hc0:l0.length ≤ c0) (h:spec_Hash.f k l0=some r) :
  Calls Tryz.prog 108 #[.slice A0 l0.length c0] w fun e w' => e=.returned (.int .i64 r)∧Drawn0 w w':=by
 have HR0:=Am6_ hr0;have HC0:=Am6_ hc0;clear hr0 hc0;have H:(spec_Hash.l0 k l0 11 0)=some r:=h;clear h;have H':=Am6_ H;clear H
 go_enter Tryz.func108,Tryz.ntmps108
 go_wp2
 go_loopg [3,4] k (fun kq v3 v4 w' => ∃ (x3_1:Int) (x4_1:Int),v3=.int .i64 x3_1∧v4=.int .i64 x4_1∧Aside0 (spec_Hash.l0 kq l0 x3_1 x4_1=some r)∧Aside0 (kq ≤ k)∧Drawn0 w w')
 case atStart => exact ⟨(11),(0),(by first|rfl|(simp;done)|(simp [*];done)),(by first|rfl|(simp;done)|(simp [*];done)),H',⟨Nat.le_refl _⟩,by repeat (first|exact Drawn0.refl _|apply Drawn0.step)⟩
 case round =>
  clear H'
  try clear c1
  obtain ⟨x3_1,x4_1,rfl,rfl,HA,HK1,⟨m1,rfl⟩⟩:=hrel
  cases gk with
 |zero => exact absurd HA.out (by simp [spec_Hash.l0])
 |succ k1 =>
   have H:=HA.out;clear HA;simp only [spec_Hash.l0] at H
   by_cases c2:x4_1 < (l0.length:Int)
   ·rw [if_pos c2] at H
    have c2b0:decide (x4_1 < (l0.length:Int))=true:=decide_eq_true c2;clear c2
    by_cases c3:0 ≤ x4_1
    ·rw [if_pos c3] at H
     have c3b0:decide (0 ≤ x4_1)=true:=decide_eq_true c3;clear c3;replace H:=Option.bind_eq_some_iff.mp H;obtain ⟨t229,A40,H⟩:=H
     try dsimp only at H
     have A4:=Am6_ A40;clear A40;have H':=Am6_ H;clear H;have p228:0 ≤ (x4_1:Int):=of_decide_eq_true (by first|(with_reducible assumption)|assumption);have q228:x4_1 < (l0.length:Int):=of_decide_eq_true (by first|(with_reducible assumption)|assumption);obtain ⟨ad228,e228,hx228_0⟩:=Kd.at_int HR0.out x4_1 p228 q228
     cases e228
     replace p228:=eq_true p228;replace q228:=eq_true q228
     go_wp2_with (first|((with_reducible refine gate_callee (f:=119) rfl ?_);refine goesL_ (some 17) rfl rfl Tryz.func119 (by kernel_rfl) rfl #[.int .i64 (rd l0 x4_1),.int .i64 2147483647] rfl (by (try simp only [List.map_toArray,List.map_cons,List.map_nil]);first|done|rfl|(simp only [List.length_drop,List.length_take];rfl)) ?_;(with_reducible refine (spec_Mod.calls (rd l0 x4_1) 2147483647 t229 _ A4.out).mono ?_);rintro e w' ⟨rfl,⟨nd,rfl⟩⟩;refine ⟨_,rfl,?_⟩))
     go_roundg k1
     case measure => have:=HK1.out;omega
     case rel => exact ⟨(Int.tmod (wrap64 ((wrap64 ((wrap64 (x3_1 * 1000003)) + t229)) + 13)) 2147483647),(wrap64 (x4_1 + 1)),(by first|rfl|(simp;done)|(simp [*];done)),(by first|rfl|(simp;done)|(simp [*];done)),H',⟨by have:=HK1.out;omega⟩,by repeat (first|exact Drawn0.refl _|apply Drawn0.step)⟩
    ·rw [if_neg c3] at H
     exact absurd H (by simp)
   ·rw [if_neg c2] at H
    have c2b0:decide (x4_1 < (l0.length:Int))=false:=decide_eq_false c2;clear c2;obtain rfl:=Option.some.inj H
    go_wp2
    go_ret
    exact ⟨by first|rfl|(simp;done)|(simp [*];done),by repeat (first|exact Drawn0.refl _|apply Drawn0.step)⟩

/-! ### spec_KeyedHash: function 83 -/
def spec_KeyedHash.f (k:Nat) (a0:Int) (l1:List Int):Option (Int):=(some (([a0]:List Int):List Int)).bind fun y230 => (if y230.length + l1.length < 17592186044416 then ((some (y230 ++ l1:List Int)).bind fun y233 => (if y233.length < 17592186044416 then ((spec_Hash.f k (y233 ++ [a0])).bind fun t239 => (some t239)) else (none))) else (none))
theorem spec_KeyedHash.mono:∀ a0 a1 k,LeO (spec_KeyedHash.f k a0 a1) (spec_KeyedHash.f (k + 1) a0 a1):=by
 intro a0 a1 k
 unfold spec_KeyedHash.f
 repeat' first
  |(with_reducible exact spec_Hash.mono _ _)
  |(with_reducible exact LeO.refl _)
  |(with_reducible exact LeO.none _)
  |(with_reducible refine LeO.ite ?_ ?_)
  |(with_reducible refine LeO.bind ?_ (fun _ => ?_))
  |exact spec_Hash.mono _ _
  |exact LeO.none _
  |refine LeO.ite ?_ ?_
  |refine LeO.bind ?_ (fun _ => ?_)
set_option maxHeartbeats 8000000 in
set_option maxRecDepth 100000 in
theorem spec_KeyedHash.calls (k:Nat) (a0:Int) (A1:Option Addr) (c1:Nat) (l1:List Int) (r:Int) (w:World) (hr1:Kd.C (Kd.int .i64) w A1 l1.length l1) (hc1:l1.length ≤ c1) (h:spec_KeyedHash.f k a0 l1=some r) :
  Calls Tryz.prog 83 #[.int .i64 a0,.slice A1 l1.length c1] w fun e w' => e=.returned (.int .i64 r)∧Below w.heap.size w w':=by
 have HR1:=Am6_ hr1;have HC1:=Am6_ hc1;clear hr1 hc1;have HB:=Am6_ (Below.refl w.heap.size w);have H:=h;unfold spec_KeyedHash.f at H;clear h;obtain ⟨y230,hy230⟩:∃ y_:List Int,y_=(([a0]:List Int)):=⟨_,rfl⟩;replace H:(if y230.length + l1.length < 17592186044416 then ((some (y230 ++ l1:List Int)).bind fun y233 => (if y233.length < 17592186044416 then ((spec_Hash.f k (y233 ++ [a0])).bind fun t239 => (some t239)) else (none))) else (none))=some r:=by first|(rw [hy230];with_reducible exact H)|(have H2_:=(Option.bind_some _ _).symm.trans H;rw [hy230];with_reducible exact H2_)|(have H2_:=(Option.bind_some _ _).symm.trans H;with_reducible exact H2_)|with_reducible exact H|(rw [hy230];exact H)|exact H
 have Ny230:=Am6_ hy230;clear hy230
 by_cases c3:y230.length + l1.length < 17592186044416
 ·rw [if_pos c3] at H
  have LMc3:=Am6_ c3;clear c3;obtain ⟨y233,hy233⟩:∃ y_:List Int,y_=(y230 ++ l1):=⟨_,rfl⟩;replace H:(if y233.length < 17592186044416 then ((spec_Hash.f k (y233 ++ [a0])).bind fun t239 => (some t239)) else (none))=some r:=by first|(rw [hy233];with_reducible exact H)|(have H2_:=(Option.bind_some _ _).symm.trans H;rw [hy233];with_reducible exact H2_)|(have H2_:=(Option.bind_some _ _).symm.trans H;with_reducible exact H2_)|with_reducible exact H|(rw [hy233];exact H)|exact H
  have Ny233:=Am6_ hy233;clear hy233
  by_cases c4:y233.length < 17592186044416
  ·rw [if_pos c4] at H
   have LMc4:=Am6_ c4;clear c4;obtain ⟨y236,hy236⟩:∃ y_:List Int,y_=(y233 ++ [a0]):=⟨_,rfl⟩;replace H:((spec_Hash.f k y236).bind fun t239 => (some t239))=some r:=by first|(rw [hy236];with_reducible exact H)|(have H2_:=(Option.bind_some _ _).symm.trans H;rw [hy236];with_reducible exact H2_)|(have H2_:=(Option.bind_some _ _).symm.trans H;with_reducible exact H2_)|with_reducible exact H|(rw [hy236];exact H)|exact H
   have Ny236:=Am6_ hy236;clear hy236;replace H:=Option.bind_eq_some_iff.mp H;obtain ⟨t239,A50,H⟩:=H
   try dsimp only at H
   have A5:=Am6_ A50;clear A50;obtain rfl:=Option.some.inj H
   go_enter Tryz.func83,Tryz.ntmps83
   go_wp2_with (first|((with_reducible refine gate_dst (N:=6) rfl ?_);refine Kd.R_lit (Kd.int .i64) _ 3 ?hg (N:=6) ?hd (xs:=([a0]:List Int)) (inner:=[.int .i64 a0]) (ok:=fun _ => True) (okp:=fun _ => True) ?hr ?hp (fun _ hk => hk) trivial (Below.refl _ _) (Nat.le_refl _) (by simp) ?_;(case hd => rfl);(case hg => rfl);(case hr => first|(go_simp;done)|(go_simp;rfl));(case hp => exact (Reps.one (show Kd.M (Kd.int .i64) _ _ _ a0 [.int .i64 a0] from rfl) (Reps.none _ _)));intro v231 w6 ho7 hb hg_ hnew_;clear hg_ hnew_;(first|rw [← Ny230.out] at ho7|(simp only [Int.reduceToNat] at ho7;rw [← Ny230.out] at ho7));have n0_:=Am6_ (Kd.R_lower ho7 (below_size (xe_ HB)));have n1_:=bs_ HB hb;clear HB;have HO232:=n0_;have HB:=n1_;clear n0_ n1_;clear hb ho7)|((with_reducible refine gate_builtin (b:=.append) (xs:=#[.tmp 6,.tmp 7]) rfl ?_);at_builtin;refine Kd.R_append_rows (Kd.int .i64) (w0:=w) w.heap.size rfl (.tmp 6) (.tmp 7) 47 3 (.int .i64 0) 8 rfl Tryz.underlying47 info3 rfl (by decide) (by omega) v231 y230 l1 _ _ _ (fun _ => True) (fun _ => False) rfl rfl ?aO ?aR (fun _ _ h => h) (fun _ h => h.elim) ?aF ?aB ?aS ?aL ?_;(case aR => repeat (first|exact (Kd.C_below HR1.out HB.out)|(with_reducible refine Kd.C_alloc ?_ _)|(with_reducible refine Kd.C_drewN ?_ _)|(with_reducible refine Kd.C_drew ?_)));(case aB => exact (xe_ HB));(case aF => exact (fun _ _ => trivial));(case aO => exact (by (with_reducible repeat (first|apply Kd.R_alloc|apply Kd.R_drewN|apply Kd.R_drew));exact HO232.out));(case aS => exact (below_size (xe_ HB)));(case aL => have:=LMc3.out;omega);intro v234 w8 ho hb hg hat;rw [← Ny233.out] at ho;have n0_:=Am6_ (hb);have n1_:=Am6_ (ho);clear HB;clear HO232;have HB:=n0_;have HO235:=n1_;clear n0_ n1_;clear ho hb hg hat)|((with_reducible refine gate_builtin (b:=.append) (xs:=#[.tmp 8,.tmp 10]) rfl ?_);at_builtin;refine Kd.R_append (Kd.int .i64) (w0:=w) w.heap.size rfl (.tmp 8) (.tmp 10) 47 3 (.int .i64 0) 8 rfl Tryz.underlying47 info3 rfl (by decide) (by omega) v234 y233 a0 [.int .i64 a0] (fun _ => True) (fun _ => False) rfl rfl ?aP (fun _ hk => hk.elim) ?aF ?aO ?aB ?aS ?aL ?_;(case aP => exact rfl);(case aB => exact (xe_ HB));(case aF => exact (fun _ _ => trivial));(case aO => exact (by (with_reducible repeat (first|apply Kd.R_alloc|apply Kd.R_drewN|apply Kd.R_drew));exact HO235.out));(case aS => exact (below_size (xe_ HB)));(case aL => have:=LMc4.out;omega);intro v237 w9 ho hb hg hat;rw [← Ny236.out] at ho;have n0_:=Am6_ (hb);have n1_:=Am6_ (ho);clear HB;clear HO235;have HB:=n0_;have HO238:=n1_;clear n0_ n1_;clear ho hb hg hat;obtain ⟨Ao10,co10,eo10⟩:=Kd.R_slice HO238.out;subst eo10)|((with_reducible refine gate_callee (f:=108) rfl ?_);refine goesL_ (some 12) rfl rfl Tryz.func108 (by kernel_rfl) rfl #[.slice Ao10 y236.length co10] rfl (by (try simp only [List.map_toArray,List.map_cons,List.map_nil]);first|done|rfl|(simp only [List.length_drop,List.length_take];rfl)) ?_;(with_reducible refine (spec_Hash.calls k _ _ y236 t239 _ ?side1 ?side2 A5.out).mono ?_);(case side1 => repeat (first|exact (Kd.R_reads' HO238.out).2.2|(with_reducible refine Kd.C_alloc ?_ _)|(with_reducible refine Kd.C_drewN ?_ _)|(with_reducible refine Kd.C_drew ?_)));(case side2 => exact (Kd.R_reads' HO238.out).2.1);rintro e w' ⟨rfl,⟨nd,rfl⟩⟩;refine ⟨_,rfl,?_⟩))
   go_ret
   exact ⟨by first|rfl|(simp [errW_none,errW_some] <;> rfl)|(simp [*,errW_none,errW_some] <;> rfl),by repeat (first|(with_reducible first|exact HB.out|apply below_alloc|apply pw_below_drewN|apply below_drew1)|exact HB.out)⟩
  ·rw [if_neg c4] at H
   exact absurd H (by simp)
 ·rw [if_neg c3] at H
  exact absurd H (by simp)

/-! ### spec_BytesToInts: function 84 -/
def spec_BytesToInts.l0:Nat → List Int → List Int → Int → Option (List Int)
|0,_,_,_ => none
|k + 1,x0,x3,x4 => if x4 < (x0.length:Int) then (if 0 ≤ x4 then (if x3.length < 17592186044416 then (spec_BytesToInts.l0 k x0 (x3 ++ [wrap64 (rd x0 x4)]) (wrap64 (x4 + 1))) else (none)) else (none)) else (some x3)
def spec_BytesToInts.f (k:Nat) (l0:List Int):Option (List Int):=spec_BytesToInts.l0 k l0 (([(l0.length:Int)]:List Int)) 0
theorem spec_BytesToInts.mono_l:∀ k,(∀ y0 y1 y2,LeO (spec_BytesToInts.l0 k y0 y1 y2) (spec_BytesToInts.l0 (k + 1) y0 y1 y2))
|0 => fun _ _ _ r h => by simp [spec_BytesToInts.l0] at h
|k + 1 => by
  have ih0:=spec_BytesToInts.mono_l k
  ·intro y0 y1 y2
   unfold spec_BytesToInts.l0
   repeat' first
  |(with_reducible exact ih0 _ _ _)
  |(with_reducible exact LeO.refl _)
  |(with_reducible exact LeO.none _)
  |(with_reducible refine LeO.ite ?_ ?_)
  |(with_reducible refine LeO.bind ?_ (fun _ => ?_))
  |exact ih0 _ _ _
  |exact LeO.none _
  |refine LeO.ite ?_ ?_
  |refine LeO.bind ?_ (fun _ => ?_)
theorem spec_BytesToInts.mono:∀ a0 k,LeO (spec_BytesToInts.f k a0) (spec_BytesToInts.f (k + 1) a0):=by
 intro a0 k;have ih0:=spec_BytesToInts.mono_l k
 unfold spec_BytesToInts.f
 repeat' first
  |(with_reducible exact ih0 _ _ _)
  |(with_reducible exact LeO.refl _)
  |(with_reducible exact LeO.none _)
  |(with_reducible refine LeO.ite ?_ ?_)
  |(with_reducible refine LeO.bind ?_ (fun _ => ?_))
  |exact ih0 _ _ _
  |exact LeO.none _
  |refine LeO.ite ?_ ?_
  |refine LeO.bind ?_ (fun _ => ?_)
set_option maxHeartbeats 8000000 in
set_option maxRecDepth 100000 in
theorem spec_BytesToInts.calls (k:Nat) (A0:Option Addr) (c0:Nat) (l0:List Int) (r:List Int) (w:World) (hr0:Kd.C (Kd.int .u8) w A0 l0.length l0) (hc0:l0.length ≤ c0) (h:spec_BytesToInts.f k l0=some r) :
  Calls Tryz.prog 84 #[.slice A0 l0.length c0] w fun e w' => ∃ v0_:Value,e=.returned (v0_)∧Kd.R (Kd.int .i64) 3 w' w.heap.size (fun _ => True) v0_ r∧Below w.heap.size w w':=by
 have HR0:=Am6_ hr0;have HC0:=Am6_ hc0;clear hr0 hc0;have HB:=Am6_ (Below.refl w.heap.size w);have H:(spec_BytesToInts.l0 k l0 (([(l0.length:Int)]:List Int)) 0)=some r:=h;clear h;obtain ⟨y240,hy240⟩:∃ y_:List Int,y_=(([(l0.length:Int)]:List Int)):=⟨_,rfl⟩;replace H:(spec_BytesToInts.l0 k l0 y240 0)=some r:=by first|(rw [hy240];with_reducible exact H)|(have H2_:=(Option.bind_some _ _).symm.trans H;rw [hy240];with_reducible exact H2_)|(have H2_:=(Option.bind_some _ _).symm.trans H;with_reducible exact H2_)|with_reducible exact H|(rw [hy240];exact H)|exact H
 have Ny240:=Am6_ hy240;clear hy240;have H':=Am6_ H;clear H
 go_enter Tryz.func84,Tryz.ntmps84
 go_wp2_with (first|((with_reducible refine gate_dst (N:=7) rfl ?_);refine Kd.R_lit (Kd.int .i64) _ 3 ?hg (N:=7) ?hd (xs:=([(l0.length:Int)]:List Int)) (inner:=[.int .i64 (l0.length:Int)]) (ok:=fun _ => True) (okp:=fun _ => True) ?hr ?hp (fun _ hk => hk) trivial (Below.refl _ _) (Nat.le_refl _) (by simp) ?_;(case hd => rfl);(case hg => rfl);(case hr => first|(go_simp;done)|(go_simp;rfl));(case hp => exact (Reps.one (show Kd.M (Kd.int .i64) _ _ _ (l0.length:Int) [.int .i64 (l0.length:Int)] from rfl) (Reps.none _ _)));intro v241 w2 ho3 hb hg_ hnew_;clear hg_ hnew_;(first|rw [← Ny240.out] at ho3|(simp only [Int.reduceToNat] at ho3;rw [← Ny240.out] at ho3));have n0_:=Am6_ (Kd.R_lower ho3 (below_size (xe_ HB)));have n1_:=bs_ HB hb;clear HB;have HO242:=n0_;have HB:=n1_;clear n0_ n1_;clear hb ho3))
 go_loopg [3,4] k (fun kq v3 v4 w' => ∃ (x3_1:List Int) (x4_1:Int),v4=.int .i64 x4_1∧Aside0 (spec_BytesToInts.l0 kq l0 x3_1 x4_1=some r)∧Aside0 (kq ≤ k)∧Aside0 (Kd.R (Kd.int .i64) 3 w' w.heap.size (fun _ => True) v3 x3_1)∧Aside0 (Below w.heap.size w w'))
 case atStart => exact ⟨(y240),(0),(by first|rfl|(simp;done)|(simp [*];done)),H',⟨Nat.le_refl _⟩,⟨by (with_reducible repeat (first|apply Kd.R_alloc|apply Kd.R_drewN|apply Kd.R_drew));exact HO242.out⟩,⟨by repeat (first|(with_reducible first|exact HB.out|apply below_alloc|apply pw_below_drewN|apply below_drew1)|exact HB.out)⟩⟩
 case round =>
  clear H'
  try clear p2
  obtain ⟨x3_1,x4_1,rfl,HA,HK1,HO_3,HB⟩:=hrel
  cases gk with
 |zero => exact absurd HA.out (by simp [spec_BytesToInts.l0])
 |succ k1 =>
   have H:=HA.out;clear HA;simp only [spec_BytesToInts.l0] at H
   by_cases c4:x4_1 < (l0.length:Int)
   ·rw [if_pos c4] at H
    have c4b0:decide (x4_1 < (l0.length:Int))=true:=decide_eq_true c4;clear c4
    by_cases c5:0 ≤ x4_1
    ·rw [if_pos c5] at H
     have c5b0:decide (0 ≤ x4_1)=true:=decide_eq_true c5;clear c5
     by_cases c6:x3_1.length < 17592186044416
     ·rw [if_pos c6] at H
      have LMc6:=Am6_ c6;clear c6;obtain ⟨y244,hy244⟩:∃ y_:List Int,y_=(x3_1 ++ [wrap64 (rd l0 x4_1)]):=⟨_,rfl⟩;replace H:(spec_BytesToInts.l0 k1 l0 y244 (wrap64 (x4_1 + 1)))=some r:=by first|(rw [hy244];with_reducible exact H)|(have H2_:=(Option.bind_some _ _).symm.trans H;rw [hy244];with_reducible exact H2_)|(have H2_:=(Option.bind_some _ _).symm.trans H;with_reducible exact H2_)|with_reducible exact H|(rw [hy244];exact H)|exact H
      have Ny244:=Am6_ hy244;clear hy244;have H':=Am6_ H;clear H;have p243:0 ≤ (x4_1:Int):=of_decide_eq_true (by first|(with_reducible assumption)|assumption);have q243:x4_1 < (l0.length:Int):=of_decide_eq_true (by first|(with_reducible assumption)|assumption);obtain ⟨ad243,e243,hx243_0⟩:=Kd.at_int HR0.out x4_1 p243 q243
      cases e243
      replace hx243_0:=(HB.out.cell (World.block_lt_of_cell? w _ hx243_0)).trans hx243_0;replace p243:=eq_true p243;replace q243:=eq_true q243
      go_wp2_with (first|((with_reducible refine gate_builtin (b:=.append) (xs:=#[.tmp 14,.tmp 20]) rfl ?_);at_builtin;refine Kd.R_append (Kd.int .i64) (w0:=w) w.heap.size rfl (.tmp 14) (.tmp 20) 47 3 (.int .i64 0) 8 rfl Tryz.underlying47 info3 rfl (by decide) (by omega) u3 x3_1 (wrap64 (rd l0 x4_1)) [.int .i64 (wrap64 (rd l0 x4_1))] (fun _ => True) (fun _ => False) rfl rfl ?aP (fun _ hk => hk.elim) ?aF ?aO ?aB ?aS ?aL ?_;(case aP => exact rfl);(case aB => exact (xe_ HB));(case aF => exact (fun _ _ => trivial));(case aO => exact (by (with_reducible repeat (first|apply Kd.R_alloc|apply Kd.R_drewN|apply Kd.R_drew));exact HO_3.out));(case aS => exact (below_size (xe_ HB)));(case aL => have:=LMc6.out;omega);intro v245 w7 ho hb hg hat;rw [← Ny244.out] at ho;have n0_:=Am6_ (hb);have n1_:=Am6_ (ho);clear HB;clear HO_3;have HB:=n0_;have HO246:=n1_;clear n0_ n1_;clear ho hb hg hat))
      go_roundg k1
      case measure => have:=HK1.out;omega
      case rel => exact ⟨(y244),(wrap64 (x4_1 + 1)),(by first|rfl|(simp;done)|(simp [*];done)),H',⟨by have:=HK1.out;omega⟩,⟨by (with_reducible repeat (first|apply Kd.R_alloc|apply Kd.R_drewN|apply Kd.R_drew));exact HO246.out⟩,⟨by repeat (first|(with_reducible first|exact HB.out|apply below_alloc|apply pw_below_drewN|apply below_drew1)|exact HB.out)⟩⟩
     ·rw [if_neg c6] at H
      exact absurd H (by simp)
    ·rw [if_neg c5] at H
     exact absurd H (by simp)
   ·rw [if_neg c4] at H
    have c4b0:decide (x4_1 < (l0.length:Int))=false:=decide_eq_false c4;clear c4;obtain rfl:=Option.some.inj H
    go_wp2
    go_ret
    exact ⟨_,by first|rfl|(simp [errW_none,errW_some] <;> rfl)|(simp [*,errW_none,errW_some] <;> rfl),by (with_reducible repeat (first|apply Kd.R_alloc|apply Kd.R_drewN|apply Kd.R_drew));exact HO_3.out,by repeat (first|(with_reducible first|exact HB.out|apply below_alloc|apply pw_below_drewN|apply below_drew1)|exact HB.out)⟩


/-! ### spec_DeriveFromString: function 51 -/
def spec_DeriveFromString.f (k:Nat) (a0:Int) (a1:ByteArray):Option (Int):=if a1.size < 17592186044416 then ((spec_BytesToInts.f k (bytesOf a1)).bind fun t => ((spec_KeyedHash.f k a0 t).bind fun u => ((spec_Max.f 1 u).bind fun v => (some v)))) else none
theorem spec_DeriveFromString.mono:∀ a0 a1 k,LeO (spec_DeriveFromString.f k a0 a1) (spec_DeriveFromString.f (k + 1) a0 a1):=by
 intro a0 a1 k
 unfold spec_DeriveFromString.f;exact LeO.ite (LeO.bind (spec_BytesToInts.mono _ _) (fun _ => LeO.bind (spec_KeyedHash.mono _ _ _) (fun _ => LeO.refl _))) (LeO.refl _)
set_option maxHeartbeats 800000 in
theorem spec_DeriveFromString.calls (k:Nat) (a0:Int) (a1:ByteArray) (r:Int) (w:World) (h:spec_DeriveFromString.f k a0 a1=some r) :
  Calls Tryz.prog 51 #[.int .i64 a0,.string a1] w fun e w' => e=.returned (.int .i64 r)∧Below w.heap.size w w':=by
 unfold spec_DeriveFromString.f at h
 by_cases hs:a1.size < 17592186044416
 case neg => rw [if_neg hs] at h;cases h
 rw [if_pos hs] at h
 obtain ⟨t,ht,h⟩:=Option.bind_eq_some_iff.1 h;obtain ⟨u,hu,h⟩:=Option.bind_eq_some_iff.1 h;obtain ⟨v,hv,h⟩:=Option.bind_eq_some_iff.1 h;obtain rfl:v=r:=by simpa using h
 clear h;have HU:=Am6_ hu;have HV:=Am6_ hv;have hcap:(bytesOf a1).length ≤ grownCap w a1.size 0 5:=by rw [bytesOf_length];exact grownCap_ge _ _ _ _
 have C1:=spec_BytesToInts.calls k _ _ (bytesOf a1) t _ (Man.bytes_C w 5 a1 hs) hcap ht;rw [bytesOf_length] at C1;have HC:=Am6_ C1;have HB0:=Am6_ (Man.bytes_below w 5 a1);clear hu hv ht C1 hcap hs;have hcv:=fun W:World => Lib.run_convert_string_bytes (P:=Tryz.prog) W 9 22 5 a1 Tryz.underlying9 Tryz.underlying22 Tryz.underlying5
 go_enter Tryz.func51,Tryz.ntmps51
 go_wp2_with fail
 refine HC.out.mono ?_;rintro e w1 ⟨v0,rfl,hR,hb⟩;obtain ⟨A,c,rfl⟩:=Kd.R_slice hR;have HR:=Am6_ hR;have HB1:=Am6_ (below_step HB0.out hb);clear hR hb
 go_wp2_with fail
 refine (spec_KeyedHash.calls k a0 A c t u w1 (Kd.R_reads' HR.out).2.2 (Kd.R_reads' HR.out).2.1 HU.out).mono ?_;rintro e w2 ⟨rfl,hb⟩;have HB2:=Am6_ (below_step HB1.out hb);clear hb
 go_wp2_with fail
 refine (spec_Max.calls 1 u v w2 HV.out).mono ?_;rintro e w3 ⟨rfl,hb⟩;have HB3:=Am6_ (below_step HB2.out hb.below);clear hb
 go_wp2_with fail
 go_ret
 exact ⟨rfl,HB3.out⟩

/-! ### spec_SiteHash: function 37 -/
def spec_SiteHash.f (k:Nat) (a0:ByteArray):Option (Int):=(spec_DeriveFromString.f k 173 a0).bind fun t247 => (some t247)
theorem spec_SiteHash.mono:∀ a0 k,LeO (spec_SiteHash.f k a0) (spec_SiteHash.f (k + 1) a0):=by
 intro a0 k
 unfold spec_SiteHash.f
 repeat' first
  |(with_reducible exact spec_DeriveFromString.mono _ _ _)
  |(with_reducible exact LeO.refl _)
  |(with_reducible exact LeO.none _)
  |(with_reducible refine LeO.ite ?_ ?_)
  |(with_reducible refine LeO.bind ?_ (fun _ => ?_))
  |exact spec_DeriveFromString.mono _ _ _
  |exact LeO.none _
  |refine LeO.ite ?_ ?_
  |refine LeO.bind ?_ (fun _ => ?_)
set_option maxHeartbeats 8000000 in
set_option maxRecDepth 100000 in
theorem spec_SiteHash.calls (k:Nat) (a0:ByteArray) (r:Int) (w:World) (h:spec_SiteHash.f k a0=some r) :
  Calls Tryz.prog 37 #[.string a0] w fun e w' => e=.returned (.int .i64 r)∧Below w.heap.size w w':=by
 have HB:=Am6_ (Below.refl w.heap.size w);have H:((spec_DeriveFromString.f k 173 a0).bind fun t247 => (some t247))=some r:=h;clear h;replace H:=Option.bind_eq_some_iff.mp H;obtain ⟨t247,A20,H⟩:=H
 try dsimp only at H
 have A2:=Am6_ A20;clear A20;obtain rfl:=Option.some.inj H
 go_enter Tryz.func37,Tryz.ntmps37
 go_wp2_with (first|((with_reducible refine gate_callee (f:=51) rfl ?_);refine goesL_ (some 4) rfl rfl Tryz.func51 (by kernel_rfl) rfl #[.int .i64 173,.string a0] rfl (by (try simp only [List.map_toArray,List.map_cons,List.map_nil]);first|done|rfl|(simp only [List.length_drop,List.length_take];rfl)) ?_;(with_reducible refine (spec_DeriveFromString.calls k 173 a0 t247 _ A2.out).mono ?_);rintro e w3 ⟨rfl,hb⟩;refine ⟨_,rfl,?_⟩;have n0_:=bs_ HB hb;clear HB;have HB:=n0_;clear n0_;(try clear hb);(try clear hb2);(try clear hk);(try clear hi)))
 go_ret
 exact ⟨by first|rfl|(simp [errW_none,errW_some] <;> rfl)|(simp [*,errW_none,errW_some] <;> rfl),by repeat (first|(with_reducible first|exact HB.out|apply below_alloc|apply pw_below_drewN|apply below_drew1)|exact HB.out)⟩

/-! ### spec_DeriveKey: function 71 -/
def spec_DeriveKey.f (k:Nat) (a0:Int) (l1:List Int):Option (Int):=(some (([151]:List Int):List Int)).bind fun y248 => (if y248.length + l1.length < 17592186044416 then ((spec_KeyedHash.f k a0 (y248 ++ l1)).bind fun t254 => ((spec_Max.f 1 t254).bind fun t255 => (some t255))) else (none))
theorem spec_DeriveKey.mono:∀ a0 a1 k,LeO (spec_DeriveKey.f k a0 a1) (spec_DeriveKey.f (k + 1) a0 a1):=by
 intro a0 a1 k
 unfold spec_DeriveKey.f
 repeat' first
  |(with_reducible exact spec_KeyedHash.mono _ _ _)
  |(with_reducible exact LeO.refl _)
  |(with_reducible exact LeO.none _)
  |(with_reducible refine LeO.ite ?_ ?_)
  |(with_reducible refine LeO.bind ?_ (fun _ => ?_))
  |exact spec_KeyedHash.mono _ _ _
  |exact LeO.none _
  |refine LeO.ite ?_ ?_
  |refine LeO.bind ?_ (fun _ => ?_)
set_option maxHeartbeats 8000000 in
set_option maxRecDepth 100000 in
theorem spec_DeriveKey.calls (k:Nat) (a0:Int) (A1:Option Addr) (c1:Nat) (l1:List Int) (r:Int) (w:World) (hr1:Kd.C (Kd.int .i64) w A1 l1.length l1) (hc1:l1.length ≤ c1) (h:spec_DeriveKey.f k a0 l1=some r) :
  Calls Tryz.prog 71 #[.int .i64 a0,.slice A1 l1.length c1] w fun e w' => e=.returned (.int .i64 r)∧Below w.heap.size w w':=by
 have HR1:=Am6_ hr1;have HC1:=Am6_ hc1;clear hr1 hc1;have HB:=Am6_ (Below.refl w.heap.size w);have H:=h;unfold spec_DeriveKey.f at H;clear h;obtain ⟨y248,hy248⟩:∃ y_:List Int,y_=(([151]:List Int)):=⟨_,rfl⟩;replace H:(if y248.length + l1.length < 17592186044416 then ((spec_KeyedHash.f k a0 (y248 ++ l1)).bind fun t254 => ((spec_Max.f 1 t254).bind fun t255 => (some t255))) else (none))=some r:=by first|(rw [hy248];with_reducible exact H)|(have H2_:=(Option.bind_some _ _).symm.trans H;rw [hy248];with_reducible exact H2_)|(have H2_:=(Option.bind_some _ _).symm.trans H;with_reducible exact H2_)|with_reducible exact H|(rw [hy248];exact H)|exact H
 have Ny248:=Am6_ hy248;clear hy248
 by_cases c3:y248.length + l1.length < 17592186044416
 ·rw [if_pos c3] at H
  have LMc3:=Am6_ c3;clear c3;obtain ⟨y251,hy251⟩:∃ y_:List Int,y_=(y248 ++ l1):=⟨_,rfl⟩;replace H:((spec_KeyedHash.f k a0 y251).bind fun t254 => ((spec_Max.f 1 t254).bind fun t255 => (some t255)))=some r:=by first|(rw [hy251];with_reducible exact H)|(have H2_:=(Option.bind_some _ _).symm.trans H;rw [hy251];with_reducible exact H2_)|(have H2_:=(Option.bind_some _ _).symm.trans H;with_reducible exact H2_)|with_reducible exact H|(rw [hy251];exact H)|exact H
  have Ny251:=Am6_ hy251;clear hy251;replace H:=Option.bind_eq_some_iff.mp H;obtain ⟨t254,A40,H⟩:=H
  try dsimp only at H
  have A4:=Am6_ A40;clear A40;replace H:=Option.bind_eq_some_iff.mp H;obtain ⟨t255,A50,H⟩:=H
  try dsimp only at H
  have A5:=Am6_ A50;clear A50;obtain rfl:=Option.some.inj H
  go_enter Tryz.func71,Tryz.ntmps71
  go_wp2_with (first|((with_reducible refine gate_dst (N:=6) rfl ?_);refine Kd.R_lit (Kd.int .i64) _ 3 ?hg (N:=6) ?hd (xs:=([151]:List Int)) (inner:=[.int .i64 151]) (ok:=fun _ => True) (okp:=fun _ => True) ?hr ?hp (fun _ hk => hk) trivial (Below.refl _ _) (Nat.le_refl _) (by simp) ?_;(case hd => rfl);(case hg => rfl);(case hr => first|(go_simp;done)|(go_simp;rfl));(case hp => exact (Reps.one (show Kd.M (Kd.int .i64) _ _ _ 151 [.int .i64 151] from rfl) (Reps.none _ _)));intro v249 w6 ho7 hb hg_ hnew_;clear hg_ hnew_;(first|rw [← Ny248.out] at ho7|(simp only [Int.reduceToNat] at ho7;rw [← Ny248.out] at ho7));have n0_:=Am6_ (Kd.R_lower ho7 (below_size (xe_ HB)));have n1_:=bs_ HB hb;clear HB;have HO250:=n0_;have HB:=n1_;clear n0_ n1_;clear hb ho7)|((with_reducible refine gate_builtin (b:=.append) (xs:=#[.tmp 6,.tmp 7]) rfl ?_);at_builtin;refine Kd.R_append_rows (Kd.int .i64) (w0:=w) w.heap.size rfl (.tmp 6) (.tmp 7) 47 3 (.int .i64 0) 8 rfl Tryz.underlying47 info3 rfl (by decide) (by omega) v249 y248 l1 _ _ _ (fun _ => True) (fun _ => False) rfl rfl ?aO ?aR (fun _ _ h => h) (fun _ h => h.elim) ?aF ?aB ?aS ?aL ?_;(case aR => repeat (first|exact (Kd.C_below HR1.out HB.out)|(with_reducible refine Kd.C_alloc ?_ _)|(with_reducible refine Kd.C_drewN ?_ _)|(with_reducible refine Kd.C_drew ?_)));(case aB => exact (xe_ HB));(case aF => exact (fun _ _ => trivial));(case aO => exact (by (with_reducible repeat (first|apply Kd.R_alloc|apply Kd.R_drewN|apply Kd.R_drew));exact HO250.out));(case aS => exact (below_size (xe_ HB)));(case aL => have:=LMc3.out;omega);intro v252 w8 ho hb hg hat;rw [← Ny251.out] at ho;have n0_:=Am6_ (hb);have n1_:=Am6_ (ho);clear HB;clear HO250;have HB:=n0_;have HO253:=n1_;clear n0_ n1_;clear ho hb hg hat;obtain ⟨Ao9,co9,eo9⟩:=Kd.R_slice HO253.out;subst eo9)|((with_reducible refine gate_callee (f:=83) rfl ?_);refine goesL_ (some 9) rfl rfl Tryz.func83 (by kernel_rfl) rfl #[.int .i64 a0,.slice Ao9 y251.length co9] rfl (by (try simp only [List.map_toArray,List.map_cons,List.map_nil]);first|done|rfl|(simp only [List.length_drop,List.length_take];rfl)) ?_;(with_reducible refine (spec_KeyedHash.calls k a0 _ _ y251 t254 _ ?side1 ?side2 A4.out).mono ?_);(case side1 => repeat (first|exact (Kd.R_reads' HO253.out).2.2|(with_reducible refine Kd.C_alloc ?_ _)|(with_reducible refine Kd.C_drewN ?_ _)|(with_reducible refine Kd.C_drew ?_)));(case side2 => exact (Kd.R_reads' HO253.out).2.1);rintro e w10 ⟨rfl,hb⟩;refine ⟨_,rfl,?_⟩;have n0_:=Am6_ (Kd.R_below (by (with_reducible repeat (first|apply Kd.R_alloc|apply Kd.R_drewN|apply Kd.R_drew));exact HO253.out) hb);have n1_:=bs_ HB hb;clear HO253;clear HB;have HO253:=n0_;have HB:=n1_;clear n0_ n1_;(try clear hb);(try clear hb2);(try clear hk);(try clear hi))|((with_reducible refine gate_callee (f:=82) rfl ?_);refine goesL_ (some 10) rfl rfl Tryz.func82 (by kernel_rfl) rfl #[.int .i64 1,.int .i64 t254] rfl (by (try simp only [List.map_toArray,List.map_cons,List.map_nil]);first|done|rfl|(simp only [List.length_drop,List.length_take];rfl)) ?_;(with_reducible refine (spec_Max.calls 1 t254 t255 _ A5.out).mono ?_);rintro e w' ⟨rfl,⟨nd,rfl⟩⟩;refine ⟨_,rfl,?_⟩))
  go_ret
  exact ⟨by first|rfl|(simp [errW_none,errW_some] <;> rfl)|(simp [*,errW_none,errW_some] <;> rfl),by repeat (first|(with_reducible first|exact HB.out|apply below_alloc|apply pw_below_drewN|apply below_drew1)|exact HB.out)⟩
 ·rw [if_neg c3] at H
  exact absurd H (by simp)

/-! ### spec_SitePrivate: function 40 -/
def spec_SitePrivate.f (k:Nat) (a0_0:Int) (a0_1:Int) (a0_2:Int) (a0_3:Int) (a1:ByteArray) (a2:Int):Option (Int):=(spec_SiteHash.f k a1).bind fun t257 => ((spec_DeriveKey.f k a0_2 (([179,t257,a2]:List Int))).bind fun t261 => (some t261))
theorem spec_SitePrivate.mono:∀ a0 a1 a2 a3 a4 a5 k,LeO (spec_SitePrivate.f k a0 a1 a2 a3 a4 a5) (spec_SitePrivate.f (k + 1) a0 a1 a2 a3 a4 a5):=by
 intro a0 a1 a2 a3 a4 a5 k
 unfold spec_SitePrivate.f
 repeat' first
  |(with_reducible exact spec_DeriveKey.mono _ _ _)
  |(with_reducible exact spec_SiteHash.mono _ _)
  |(with_reducible exact LeO.refl _)
  |(with_reducible exact LeO.none _)
  |(with_reducible refine LeO.ite ?_ ?_)
  |(with_reducible refine LeO.bind ?_ (fun _ => ?_))
  |exact spec_DeriveKey.mono _ _ _
  |exact spec_SiteHash.mono _ _
  |exact LeO.none _
  |refine LeO.ite ?_ ?_
  |refine LeO.bind ?_ (fun _ => ?_)
def spec_SitePrivate.T1:Bool × List (List Nat × List Nat):=(true,[([],[]),([0],[0]),([],[]),([2],[2]),([],[]),([3,4],[3,4]),([1,5,3],[1,5]),([6,6,0,1,2,3,4,5,6],[6])])
def spec_SitePrivate.B1:List Nat:=[0,1,0,4,0,28,63,127]
theorem spec_SitePrivate.tab1:rtab .any (opsOf Tryz.f40 1)=spec_SitePrivate.T1:=by kernel_rfl
theorem spec_SitePrivate.bits1:waitsOk spec_SitePrivate.T1.2 spec_SitePrivate.B1=true:=by kernel_rfl
set_option maxHeartbeats 8000000 in
set_option maxRecDepth 100000 in
theorem spec_SitePrivate.calls (k:Nat) (a0_0:Int) (a0_1:Int) (a0_2:Int) (a0_3:Int) (a1:ByteArray) (a2:Int) (r:Int) (w:World) (h:spec_SitePrivate.f k a0_0 a0_1 a0_2 a0_3 a1 a2=some r) :
  Calls Tryz.prog 40 #[.agg #[.int .i64 a0_0,.int .i64 a0_1,.int .i64 a0_2,.int .i64 a0_3],.string a1,.int .i64 a2] w fun e w' => e=.returned (.int .i64 r)∧Below w.heap.size w w':=by
 have hu26:=Tryz.underlying26;have HB:=Am6_ (Below.refl w.heap.size w);have H:=h;unfold spec_SitePrivate.f at H;clear h;replace H:=Option.bind_eq_some_iff.mp H;obtain ⟨t257,A40,H⟩:=H
 try dsimp only at H
 have A4:=Am6_ A40;clear A40;obtain ⟨y258,hy258⟩:∃ y_:List Int,y_=(([179,t257,a2]:List Int)):=⟨_,rfl⟩;replace H:((spec_DeriveKey.f k a0_2 y258).bind fun t261 => (some t261))=some r:=by first|(rw [hy258];with_reducible exact H)|(have H2_:=(Option.bind_some _ _).symm.trans H;rw [hy258];with_reducible exact H2_)|(have H2_:=(Option.bind_some _ _).symm.trans H;with_reducible exact H2_)|with_reducible exact H|(rw [hy258];exact H)|exact H
 have Ny258:=Am6_ hy258;clear hy258;replace H:=Option.bind_eq_some_iff.mp H;obtain ⟨t261,A50,H⟩:=H
 try dsimp only at H
 have A5:=Am6_ A50;clear A50;obtain rfl:=Option.some.inj H
 go_enter Tryz.func40,Tryz.ntmps40
 try go_wp2_with (first|((with_reducible refine gate_dst (N:=3) rfl ?_);refine box_event ?hg (N:=3) ?hd (cs:=#[.int .i64 a0_0,.int .i64 a0_1,.int .i64 a0_2,.int .i64 a0_3]) (t:=26) ?hr ?_;(case hd => rfl);(case hg => rfl);(case hr => first|(go_simp;done)|(go_simp;rfl));intro gb256 hg w6 hbox hb;have n0_:=bs_ HB hb;have n1_:=Am6_ (hbox);have n2_:=gw_ hg HB;have n3_:=gw_ hg HB;clear HB;have HB:=n0_;have BK256:=n1_;have GW256:=n2_;have GE256:=n3_;clear n0_ n1_ n2_ n3_;clear hb hbox hg))
 replace BK256:=Am6_ (blk_drew BK256.out);replace HB:=Am6_ (below_drew1 HB.out);refine start_ (n:=8) (S:=fun w' => w'.cell? ⟨gb256,0,none⟩=some (.int .i64 a0_0)∧w'.cell? ⟨gb256,1,none⟩=some (.int .i64 a0_1)∧w'.cell? ⟨gb256,2,none⟩=some (.int .i64 a0_2)∧w'.cell? ⟨gb256,3,none⟩=some (.int .i64 a0_3)) (ds:=[]) #[false,false,false,false,false,false,false,false] (by kernel_rfl) rfl rfl ⟨q_ BK256 0 rfl,q_ BK256 1 rfl,q_ BK256 2 rfl,q_ BK256 3 rfl⟩ (fun hHeld => ?_);refine with_tabW spec_SitePrivate.tab1 spec_SitePrivate.bits1 (fun HT_ HW_ => ?_);generalize w6.drew=w7 at BK256 HB hHeld ⊢;refine pure_ (i:=0) (N:=some 7) (v:=?_) (a':=?_) #[true,false,false,false,false,false,false,false] rfl rfl (any_of HT_.out (by kernel_rfl)) (fun _ _ _ h => h) (Or.inl ⟨by rfl,?_⟩) ?_ ?_;rotate_left
 ·intro w'
  go_simp
  with_reducible rfl
 rotate_left
 ·simp only [Act.put,Sa_,Sb_,Sc_,i64_w,i32_w]
  rfl
 refine pure_ (i:=2) (N:=some 9) (v:=?_) (a':=?_) #[true,false,true,false,false,false,false,false] rfl rfl (any_of HT_.out (by kernel_rfl)) (fun _ _ _ h => h) (Or.inl ⟨by rfl,?_⟩) ?_ ?_;rotate_left
 ·intro w'
  go_simp
  with_reducible rfl
 rotate_left
 ·simp only [Act.put,Sa_,Sb_,Sc_,i64_w,i32_w]
  rfl
 refine pure_ (i:=4) (N:=some 11) (v:=?_) (a':=?_) #[true,false,true,false,true,false,false,false] rfl rfl (any_of HT_.out (by kernel_rfl)) (fun _ _ _ h => h) (Or.inl ⟨by rfl,?_⟩) ?_ ?_;rotate_left
 ·intro w'
  go_simp
  with_reducible rfl
 rotate_left
 ·simp only [Act.put,Sa_,Sb_,Sc_,i64_w,i32_w]
  rfl
 refine take_ (i:=1) (N:=some 8) (v:=?_) (a':=?_) #[true,true,true,false,true,false,false,false] rfl rfl (take_ofW HT_.out HW_.out (by kernel_rfl)) (fun _ _ _ h => h) (Or.inl ⟨by rfl,?_⟩) hHeld ?_ ?_;rotate_left
 ·rintro w' ⟨s0,s1,s2,s3⟩
  go_simp
  with_reducible rfl
 rotate_left
 ·simp only [Act.put,Sa_,Sb_,Sc_,i64_w,i32_w]
  rfl
 refine one_ (i:=3) (N:=some 10) #[true,true,true,true,true,false,false,false] rfl rfl (one_of HT_.out (by kernel_rfl)) (by decide) (fun K hK => ?_);refine goes_ Tryz.func37 (by kernel_rfl) rfl #[.string a1] (by rfl) rfl rfl (by (try simp only [List.map_toArray,List.map_cons,List.map_nil]);first|done|rfl|(simp only [List.length_drop,List.length_take];rfl)) ?_;with_reducible refine (spec_SiteHash.calls k a1 t257 _ A4.out).mono ?_;rintro e w8 ⟨rfl,hb⟩;refine ⟨_,rfl,?_⟩;replace BK256:=bb_ BK256 hb;replace HB:=bs_ HB hb;(try clear hb);(try clear hb2);(try clear hk);(try clear hi);refine hK.out _ _ ⟨q_ BK256 0 rfl,q_ BK256 1 rfl,q_ BK256 2 rfl,q_ BK256 3 rfl⟩ (fun hHeld => ?_);clear hK K;refine norm_ (a':=?_) ?_ ?_;rotate_left
 ·show Act.put _ (some 10) _=_
  simp only [Act.put,Sa_,Sb_,Sc_,i64_w,i32_w]
  rfl
 refine one_ (i:=5) (N:=some 12) #[true,true,true,true,true,true,false,false] rfl rfl (one_of HT_.out (by kernel_rfl)) (by decide) (fun K hK => ?_);refine Kd.R_lit_step (Kd.int .i64) _ 3 ?hg (N:=12) ?hd (xs:=([179,t257,a2]:List Int)) (inner:=[.int .i64 179,.int .i64 t257,.int .i64 a2]) (ok:=fun _ => True) (okp:=fun _ => True) ?hr ?hp (fun _ hk => hk) trivial (Below.refl _ _) (Nat.le_refl _) (by simp) ?_;(case hd => rfl);(case hg => rfl);(case hr => first|(go_simp;done)|(go_simp;rfl));(case hp => exact (Reps.one (show Kd.M (Kd.int .i64) _ _ _ 179 [.int .i64 179] from rfl) (Reps.one (show Kd.M (Kd.int .i64) _ _ _ t257 [.int .i64 t257] from rfl) (Reps.one (show Kd.M (Kd.int .i64) _ _ _ a2 [.int .i64 a2] from rfl) (Reps.none _ _)))));intro v259 w9 ho10 hb hg_ hnew_;clear hg_ hnew_
 (first|rw [← Ny258.out] at ho10|(simp only [Int.reduceToNat] at ho10;rw [← Ny258.out] at ho10))
 have HO260:=Am6_ (Kd.R_lower ho10 (below_size (xe_ HB)));replace BK256:=bb_ BK256 hb;replace HB:=bs_ HB hb;clear hb ho10;obtain ⟨Ao11,co11,eo11⟩:=Kd.R_slice HO260.out
 (first|subst eo11|(injection eo11 with f1_ f2_ f3_;have f4_:=f1_.symm;have f5_:=f3_.symm;clear f1_ f2_ f3_;subst f4_;subst f5_))
 refine hK.out _ _ ⟨q_ BK256 0 rfl,q_ BK256 1 rfl,q_ BK256 2 rfl,q_ BK256 3 rfl⟩ (fun hHeld => ?_);clear hK K;refine norm_ (a':=?_) ?_ ?_;rotate_left
 ·show Act.put _ (some 12) _=_
  simp only [Act.put,Sa_,Sb_,Sc_,i64_w,i32_w]
  rfl
 refine one_ (i:=6) (N:=some 13) #[true,true,true,true,true,true,true,false] rfl rfl (one_of HT_.out (by kernel_rfl)) (by decide) (fun K hK => ?_);refine goes_ Tryz.func71 (by kernel_rfl) rfl #[.int .i64 a0_2,.slice Ao11 y258.length co11] (by rfl) rfl rfl (by (try simp only [List.map_toArray,List.map_cons,List.map_nil]);first|done|rfl|(simp only [List.length_drop,List.length_take];rfl)) ?_;with_reducible refine (spec_DeriveKey.calls k a0_2 _ _ y258 t261 _ ?side1 ?side2 A5.out).mono ?_
 (case side1 => repeat (first|exact (Kd.R_reads' HO260.out).2.2|(with_reducible refine Kd.C_alloc ?_ _)|(with_reducible refine Kd.C_drewN ?_ _)|(with_reducible refine Kd.C_drew ?_)))
 (case side2 => exact (Kd.R_reads' HO260.out).2.1)
 rintro e w12 ⟨rfl,hb⟩;refine ⟨_,rfl,?_⟩;replace HO260:=Am6_ (Kd.R_below (by (with_reducible repeat (first|apply Kd.R_alloc|apply Kd.R_drewN|apply Kd.R_drew));exact HO260.out) hb);replace BK256:=bb_ BK256 hb;replace HB:=bs_ HB hb;(try clear hb);(try clear hb2);(try clear hk);(try clear hi);refine hK.out _ _ ⟨q_ BK256 0 rfl,q_ BK256 1 rfl,q_ BK256 2 rfl,q_ BK256 3 rfl⟩ (fun hHeld => ?_);clear hK K;refine norm_ (a':=?_) ?_ ?_;rotate_left
 ·show Act.put _ (some 13) _=_
  simp only [Act.put,Sa_,Sb_,Sc_,i64_w,i32_w]
  rfl
 refine pure_ (i:=7) (N:=some 6) (v:=?_) (a':=?_) #[true,true,true,true,true,true,true,true] rfl rfl (any_of HT_.out (by kernel_rfl)) (fun _ _ _ h => h) (Or.inl ⟨by rfl,?_⟩) ?_ ?_;rotate_left
 ·intro w'
  go_simp
  with_reducible rfl
 rotate_left
 ·simp only [Act.put,Sa_,Sb_,Sc_,i64_w,i32_w]
  rfl
 refine done_ (done_of HT_.out (by kernel_rfl)) ?_
 try go_wp2
 go_ret
 exact ⟨by first|rfl|(simp [errW_none,errW_some] <;> rfl)|(simp [*,errW_none,errW_some] <;> rfl),by repeat (first|(with_reducible first|exact HB.out|apply below_alloc|apply pw_below_drewN|apply below_drew1|refine below_set ?_ GE256.out)|exact HB.out)⟩

/-! ### spec_SitePublic: function 10 -/
def spec_SitePublic.f (k:Nat) (a0_0:Int) (a0_1:Int) (a0_2:Int) (a0_3:Int) (a1:ByteArray) (a2:Int):Option (Int):=(spec_SitePrivate.f k a0_0 a0_1 a0_2 a0_3 a1 a2).bind fun t263 => ((spec_PublicKey.f t263).bind fun t264 => (some t264))
theorem spec_SitePublic.mono:∀ a0 a1 a2 a3 a4 a5 k,LeO (spec_SitePublic.f k a0 a1 a2 a3 a4 a5) (spec_SitePublic.f (k + 1) a0 a1 a2 a3 a4 a5):=by
 intro a0 a1 a2 a3 a4 a5 k
 unfold spec_SitePublic.f
 repeat' first
  |(with_reducible exact spec_SitePrivate.mono _ _ _ _ _ _ _)
  |(with_reducible exact LeO.refl _)
  |(with_reducible exact LeO.none _)
  |(with_reducible refine LeO.ite ?_ ?_)
  |(with_reducible refine LeO.bind ?_ (fun _ => ?_))
  |exact spec_SitePrivate.mono _ _ _ _ _ _ _
  |exact LeO.none _
  |refine LeO.ite ?_ ?_
  |refine LeO.bind ?_ (fun _ => ?_)
set_option maxHeartbeats 8000000 in
set_option maxRecDepth 100000 in
theorem spec_SitePublic.calls (k:Nat) (a0_0:Int) (a0_1:Int) (a0_2:Int) (a0_3:Int) (a1:ByteArray) (a2:Int) (r:Int) (w:World) (h:spec_SitePublic.f k a0_0 a0_1 a0_2 a0_3 a1 a2=some r) :
  Calls Tryz.prog 10 #[.agg #[.int .i64 a0_0,.int .i64 a0_1,.int .i64 a0_2,.int .i64 a0_3],.string a1,.int .i64 a2] w fun e w' => e=.returned (.int .i64 r)∧Below w.heap.size w w':=by
 have hu26:=Tryz.underlying26;have HB:=Am6_ (Below.refl w.heap.size w);have H:=h;unfold spec_SitePublic.f at H;clear h;replace H:=Option.bind_eq_some_iff.mp H;obtain ⟨t263,A40,H⟩:=H
 try dsimp only at H
 have A4:=Am6_ A40;clear A40;replace H:=Option.bind_eq_some_iff.mp H;obtain ⟨t264,A50,H⟩:=H
 try dsimp only at H
 have A5:=Am6_ A50;clear A50;obtain rfl:=Option.some.inj H
 go_enter Tryz.func10,Tryz.ntmps10
 go_wp2_with (first|((with_reducible refine gate_dst (N:=3) rfl ?_);refine box_event ?hg (N:=3) ?hd (cs:=#[.int .i64 a0_0,.int .i64 a0_1,.int .i64 a0_2,.int .i64 a0_3]) (t:=26) ?hr ?_;(case hd => rfl);(case hg => rfl);(case hr => first|(go_simp;done)|(go_simp;rfl));intro gb262 hg w6 hbox hb;have n0_:=bs_ HB hb;have n1_:=Am6_ (hbox);have n2_:=gw_ hg HB;have n3_:=gw_ hg HB;clear HB;have HB:=n0_;have BK262:=n1_;have GW262:=n2_;have GE262:=n3_;clear n0_ n1_ n2_ n3_;clear hb hbox hg;have hcz7_0:w6.cell? ⟨gb262,0,none⟩=some (.int .i64 a0_0):=q_ BK262 0 rfl;have hcz7_1:w6.cell? ⟨gb262,1,none⟩=some (.int .i64 a0_1):=q_ BK262 1 rfl;have hcz7_2:w6.cell? ⟨gb262,2,none⟩=some (.int .i64 a0_2):=q_ BK262 2 rfl;have hcz7_3:w6.cell? ⟨gb262,3,none⟩=some (.int .i64 a0_3):=q_ BK262 3 rfl;have hfz7_0:=blk_frozen BK262.out 0;have hfz7_1:=blk_frozen BK262.out 1;have hfz7_2:=blk_frozen BK262.out 2;have hfz7_3:=blk_frozen BK262.out 3)|((with_reducible refine gate_callee (f:=40) rfl ?_);refine goesL_ (some 10) rfl rfl Tryz.func40 (by kernel_rfl) rfl #[.agg #[.int .i64 a0_0,.int .i64 a0_1,.int .i64 a0_2,.int .i64 a0_3],.string a1,.int .i64 a2] rfl (by (try simp only [List.map_toArray,List.map_cons,List.map_nil]);first|done|rfl|(simp only [List.length_drop,List.length_take];rfl)) ?_;(with_reducible refine (spec_SitePrivate.calls k a0_0 a0_1 a0_2 a0_3 a1 a2 t263 _ A4.out).mono ?_);rintro e w8 ⟨rfl,hb⟩;refine ⟨_,rfl,?_⟩;have n0_:=bb_ BK262 hb;have n1_:=bs_ HB hb;clear BK262;clear HB;have BK262:=n0_;have HB:=n1_;clear n0_ n1_;(try clear hb);(try clear hb2);(try clear hk);(try clear hi))|((with_reducible refine gate_callee (f:=39) rfl ?_);refine goesL_ (some 11) rfl rfl Tryz.func39 (by kernel_rfl) rfl #[.int .i64 t263] rfl (by (try simp only [List.map_toArray,List.map_cons,List.map_nil]);first|done|rfl|(simp only [List.length_drop,List.length_take];rfl)) ?_;(with_reducible refine (spec_PublicKey.calls t263 t264 _ A5.out).mono ?_);rintro e w' ⟨rfl,⟨nd,rfl⟩⟩;refine ⟨_,rfl,?_⟩))
 go_ret
 exact ⟨by first|rfl|(simp [errW_none,errW_some] <;> rfl)|(simp [*,errW_none,errW_some] <;> rfl),by repeat (first|(with_reducible first|exact HB.out|apply below_alloc|apply pw_below_drewN|apply below_drew1|refine below_set ?_ GE262.out)|exact HB.out)⟩


/-! ### strings_CutPrefix: function 54 -/
def strings_CutPrefix.f (a0:ByteArray) (a1:ByteArray):Option (ByteArray × Bool):=some (⟨(Lib.trimPrefix a0.data.toList a1.data.toList).toArray⟩,Lib.hasPrefix a0.data.toList a1.data.toList)
theorem strings_CutPrefix.calls (a0:ByteArray) (a1:ByteArray) (r1:ByteArray) (r2:Bool) (w:World) (h:strings_CutPrefix.f a0 a1=some (r1,r2)) :
  Calls Tryz.prog 54 #[.string a0,.string a1] w fun e w' => e=.returned (.tuple #[.string r1,.bool r2])∧Drawn0 w w':=by
 unfold strings_CutPrefix.f at h;obtain ⟨rfl,rfl⟩:=Prod.mk.inj (Option.some.inj h);exact (Any.strings_CutPrefix Tryz.lays103 a0 a1 w).mono fun e w' ⟨he,hw⟩ => ⟨he,hw ▸ Drawn0.refl w⟩


/-! ### strings_Cut: function 55 -/
def strings_Cut.f (a0:ByteArray) (a1:ByteArray):Option (ByteArray × ByteArray × Bool):=if a1=⟨#[58]⟩∧a0.size < 4294967281 then some (⟨(Lib.cut a0.data.toList [58]).1.toArray⟩,⟨(Lib.cut a0.data.toList [58]).2.1.toArray⟩,(Lib.cut a0.data.toList [58]).2.2) else none
theorem strings_Cut.calls (a0:ByteArray) (a1:ByteArray) (r1:ByteArray) (r2:ByteArray) (r3:Bool) (w:World) (h:strings_Cut.f a0 a1=some (r1,r2,r3)) :
  Calls Tryz.prog 55 #[.string a0,.string a1] w fun e w' => e=.returned (.tuple #[.string r1,.string r2,.bool r3])∧Drawn0 w w':=by
 unfold strings_Cut.f at h
 by_cases hc:a1=⟨#[58]⟩∧a0.size < 4294967281
 case neg => rw [if_neg hc] at h;cases h
 rw [if_pos hc] at h
 obtain ⟨rfl,hs⟩:=hc;obtain ⟨rfl,h2⟩:=Prod.mk.inj (Option.some.inj h);obtain ⟨rfl,rfl⟩:=Prod.mk.inj h2;exact (Man.str_Cut_one Tryz.lays145 a0 58 w hs).mono fun e w' ⟨he,hw⟩ => ⟨he,⟨hw⟩⟩


/-! ### impl_ParseInt: function 56 -/
def impl_ParseInt.f (a0:ByteArray):Option (Int × Bool):=if a0.size ≤ 281474976710656 then some (match Lib.atoiAll a0.data.toList with|.ok v => if v < 0 then (0,false) else if v > 1000000000000 then (0,false) else if Lib.itoa v=a0.data.toList then (v,true) else (0,false)|_ => (0,false)) else none
set_option maxHeartbeats 1000000 in
theorem impl_ParseInt.calls (a0:ByteArray) (r1:Int) (r2:Bool) (w:World) (ht_:Man.Tab w) (h:impl_ParseInt.f a0=some (r1,r2)) :
  Calls Tryz.prog 56 #[.string a0] w fun e w' => e=.returned (.tuple #[.int .i64 r1,.bool r2])∧Below w.heap.size w w':=by
 unfold impl_ParseInt.f at h
 by_cases hs:a0.size ≤ 281474976710656
 case neg => rw [if_neg hs] at h;cases h
 rw [if_pos hs] at h
 have hr:=Option.some.inj h;clear h
 cases ha:Lib.atoiAll a0.data.toList with
|«syntax» =>
  obtain ⟨tp,p,hv⟩:=ht_.2.1;have HC:=Am6_ (Any.strconv_Atoi_syntax_var Tryz.laysC172 a0 hs ha tp p w hv);rw [ha] at hr;obtain ⟨rfl,rfl⟩:=Prod.mk.inj hr;clear ht_ ha hs hr
  go_enter Tryz.func56,Tryz.ntmps56
  go_wp2_with fail
  refine HC.out.mono ?_;rintro e w1 ⟨N,rfl,hN,hc,hb⟩;have HB:=Am6_ hb;clear hN hc hb
  go_wp2_with fail
  go_ret2
  exact ⟨rfl,HB.out⟩
|range =>
  obtain ⟨tp,p,hv⟩:=ht_.2.2;have HC:=Am6_ (Any.strconv_Atoi_range_var Tryz.laysC172 a0 hs ha tp p w hv);rw [ha] at hr;obtain ⟨rfl,rfl⟩:=Prod.mk.inj hr;clear ht_ ha hs hr
  go_enter Tryz.func56,Tryz.ntmps56
  go_wp2_with fail
  refine HC.out.mono ?_;rintro e w1 ⟨N,rfl,hN,hc,hb⟩;have HB:=Am6_ hb;clear hN hc hb
  go_wp2_with fail
  go_ret2
  exact ⟨rfl,HB.out⟩
|ok v =>
  have HC:=Am6_ (Any.strconv_Atoi_ok Tryz.laysC172 a0 (by omega) v ha w);have hvb:=Lib.atoiAll_bounds ha;rw [ha] at hr;simp only at hr;have hT:=Am6_ ht_;clear ht_ ha hs
  by_cases h1:v < 0
  ·rw [if_pos h1] at hr
   obtain ⟨rfl,rfl⟩:=Prod.mk.inj hr;clear hr hT
   go_enter Tryz.func56,Tryz.ntmps56
   go_wp2_with fail
   refine HC.out.mono ?_;rintro e w1 ⟨rfl,hw⟩;have HB:Aside0 (Below w.heap.size w w1):=Am6_ (by rcases hw with rfl|⟨t,rfl⟩;exact Below.refl _ _;exact Lib.bytesWorld_below _ _ _);clear hw
   go_wp2_with fail
   go_ret2
   exact ⟨rfl,HB.out⟩
  rw [if_neg h1] at hr
  by_cases h2:v > 1000000000000
  ·rw [if_pos h2] at hr
   obtain ⟨rfl,rfl⟩:=Prod.mk.inj hr;clear hr hT
   go_enter Tryz.func56,Tryz.ntmps56
   go_wp2_with fail
   refine HC.out.mono ?_;rintro e w1 ⟨rfl,hw⟩;have HB:Aside0 (Below w.heap.size w w1):=Am6_ (by rcases hw with rfl|⟨t,rfl⟩;exact Below.refl _ _;exact Lib.bytesWorld_below _ _ _);clear hw
   go_wp2_with fail
   go_ret2
   exact ⟨rfl,HB.out⟩
  rw [if_neg h2] at hr
  have hI:=fun (W:World) (hb:Below w.heap.size w W) => Any.strconv_Itoa Tryz.laysM171 v hvb.1 hvb.2 W (Man.tab_on hT.out hb).tab
  have HI:=Am6_ hI;clear hT hI
  go_enter Tryz.func56,Tryz.ntmps56
  go_wp2_with fail
  refine HC.out.mono ?_;rintro e w1 ⟨rfl,hw⟩;have HB:Aside0 (Below w.heap.size w w1):=Am6_ (by rcases hw with rfl|⟨t,rfl⟩;exact Below.refl _ _;exact Lib.bytesWorld_below _ _ _);clear hw
  go_wp2_with fail
  refine (HI.out w1 HB.out).mono ?_;rintro e w2 ⟨rfl,k,os,rfl⟩;have HB2:Aside0 (Below w.heap.size w (Go.Sort.grow (w1.drewN k) os)):=Am6_ (below_step HB.out (Man.below_grow w1 k os))
  by_cases h3:Lib.itoa v=a0.data.toList
  ·rw [if_pos h3] at hr
   obtain ⟨rfl,rfl⟩:=Prod.mk.inj hr;have h3b:(Lib.itoa v == a0.toList)=true:=beq_iff_eq.2 (h3.trans (Lib.toList_data a0).symm);clear hr
   go_wp2_with fail
   go_ret2
   exact ⟨rfl,HB2.out⟩
  ·rw [if_neg h3] at hr
   obtain ⟨rfl,rfl⟩:=Prod.mk.inj hr;have h3b:(Lib.itoa v == a0.toList)=false:=beq_eq_false_iff_ne.2 (fun q => h3 (q.trans (Lib.toList_data a0)));clear hr
   go_wp2_with fail
   go_ret2
   exact ⟨rfl,HB2.out⟩

end Go.Proofs.YtogcoedmagoogaaGreatDoor.PFnAssertions
