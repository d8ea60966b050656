/- Functions and contracts of a law's callees, written by a program of this session (a changed print): each contract says that the machine's call answers what the plain function says. Conditions: the plain function's own answer. -/
import Derived.Test.YtogcoedmagoogaaDoorZPFnExactRelayAssertionx0
import Derived.Test.YtogcoedmagoogaaDoorZPFnExactRelayAssertionx9
namespace Go.Proofs.YtogcoedmagoogaaDoor.PFnExactRelayAssertion
open Go.RowKit Go.Proofs.YtogcoedmagoogaaDoorW.PrintWords Go.Proofs.YtogcoedmagoogaaDoorW.PrintLast Go.Proofs.YtogcoedmagoogaaDoorW.PrintMore
attribute [local go_sem] max2_int min2_int max_two min_two max_three min_three max_four min_four   -- for this text's walks alone
set_option linter.unusedVariables false
set_option linter.unusedSimpArgs false
abbrev Am10_ {p : Prop} (h : p) : Aside0 p := Aside0.mk h

namespace Y10
class Ex_ (w W:World):Prop where
 k:∀ {g:Nat} {o:Obj},w.heap[g]?=some o → W.heap[g]?=some o
 e:∀ {v:World},Below v.heap.size v w → Below v.heap.size v W
instance (priority:=low) Ex_.rf (w:World):Ex_ w w:=⟨fun h => h,fun h => h⟩
instance Ex_.dn {w W:World} [x:Ex_ w W] (n:Nat):Ex_ w (W.drewN n):=⟨fun h => blk_drewN (x.k h) n,fun h => pw_below_drewN (x.e h) n⟩
instance Ex_.dr {w W:World} [x:Ex_ w W]:Ex_ w W.drew:=⟨fun h => blk_drew (x.k h),fun h => below_drew1 (x.e h)⟩
instance Ex_.al {w W:World} [x:Ex_ w W] (o:Obj):Ex_ w (W.alloc o):=⟨fun h => blk_alloc (x.k h) o,fun h => below_alloc (x.e h) o⟩
theorem xk_ {w W:World} {g:Nat} {o:Obj} (h:Aside0 (w.heap[g]?=some o)) [x:Ex_ w W]:W.heap[g]?=some o:=x.k h.out
theorem ne1_ {w W:World} {g g':Nat} {o:Obj} (hg:g'=W.heap.size) (h:Aside0 (w.heap[g]?=some o)) [x:Ex_ w W]:Aside0 (g ≠ g'):=Am10_ (by rw [hg];exact Nat.ne_of_lt (blk_lt (x.k h.out)))
theorem ne2_ {w W:World} {g g':Nat} {o:Obj} (hg:g'=W.heap.size) (h:Aside0 (w.heap[g]?=some o)) [x:Ex_ w W]:Aside0 (g' ≠ g):=Am10_ (by rw [hg];exact Nat.ne_of_gt (blk_lt (x.k h.out)))
theorem gw_ {v w W:World} {g':Nat} (hg:g'=W.heap.size) (h:Aside0 (Below v.heap.size v w)) [x:Ex_ w W]:Aside0 (v.heap.size ≤ g'):=Am10_ (by rw [hg];exact below_size (x.e h.out))
theorem bb_ {w W W':World} {g:Nat} {o:Obj} (h:Aside0 (w.heap[g]?=some o)) (hb:Below W.heap.size W W') [x:Ex_ w W]:Aside0 (W'.heap[g]?=some o):=Am10_ (blk_below (x.k h.out) hb)
theorem bs_ {v w W W':World} (h:Aside0 (Below v.heap.size v w)) (hb:Below W.heap.size W W') [x:Ex_ w W]:Aside0 (Below v.heap.size v W'):=Am10_ (below_step (x.e h.out) hb)
theorem xe_ {v w W:World} (h:Aside0 (Below v.heap.size v w)) [x:Ex_ w W]:Below v.heap.size v W:=x.e h.out
end Y10
open Y10

namespace Y10
abbrev Sa_ := @List.setIfInBounds_toArray
abbrev Sb_ := @List.set_cons_zero
abbrev Sc_ := @List.set_cons_succ
theorem q_ {w W : World} {g : Nat} {t : TypeId} {cs : Array Value} (h : Aside0 (w.heap[g]? = some (.cells cs t (0, 0)))) (i : Nat) {v : Option Value} (e : cs[i]? = v) [x : Ex_ w W] : W.cell? ⟨g, i, none⟩ = v := (blk_cell (x.k h.out) i).trans e
end Y10
open Y10
/-! ### impl_Mod: function 97 -/
def impl_Mod.j0:Nat → Int → Int → Bool → Option (Int)
|0,_,_,_ => none
|k + 1,x0,x1,x11 => if x11=true then (some 0) else (if x1=0 then (none) else (if (Int.tmod x0 x1) < 0 then (some (wrap64 ((Int.tmod x0 x1) + x1))) else (some (Int.tmod x0 x1))))
def impl_Mod.f (k:Nat) (a0:Int) (a1:Int):Option (Int):=if a1 < 1 then (impl_Mod.j0 k a0 a1 true) else (impl_Mod.j0 k a0 a1 (decide (a1 > 1000000000000)))
theorem impl_Mod.mono_l:∀ k,(∀ y0 y1 y2,LeO (impl_Mod.j0 k y0 y1 y2) (impl_Mod.j0 (k + 1) y0 y1 y2))
|0 => fun _ _ _ r h => by simp [impl_Mod.j0] at h
|k + 1 => by
  have ih0:=impl_Mod.mono_l k
  ·intro y0 y1 y2
   unfold impl_Mod.j0
   repeat' first
  |(with_reducible exact ih0 _ _ _)
  |(with_reducible exact LeO.refl _)
  |(with_reducible exact LeO.none _)
  |(with_reducible refine LeO.ite ?_ ?_)
  |(with_reducible refine LeO.bind ?_ (fun _ => ?_))
  |exact ih0 _ _ _
  |exact LeO.none _
  |refine LeO.ite ?_ ?_
  |refine LeO.bind ?_ (fun _ => ?_)
theorem impl_Mod.mono:∀ a0 a1 k,LeO (impl_Mod.f k a0 a1) (impl_Mod.f (k + 1) a0 a1):=by
 intro a0 a1 k;have ih0:=impl_Mod.mono_l k
 unfold impl_Mod.f
 repeat' first
  |(with_reducible exact ih0 _ _ _)
  |(with_reducible exact LeO.refl _)
  |(with_reducible exact LeO.none _)
  |(with_reducible refine LeO.ite ?_ ?_)
  |(with_reducible refine LeO.bind ?_ (fun _ => ?_))
  |exact ih0 _ _ _
  |exact LeO.none _
  |refine LeO.ite ?_ ?_
  |refine LeO.bind ?_ (fun _ => ?_)
set_option maxHeartbeats 8000000 in
set_option maxRecDepth 100000 in
theorem impl_Mod.calls (k:Nat) (a0:Int) (a1:Int) (r:Int) (w:World) (h:impl_Mod.f k a0 a1=some r) :
  Calls Tryd.prog 97 #[.int .i64 a0,.int .i64 a1] w fun e w' => e=.returned (.int .i64 r)∧Drawn0 w w':=by
 have H:=h;unfold impl_Mod.f at H;clear h;have HC3:=Am10_ H;clear H
 go_enter Tryd.func97,Tryd.ntmps97
 go_upto_region 1 with (fail)
 go_cut [11] (fun v11 wc => ∃ (kq:Nat) (x11_2:Bool),v11=.bool x11_2∧Aside0 (impl_Mod.j0 kq a0 a1 x11_2=some r)∧Aside0 (kq ≤ k)∧Drawn0 w wc)
 case first =>
  have H:=HC3.out;clear HC3
  by_cases c4:a1 < 1
  ·rw [if_pos c4] at H
   have c4b0:decide (a1 < 1)=true:=decide_eq_true c4;clear c4
   (first|rw [c4b0]|(simp only [i64_w,i32_w];rw [c4b0])|skip)
   have H':=Am10_ H;clear H
   go_wp2
   go_meet
   case rel => exact ⟨_,(true),(by first|rfl|(simp;done)|(simp [*];done)),H',⟨by first|omega|exact Nat.le_refl _⟩,by repeat (first|exact Drawn0.refl _|apply Drawn0.step)⟩
  ·rw [if_neg c4] at H
   have c4b0:decide (a1 < 1)=false:=decide_eq_false c4;clear c4
   (first|rw [c4b0]|(simp only [i64_w,i32_w];rw [c4b0])|skip)
   have H':=Am10_ H;clear H
   go_wp2
   go_meet
   case rel => exact ⟨_,(decide (a1 > 1000000000000)),(by first|rfl|(simp;done)|(simp [*];done)),H',⟨by first|omega|exact Nat.le_refl _⟩,by repeat (first|exact Drawn0.refl _|apply Drawn0.step)⟩
 case rest =>
  clear HC3
  try clear p2
  try clear c4
  try clear c4b0
  obtain ⟨kq,x11_2,rfl,HA,HJ2,⟨mc2,rfl⟩⟩:=hcut
  cases kq with
 |zero => exact absurd HA.out (by simp [impl_Mod.j0])
 |succ kj2 =>
   have H:=HA.out;clear HA;simp only [impl_Mod.j0] at H
   by_cases c5:x11_2=true
   ·subst c5
    rw [if_pos rfl] at H
    obtain rfl:=Option.some.inj H
    go_wp2
    go_ret
    exact ⟨by first|rfl|(simp;done)|(simp [*];done),by repeat (first|exact Drawn0.refl _|apply Drawn0.step)⟩
   ·replace c5:=Bool.eq_false_iff.mpr c5;subst c5
    rw [if_neg (show ¬ (false=true) by decide)] at H
    by_cases c6:a1=0
    ·rw [if_pos c6] at H
     exact absurd H (by simp)
    ·rw [if_neg c6] at H
     have c6b0:(a1 == 0)=false:=beq_eq_false_iff_ne.mpr c6;have c6b1:(a1 != 0)=true:=bne_iff_ne.mpr c6
     by_cases c7:(Int.tmod a0 a1) < 0
     ·rw [if_pos c7] at H
      have c7b0:decide ((Int.tmod a0 a1) < 0)=true:=decide_eq_true c7;clear c7;obtain rfl:=Option.some.inj H
      go_wp2
      go_ret
      exact ⟨by first|rfl|(simp;done)|(simp [*];done),by repeat (first|exact Drawn0.refl _|apply Drawn0.step)⟩
     ·rw [if_neg c7] at H
      have c7b0:decide ((Int.tmod a0 a1) < 0)=false:=decide_eq_false c7;clear c7;obtain rfl:=Option.some.inj H
      go_wp2
      go_ret
      exact ⟨by first|rfl|(simp;done)|(simp [*];done),by repeat (first|exact Drawn0.refl _|apply Drawn0.step)⟩

/-! ### impl_Hash: function 80 -/
def impl_Hash.l0:Nat → Int → List Int → Int → Int → Option (Int)
|0,_,_,_,_ => none
|k + 1,x3,x6,x7,x8 => if x8 < x7 then (if 0 ≤ x8 then (if x8 < (x6.length:Int) then ((impl_Mod.f k (rd x6 x8) 2147483647).bind fun t292 => (impl_Hash.l0 k (Int.tmod (wrap64 ((wrap64 ((wrap64 (x3 * 1000003)) + t292)) + 13)) 2147483647) x6 x7 (wrap64 (x8 + 1)))) else (none)) else (none)) else (some x3)
def impl_Hash.f (k:Nat) (l0:List Int):Option (Int):=impl_Hash.l0 k 11 l0 (l0.length:Int) 0
theorem impl_Hash.mono_l:∀ k,(∀ y0 y1 y2 y3,LeO (impl_Hash.l0 k y0 y1 y2 y3) (impl_Hash.l0 (k + 1) y0 y1 y2 y3))
|0 => fun _ _ _ _ r h => by simp [impl_Hash.l0] at h
|k + 1 => by
  have ih0:=impl_Hash.mono_l k
  ·intro y0 y1 y2 y3
   unfold impl_Hash.l0
   repeat' first
  |(with_reducible exact ih0 _ _ _ _)
  |(with_reducible exact impl_Mod.mono _ _ _)
  |(with_reducible exact LeO.refl _)
  |(with_reducible exact LeO.none _)
  |(with_reducible refine LeO.ite ?_ ?_)
  |(with_reducible refine LeO.bind ?_ (fun _ => ?_))
  |exact ih0 _ _ _ _
  |exact impl_Mod.mono _ _ _
  |exact LeO.none _
  |refine LeO.ite ?_ ?_
  |refine LeO.bind ?_ (fun _ => ?_)
theorem impl_Hash.mono:∀ a0 k,LeO (impl_Hash.f k a0) (impl_Hash.f (k + 1) a0):=by
 intro a0 k;have ih0:=impl_Hash.mono_l k
 unfold impl_Hash.f
 repeat' first
  |(with_reducible exact ih0 _ _ _ _)
  |(with_reducible exact impl_Mod.mono _ _ _)
  |(with_reducible exact LeO.refl _)
  |(with_reducible exact LeO.none _)
  |(with_reducible refine LeO.ite ?_ ?_)
  |(with_reducible refine LeO.bind ?_ (fun _ => ?_))
  |exact ih0 _ _ _ _
  |exact impl_Mod.mono _ _ _
  |exact LeO.none _
  |refine LeO.ite ?_ ?_
  |refine LeO.bind ?_ (fun _ => ?_)
set_option maxHeartbeats 8000000 in
set_option maxRecDepth 100000 in
theorem impl_Hash.calls (k:Nat) (A0:Option Addr) (c0:Nat) (l0:List Int) (r:Int) (w:World) (hr0:Kd.C (Kd.int .i64) w A0 l0.length l0) (hc0:l0.length ≤ c0) (h:impl_Hash.f k l0=some r) :
  Calls Tryd.prog 80 #[.slice A0 l0.length c0] w fun e w' => e=.returned (.int .i64 r)∧Drawn0 w w':=by
 have HR0:=Am10_ hr0;have HC0:=Am10_ hc0;clear hr0 hc0;have H:(impl_Hash.l0 k 11 l0 (l0.length:Int) 0)=some r:=h;clear h;have H':=Am10_ H;clear H
 go_enter Tryd.func80,Tryd.ntmps80
 go_wp2
 go_loopg [3,8] k (fun kq v3 v8 w' => ∃ (x3_1:Int) (x8_1:Int),v3=.int .i64 x3_1∧v8=.int .i64 x8_1∧Aside0 (impl_Hash.l0 kq x3_1 l0 (l0.length:Int) x8_1=some r)∧Aside0 (kq ≤ k)∧Drawn0 w w')
 case atStart => exact ⟨(11),(0),(by first|rfl|(simp;done)|(simp [*];done)),(by first|rfl|(simp;done)|(simp [*];done)),H',⟨Nat.le_refl _⟩,by repeat (first|exact Drawn0.refl _|apply Drawn0.step)⟩
 case round =>
  clear H';obtain ⟨x3_1,x8_1,rfl,rfl,HA,HK1,⟨m1,rfl⟩⟩:=hrel
  cases gk with
 |zero => exact absurd HA.out (by simp [impl_Hash.l0])
 |succ k1 =>
   have H:=HA.out;clear HA;simp only [impl_Hash.l0] at H
   by_cases c2:x8_1 < (l0.length:Int)
   ·rw [if_pos c2] at H
    have c2b0:decide (x8_1 < (l0.length:Int))=true:=decide_eq_true c2;clear c2
    by_cases c3:0 ≤ x8_1
    ·rw [if_pos c3] at H
     have c3b0:decide (0 ≤ x8_1)=true:=decide_eq_true c3;clear c3
     by_cases c4:x8_1 < (l0.length:Int)
     ·rw [if_pos c4] at H
      have c4b0:decide (x8_1 < (l0.length:Int))=true:=decide_eq_true c4;clear c4;replace H:=Option.bind_eq_some_iff.mp H;obtain ⟨t292,A50,H⟩:=H
      try dsimp only at H
      have A5:=Am10_ A50;clear A50;have H':=Am10_ H;clear H;have p291:0 ≤ (x8_1:Int):=of_decide_eq_true (by first|(with_reducible assumption)|assumption);have q291:x8_1 < (l0.length:Int):=of_decide_eq_true (by first|(with_reducible assumption)|assumption);obtain ⟨ad291,e291,hx291_0⟩:=Kd.at_int HR0.out x8_1 p291 q291
      cases e291
      replace p291:=eq_true p291;replace q291:=eq_true q291
      go_wp2_with (first|((with_reducible refine gate_callee (f:=97) rfl ?_);refine goesL_ (some 15) rfl rfl Tryd.func97 (by kernel_rfl) rfl #[.int .i64 (rd l0 x8_1),.int .i64 2147483647] rfl (by (try simp only [List.map_toArray,List.map_cons,List.map_nil]);first|done|rfl|(simp only [List.length_drop,List.length_take];rfl)) ?_;(with_reducible refine (impl_Mod.calls k1 (rd l0 x8_1) 2147483647 t292 _ A5.out).mono ?_);rintro e w' ⟨rfl,⟨nd,rfl⟩⟩;refine ⟨_,rfl,?_⟩))
      go_roundg k1
      case measure => have:=HK1.out;omega
      case rel => exact ⟨(Int.tmod (wrap64 ((wrap64 ((wrap64 (x3_1 * 1000003)) + t292)) + 13)) 2147483647),(wrap64 (x8_1 + 1)),(by first|rfl|(simp;done)|(simp [*];done)),(by first|rfl|(simp;done)|(simp [*];done)),H',⟨by have:=HK1.out;omega⟩,by repeat (first|exact Drawn0.refl _|apply Drawn0.step)⟩
     ·rw [if_neg c4] at H
      exact absurd H (by simp)
    ·rw [if_neg c3] at H
     exact absurd H (by simp)
   ·rw [if_neg c2] at H
    have c2b0:decide (x8_1 < (l0.length:Int))=false:=decide_eq_false c2;clear c2;obtain rfl:=Option.some.inj H
    go_wp2
    go_ret
    exact ⟨by first|rfl|(simp;done)|(simp [*];done),by repeat (first|exact Drawn0.refl _|apply Drawn0.step)⟩

/-! ### impl_KeyedHash: function 69 -/
def impl_KeyedHash.f (k:Nat) (a0:Int) (l1:List Int):Option (Int):=(impl_joined.f k (([a0]:List Int)) (([l1,(([a0]:List Int))]:List (List Int)))).bind fun t302 => ((impl_Hash.f k t302).bind fun t305 => (some t305))
theorem impl_KeyedHash.mono:∀ a0 a1 k,LeO (impl_KeyedHash.f k a0 a1) (impl_KeyedHash.f (k + 1) a0 a1):=by
 intro a0 a1 k
 unfold impl_KeyedHash.f
 repeat' first
  |(with_reducible exact impl_Hash.mono _ _)
  |(with_reducible exact impl_joined.mono _ _ _)
  |(with_reducible exact LeO.refl _)
  |(with_reducible exact LeO.none _)
  |(with_reducible refine LeO.ite ?_ ?_)
  |(with_reducible refine LeO.bind ?_ (fun _ => ?_))
  |exact impl_Hash.mono _ _
  |exact impl_joined.mono _ _ _
  |exact LeO.none _
  |refine LeO.ite ?_ ?_
  |refine LeO.bind ?_ (fun _ => ?_)
set_option maxHeartbeats 8000000 in
set_option maxRecDepth 100000 in
theorem impl_KeyedHash.calls (k:Nat) (a0:Int) (P1_:Nat → Prop) (A1:Option Addr) (c1:Nat) (l1:List Int) (r:Int) (w:World) (hs1:Kd.V (Kd.int .i64) 3 w w.heap.size (fun k_ => P1_ k_) (.slice A1 l1.length c1) l1) (h:impl_KeyedHash.f k a0 l1=some r) :
  Calls Tryd.prog 69 #[.int .i64 a0,.slice A1 l1.length c1] w fun e w' => e=.returned (.int .i64 r)∧Below w.heap.size w w':=by
 have HO1:=Am10_ (show Kd.V (Kd.int .i64) 3 w w.heap.size (fun k_ => (P1_ k_ ∨ w.heap.size ≤ k_)) (.slice A1 l1.length c1) l1 from Kd.V_mono hs1 (fun k_ hk => .inl hk));have HB:=Am10_ (Below.refl w.heap.size w);have H:=h;unfold impl_KeyedHash.f at H;clear h;obtain ⟨y293,hy293⟩:∃ y_:List Int,y_=(([a0]:List Int)):=⟨_,rfl⟩;replace H:((impl_joined.f k y293 (([l1,(([a0]:List Int))]:List (List Int)))).bind fun t302 => ((impl_Hash.f k t302).bind fun t305 => (some t305)))=some r:=by first|(rw [hy293];with_reducible exact H)|(have H2_:=(Option.bind_some _ _).symm.trans H;rw [hy293];with_reducible exact H2_)|(have H2_:=(Option.bind_some _ _).symm.trans H;with_reducible exact H2_)|with_reducible exact H|(rw [hy293];exact H)|exact H
 have Ny293:=Am10_ hy293;clear hy293;obtain ⟨y296,hy296⟩:∃ y_:List Int,y_=(([a0]:List Int)):=⟨_,rfl⟩;replace H:((impl_joined.f k y293 (([l1,y296]:List (List Int)))).bind fun t302 => ((impl_Hash.f k t302).bind fun t305 => (some t305)))=some r:=by first|(rw [hy296];with_reducible exact H)|(have H2_:=(Option.bind_some _ _).symm.trans H;rw [hy296];with_reducible exact H2_)|(have H2_:=(Option.bind_some _ _).symm.trans H;with_reducible exact H2_)|with_reducible exact H|(rw [hy296];exact H)|exact H
 have Ny296:=Am10_ hy296;clear hy296;obtain ⟨y299,hy299⟩:∃ y_:List (List Int),y_=(([l1,y296]:List (List Int))):=⟨_,rfl⟩;replace H:((impl_joined.f k y293 y299).bind fun t302 => ((impl_Hash.f k t302).bind fun t305 => (some t305)))=some r:=by first|(rw [hy299];with_reducible exact H)|(have H2_:=(Option.bind_some _ _).symm.trans H;rw [hy299];with_reducible exact H2_)|(have H2_:=(Option.bind_some _ _).symm.trans H;with_reducible exact H2_)|with_reducible exact H|(rw [hy299];exact H)|exact H
 have Ny299:=Am10_ hy299;clear hy299;replace H:=Option.bind_eq_some_iff.mp H;obtain ⟨t302,A30,H⟩:=H
 try dsimp only at H
 have A3:=Am10_ A30;clear A30;replace H:=Option.bind_eq_some_iff.mp H;obtain ⟨t305,A40,H⟩:=H
 try dsimp only at H
 have A4:=Am10_ A40;clear A40;obtain rfl:=Option.some.inj H
 go_enter Tryd.func69,Tryd.ntmps69
 go_wp2_with (first|((with_reducible refine gate_dst (N:=6) rfl ?_);refine Kd.R_lit (Kd.int .i64) _ 3 ?hg (N:=6) ?hd (xs:=([a0]:List Int)) (inner:=[.int .i64 a0]) (ok:=fun _ => True) (okp:=fun _ => True) ?hr ?hp (fun _ hk => hk) trivial (Below.refl _ _) (Nat.le_refl _) (by simp) ?_;(case hd => rfl);(case hg => rfl);(case hr => first|(go_simp;done)|(go_simp;rfl));(case hp => exact (Reps.one (show Kd.M (Kd.int .i64) _ _ _ a0 [.int .i64 a0] from rfl) (Reps.none _ _)));intro v294 w5 ho6 hb hg_ hnew_;clear hg_ hnew_;(first|rw [← Ny293.out] at ho6|(simp only [Int.reduceToNat] at ho6;rw [← Ny293.out] at ho6));have n0_:=Am10_ (Kd.V_elder' (by (with_reducible repeat (first|apply Kd.V_alloc|apply Kd.V_drewN|apply Kd.V_drew));exact HO1.out) (Kd.R_base ho6) hb);have n1_:=Am10_ (Kd.R_lower (Kd.R_newM (M:=fun k_ => (w.heap.size ≤ k_)) ho6 (below_size (xe_ HB)) (fun k_ h_ => h_)) (below_size (xe_ HB)));have n2_:=bs_ HB hb;clear HO1;clear HB;have HO1:=n0_;have HO295:=n1_;have HB:=n2_;clear n0_ n1_ n2_;clear hb ho6)|((with_reducible refine gate_dst (N:=9) rfl ?_);refine Kd.R_lit (Kd.int .i64) _ 3 ?hg (N:=9) ?hd (xs:=([a0]:List Int)) (inner:=[.int .i64 a0]) (ok:=fun _ => True) (okp:=fun _ => True) ?hr ?hp (fun _ hk => hk) trivial (Below.refl _ _) (Nat.le_refl _) (by simp) ?_;(case hd => rfl);(case hg => rfl);(case hr => first|(go_simp;done)|(go_simp;rfl));(case hp => exact (Reps.one (show Kd.M (Kd.int .i64) _ _ _ a0 [.int .i64 a0] from rfl) (Reps.none _ _)));intro v297 w7 ho8 hb hg_ hnew_;clear hg_ hnew_;(first|rw [← Ny296.out] at ho8|(simp only [Int.reduceToNat] at ho8;rw [← Ny296.out] at ho8));have n0_:=Am10_ (Kd.V_elder' (by (with_reducible repeat (first|apply Kd.V_alloc|apply Kd.V_drewN|apply Kd.V_drew));exact HO1.out) (Kd.R_base ho8) hb);have n1_:=Am10_ (Kd.R_elder' (by (with_reducible repeat (first|apply Kd.R_alloc|apply Kd.R_drewN|apply Kd.R_drew));exact HO295.out) (Kd.R_base ho8) hb);have n2_:=Am10_ (Kd.R_lower (Kd.R_new' (Kd.R_newM (M:=fun k_ => (w.heap.size ≤ k_)) ho8 (below_size (xe_ HB)) (fun k_ h_ => h_)) (Kd.R_lt (by (with_reducible repeat (first|apply Kd.R_alloc|apply Kd.R_drewN|apply Kd.R_drew));exact HO295.out))) (below_size (xe_ HB)));have n3_:=bs_ HB hb;clear HO1;clear HO295;clear HB;have HO1:=n0_;have HO295:=n1_;have HO298:=n2_;have HB:=n3_;clear n0_ n1_ n2_ n3_;clear hb ho8;obtain ⟨Ao9,co9,eo9⟩:=Kd.R_slice HO298.out;subst eo9)|((with_reducible refine gate_dst (N:=10) rfl ?_);refine Kd.N_lit (Kd.slice 3 (Kd.int .i64)) _ 50 ?hg (N':=10) ?hd (xs:=([l1,y296]:List (List Int))) (inner:=[.slice A1 l1.length c1,.slice Ao9 y296.length co9]) (ok:=(fun k_ => (P1_ k_ ∨ w.heap.size ≤ k_)∧some k_ ≠ (v294:Value).ownBlock)) (okp:=(fun k_ => (P1_ k_ ∨ w.heap.size ≤ k_)∧some k_ ≠ (v294:Value).ownBlock)) ?hr ?hp (fun _ hk => hk) ((show ∀ k_,w7.heap.size ≤ k_ → (fun k_ => (P1_ k_ ∨ w.heap.size ≤ k_)∧some k_ ≠ (v294:Value).ownBlock) k_ from fun k_ hk => ⟨(.inr (Nat.le_trans (below_size (xe_ HB)) hk)),Kd.fresh' (Kd.R_lt (by (with_reducible repeat (first|apply Kd.R_alloc|apply Kd.R_drewN|apply Kd.R_drew));exact HO295.out)) k_ hk⟩) _ (Nat.le_refl _)) (Below.refl _ _) (Nat.le_refl _) (by simp) ?_;(case hd => rfl);(case hg => rfl);(case hr => first|(go_simp;done)|(go_simp;rfl));(case hp => exact (Reps.one (show Kd.FK (Kd.slice 3 (Kd.int .i64)) _ _ l1 [.slice A1 l1.length c1] from (Kd.FK_slice_mk (Kd.V_reads' (Kd.V_mono (ok':=(fun k_ => (P1_ k_ ∨ w.heap.size ≤ k_)∧some k_ ≠ (v294:Value).ownBlock)) (HO1.out) (fun k_ hk => ⟨hk.1.1,hk.1.2⟩))).2.1 (Kd.V_F (Kd.V_mono (ok':=(fun k_ => (P1_ k_ ∨ w.heap.size ≤ k_)∧some k_ ≠ (v294:Value).ownBlock)) (HO1.out) (fun k_ hk => ⟨hk.1.1,hk.1.2⟩))))) (Reps.one (show Kd.FK (Kd.slice 3 (Kd.int .i64)) _ _ y296 [.slice Ao9 y296.length co9] from (Kd.FK_slice_mk (Kd.R_reads' (Kd.R_mono (ok':=(fun k_ => (P1_ k_ ∨ w.heap.size ≤ k_)∧some k_ ≠ (v294:Value).ownBlock)) (HO298.out) (fun k_ hk => ⟨(.inr (hk.1.1)),hk.2⟩))).2.1 (Kd.R_F (Kd.R_mono (ok':=(fun k_ => (P1_ k_ ∨ w.heap.size ≤ k_)∧some k_ ≠ (v294:Value).ownBlock)) (HO298.out) (fun k_ hk => ⟨(.inr (hk.1.1)),hk.2⟩))))) (Reps.none _ _))));intro v300 w10 ho11 hb hg_ hnew_;clear hg_ hnew_;(first|rw [← Ny299.out] at ho11|(simp only [Int.reduceToNat] at ho11;rw [← Ny299.out] at ho11));have n0_:=Am10_ (Kd.V_elder' (by (with_reducible repeat (first|apply Kd.V_alloc|apply Kd.V_drewN|apply Kd.V_drew));exact HO1.out) (Kd.N_base ho11) hb);have n1_:=Am10_ (Kd.R_below (by (with_reducible repeat (first|apply Kd.R_alloc|apply Kd.R_drewN|apply Kd.R_drew));exact HO295.out) hb);have n2_:=Am10_ (Kd.N_lower ho11 (below_size (xe_ HB)));have n3_:=bs_ HB hb;clear HO1;clear HO295;clear HB;clear HO298;have HO1:=n0_;have HO295:=n1_;have HO301:=n2_;have HB:=n3_;clear n0_ n1_ n2_ n3_;clear hb ho11;obtain ⟨Ao12,co12,eo12⟩:=Kd.R_slice HO295.out;subst eo12;obtain ⟨Ao13,co13,eo13⟩:=Kd.N_slice HO301.out;subst eo13)|((with_reducible refine gate_callee (f:=51) rfl ?_);refine goesL_ (some 11) rfl rfl Tryd.func51 (by kernel_rfl) rfl #[.slice Ao12 y293.length co12,.slice Ao13 y299.length co13] rfl (by (try simp only [List.map_toArray,List.map_cons,List.map_nil]);first|done|rfl|(simp only [List.length_drop,List.length_take];rfl)) ?_;(with_reducible refine (impl_joined.calls k _ _ y293 _ _ y299 t302 _ ?side1 ?side2 ?side3 ?side4 A3.out).mono ?_);(case side1 => repeat (first|exact (Kd.R_reads' HO295.out).2.2|(with_reducible refine Kd.C_alloc ?_ _)|(with_reducible refine Kd.C_drewN ?_ _)|(with_reducible refine Kd.C_drew ?_)));(case side2 => exact (Kd.R_reads' HO295.out).2.1);(case side3 => repeat (first|exact (Kd.N_reads' HO301.out).2.2|(with_reducible refine Kd.C_alloc ?_ _)|(with_reducible refine Kd.C_drewN ?_ _)|(with_reducible refine Kd.C_drew ?_)));(case side4 => exact (Kd.N_reads' HO301.out).2.1);rintro e w14 ⟨v303,rfl,ho0,hb⟩;refine ⟨_,rfl,?_⟩;have n0_:=Am10_ (Kd.V_elder' (by (with_reducible repeat (first|apply Kd.V_alloc|apply Kd.V_drewN|apply Kd.V_drew));exact HO1.out) (Kd.R_base ho0) hb);have n1_:=Am10_ (Kd.R_elder' (by (with_reducible repeat (first|apply Kd.R_alloc|apply Kd.R_drewN|apply Kd.R_drew));exact HO295.out) (Kd.R_base ho0) hb);have n2_:=Am10_ (Kd.N_elder' (by (with_reducible repeat (first|apply Kd.N_alloc|apply Kd.N_drewN|apply Kd.N_drew));exact HO301.out) (Kd.R_base ho0) hb);have n3_:=Am10_ (Kd.R_lower (Kd.R_new' (Kd.R_newM (M:=fun k_ => (w.heap.size ≤ k_)) ho0 (below_size (xe_ HB)) (fun k_ h_ => h_)) (Kd.R_lt (by (with_reducible repeat (first|apply Kd.R_alloc|apply Kd.R_drewN|apply Kd.R_drew));exact HO295.out))) (below_size (xe_ HB)));have n4_:=bs_ HB hb;clear HO1;clear HO295;clear HO301;clear HB;have HO1:=n0_;have HO295:=n1_;have HO301:=n2_;have HO304:=n3_;have HB:=n4_;clear n0_ n1_ n2_ n3_ n4_;(try clear hb);(try clear hb2);(try clear hk);(try clear hi);(try clear ho0);obtain ⟨Ao15,co15,eo15⟩:=Kd.R_slice HO304.out;subst eo15)|((with_reducible refine gate_callee (f:=80) rfl ?_);refine goesL_ (some 12) rfl rfl Tryd.func80 (by kernel_rfl) rfl #[.slice Ao15 t302.length co15] rfl (by (try simp only [List.map_toArray,List.map_cons,List.map_nil]);first|done|rfl|(simp only [List.length_drop,List.length_take];rfl)) ?_;(with_reducible refine (impl_Hash.calls k _ _ t302 t305 _ ?side1 ?side2 A4.out).mono ?_);(case side1 => repeat (first|exact (Kd.R_reads' HO304.out).2.2|(with_reducible refine Kd.C_alloc ?_ _)|(with_reducible refine Kd.C_drewN ?_ _)|(with_reducible refine Kd.C_drew ?_)));(case side2 => exact (Kd.R_reads' HO304.out).2.1);rintro e w' ⟨rfl,⟨nd,rfl⟩⟩;refine ⟨_,rfl,?_⟩))
 go_ret
 exact ⟨by first|rfl|(simp [errW_none,errW_some] <;> rfl)|(simp [*,errW_none,errW_some] <;> rfl),by repeat (first|(with_reducible first|exact HB.out|apply below_alloc|apply pw_below_drewN|apply below_drew1)|exact HB.out)⟩

/-! ### impl_SignMessage: function 49 -/
def impl_SignMessage.f (k:Nat) (a0:Int) (l1:List Int):Option (Int):=(impl_IsValidKey.f a0).bind fun t306 => (if t306=true then ((impl_joined.f k (([139,(l1.length:Int)]:List Int)) (([l1]:List (List Int)))).bind fun t313 => ((impl_KeyedHash.f k a0 t313).bind fun t316 => (some t316))) else (some 0))
theorem impl_SignMessage.mono:∀ a0 a1 k,LeO (impl_SignMessage.f k a0 a1) (impl_SignMessage.f (k + 1) a0 a1):=by
 intro a0 a1 k
 unfold impl_SignMessage.f
 repeat' first
  |(with_reducible exact impl_KeyedHash.mono _ _ _)
  |(with_reducible exact impl_joined.mono _ _ _)
  |(with_reducible exact LeO.refl _)
  |(with_reducible exact LeO.none _)
  |(with_reducible refine LeO.ite ?_ ?_)
  |(with_reducible refine LeO.bind ?_ (fun _ => ?_))
  |exact impl_KeyedHash.mono _ _ _
  |exact impl_joined.mono _ _ _
  |exact LeO.none _
  |refine LeO.ite ?_ ?_
  |refine LeO.bind ?_ (fun _ => ?_)
set_option maxHeartbeats 8000000 in
set_option maxRecDepth 100000 in
theorem impl_SignMessage.calls (k:Nat) (a0:Int) (P1_:Nat → Prop) (A1:Option Addr) (c1:Nat) (l1:List Int) (r:Int) (w:World) (hs1:Kd.V (Kd.int .i64) 3 w w.heap.size (fun k_ => P1_ k_) (.slice A1 l1.length c1) l1) (h:impl_SignMessage.f k a0 l1=some r) :
  Calls Tryd.prog 49 #[.int .i64 a0,.slice A1 l1.length c1] w fun e w' => e=.returned (.int .i64 r)∧Below w.heap.size w w':=by
 have HO1:=Am10_ (show Kd.V (Kd.int .i64) 3 w w.heap.size (fun k_ => (P1_ k_ ∨ w.heap.size ≤ k_)) (.slice A1 l1.length c1) l1 from Kd.V_mono hs1 (fun k_ hk => .inl hk));have HB:=Am10_ (Below.refl w.heap.size w);have H:=h;unfold impl_SignMessage.f at H;clear h;replace H:=Option.bind_eq_some_iff.mp H;obtain ⟨t306,A30,H⟩:=H
 try dsimp only at H
 have A3:=Am10_ A30;clear A30
 by_cases c4:t306=true
 ·subst c4
  rw [if_pos rfl] at H
  obtain ⟨y307,hy307⟩:∃ y_:List Int,y_=(([139,(l1.length:Int)]:List Int)):=⟨_,rfl⟩;replace H:((impl_joined.f k y307 (([l1]:List (List Int)))).bind fun t313 => ((impl_KeyedHash.f k a0 t313).bind fun t316 => (some t316)))=some r:=by first|(rw [hy307];with_reducible exact H)|(have H2_:=(Option.bind_some _ _).symm.trans H;rw [hy307];with_reducible exact H2_)|(have H2_:=(Option.bind_some _ _).symm.trans H;with_reducible exact H2_)|with_reducible exact H|(rw [hy307];exact H)|exact H
  have Ny307:=Am10_ hy307;clear hy307;obtain ⟨y310,hy310⟩:∃ y_:List (List Int),y_=(([l1]:List (List Int))):=⟨_,rfl⟩;replace H:((impl_joined.f k y307 y310).bind fun t313 => ((impl_KeyedHash.f k a0 t313).bind fun t316 => (some t316)))=some r:=by first|(rw [hy310];with_reducible exact H)|(have H2_:=(Option.bind_some _ _).symm.trans H;rw [hy310];with_reducible exact H2_)|(have H2_:=(Option.bind_some _ _).symm.trans H;with_reducible exact H2_)|with_reducible exact H|(rw [hy310];exact H)|exact H
  have Ny310:=Am10_ hy310;clear hy310;replace H:=Option.bind_eq_some_iff.mp H;obtain ⟨t313,A50,H⟩:=H
  try dsimp only at H
  have A5:=Am10_ A50;clear A50;replace H:=Option.bind_eq_some_iff.mp H;obtain ⟨t316,A60,H⟩:=H
  try dsimp only at H
  have A6:=Am10_ A60;clear A60;obtain rfl:=Option.some.inj H
  go_enter Tryd.func49,Tryd.ntmps49
  go_wp2_with (first|((with_reducible refine gate_callee (f:=68) rfl ?_);refine goesL_ (some 6) rfl rfl Tryd.func68 (by kernel_rfl) rfl #[.int .i64 a0] rfl (by (try simp only [List.map_toArray,List.map_cons,List.map_nil]);first|done|rfl|(simp only [List.length_drop,List.length_take];rfl)) ?_;(with_reducible refine (impl_IsValidKey.calls a0 true _ A3.out).mono ?_);rintro e w' ⟨rfl,⟨nd,rfl⟩⟩;refine ⟨_,rfl,?_⟩)|((with_reducible refine gate_dst (N:=11) rfl ?_);refine Kd.R_lit (Kd.int .i64) _ 3 ?hg (N:=11) ?hd (xs:=([139,(l1.length:Int)]:List Int)) (inner:=[.int .i64 139,.int .i64 (l1.length:Int)]) (ok:=fun _ => True) (okp:=fun _ => True) ?hr ?hp (fun _ hk => hk) trivial (Below.refl _ _) (Nat.le_refl _) (by simp) ?_;(case hd => rfl);(case hg => rfl);(case hr => first|(go_simp;done)|(go_simp;rfl));(case hp => exact (Reps.one (show Kd.M (Kd.int .i64) _ _ _ 139 [.int .i64 139] from rfl) (Reps.one (show Kd.M (Kd.int .i64) _ _ _ (l1.length:Int) [.int .i64 (l1.length:Int)] from rfl) (Reps.none _ _))));intro v308 w7 ho8 hb hg_ hnew_;clear hg_ hnew_;(first|rw [← Ny307.out] at ho8|(simp only [Int.reduceToNat] at ho8;rw [← Ny307.out] at ho8));have n0_:=Am10_ (Kd.V_elder' (by (with_reducible repeat (first|apply Kd.V_alloc|apply Kd.V_drewN|apply Kd.V_drew));exact HO1.out) (Kd.R_base ho8) hb);have n1_:=Am10_ (Kd.R_lower (Kd.R_newM (M:=fun k_ => (w.heap.size ≤ k_)) ho8 (below_size (xe_ HB)) (fun k_ h_ => h_)) (below_size (xe_ HB)));have n2_:=bs_ HB hb;clear HO1;clear HB;have HO1:=n0_;have HO309:=n1_;have HB:=n2_;clear n0_ n1_ n2_;clear hb ho8)|((with_reducible refine gate_dst (N:=13) rfl ?_);refine Kd.N_lit (Kd.slice 3 (Kd.int .i64)) _ 50 ?hg (N':=13) ?hd (xs:=([l1]:List (List Int))) (inner:=[.slice A1 l1.length c1]) (ok:=(fun k_ => (P1_ k_ ∨ w.heap.size ≤ k_)∧some k_ ≠ (v308:Value).ownBlock)) (okp:=(fun k_ => (P1_ k_ ∨ w.heap.size ≤ k_)∧some k_ ≠ (v308:Value).ownBlock)) ?hr ?hp (fun _ hk => hk) ((show ∀ k_,w7.heap.size ≤ k_ → (fun k_ => (P1_ k_ ∨ w.heap.size ≤ k_)∧some k_ ≠ (v308:Value).ownBlock) k_ from fun k_ hk => ⟨(.inr (Nat.le_trans (below_size (xe_ HB)) hk)),Kd.fresh' (Kd.R_lt (by (with_reducible repeat (first|apply Kd.R_alloc|apply Kd.R_drewN|apply Kd.R_drew));exact HO309.out)) k_ hk⟩) _ (Nat.le_refl _)) (Below.refl _ _) (Nat.le_refl _) (by simp) ?_;(case hd => rfl);(case hg => rfl);(case hr => first|(go_simp;done)|(go_simp;rfl));(case hp => exact (Reps.one (show Kd.FK (Kd.slice 3 (Kd.int .i64)) _ _ l1 [.slice A1 l1.length c1] from (Kd.FK_slice_mk (Kd.V_reads' (Kd.V_mono (ok':=(fun k_ => (P1_ k_ ∨ w.heap.size ≤ k_)∧some k_ ≠ (v308:Value).ownBlock)) (HO1.out) (fun k_ hk => ⟨hk.1,hk.2⟩))).2.1 (Kd.V_F (Kd.V_mono (ok':=(fun k_ => (P1_ k_ ∨ w.heap.size ≤ k_)∧some k_ ≠ (v308:Value).ownBlock)) (HO1.out) (fun k_ hk => ⟨hk.1,hk.2⟩))))) (Reps.none _ _)));intro v311 w9 ho10 hb hg_ hnew_;clear hg_ hnew_;(first|rw [← Ny310.out] at ho10|(simp only [Int.reduceToNat] at ho10;rw [← Ny310.out] at ho10));have n0_:=Am10_ (Kd.V_elder' (by (with_reducible repeat (first|apply Kd.V_alloc|apply Kd.V_drewN|apply Kd.V_drew));exact HO1.out) (Kd.N_base ho10) hb);have n1_:=Am10_ (Kd.R_below (by (with_reducible repeat (first|apply Kd.R_alloc|apply Kd.R_drewN|apply Kd.R_drew));exact HO309.out) hb);have n2_:=Am10_ (Kd.N_lower ho10 (below_size (xe_ HB)));have n3_:=bs_ HB hb;clear HO1;clear HO309;clear HB;have HO1:=n0_;have HO309:=n1_;have HO312:=n2_;have HB:=n3_;clear n0_ n1_ n2_ n3_;clear hb ho10;obtain ⟨Ao11,co11,eo11⟩:=Kd.R_slice HO309.out;subst eo11;obtain ⟨Ao12,co12,eo12⟩:=Kd.N_slice HO312.out;subst eo12)|((with_reducible refine gate_callee (f:=51) rfl ?_);refine goesL_ (some 14) rfl rfl Tryd.func51 (by kernel_rfl) rfl #[.slice Ao11 y307.length co11,.slice Ao12 y310.length co12] rfl (by (try simp only [List.map_toArray,List.map_cons,List.map_nil]);first|done|rfl|(simp only [List.length_drop,List.length_take];rfl)) ?_;(with_reducible refine (impl_joined.calls k _ _ y307 _ _ y310 t313 _ ?side1 ?side2 ?side3 ?side4 A5.out).mono ?_);(case side1 => repeat (first|exact (Kd.R_reads' HO309.out).2.2|(with_reducible refine Kd.C_alloc ?_ _)|(with_reducible refine Kd.C_drewN ?_ _)|(with_reducible refine Kd.C_drew ?_)));(case side2 => exact (Kd.R_reads' HO309.out).2.1);(case side3 => repeat (first|exact (Kd.N_reads' HO312.out).2.2|(with_reducible refine Kd.C_alloc ?_ _)|(with_reducible refine Kd.C_drewN ?_ _)|(with_reducible refine Kd.C_drew ?_)));(case side4 => exact (Kd.N_reads' HO312.out).2.1);rintro e w13 ⟨v314,rfl,ho0,hb⟩;refine ⟨_,rfl,?_⟩;have n0_:=Am10_ (Kd.V_elder' (by (with_reducible repeat (first|apply Kd.V_alloc|apply Kd.V_drewN|apply Kd.V_drew));exact HO1.out) (Kd.R_base ho0) hb);have n1_:=Am10_ (Kd.R_elder' (by (with_reducible repeat (first|apply Kd.R_alloc|apply Kd.R_drewN|apply Kd.R_drew));exact HO309.out) (Kd.R_base ho0) hb);have n2_:=Am10_ (Kd.N_elder' (by (with_reducible repeat (first|apply Kd.N_alloc|apply Kd.N_drewN|apply Kd.N_drew));exact HO312.out) (Kd.R_base ho0) hb);have n3_:=Am10_ (Kd.R_lower (Kd.R_new' (Kd.R_newM (M:=fun k_ => (w.heap.size ≤ k_)) ho0 (below_size (xe_ HB)) (fun k_ h_ => h_)) (Kd.R_lt (by (with_reducible repeat (first|apply Kd.R_alloc|apply Kd.R_drewN|apply Kd.R_drew));exact HO309.out))) (below_size (xe_ HB)));have n4_:=bs_ HB hb;clear HO1;clear HO309;clear HO312;clear HB;have HO1:=n0_;have HO309:=n1_;have HO312:=n2_;have HO315:=n3_;have HB:=n4_;clear n0_ n1_ n2_ n3_ n4_;(try clear hb);(try clear hb2);(try clear hk);(try clear hi);(try clear ho0);obtain ⟨Ao14,co14,eo14⟩:=Kd.R_slice HO315.out;subst eo14)|((with_reducible refine gate_callee (f:=69) rfl ?_);refine goesL_ (some 15) rfl rfl Tryd.func69 (by kernel_rfl) rfl #[.int .i64 a0,.slice Ao14 t313.length co14] rfl (by (try simp only [List.map_toArray,List.map_cons,List.map_nil]);first|done|rfl|(simp only [List.length_drop,List.length_take];rfl)) ?_;(with_reducible refine (impl_KeyedHash.calls k a0 (fun k_ => some k_=(.slice Ao14 t313.length co14:Value).ownBlock) _ _ t313 t316 _ ?side1 A6.out).mono ?_);(case side1 => exact Kd.R_V (Kd.R_tight rfl (Kd.R_apart' (HO315.out) (Kd.N_typed HO312.out) (by decide))));rintro e w15 ⟨rfl,hb⟩;refine ⟨_,rfl,?_⟩;have n0_:=Am10_ (Kd.V_below (by (with_reducible repeat (first|apply Kd.V_alloc|apply Kd.V_drewN|apply Kd.V_drew));exact HO1.out) hb);have n1_:=Am10_ (Kd.R_below (by (with_reducible repeat (first|apply Kd.R_alloc|apply Kd.R_drewN|apply Kd.R_drew));exact HO309.out) hb);have n2_:=Am10_ (Kd.N_below (by (with_reducible repeat (first|apply Kd.N_alloc|apply Kd.N_drewN|apply Kd.N_drew));exact HO312.out) hb);have n3_:=Am10_ (Kd.R_below (by (with_reducible repeat (first|apply Kd.R_alloc|apply Kd.R_drewN|apply Kd.R_drew));exact HO315.out) hb);have n4_:=bs_ HB hb;clear HO1;clear HO309;clear HO312;clear HO315;clear HB;have HO1:=n0_;have HO309:=n1_;have HO312:=n2_;have HO315:=n3_;have HB:=n4_;clear n0_ n1_ n2_ n3_ n4_;(try clear hb);(try clear hb2);(try clear hk);(try clear hi)))
  go_ret
  exact ⟨by first|rfl|(simp [errW_none,errW_some] <;> rfl)|(simp [*,errW_none,errW_some] <;> rfl),by repeat (first|(with_reducible first|exact HB.out|apply below_alloc|apply pw_below_drewN|apply below_drew1)|exact HB.out)⟩
 ·replace c4:=Bool.eq_false_iff.mpr c4;subst c4
  rw [if_neg (show ¬ (false=true) by decide)] at H
  obtain rfl:=Option.some.inj H
  go_enter Tryd.func49,Tryd.ntmps49
  go_wp2_with (first|((with_reducible refine gate_callee (f:=68) rfl ?_);refine goesL_ (some 6) rfl rfl Tryd.func68 (by kernel_rfl) rfl #[.int .i64 a0] rfl (by (try simp only [List.map_toArray,List.map_cons,List.map_nil]);first|done|rfl|(simp only [List.length_drop,List.length_take];rfl)) ?_;(with_reducible refine (impl_IsValidKey.calls a0 false _ A3.out).mono ?_);rintro e w' ⟨rfl,⟨nd,rfl⟩⟩;refine ⟨_,rfl,?_⟩))
  go_ret
  exact ⟨by first|rfl|(simp [errW_none,errW_some] <;> rfl)|(simp [*,errW_none,errW_some] <;> rfl),by repeat (first|(with_reducible first|exact HB.out|apply below_alloc|apply pw_below_drewN|apply below_drew1)|exact HB.out)⟩

/-! ### impl_orOne: function 71 -/
def impl_orOne.f (a0:Int):Option (Int):=if a0=0 then (some 1) else (some a0)
set_option maxHeartbeats 8000000 in
set_option maxRecDepth 100000 in
theorem impl_orOne.calls (a0:Int) (r:Int) (w:World) (h:impl_orOne.f a0=some r) :
  Calls Tryd.prog 71 #[.int .i64 a0] w fun e w' => e=.returned (.int .i64 r)∧Drawn0 w w':=by
 have H:(if a0=0 then (some 1) else (some a0))=some r:=h;clear h
 by_cases c2:a0=0
 ·rw [if_pos c2] at H
  have c2b0:(a0 == 0)=true:=beq_iff_eq.mpr c2;have c2b1:(a0 != 0)=false:=bne_eq_false_iff_eq.mpr c2;clear c2;obtain rfl:=Option.some.inj H
  go_enter Tryd.func71,Tryd.ntmps71
  go_wp2
  go_ret
  exact ⟨by first|rfl|(simp;done)|(simp [*];done),by repeat (first|exact Drawn0.refl _|apply Drawn0.step)⟩
 ·rw [if_neg c2] at H
  have c2b0:(a0 == 0)=false:=beq_eq_false_iff_ne.mpr c2;have c2b1:(a0 != 0)=true:=bne_iff_ne.mpr c2;obtain rfl:=Option.some.inj H
  go_enter Tryd.func71,Tryd.ntmps71
  go_wp2
  go_ret
  exact ⟨by first|rfl|(simp;done)|(simp [*];done),by repeat (first|exact Drawn0.refl _|apply Drawn0.step)⟩

/-! ### impl_BytesToInts: function 72 -/
def impl_BytesToInts.l0:Nat → List Int → List Int → Int → Int → Option (List Int)
|0,_,_,_,_ => none
|k + 1,x3,x9,x10,x11 => if x11 < x10 then (if 0 ≤ x11 then (if x11 < (x9.length:Int) then (if x3.length < 17592186044416 then (impl_BytesToInts.l0 k (x3 ++ [wrap64 (rd x9 x11)]) x9 x10 (wrap64 (x11 + 1))) else (none)) else (none)) else (none)) else (some x3)
def impl_BytesToInts.f (k:Nat) (l0:List Int):Option (List Int):=impl_BytesToInts.l0 k (([(l0.length:Int)]:List Int)) l0 (l0.length:Int) 0
theorem impl_BytesToInts.mono_l:∀ k,(∀ y0 y1 y2 y3,LeO (impl_BytesToInts.l0 k y0 y1 y2 y3) (impl_BytesToInts.l0 (k + 1) y0 y1 y2 y3))
|0 => fun _ _ _ _ r h => by simp [impl_BytesToInts.l0] at h
|k + 1 => by
  have ih0:=impl_BytesToInts.mono_l k
  ·intro y0 y1 y2 y3
   unfold impl_BytesToInts.l0
   repeat' first
  |(with_reducible exact ih0 _ _ _ _)
  |(with_reducible exact LeO.refl _)
  |(with_reducible exact LeO.none _)
  |(with_reducible refine LeO.ite ?_ ?_)
  |(with_reducible refine LeO.bind ?_ (fun _ => ?_))
  |exact ih0 _ _ _ _
  |exact LeO.none _
  |refine LeO.ite ?_ ?_
  |refine LeO.bind ?_ (fun _ => ?_)
theorem impl_BytesToInts.mono:∀ a0 k,LeO (impl_BytesToInts.f k a0) (impl_BytesToInts.f (k + 1) a0):=by
 intro a0 k;have ih0:=impl_BytesToInts.mono_l k
 unfold impl_BytesToInts.f
 repeat' first
  |(with_reducible exact ih0 _ _ _ _)
  |(with_reducible exact LeO.refl _)
  |(with_reducible exact LeO.none _)
  |(with_reducible refine LeO.ite ?_ ?_)
  |(with_reducible refine LeO.bind ?_ (fun _ => ?_))
  |exact ih0 _ _ _ _
  |exact LeO.none _
  |refine LeO.ite ?_ ?_
  |refine LeO.bind ?_ (fun _ => ?_)
set_option maxHeartbeats 8000000 in
set_option maxRecDepth 100000 in
theorem impl_BytesToInts.calls (k:Nat) (A0:Option Addr) (c0:Nat) (l0:List Int) (r:List Int) (w:World) (hr0:Kd.C (Kd.int .u8) w A0 l0.length l0) (hc0:l0.length ≤ c0) (h:impl_BytesToInts.f k l0=some r) :
  Calls Tryd.prog 72 #[.slice A0 l0.length c0] w fun e w' => ∃ v0_:Value,e=.returned (v0_)∧Kd.R (Kd.int .i64) 3 w' w.heap.size (fun _ => True) v0_ r∧Below w.heap.size w w':=by
 have HR0:=Am10_ hr0;have HC0:=Am10_ hc0;clear hr0 hc0;have HB:=Am10_ (Below.refl w.heap.size w);have H:(impl_BytesToInts.l0 k (([(l0.length:Int)]:List Int)) l0 (l0.length:Int) 0)=some r:=h;clear h;obtain ⟨y317,hy317⟩:∃ y_:List Int,y_=(([(l0.length:Int)]:List Int)):=⟨_,rfl⟩;replace H:(impl_BytesToInts.l0 k y317 l0 (l0.length:Int) 0)=some r:=by first|(rw [hy317];with_reducible exact H)|(have H2_:=(Option.bind_some _ _).symm.trans H;rw [hy317];with_reducible exact H2_)|(have H2_:=(Option.bind_some _ _).symm.trans H;with_reducible exact H2_)|with_reducible exact H|(rw [hy317];exact H)|exact H
 have Ny317:=Am10_ hy317;clear hy317;have H':=Am10_ H;clear H
 go_enter Tryd.func72,Tryd.ntmps72
 go_wp2_with (first|((with_reducible refine gate_dst (N:=8) rfl ?_);refine Kd.R_lit (Kd.int .i64) _ 3 ?hg (N:=8) ?hd (xs:=([(l0.length:Int)]:List Int)) (inner:=[.int .i64 (l0.length:Int)]) (ok:=fun _ => True) (okp:=fun _ => True) ?hr ?hp (fun _ hk => hk) trivial (Below.refl _ _) (Nat.le_refl _) (by simp) ?_;(case hd => rfl);(case hg => rfl);(case hr => first|(go_simp;done)|(go_simp;rfl));(case hp => exact (Reps.one (show Kd.M (Kd.int .i64) _ _ _ (l0.length:Int) [.int .i64 (l0.length:Int)] from rfl) (Reps.none _ _)));intro v318 w2 ho3 hb hg_ hnew_;clear hg_ hnew_;(first|rw [← Ny317.out] at ho3|(simp only [Int.reduceToNat] at ho3;rw [← Ny317.out] at ho3));have n0_:=Am10_ (Kd.R_lower ho3 (below_size (xe_ HB)));have n1_:=bs_ HB hb;clear HB;have HO319:=n0_;have HB:=n1_;clear n0_ n1_;clear hb ho3))
 go_loopg [3,11] k (fun kq v3 v11 w' => ∃ (x3_1:List Int) (x11_1:Int),v11=.int .i64 x11_1∧Aside0 (impl_BytesToInts.l0 kq x3_1 l0 (l0.length:Int) x11_1=some r)∧Aside0 (kq ≤ k)∧Aside0 (Kd.R (Kd.int .i64) 3 w' w.heap.size (fun _ => True) v3 x3_1)∧Aside0 (Below w.heap.size w w'))
 case atStart => exact ⟨(y317),(0),(by first|rfl|(simp;done)|(simp [*];done)),H',⟨Nat.le_refl _⟩,⟨by (with_reducible repeat (first|apply Kd.R_alloc|apply Kd.R_drewN|apply Kd.R_drew));exact HO319.out⟩,⟨by repeat (first|(with_reducible first|exact HB.out|apply below_alloc|apply pw_below_drewN|apply below_drew1)|exact HB.out)⟩⟩
 case round =>
  clear H'
  try clear p2
  obtain ⟨x3_1,x11_1,rfl,HA,HK1,HO_3,HB⟩:=hrel
  cases gk with
 |zero => exact absurd HA.out (by simp [impl_BytesToInts.l0])
 |succ k1 =>
   have H:=HA.out;clear HA;simp only [impl_BytesToInts.l0] at H
   by_cases c4:x11_1 < (l0.length:Int)
   ·rw [if_pos c4] at H
    have c4b0:decide (x11_1 < (l0.length:Int))=true:=decide_eq_true c4;clear c4
    by_cases c5:0 ≤ x11_1
    ·rw [if_pos c5] at H
     have c5b0:decide (0 ≤ x11_1)=true:=decide_eq_true c5;clear c5
     by_cases c6:x11_1 < (l0.length:Int)
     ·rw [if_pos c6] at H
      have c6b0:decide (x11_1 < (l0.length:Int))=true:=decide_eq_true c6;clear c6
      by_cases c7:x3_1.length < 17592186044416
      ·rw [if_pos c7] at H
       have LMc7:=Am10_ c7;clear c7;obtain ⟨y321,hy321⟩:∃ y_:List Int,y_=(x3_1 ++ [wrap64 (rd l0 x11_1)]):=⟨_,rfl⟩;replace H:(impl_BytesToInts.l0 k1 y321 l0 (l0.length:Int) (wrap64 (x11_1 + 1)))=some r:=by first|(rw [hy321];with_reducible exact H)|(have H2_:=(Option.bind_some _ _).symm.trans H;rw [hy321];with_reducible exact H2_)|(have H2_:=(Option.bind_some _ _).symm.trans H;with_reducible exact H2_)|with_reducible exact H|(rw [hy321];exact H)|exact H
       have Ny321:=Am10_ hy321;clear hy321;have H':=Am10_ H;clear H;have p320:0 ≤ (x11_1:Int):=of_decide_eq_true (by first|(with_reducible assumption)|assumption);have q320:x11_1 < (l0.length:Int):=of_decide_eq_true (by first|(with_reducible assumption)|assumption);obtain ⟨ad320,e320,hx320_0⟩:=Kd.at_int HR0.out x11_1 p320 q320
       cases e320
       replace hx320_0:=(HB.out.cell (World.block_lt_of_cell? w _ hx320_0)).trans hx320_0;replace p320:=eq_true p320;replace q320:=eq_true q320
       go_wp2_with (first|((with_reducible refine gate_builtin (b:=.append) (xs:=#[.tmp 15,.tmp 18]) rfl ?_);at_builtin;refine Kd.R_append (Kd.int .i64) (w0:=w) w.heap.size rfl (.tmp 15) (.tmp 18) 50 3 (.int .i64 0) 8 rfl Tryd.underlying50 info3 rfl (by decide) (by omega) u3 x3_1 (wrap64 (rd l0 x11_1)) [.int .i64 (wrap64 (rd l0 x11_1))] (fun _ => True) (fun _ => False) rfl rfl ?aP (fun _ hk => hk.elim) ?aF ?aO ?aB ?aS ?aL ?_;(case aP => exact rfl);(case aB => exact (xe_ HB));(case aF => exact (fun _ _ => trivial));(case aO => exact (by (with_reducible repeat (first|apply Kd.R_alloc|apply Kd.R_drewN|apply Kd.R_drew));exact HO_3.out));(case aS => exact (below_size (xe_ HB)));(case aL => have:=LMc7.out;omega);intro v322 w8 ho hb hg hat;rw [← Ny321.out] at ho;have n0_:=Am10_ (hb);have n1_:=Am10_ (ho);clear HB;clear HO_3;have HB:=n0_;have HO323:=n1_;clear n0_ n1_;clear ho hb hg hat))
       go_roundg k1
       case measure => have:=HK1.out;omega
       case rel => exact ⟨(y321),(wrap64 (x11_1 + 1)),(by first|rfl|(simp;done)|(simp [*];done)),H',⟨by have:=HK1.out;omega⟩,⟨by (with_reducible repeat (first|apply Kd.R_alloc|apply Kd.R_drewN|apply Kd.R_drew));exact HO323.out⟩,⟨by repeat (first|(with_reducible first|exact HB.out|apply below_alloc|apply pw_below_drewN|apply below_drew1)|exact HB.out)⟩⟩
      ·rw [if_neg c7] at H
       exact absurd H (by simp)
     ·rw [if_neg c6] at H
      exact absurd H (by simp)
    ·rw [if_neg c5] at H
     exact absurd H (by simp)
   ·rw [if_neg c4] at H
    have c4b0:decide (x11_1 < (l0.length:Int))=false:=decide_eq_false c4;clear c4;obtain rfl:=Option.some.inj H
    go_wp2
    go_ret
    exact ⟨_,by first|rfl|(simp [errW_none,errW_some] <;> rfl)|(simp [*,errW_none,errW_some] <;> rfl),by (with_reducible repeat (first|apply Kd.R_alloc|apply Kd.R_drewN|apply Kd.R_drew));exact HO_3.out,by repeat (first|(with_reducible first|exact HB.out|apply below_alloc|apply pw_below_drewN|apply below_drew1)|exact HB.out)⟩


/-! ### impl_DeriveFromString: function 53 -/
def impl_DeriveFromString.f (k:Nat) (a0:Int) (a1:ByteArray):Option (Int):=if a1.size < 17592186044416 then ((impl_BytesToInts.f k (bytesOf a1)).bind fun t => ((impl_KeyedHash.f k a0 t).bind fun u => ((impl_orOne.f u).bind fun v => (some v)))) else none
theorem impl_DeriveFromString.mono:∀ a0 a1 k,LeO (impl_DeriveFromString.f k a0 a1) (impl_DeriveFromString.f (k + 1) a0 a1):=by
 intro a0 a1 k
 unfold impl_DeriveFromString.f;exact LeO.ite (LeO.bind (impl_BytesToInts.mono _ _) (fun _ => LeO.bind (impl_KeyedHash.mono _ _ _) (fun _ => LeO.refl _))) (LeO.refl _)
set_option maxHeartbeats 800000 in
theorem impl_DeriveFromString.calls (k:Nat) (a0:Int) (a1:ByteArray) (r:Int) (w:World) (h:impl_DeriveFromString.f k a0 a1=some r) :
  Calls Tryd.prog 53 #[.int .i64 a0,.string a1] w fun e w' => e=.returned (.int .i64 r)∧Below w.heap.size w w':=by
 unfold impl_DeriveFromString.f at h
 by_cases hs:a1.size < 17592186044416
 case neg => rw [if_neg hs] at h;cases h
 rw [if_pos hs] at h
 obtain ⟨t,ht,h⟩:=Option.bind_eq_some_iff.1 h;obtain ⟨u,hu,h⟩:=Option.bind_eq_some_iff.1 h;obtain ⟨v,hv,h⟩:=Option.bind_eq_some_iff.1 h;obtain rfl:v=r:=by simpa using h
 clear h;have HU:=Am10_ hu;have HV:=Am10_ hv;have hcap:(bytesOf a1).length ≤ grownCap w a1.size 0 5:=by rw [bytesOf_length];exact grownCap_ge _ _ _ _
 have C1:=impl_BytesToInts.calls k _ _ (bytesOf a1) t _ (Man.bytes_C w 5 a1 hs) hcap ht;rw [bytesOf_length] at C1;have HC:=Am10_ C1;have HB0:=Am10_ (Man.bytes_below w 5 a1);clear hu hv ht C1 hcap hs;have hcv:=fun W:World => Lib.run_convert_string_bytes (P:=Tryd.prog) W 9 60 5 a1 Tryd.underlying9 Tryd.underlying60 Tryd.underlying5
 go_enter Tryd.func53,Tryd.ntmps53
 go_wp2_with fail
 refine HC.out.mono ?_;rintro e w1 ⟨v0,rfl,hR,hb⟩;obtain ⟨A,c,rfl⟩:=Kd.R_slice hR;have HR:=Am10_ hR;have HB1:=Am10_ (below_step HB0.out hb);clear hR hb
 go_wp2_with fail
 refine (impl_KeyedHash.calls k a0 (fun _ => True) A c t u w1 (Kd.R_V HR.out) HU.out).mono ?_;rintro e w2 ⟨rfl,hb⟩;have HB2:=Am10_ (below_step HB1.out hb);clear hb
 go_wp2_with fail
 refine (impl_orOne.calls u v w2 HV.out).mono ?_;rintro e w3 ⟨rfl,hb⟩;have HB3:=Am10_ (below_step HB2.out hb.below);clear hb
 go_wp2_with fail
 go_ret
 exact ⟨rfl,HB3.out⟩

/-! ### impl_SiteHash: function 52 -/
def impl_SiteHash.f (k:Nat) (a0:ByteArray):Option (Int):=(impl_DeriveFromString.f k 173 a0).bind fun t324 => (some t324)
theorem impl_SiteHash.mono:∀ a0 k,LeO (impl_SiteHash.f k a0) (impl_SiteHash.f (k + 1) a0):=by
 intro a0 k
 unfold impl_SiteHash.f
 repeat' first
  |(with_reducible exact impl_DeriveFromString.mono _ _ _)
  |(with_reducible exact LeO.refl _)
  |(with_reducible exact LeO.none _)
  |(with_reducible refine LeO.ite ?_ ?_)
  |(with_reducible refine LeO.bind ?_ (fun _ => ?_))
  |exact impl_DeriveFromString.mono _ _ _
  |exact LeO.none _
  |refine LeO.ite ?_ ?_
  |refine LeO.bind ?_ (fun _ => ?_)
set_option maxHeartbeats 8000000 in
set_option maxRecDepth 100000 in
theorem impl_SiteHash.calls (k:Nat) (a0:ByteArray) (r:Int) (w:World) (h:impl_SiteHash.f k a0=some r) :
  Calls Tryd.prog 52 #[.string a0] w fun e w' => e=.returned (.int .i64 r)∧Below w.heap.size w w':=by
 have HB:=Am10_ (Below.refl w.heap.size w);have H:((impl_DeriveFromString.f k 173 a0).bind fun t324 => (some t324))=some r:=h;clear h;replace H:=Option.bind_eq_some_iff.mp H;obtain ⟨t324,A20,H⟩:=H
 try dsimp only at H
 have A2:=Am10_ A20;clear A20;obtain rfl:=Option.some.inj H
 go_enter Tryd.func52,Tryd.ntmps52
 go_wp2_with (first|((with_reducible refine gate_callee (f:=53) rfl ?_);refine goesL_ (some 4) rfl rfl Tryd.func53 (by kernel_rfl) rfl #[.int .i64 173,.string a0] rfl (by (try simp only [List.map_toArray,List.map_cons,List.map_nil]);first|done|rfl|(simp only [List.length_drop,List.length_take];rfl)) ?_;(with_reducible refine (impl_DeriveFromString.calls k 173 a0 t324 _ A2.out).mono ?_);rintro e w3 ⟨rfl,hb⟩;refine ⟨_,rfl,?_⟩;have n0_:=bs_ HB hb;clear HB;have HB:=n0_;clear n0_;(try clear hb);(try clear hb2);(try clear hk);(try clear hi)))
 go_ret
 exact ⟨by first|rfl|(simp [errW_none,errW_some] <;> rfl)|(simp [*,errW_none,errW_some] <;> rfl),by repeat (first|(with_reducible first|exact HB.out|apply below_alloc|apply pw_below_drewN|apply below_drew1)|exact HB.out)⟩

/-! ### impl_DeriveKey: function 70 -/
def impl_DeriveKey.f (k:Nat) (a0:Int) (l1:List Int):Option (Int):=(impl_joined.f k (([151]:List Int)) (([l1]:List (List Int)))).bind fun t331 => ((impl_KeyedHash.f k a0 t331).bind fun t334 => ((impl_orOne.f t334).bind fun t335 => (some t335)))
theorem impl_DeriveKey.mono:∀ a0 a1 k,LeO (impl_DeriveKey.f k a0 a1) (impl_DeriveKey.f (k + 1) a0 a1):=by
 intro a0 a1 k
 unfold impl_DeriveKey.f
 repeat' first
  |(with_reducible exact impl_KeyedHash.mono _ _ _)
  |(with_reducible exact impl_joined.mono _ _ _)
  |(with_reducible exact LeO.refl _)
  |(with_reducible exact LeO.none _)
  |(with_reducible refine LeO.ite ?_ ?_)
  |(with_reducible refine LeO.bind ?_ (fun _ => ?_))
  |exact impl_KeyedHash.mono _ _ _
  |exact impl_joined.mono _ _ _
  |exact LeO.none _
  |refine LeO.ite ?_ ?_
  |refine LeO.bind ?_ (fun _ => ?_)
set_option maxHeartbeats 8000000 in
set_option maxRecDepth 100000 in
theorem impl_DeriveKey.calls (k:Nat) (a0:Int) (P1_:Nat → Prop) (A1:Option Addr) (c1:Nat) (l1:List Int) (r:Int) (w:World) (hs1:Kd.V (Kd.int .i64) 3 w w.heap.size (fun k_ => P1_ k_) (.slice A1 l1.length c1) l1) (h:impl_DeriveKey.f k a0 l1=some r) :
  Calls Tryd.prog 70 #[.int .i64 a0,.slice A1 l1.length c1] w fun e w' => e=.returned (.int .i64 r)∧Below w.heap.size w w':=by
 have HO1:=Am10_ (show Kd.V (Kd.int .i64) 3 w w.heap.size (fun k_ => (P1_ k_ ∨ w.heap.size ≤ k_)) (.slice A1 l1.length c1) l1 from Kd.V_mono hs1 (fun k_ hk => .inl hk));have HB:=Am10_ (Below.refl w.heap.size w);have H:=h;unfold impl_DeriveKey.f at H;clear h;obtain ⟨y325,hy325⟩:∃ y_:List Int,y_=(([151]:List Int)):=⟨_,rfl⟩;replace H:((impl_joined.f k y325 (([l1]:List (List Int)))).bind fun t331 => ((impl_KeyedHash.f k a0 t331).bind fun t334 => ((impl_orOne.f t334).bind fun t335 => (some t335))))=some r:=by first|(rw [hy325];with_reducible exact H)|(have H2_:=(Option.bind_some _ _).symm.trans H;rw [hy325];with_reducible exact H2_)|(have H2_:=(Option.bind_some _ _).symm.trans H;with_reducible exact H2_)|with_reducible exact H|(rw [hy325];exact H)|exact H
 have Ny325:=Am10_ hy325;clear hy325;obtain ⟨y328,hy328⟩:∃ y_:List (List Int),y_=(([l1]:List (List Int))):=⟨_,rfl⟩;replace H:((impl_joined.f k y325 y328).bind fun t331 => ((impl_KeyedHash.f k a0 t331).bind fun t334 => ((impl_orOne.f t334).bind fun t335 => (some t335))))=some r:=by first|(rw [hy328];with_reducible exact H)|(have H2_:=(Option.bind_some _ _).symm.trans H;rw [hy328];with_reducible exact H2_)|(have H2_:=(Option.bind_some _ _).symm.trans H;with_reducible exact H2_)|with_reducible exact H|(rw [hy328];exact H)|exact H
 have Ny328:=Am10_ hy328;clear hy328;replace H:=Option.bind_eq_some_iff.mp H;obtain ⟨t331,A30,H⟩:=H
 try dsimp only at H
 have A3:=Am10_ A30;clear A30;replace H:=Option.bind_eq_some_iff.mp H;obtain ⟨t334,A40,H⟩:=H
 try dsimp only at H
 have A4:=Am10_ A40;clear A40;replace H:=Option.bind_eq_some_iff.mp H;obtain ⟨t335,A50,H⟩:=H
 try dsimp only at H
 have A5:=Am10_ A50;clear A50;obtain rfl:=Option.some.inj H
 go_enter Tryd.func70,Tryd.ntmps70
 go_wp2_with (first|((with_reducible refine gate_dst (N:=6) rfl ?_);refine Kd.R_lit (Kd.int .i64) _ 3 ?hg (N:=6) ?hd (xs:=([151]:List Int)) (inner:=[.int .i64 151]) (ok:=fun _ => True) (okp:=fun _ => True) ?hr ?hp (fun _ hk => hk) trivial (Below.refl _ _) (Nat.le_refl _) (by simp) ?_;(case hd => rfl);(case hg => rfl);(case hr => first|(go_simp;done)|(go_simp;rfl));(case hp => exact (Reps.one (show Kd.M (Kd.int .i64) _ _ _ 151 [.int .i64 151] from rfl) (Reps.none _ _)));intro v326 w6 ho7 hb hg_ hnew_;clear hg_ hnew_;(first|rw [← Ny325.out] at ho7|(simp only [Int.reduceToNat] at ho7;rw [← Ny325.out] at ho7));have n0_:=Am10_ (Kd.V_elder' (by (with_reducible repeat (first|apply Kd.V_alloc|apply Kd.V_drewN|apply Kd.V_drew));exact HO1.out) (Kd.R_base ho7) hb);have n1_:=Am10_ (Kd.R_lower (Kd.R_newM (M:=fun k_ => (w.heap.size ≤ k_)) ho7 (below_size (xe_ HB)) (fun k_ h_ => h_)) (below_size (xe_ HB)));have n2_:=bs_ HB hb;clear HO1;clear HB;have HO1:=n0_;have HO327:=n1_;have HB:=n2_;clear n0_ n1_ n2_;clear hb ho7)|((with_reducible refine gate_dst (N:=8) rfl ?_);refine Kd.N_lit (Kd.slice 3 (Kd.int .i64)) _ 50 ?hg (N':=8) ?hd (xs:=([l1]:List (List Int))) (inner:=[.slice A1 l1.length c1]) (ok:=(fun k_ => (P1_ k_ ∨ w.heap.size ≤ k_)∧some k_ ≠ (v326:Value).ownBlock)) (okp:=(fun k_ => (P1_ k_ ∨ w.heap.size ≤ k_)∧some k_ ≠ (v326:Value).ownBlock)) ?hr ?hp (fun _ hk => hk) ((show ∀ k_,w6.heap.size ≤ k_ → (fun k_ => (P1_ k_ ∨ w.heap.size ≤ k_)∧some k_ ≠ (v326:Value).ownBlock) k_ from fun k_ hk => ⟨(.inr (Nat.le_trans (below_size (xe_ HB)) hk)),Kd.fresh' (Kd.R_lt (by (with_reducible repeat (first|apply Kd.R_alloc|apply Kd.R_drewN|apply Kd.R_drew));exact HO327.out)) k_ hk⟩) _ (Nat.le_refl _)) (Below.refl _ _) (Nat.le_refl _) (by simp) ?_;(case hd => rfl);(case hg => rfl);(case hr => first|(go_simp;done)|(go_simp;rfl));(case hp => exact (Reps.one (show Kd.FK (Kd.slice 3 (Kd.int .i64)) _ _ l1 [.slice A1 l1.length c1] from (Kd.FK_slice_mk (Kd.V_reads' (Kd.V_mono (ok':=(fun k_ => (P1_ k_ ∨ w.heap.size ≤ k_)∧some k_ ≠ (v326:Value).ownBlock)) (HO1.out) (fun k_ hk => ⟨hk.1,hk.2⟩))).2.1 (Kd.V_F (Kd.V_mono (ok':=(fun k_ => (P1_ k_ ∨ w.heap.size ≤ k_)∧some k_ ≠ (v326:Value).ownBlock)) (HO1.out) (fun k_ hk => ⟨hk.1,hk.2⟩))))) (Reps.none _ _)));intro v329 w8 ho9 hb hg_ hnew_;clear hg_ hnew_;(first|rw [← Ny328.out] at ho9|(simp only [Int.reduceToNat] at ho9;rw [← Ny328.out] at ho9));have n0_:=Am10_ (Kd.V_elder' (by (with_reducible repeat (first|apply Kd.V_alloc|apply Kd.V_drewN|apply Kd.V_drew));exact HO1.out) (Kd.N_base ho9) hb);have n1_:=Am10_ (Kd.R_below (by (with_reducible repeat (first|apply Kd.R_alloc|apply Kd.R_drewN|apply Kd.R_drew));exact HO327.out) hb);have n2_:=Am10_ (Kd.N_lower ho9 (below_size (xe_ HB)));have n3_:=bs_ HB hb;clear HO1;clear HO327;clear HB;have HO1:=n0_;have HO327:=n1_;have HO330:=n2_;have HB:=n3_;clear n0_ n1_ n2_ n3_;clear hb ho9;obtain ⟨Ao10,co10,eo10⟩:=Kd.R_slice HO327.out;subst eo10;obtain ⟨Ao11,co11,eo11⟩:=Kd.N_slice HO330.out;subst eo11)|((with_reducible refine gate_callee (f:=51) rfl ?_);refine goesL_ (some 9) rfl rfl Tryd.func51 (by kernel_rfl) rfl #[.slice Ao10 y325.length co10,.slice Ao11 y328.length co11] rfl (by (try simp only [List.map_toArray,List.map_cons,List.map_nil]);first|done|rfl|(simp only [List.length_drop,List.length_take];rfl)) ?_;(with_reducible refine (impl_joined.calls k _ _ y325 _ _ y328 t331 _ ?side1 ?side2 ?side3 ?side4 A3.out).mono ?_);(case side1 => repeat (first|exact (Kd.R_reads' HO327.out).2.2|(with_reducible refine Kd.C_alloc ?_ _)|(with_reducible refine Kd.C_drewN ?_ _)|(with_reducible refine Kd.C_drew ?_)));(case side2 => exact (Kd.R_reads' HO327.out).2.1);(case side3 => repeat (first|exact (Kd.N_reads' HO330.out).2.2|(with_reducible refine Kd.C_alloc ?_ _)|(with_reducible refine Kd.C_drewN ?_ _)|(with_reducible refine Kd.C_drew ?_)));(case side4 => exact (Kd.N_reads' HO330.out).2.1);rintro e w12 ⟨v332,rfl,ho0,hb⟩;refine ⟨_,rfl,?_⟩;have n0_:=Am10_ (Kd.V_elder' (by (with_reducible repeat (first|apply Kd.V_alloc|apply Kd.V_drewN|apply Kd.V_drew));exact HO1.out) (Kd.R_base ho0) hb);have n1_:=Am10_ (Kd.R_elder' (by (with_reducible repeat (first|apply Kd.R_alloc|apply Kd.R_drewN|apply Kd.R_drew));exact HO327.out) (Kd.R_base ho0) hb);have n2_:=Am10_ (Kd.N_elder' (by (with_reducible repeat (first|apply Kd.N_alloc|apply Kd.N_drewN|apply Kd.N_drew));exact HO330.out) (Kd.R_base ho0) hb);have n3_:=Am10_ (Kd.R_lower (Kd.R_new' (Kd.R_newM (M:=fun k_ => (w.heap.size ≤ k_)) ho0 (below_size (xe_ HB)) (fun k_ h_ => h_)) (Kd.R_lt (by (with_reducible repeat (first|apply Kd.R_alloc|apply Kd.R_drewN|apply Kd.R_drew));exact HO327.out))) (below_size (xe_ HB)));have n4_:=bs_ HB hb;clear HO1;clear HO327;clear HO330;clear HB;have HO1:=n0_;have HO327:=n1_;have HO330:=n2_;have HO333:=n3_;have HB:=n4_;clear n0_ n1_ n2_ n3_ n4_;(try clear hb);(try clear hb2);(try clear hk);(try clear hi);(try clear ho0);obtain ⟨Ao13,co13,eo13⟩:=Kd.R_slice HO333.out;subst eo13)|((with_reducible refine gate_callee (f:=69) rfl ?_);refine goesL_ (some 10) rfl rfl Tryd.func69 (by kernel_rfl) rfl #[.int .i64 a0,.slice Ao13 t331.length co13] rfl (by (try simp only [List.map_toArray,List.map_cons,List.map_nil]);first|done|rfl|(simp only [List.length_drop,List.length_take];rfl)) ?_;(with_reducible refine (impl_KeyedHash.calls k a0 (fun k_ => some k_=(.slice Ao13 t331.length co13:Value).ownBlock) _ _ t331 t334 _ ?side1 A4.out).mono ?_);(case side1 => exact Kd.R_V (Kd.R_tight rfl (Kd.R_apart' (HO333.out) (Kd.N_typed HO330.out) (by decide))));rintro e w14 ⟨rfl,hb⟩;refine ⟨_,rfl,?_⟩;have n0_:=Am10_ (Kd.V_below (by (with_reducible repeat (first|apply Kd.V_alloc|apply Kd.V_drewN|apply Kd.V_drew));exact HO1.out) hb);have n1_:=Am10_ (Kd.R_below (by (with_reducible repeat (first|apply Kd.R_alloc|apply Kd.R_drewN|apply Kd.R_drew));exact HO327.out) hb);have n2_:=Am10_ (Kd.N_below (by (with_reducible repeat (first|apply Kd.N_alloc|apply Kd.N_drewN|apply Kd.N_drew));exact HO330.out) hb);have n3_:=Am10_ (Kd.R_below (by (with_reducible repeat (first|apply Kd.R_alloc|apply Kd.R_drewN|apply Kd.R_drew));exact HO333.out) hb);have n4_:=bs_ HB hb;clear HO1;clear HO327;clear HO330;clear HO333;clear HB;have HO1:=n0_;have HO327:=n1_;have HO330:=n2_;have HO333:=n3_;have HB:=n4_;clear n0_ n1_ n2_ n3_ n4_;(try clear hb);(try clear hb2);(try clear hk);(try clear hi))|((with_reducible refine gate_callee (f:=71) rfl ?_);refine goesL_ (some 11) rfl rfl Tryd.func71 (by kernel_rfl) rfl #[.int .i64 t334] rfl (by (try simp only [List.map_toArray,List.map_cons,List.map_nil]);first|done|rfl|(simp only [List.length_drop,List.length_take];rfl)) ?_;(with_reducible refine (impl_orOne.calls t334 t335 _ A5.out).mono ?_);rintro e w' ⟨rfl,⟨nd,rfl⟩⟩;refine ⟨_,rfl,?_⟩))
 go_ret
 exact ⟨by first|rfl|(simp [errW_none,errW_some] <;> rfl)|(simp [*,errW_none,errW_some] <;> rfl),by repeat (first|(with_reducible first|exact HB.out|apply below_alloc|apply pw_below_drewN|apply below_drew1)|exact HB.out)⟩

/-! ### impl_SitePrivate: function 50 -/
def impl_SitePrivate.f (k:Nat) (a0_0:Int) (a0_1:Int) (a0_2:Int) (a0_3:Int) (a1:ByteArray) (a2:Int):Option (Int):=(impl_SiteHash.f k a1).bind fun t337 => ((impl_DeriveKey.f k a0_2 (([179,t337,a2]:List Int))).bind fun t341 => (some t341))
theorem impl_SitePrivate.mono:∀ a0 a1 a2 a3 a4 a5 k,LeO (impl_SitePrivate.f k a0 a1 a2 a3 a4 a5) (impl_SitePrivate.f (k + 1) a0 a1 a2 a3 a4 a5):=by
 intro a0 a1 a2 a3 a4 a5 k
 unfold impl_SitePrivate.f
 repeat' first
  |(with_reducible exact impl_DeriveKey.mono _ _ _)
  |(with_reducible exact impl_SiteHash.mono _ _)
  |(with_reducible exact LeO.refl _)
  |(with_reducible exact LeO.none _)
  |(with_reducible refine LeO.ite ?_ ?_)
  |(with_reducible refine LeO.bind ?_ (fun _ => ?_))
  |exact impl_DeriveKey.mono _ _ _
  |exact impl_SiteHash.mono _ _
  |exact LeO.none _
  |refine LeO.ite ?_ ?_
  |refine LeO.bind ?_ (fun _ => ?_)
def impl_SitePrivate.T1:Bool × List (List Nat × List Nat):=(true,[([],[]),([0],[0]),([],[]),([2],[2]),([],[]),([3,4],[3,4]),([1,5,3],[1,5]),([6,6,0,1,2,3,4,5,6],[6])])
def impl_SitePrivate.B1:List Nat:=[0,1,0,4,0,28,63,127]
theorem impl_SitePrivate.tab1:rtab .any (opsOf Tryd.f50 1)=impl_SitePrivate.T1:=by kernel_rfl
theorem impl_SitePrivate.bits1:waitsOk impl_SitePrivate.T1.2 impl_SitePrivate.B1=true:=by kernel_rfl
set_option maxHeartbeats 8000000 in
set_option maxRecDepth 100000 in
theorem impl_SitePrivate.calls (k:Nat) (a0_0:Int) (a0_1:Int) (a0_2:Int) (a0_3:Int) (a1:ByteArray) (a2:Int) (r:Int) (w:World) (h:impl_SitePrivate.f k a0_0 a0_1 a0_2 a0_3 a1 a2=some r) :
  Calls Tryd.prog 50 #[.agg #[.int .i64 a0_0,.int .i64 a0_1,.int .i64 a0_2,.int .i64 a0_3],.string a1,.int .i64 a2] w fun e w' => e=.returned (.int .i64 r)∧Below w.heap.size w w':=by
 have hu31:=Tryd.underlying31;have HB:=Am10_ (Below.refl w.heap.size w);have H:=h;unfold impl_SitePrivate.f at H;clear h;replace H:=Option.bind_eq_some_iff.mp H;obtain ⟨t337,A40,H⟩:=H
 try dsimp only at H
 have A4:=Am10_ A40;clear A40;obtain ⟨y338,hy338⟩:∃ y_:List Int,y_=(([179,t337,a2]:List Int)):=⟨_,rfl⟩;replace H:((impl_DeriveKey.f k a0_2 y338).bind fun t341 => (some t341))=some r:=by first|(rw [hy338];with_reducible exact H)|(have H2_:=(Option.bind_some _ _).symm.trans H;rw [hy338];with_reducible exact H2_)|(have H2_:=(Option.bind_some _ _).symm.trans H;with_reducible exact H2_)|with_reducible exact H|(rw [hy338];exact H)|exact H
 have Ny338:=Am10_ hy338;clear hy338;replace H:=Option.bind_eq_some_iff.mp H;obtain ⟨t341,A50,H⟩:=H
 try dsimp only at H
 have A5:=Am10_ A50;clear A50;obtain rfl:=Option.some.inj H
 go_enter Tryd.func50,Tryd.ntmps50
 try go_wp2_with (first|((with_reducible refine gate_dst (N:=3) rfl ?_);refine box_event ?hg (N:=3) ?hd (cs:=#[.int .i64 a0_0,.int .i64 a0_1,.int .i64 a0_2,.int .i64 a0_3]) (t:=31) ?hr ?_;(case hd => rfl);(case hg => rfl);(case hr => first|(go_simp;done)|(go_simp;rfl));intro gb336 hg w6 hbox hb;have n0_:=bs_ HB hb;have n1_:=Am10_ (hbox);have n2_:=gw_ hg HB;have n3_:=gw_ hg HB;clear HB;have HB:=n0_;have BK336:=n1_;have GW336:=n2_;have GE336:=n3_;clear n0_ n1_ n2_ n3_;clear hb hbox hg))
 replace BK336:=Am10_ (blk_drew BK336.out);replace HB:=Am10_ (below_drew1 HB.out);refine start_ (n:=8) (S:=fun w' => w'.cell? ⟨gb336,0,none⟩=some (.int .i64 a0_0)∧w'.cell? ⟨gb336,1,none⟩=some (.int .i64 a0_1)∧w'.cell? ⟨gb336,2,none⟩=some (.int .i64 a0_2)∧w'.cell? ⟨gb336,3,none⟩=some (.int .i64 a0_3)) (ds:=[]) #[false,false,false,false,false,false,false,false] (by kernel_rfl) rfl rfl ⟨q_ BK336 0 rfl,q_ BK336 1 rfl,q_ BK336 2 rfl,q_ BK336 3 rfl⟩ (fun hHeld => ?_);refine with_tabW impl_SitePrivate.tab1 impl_SitePrivate.bits1 (fun HT_ HW_ => ?_);generalize w6.drew=w7 at BK336 HB hHeld ⊢;refine pure_ (i:=0) (N:=some 7) (v:=?_) (a':=?_) #[true,false,false,false,false,false,false,false] rfl rfl (any_of HT_.out (by kernel_rfl)) (fun _ _ _ h => h) (Or.inl ⟨by rfl,?_⟩) ?_ ?_;rotate_left
 ·intro w'
  go_simp
  with_reducible rfl
 rotate_left
 ·simp only [Act.put,Sa_,Sb_,Sc_,i64_w,i32_w]
  rfl
 refine pure_ (i:=2) (N:=some 9) (v:=?_) (a':=?_) #[true,false,true,false,false,false,false,false] rfl rfl (any_of HT_.out (by kernel_rfl)) (fun _ _ _ h => h) (Or.inl ⟨by rfl,?_⟩) ?_ ?_;rotate_left
 ·intro w'
  go_simp
  with_reducible rfl
 rotate_left
 ·simp only [Act.put,Sa_,Sb_,Sc_,i64_w,i32_w]
  rfl
 refine pure_ (i:=4) (N:=some 11) (v:=?_) (a':=?_) #[true,false,true,false,true,false,false,false] rfl rfl (any_of HT_.out (by kernel_rfl)) (fun _ _ _ h => h) (Or.inl ⟨by rfl,?_⟩) ?_ ?_;rotate_left
 ·intro w'
  go_simp
  with_reducible rfl
 rotate_left
 ·simp only [Act.put,Sa_,Sb_,Sc_,i64_w,i32_w]
  rfl
 refine take_ (i:=1) (N:=some 8) (v:=?_) (a':=?_) #[true,true,true,false,true,false,false,false] rfl rfl (take_ofW HT_.out HW_.out (by kernel_rfl)) (fun _ _ _ h => h) (Or.inl ⟨by rfl,?_⟩) hHeld ?_ ?_;rotate_left
 ·rintro w' ⟨s0,s1,s2,s3⟩
  go_simp
  with_reducible rfl
 rotate_left
 ·simp only [Act.put,Sa_,Sb_,Sc_,i64_w,i32_w]
  rfl
 refine one_ (i:=3) (N:=some 10) #[true,true,true,true,true,false,false,false] rfl rfl (one_of HT_.out (by kernel_rfl)) (by decide) (fun K hK => ?_);refine goes_ Tryd.func52 (by kernel_rfl) rfl #[.string a1] (by rfl) rfl rfl (by (try simp only [List.map_toArray,List.map_cons,List.map_nil]);first|done|rfl|(simp only [List.length_drop,List.length_take];rfl)) ?_;with_reducible refine (impl_SiteHash.calls k a1 t337 _ A4.out).mono ?_;rintro e w8 ⟨rfl,hb⟩;refine ⟨_,rfl,?_⟩;replace BK336:=bb_ BK336 hb;replace HB:=bs_ HB hb;(try clear hb);(try clear hb2);(try clear hk);(try clear hi);refine hK.out _ _ ⟨q_ BK336 0 rfl,q_ BK336 1 rfl,q_ BK336 2 rfl,q_ BK336 3 rfl⟩ (fun hHeld => ?_);clear hK K;refine norm_ (a':=?_) ?_ ?_;rotate_left
 ·show Act.put _ (some 10) _=_
  simp only [Act.put,Sa_,Sb_,Sc_,i64_w,i32_w]
  rfl
 refine one_ (i:=5) (N:=some 12) #[true,true,true,true,true,true,false,false] rfl rfl (one_of HT_.out (by kernel_rfl)) (by decide) (fun K hK => ?_);refine Kd.R_lit_step (Kd.int .i64) _ 3 ?hg (N:=12) ?hd (xs:=([179,t337,a2]:List Int)) (inner:=[.int .i64 179,.int .i64 t337,.int .i64 a2]) (ok:=fun _ => True) (okp:=fun _ => True) ?hr ?hp (fun _ hk => hk) trivial (Below.refl _ _) (Nat.le_refl _) (by simp) ?_;(case hd => rfl);(case hg => rfl);(case hr => first|(go_simp;done)|(go_simp;rfl));(case hp => exact (Reps.one (show Kd.M (Kd.int .i64) _ _ _ 179 [.int .i64 179] from rfl) (Reps.one (show Kd.M (Kd.int .i64) _ _ _ t337 [.int .i64 t337] from rfl) (Reps.one (show Kd.M (Kd.int .i64) _ _ _ a2 [.int .i64 a2] from rfl) (Reps.none _ _)))));intro v339 w9 ho10 hb hg_ hnew_;clear hg_ hnew_
 (first|rw [← Ny338.out] at ho10|(simp only [Int.reduceToNat] at ho10;rw [← Ny338.out] at ho10))
 have HO340:=Am10_ (Kd.R_lower ho10 (below_size (xe_ HB)));replace BK336:=bb_ BK336 hb;replace HB:=bs_ HB hb;clear hb ho10;obtain ⟨Ao11,co11,eo11⟩:=Kd.R_slice HO340.out
 (first|subst eo11|(injection eo11 with f1_ f2_ f3_;have f4_:=f1_.symm;have f5_:=f3_.symm;clear f1_ f2_ f3_;subst f4_;subst f5_))
 refine hK.out _ _ ⟨q_ BK336 0 rfl,q_ BK336 1 rfl,q_ BK336 2 rfl,q_ BK336 3 rfl⟩ (fun hHeld => ?_);clear hK K;refine norm_ (a':=?_) ?_ ?_;rotate_left
 ·show Act.put _ (some 12) _=_
  simp only [Act.put,Sa_,Sb_,Sc_,i64_w,i32_w]
  rfl
 refine one_ (i:=6) (N:=some 13) #[true,true,true,true,true,true,true,false] rfl rfl (one_of HT_.out (by kernel_rfl)) (by decide) (fun K hK => ?_);refine goes_ Tryd.func70 (by kernel_rfl) rfl #[.int .i64 a0_2,.slice Ao11 y338.length co11] (by rfl) rfl rfl (by (try simp only [List.map_toArray,List.map_cons,List.map_nil]);first|done|rfl|(simp only [List.length_drop,List.length_take];rfl)) ?_;with_reducible refine (impl_DeriveKey.calls k a0_2 (fun k_ => some k_=(.slice Ao11 y338.length co11:Value).ownBlock) _ _ y338 t341 _ ?side1 A5.out).mono ?_
 (case side1 => exact Kd.R_V (Kd.R_tight rfl (Kd.R_types (HO340.out) BK336.out (by decide))))
 rintro e w12 ⟨rfl,hb⟩;refine ⟨_,rfl,?_⟩;replace HO340:=Am10_ (Kd.R_below (by (with_reducible repeat (first|apply Kd.R_alloc|apply Kd.R_drewN|apply Kd.R_drew));exact HO340.out) hb);replace BK336:=bb_ BK336 hb;replace HB:=bs_ HB hb;(try clear hb);(try clear hb2);(try clear hk);(try clear hi);refine hK.out _ _ ⟨q_ BK336 0 rfl,q_ BK336 1 rfl,q_ BK336 2 rfl,q_ BK336 3 rfl⟩ (fun hHeld => ?_);clear hK K;refine norm_ (a':=?_) ?_ ?_;rotate_left
 ·show Act.put _ (some 13) _=_
  simp only [Act.put,Sa_,Sb_,Sc_,i64_w,i32_w]
  rfl
 refine pure_ (i:=7) (N:=some 6) (v:=?_) (a':=?_) #[true,true,true,true,true,true,true,true] rfl rfl (any_of HT_.out (by kernel_rfl)) (fun _ _ _ h => h) (Or.inl ⟨by rfl,?_⟩) ?_ ?_;rotate_left
 ·intro w'
  go_simp
  with_reducible rfl
 rotate_left
 ·simp only [Act.put,Sa_,Sb_,Sc_,i64_w,i32_w]
  rfl
 refine done_ (done_of HT_.out (by kernel_rfl)) ?_
 try go_wp2
 go_ret
 exact ⟨by first|rfl|(simp [errW_none,errW_some] <;> rfl)|(simp [*,errW_none,errW_some] <;> rfl),by repeat (first|(with_reducible first|exact HB.out|apply below_alloc|apply pw_below_drewN|apply below_drew1|refine below_set ?_ GE336.out)|exact HB.out)⟩

end Go.Proofs.YtogcoedmagoogaaDoor.PFnExactRelayAssertion
