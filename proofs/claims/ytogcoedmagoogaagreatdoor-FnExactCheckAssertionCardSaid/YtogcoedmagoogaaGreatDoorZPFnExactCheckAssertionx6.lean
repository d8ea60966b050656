/- Functions and contracts of a law's callees, written by a program of this session (a changed print): each contract says that the machine's call answers what the plain function says. Conditions: the plain function's own answer. -/
import Derived.Test.YtogcoedmagoogaaGreatDoorZPFnExactCheckAssertionx0
namespace Go.Proofs.YtogcoedmagoogaaGreatDoor.PFnExactCheckAssertion
open Go.RowKit Go.Proofs.YtogcoedmagoogaaGreatDoorW.PrintWords Go.Proofs.YtogcoedmagoogaaGreatDoorW.PrintLast Go.Proofs.YtogcoedmagoogaaGreatDoorW.PrintMore
attribute [local go_sem] max2_int min2_int max_two min_two max_three min_three max_four min_four   -- for this text's walks alone
set_option linter.unusedVariables false
set_option linter.unusedSimpArgs false
abbrev Am6_ {p : Prop} (h : p) : Aside0 p := Aside0.mk h

namespace Y6
class Ex_ (w W:World):Prop where
 k:∀ {g:Nat} {o:Obj},w.heap[g]?=some o → W.heap[g]?=some o
 e:∀ {v:World},Below v.heap.size v w → Below v.heap.size v W
instance (priority:=low) Ex_.rf (w:World):Ex_ w w:=⟨fun h => h,fun h => h⟩
instance Ex_.dn {w W:World} [x:Ex_ w W] (n:Nat):Ex_ w (W.drewN n):=⟨fun h => blk_drewN (x.k h) n,fun h => pw_below_drewN (x.e h) n⟩
instance Ex_.dr {w W:World} [x:Ex_ w W]:Ex_ w W.drew:=⟨fun h => blk_drew (x.k h),fun h => below_drew1 (x.e h)⟩
instance Ex_.al {w W:World} [x:Ex_ w W] (o:Obj):Ex_ w (W.alloc o):=⟨fun h => blk_alloc (x.k h) o,fun h => below_alloc (x.e h) o⟩
theorem xk_ {w W:World} {g:Nat} {o:Obj} (h:Aside0 (w.heap[g]?=some o)) [x:Ex_ w W]:W.heap[g]?=some o:=x.k h.out
theorem ne1_ {w W:World} {g g':Nat} {o:Obj} (hg:g'=W.heap.size) (h:Aside0 (w.heap[g]?=some o)) [x:Ex_ w W]:Aside0 (g ≠ g'):=Am6_ (by rw [hg];exact Nat.ne_of_lt (blk_lt (x.k h.out)))
theorem ne2_ {w W:World} {g g':Nat} {o:Obj} (hg:g'=W.heap.size) (h:Aside0 (w.heap[g]?=some o)) [x:Ex_ w W]:Aside0 (g' ≠ g):=Am6_ (by rw [hg];exact Nat.ne_of_gt (blk_lt (x.k h.out)))
theorem gw_ {v w W:World} {g':Nat} (hg:g'=W.heap.size) (h:Aside0 (Below v.heap.size v w)) [x:Ex_ w W]:Aside0 (v.heap.size ≤ g'):=Am6_ (by rw [hg];exact below_size (x.e h.out))
theorem bb_ {w W W':World} {g:Nat} {o:Obj} (h:Aside0 (w.heap[g]?=some o)) (hb:Below W.heap.size W W') [x:Ex_ w W]:Aside0 (W'.heap[g]?=some o):=Am6_ (blk_below (x.k h.out) hb)
theorem bs_ {v w W W':World} (h:Aside0 (Below v.heap.size v w)) (hb:Below W.heap.size W W') [x:Ex_ w W]:Aside0 (Below v.heap.size v W'):=Am6_ (below_step (x.e h.out) hb)
theorem xe_ {v w W:World} (h:Aside0 (Below v.heap.size v w)) [x:Ex_ w W]:Below v.heap.size v W:=x.e h.out
end Y6
open Y6

namespace Y6
abbrev Sa_ := @List.setIfInBounds_toArray
abbrev Sb_ := @List.set_cons_zero
abbrev Sc_ := @List.set_cons_succ
theorem q_ {w W : World} {g : Nat} {t : TypeId} {cs : Array Value} (h : Aside0 (w.heap[g]? = some (.cells cs t (0, 0)))) (i : Nat) {v : Option Value} (e : cs[i]? = v) [x : Ex_ w W] : W.cell? ⟨g, i, none⟩ = v := (blk_cell (x.k h.out) i).trans e
end Y6
open Y6
/-! ### laws_szAssertion: function 14 -/
def laws_szAssertion.f (a0_0:ByteArray) (a0_1:ByteArray) (a0_2:Int) (a0_3:Int) (a0_4:Bool) (a0_5:Int) (a0_6:Int) (a1:Int):Option (Int):=if (wrap64 (a1 - (a0_0.size:Int))) < 0 then (some (-1)) else (if (wrap64 ((wrap64 (a1 - (a0_0.size:Int))) - (a0_1.size:Int))) < 0 then (some (-1)) else (some (wrap64 ((wrap64 (a1 - (a0_0.size:Int))) - (a0_1.size:Int)))))
set_option maxHeartbeats 8000000 in
set_option maxRecDepth 100000 in
theorem laws_szAssertion.calls (a0_0:ByteArray) (a0_1:ByteArray) (a0_2:Int) (a0_3:Int) (a0_4:Bool) (a0_5:Int) (a0_6:Int) (a1:Int) (r:Int) (w:World) (h:laws_szAssertion.f a0_0 a0_1 a0_2 a0_3 a0_4 a0_5 a0_6 a1=some r) :
  Calls Tryz.prog 14 #[.agg #[.string a0_0,.string a0_1,.int .i64 a0_2,.int .i64 a0_3,.bool a0_4,.int .i64 a0_5,.int .i64 a0_6],.int .i64 a1] w fun e w' => e=.returned (.int .i64 r)∧Below w.heap.size w w':=by
 have hu37:=Tryz.underlying37;have HB:=Am6_ (Below.refl w.heap.size w);have H:=h;unfold laws_szAssertion.f at H;clear h
 by_cases c3:(wrap64 (a1 - (a0_0.size:Int))) < 0
 ·rw [if_pos c3] at H
  have c3b0:decide ((wrap64 (a1 - (a0_0.size:Int))) < 0)=true:=decide_eq_true c3;clear c3;obtain rfl:=Option.some.inj H
  go_enter Tryz.func14,Tryz.ntmps14
  go_wp2_with (first|((with_reducible refine gate_dst (N:=2) rfl ?_);refine box_event ?hg (N:=2) ?hd (cs:=#[.string a0_0,.string a0_1,.int .i64 a0_2,.int .i64 a0_3,.bool a0_4,.int .i64 a0_5,.int .i64 a0_6]) (t:=37) ?hr ?_;(case hd => rfl);(case hg => rfl);(case hr => first|(go_simp;done)|(go_simp;rfl));intro gb208 hg w4 hbox hb;have n0_:=bs_ HB hb;have n1_:=Am6_ (hbox);have n2_:=gw_ hg HB;have n3_:=gw_ hg HB;clear HB;have HB:=n0_;have BK208:=n1_;have GW208:=n2_;have GE208:=n3_;clear n0_ n1_ n2_ n3_;clear hb hbox hg;have hcz5_0:w4.cell? ⟨gb208,0,none⟩=some (.string a0_0):=q_ BK208 0 rfl;have hcz5_1:w4.cell? ⟨gb208,1,none⟩=some (.string a0_1):=q_ BK208 1 rfl;have hcz5_2:w4.cell? ⟨gb208,2,none⟩=some (.int .i64 a0_2):=q_ BK208 2 rfl;have hcz5_3:w4.cell? ⟨gb208,3,none⟩=some (.int .i64 a0_3):=q_ BK208 3 rfl;have hcz5_4:w4.cell? ⟨gb208,4,none⟩=some (.bool a0_4):=q_ BK208 4 rfl;have hcz5_5:w4.cell? ⟨gb208,5,none⟩=some (.int .i64 a0_5):=q_ BK208 5 rfl;have hcz5_6:w4.cell? ⟨gb208,6,none⟩=some (.int .i64 a0_6):=q_ BK208 6 rfl;have hfz5_0:=blk_frozen BK208.out 0;have hfz5_1:=blk_frozen BK208.out 1;have hfz5_2:=blk_frozen BK208.out 2;have hfz5_3:=blk_frozen BK208.out 3;have hfz5_4:=blk_frozen BK208.out 4;have hfz5_5:=blk_frozen BK208.out 5;have hfz5_6:=blk_frozen BK208.out 6))
  go_ret
  exact ⟨by first|rfl|(simp [errW_none,errW_some] <;> rfl)|(simp [*,errW_none,errW_some] <;> rfl),by repeat (first|(with_reducible first|exact HB.out|apply below_alloc|apply pw_below_drewN|apply below_drew1|refine below_set ?_ GE208.out)|exact HB.out)⟩
 ·rw [if_neg c3] at H
  have c3b0:decide ((wrap64 (a1 - (a0_0.size:Int))) < 0)=false:=decide_eq_false c3;clear c3
  by_cases c6:(wrap64 ((wrap64 (a1 - (a0_0.size:Int))) - (a0_1.size:Int))) < 0
  ·rw [if_pos c6] at H
   have c6b0:decide ((wrap64 ((wrap64 (a1 - (a0_0.size:Int))) - (a0_1.size:Int))) < 0)=true:=decide_eq_true c6;clear c6;obtain rfl:=Option.some.inj H
   go_enter Tryz.func14,Tryz.ntmps14
   go_wp2_with (first|((with_reducible refine gate_dst (N:=2) rfl ?_);refine box_event ?hg (N:=2) ?hd (cs:=#[.string a0_0,.string a0_1,.int .i64 a0_2,.int .i64 a0_3,.bool a0_4,.int .i64 a0_5,.int .i64 a0_6]) (t:=37) ?hr ?_;(case hd => rfl);(case hg => rfl);(case hr => first|(go_simp;done)|(go_simp;rfl));intro gb208 hg w7 hbox hb;have n0_:=bs_ HB hb;have n1_:=Am6_ (hbox);have n2_:=gw_ hg HB;have n3_:=gw_ hg HB;clear HB;have HB:=n0_;have BK208:=n1_;have GW208:=n2_;have GE208:=n3_;clear n0_ n1_ n2_ n3_;clear hb hbox hg;have hcz8_0:w7.cell? ⟨gb208,0,none⟩=some (.string a0_0):=q_ BK208 0 rfl;have hcz8_1:w7.cell? ⟨gb208,1,none⟩=some (.string a0_1):=q_ BK208 1 rfl;have hcz8_2:w7.cell? ⟨gb208,2,none⟩=some (.int .i64 a0_2):=q_ BK208 2 rfl;have hcz8_3:w7.cell? ⟨gb208,3,none⟩=some (.int .i64 a0_3):=q_ BK208 3 rfl;have hcz8_4:w7.cell? ⟨gb208,4,none⟩=some (.bool a0_4):=q_ BK208 4 rfl;have hcz8_5:w7.cell? ⟨gb208,5,none⟩=some (.int .i64 a0_5):=q_ BK208 5 rfl;have hcz8_6:w7.cell? ⟨gb208,6,none⟩=some (.int .i64 a0_6):=q_ BK208 6 rfl;have hfz8_0:=blk_frozen BK208.out 0;have hfz8_1:=blk_frozen BK208.out 1;have hfz8_2:=blk_frozen BK208.out 2;have hfz8_3:=blk_frozen BK208.out 3;have hfz8_4:=blk_frozen BK208.out 4;have hfz8_5:=blk_frozen BK208.out 5;have hfz8_6:=blk_frozen BK208.out 6))
   go_ret
   exact ⟨by first|rfl|(simp [errW_none,errW_some] <;> rfl)|(simp [*,errW_none,errW_some] <;> rfl),by repeat (first|(with_reducible first|exact HB.out|apply below_alloc|apply pw_below_drewN|apply below_drew1|refine below_set ?_ GE208.out)|exact HB.out)⟩
  ·rw [if_neg c6] at H
   have c6b0:decide ((wrap64 ((wrap64 (a1 - (a0_0.size:Int))) - (a0_1.size:Int))) < 0)=false:=decide_eq_false c6;clear c6;obtain rfl:=Option.some.inj H
   go_enter Tryz.func14,Tryz.ntmps14
   go_wp2_with (first|((with_reducible refine gate_dst (N:=2) rfl ?_);refine box_event ?hg (N:=2) ?hd (cs:=#[.string a0_0,.string a0_1,.int .i64 a0_2,.int .i64 a0_3,.bool a0_4,.int .i64 a0_5,.int .i64 a0_6]) (t:=37) ?hr ?_;(case hd => rfl);(case hg => rfl);(case hr => first|(go_simp;done)|(go_simp;rfl));intro gb208 hg w9 hbox hb;have n0_:=bs_ HB hb;have n1_:=Am6_ (hbox);have n2_:=gw_ hg HB;have n3_:=gw_ hg HB;clear HB;have HB:=n0_;have BK208:=n1_;have GW208:=n2_;have GE208:=n3_;clear n0_ n1_ n2_ n3_;clear hb hbox hg;have hcz10_0:w9.cell? ⟨gb208,0,none⟩=some (.string a0_0):=q_ BK208 0 rfl;have hcz10_1:w9.cell? ⟨gb208,1,none⟩=some (.string a0_1):=q_ BK208 1 rfl;have hcz10_2:w9.cell? ⟨gb208,2,none⟩=some (.int .i64 a0_2):=q_ BK208 2 rfl;have hcz10_3:w9.cell? ⟨gb208,3,none⟩=some (.int .i64 a0_3):=q_ BK208 3 rfl;have hcz10_4:w9.cell? ⟨gb208,4,none⟩=some (.bool a0_4):=q_ BK208 4 rfl;have hcz10_5:w9.cell? ⟨gb208,5,none⟩=some (.int .i64 a0_5):=q_ BK208 5 rfl;have hcz10_6:w9.cell? ⟨gb208,6,none⟩=some (.int .i64 a0_6):=q_ BK208 6 rfl;have hfz10_0:=blk_frozen BK208.out 0;have hfz10_1:=blk_frozen BK208.out 1;have hfz10_2:=blk_frozen BK208.out 2;have hfz10_3:=blk_frozen BK208.out 3;have hfz10_4:=blk_frozen BK208.out 4;have hfz10_5:=blk_frozen BK208.out 5;have hfz10_6:=blk_frozen BK208.out 6))
   go_ret
   exact ⟨by first|rfl|(simp [errW_none,errW_some] <;> rfl)|(simp [*,errW_none,errW_some] <;> rfl),by repeat (first|(with_reducible first|exact HB.out|apply below_alloc|apply pw_below_drewN|apply below_drew1|refine below_set ?_ GE208.out)|exact HB.out)⟩

/-! ### spec_l9Labels: function 46 -/
def spec_l9Labels.l0:Nat → ByteArray → List ByteArray → Int → Int → Option (List ByteArray)
|0,_,_,_,_ => none
|k + 1,x0,x3,x4,x5 => if x5 ≤ (x0.size:Int) then (if x5=(x0.size:Int) then (if 0 ≤ x4 then (if x4 ≤ x5 then (if x3.length < 8796093022208 then (spec_l9Labels.l0 k x0 (x3 ++ [x0.extract (x4:Int).toNat (x5:Int).toNat]) (wrap64 (x5 + 1)) (wrap64 (x5 + 1))) else (none)) else (none)) else (none)) else (if 0 ≤ x5 then (if x5 < (x0.size:Int) then (if (bt x0 x5)=46 then (if 0 ≤ x4 then (if x4 ≤ x5 then (if x3.length < 8796093022208 then (spec_l9Labels.l0 k x0 (x3 ++ [x0.extract (x4:Int).toNat (x5:Int).toNat]) (wrap64 (x5 + 1)) (wrap64 (x5 + 1))) else (none)) else (none)) else (none)) else (spec_l9Labels.l0 k x0 x3 x4 (wrap64 (x5 + 1)))) else (none)) else (none))) else (some x3)
def spec_l9Labels.f (k:Nat) (a0:ByteArray):Option (List ByteArray):=spec_l9Labels.l0 k a0 (([]:List ByteArray)) 0 0
theorem spec_l9Labels.mono_l:∀ k,(∀ y0 y1 y2 y3,LeO (spec_l9Labels.l0 k y0 y1 y2 y3) (spec_l9Labels.l0 (k + 1) y0 y1 y2 y3))
|0 => fun _ _ _ _ r h => by simp [spec_l9Labels.l0] at h
|k + 1 => by
  have ih0:=spec_l9Labels.mono_l k
  ·intro y0 y1 y2 y3
   unfold spec_l9Labels.l0
   repeat' first
  |(with_reducible exact ih0 _ _ _ _)
  |(with_reducible exact LeO.refl _)
  |(with_reducible exact LeO.none _)
  |(with_reducible refine LeO.ite ?_ ?_)
  |(with_reducible refine LeO.bind ?_ (fun _ => ?_))
  |exact ih0 _ _ _ _
  |exact LeO.none _
  |refine LeO.ite ?_ ?_
  |refine LeO.bind ?_ (fun _ => ?_)
theorem spec_l9Labels.mono:∀ a0 k,LeO (spec_l9Labels.f k a0) (spec_l9Labels.f (k + 1) a0):=by
 intro a0 k;have ih0:=spec_l9Labels.mono_l k
 unfold spec_l9Labels.f
 repeat' first
  |(with_reducible exact ih0 _ _ _ _)
  |(with_reducible exact LeO.refl _)
  |(with_reducible exact LeO.none _)
  |(with_reducible refine LeO.ite ?_ ?_)
  |(with_reducible refine LeO.bind ?_ (fun _ => ?_))
  |exact ih0 _ _ _ _
  |exact LeO.none _
  |refine LeO.ite ?_ ?_
  |refine LeO.bind ?_ (fun _ => ?_)
set_option maxHeartbeats 8000000 in
set_option maxRecDepth 100000 in
theorem spec_l9Labels.calls (k:Nat) (a0:ByteArray) (r:List ByteArray) (w:World) (h:spec_l9Labels.f k a0=some r) :
  Calls Tryz.prog 46 #[.string a0] w fun e w' => ∃ v0_:Value,e=.returned (v0_)∧Kd.R Kd.string 9 w' w.heap.size (fun _ => True) v0_ r∧Below w.heap.size w w':=by
 have HB:=Am6_ (Below.refl w.heap.size w);have H:(spec_l9Labels.l0 k a0 (([]:List ByteArray)) 0 0)=some r:=h;clear h;obtain ⟨y209,hy209⟩:∃ y_:List ByteArray,y_=(([]:List ByteArray)):=⟨_,rfl⟩;replace H:(spec_l9Labels.l0 k a0 y209 0 0)=some r:=by first|(rw [hy209];with_reducible exact H)|(have H2_:=(Option.bind_some _ _).symm.trans H;rw [hy209];with_reducible exact H2_)|(have H2_:=(Option.bind_some _ _).symm.trans H;with_reducible exact H2_)|with_reducible exact H|(rw [hy209];exact H)|exact H
 have Ny209:=Am6_ hy209;clear hy209;have H':=Am6_ H;clear H
 go_enter Tryz.func46,Tryz.ntmps46
 go_wp2_with (first|((with_reducible refine gate_dst (N:=6) rfl ?_);refine Kd.R_lit Kd.string _ 9 ?hg (N:=6) ?hd (xs:=([]:List ByteArray)) (inner:=[]) (ok:=fun _ => True) (okp:=fun _ => True) ?hr ?hp (fun _ hk => hk) trivial (Below.refl _ _) (Nat.le_refl _) (by simp) ?_;(case hd => rfl);(case hg => rfl);(case hr => first|(go_simp;done)|(go_simp;rfl));(case hp => exact (Reps.none _ _));intro v210 w2 ho3 hb hg_ hnew_;clear hg_ hnew_;(first|rw [← Ny209.out] at ho3|(simp only [Int.reduceToNat] at ho3;rw [← Ny209.out] at ho3));have n0_:=Am6_ (Kd.R_lower ho3 (below_size (xe_ HB)));have n1_:=bs_ HB hb;clear HB;have HO211:=n0_;have HB:=n1_;clear n0_ n1_;clear hb ho3))
 go_loopg [3,4,5] k (fun kq v3 v4 v5 w' => ∃ (x3_1:List ByteArray) (x4_1:Int) (x5_1:Int),v4=.int .i64 x4_1∧v5=.int .i64 x5_1∧Aside0 (spec_l9Labels.l0 kq a0 x3_1 x4_1 x5_1=some r)∧Aside0 (kq ≤ k)∧Aside0 (Kd.R Kd.string 9 w' w.heap.size (fun _ => True) v3 x3_1)∧Aside0 (Below w.heap.size w w'))
 case atStart => exact ⟨(y209),(0),(0),(by first|rfl|(simp;done)|(simp [*];done)),(by first|rfl|(simp;done)|(simp [*];done)),H',⟨Nat.le_refl _⟩,⟨by (with_reducible repeat (first|apply Kd.R_alloc|apply Kd.R_drewN|apply Kd.R_drew));exact HO211.out⟩,⟨by repeat (first|(with_reducible first|exact HB.out|apply below_alloc|apply pw_below_drewN|apply below_drew1)|exact HB.out)⟩⟩
 case round =>
  clear H'
  try clear p2
  obtain ⟨x3_1,x4_1,x5_1,rfl,rfl,HA,HK1,HO_3,HB⟩:=hrel
  cases gk with
 |zero => exact absurd HA.out (by simp [spec_l9Labels.l0])
 |succ k1 =>
   have H:=HA.out;clear HA;simp only [spec_l9Labels.l0] at H
   by_cases c4:x5_1 ≤ (a0.size:Int)
   ·rw [if_pos c4] at H
    have c4b0:decide (x5_1 ≤ (a0.size:Int))=true:=decide_eq_true c4;clear c4
    by_cases c5:x5_1=(a0.size:Int)
    ·rw [if_pos c5] at H
     have c5b0:(x5_1 == (a0.size:Int))=true:=beq_iff_eq.mpr c5;have c5b1:(x5_1 != (a0.size:Int))=false:=bne_eq_false_iff_eq.mpr c5;clear c5
     by_cases c6:0 ≤ x4_1
     ·rw [if_pos c6] at H
      have c6b0:=eq_true c6;have c6b1:decide (0 ≤ x4_1)=true:=decide_eq_true c6;clear c6
      by_cases c7:x4_1 ≤ x5_1
      ·rw [if_pos c7] at H
       have c7b0:=eq_true c7;have c7b1:decide (x4_1 ≤ x5_1)=true:=decide_eq_true c7;clear c7;have c8b0:=eq_true (of_decide_eq_true (by first|(with_reducible assumption)|assumption):x5_1 ≤ (a0.size:Int))
       by_cases c9:x3_1.length < 8796093022208
       ·rw [if_pos c9] at H
        have LMc9:=Am6_ c9;clear c9;obtain ⟨y212,hy212⟩:∃ y_:List ByteArray,y_=(x3_1 ++ [a0.extract (x4_1:Int).toNat (x5_1:Int).toNat]):=⟨_,rfl⟩;replace H:(spec_l9Labels.l0 k1 a0 y212 (wrap64 (x5_1 + 1)) (wrap64 (x5_1 + 1)))=some r:=by first|(rw [hy212];with_reducible exact H)|(have H2_:=(Option.bind_some _ _).symm.trans H;rw [hy212];with_reducible exact H2_)|(have H2_:=(Option.bind_some _ _).symm.trans H;with_reducible exact H2_)|with_reducible exact H|(rw [hy212];exact H)|exact H
        have Ny212:=Am6_ hy212;clear hy212;have H':=Am6_ H;clear H
        go_wp2_with (first|((with_reducible refine gate_builtin (b:=.append) (xs:=#[.tmp 23,.tmp 28]) rfl ?_);at_builtin;refine Kd.R_append Kd.string (w0:=w) w.heap.size rfl (.tmp 23) (.tmp 28) 68 9 (.string ⟨#[]⟩) 16 rfl Tryz.underlying68 info9 rfl (by decide) (by omega) u3 x3_1 (a0.extract (x4_1:Int).toNat (x5_1:Int).toNat) [.string (a0.extract (x4_1:Int).toNat (x5_1:Int).toNat)] (fun _ => True) (fun _ => False) rfl rfl ?aP (fun _ hk => hk.elim) ?aF ?aO ?aB ?aS ?aL ?_;(case aP => exact rfl);(case aB => exact (xe_ HB));(case aF => exact (fun _ _ => trivial));(case aO => exact (by (with_reducible repeat (first|apply Kd.R_alloc|apply Kd.R_drewN|apply Kd.R_drew));exact HO_3.out));(case aS => exact (below_size (xe_ HB)));(case aL => have:=LMc9.out;omega);intro v213 w10 ho hb hg hat;rw [← Ny212.out] at ho;have n0_:=Am6_ (hb);have n1_:=Am6_ (ho);clear HB;clear HO_3;have HB:=n0_;have HO214:=n1_;clear n0_ n1_;clear ho hb hg hat))
        go_roundg k1
        case measure => have:=HK1.out;omega
        case rel => exact ⟨(y212),(wrap64 (x5_1 + 1)),(wrap64 (x5_1 + 1)),(by first|rfl|(simp;done)|(simp [*];done)),(by first|rfl|(simp;done)|(simp [*];done)),H',⟨by have:=HK1.out;omega⟩,⟨by (with_reducible repeat (first|apply Kd.R_alloc|apply Kd.R_drewN|apply Kd.R_drew));exact HO214.out⟩,⟨by repeat (first|(with_reducible first|exact HB.out|apply below_alloc|apply pw_below_drewN|apply below_drew1)|exact HB.out)⟩⟩
       ·rw [if_neg c9] at H
        exact absurd H (by simp)
      ·rw [if_neg c7] at H
       exact absurd H (by simp)
     ·rw [if_neg c6] at H
      exact absurd H (by simp)
    ·rw [if_neg c5] at H
     have c5b0:(x5_1 == (a0.size:Int))=false:=beq_eq_false_iff_ne.mpr c5;have c5b1:(x5_1 != (a0.size:Int))=true:=bne_iff_ne.mpr c5
     by_cases c11:0 ≤ x5_1
     ·rw [if_pos c11] at H
      have c11b0:decide (0 ≤ x5_1)=true:=decide_eq_true c11;clear c11
      by_cases c12:x5_1 < (a0.size:Int)
      ·rw [if_pos c12] at H
       have c12b0:decide (x5_1 < (a0.size:Int))=true:=decide_eq_true c12;clear c12
       by_cases c14:(bt a0 x5_1)=46
       ·rw [if_pos c14] at H
        have c14b0:((bt a0 x5_1) == 46)=true:=beq_iff_eq.mpr c14;have c14b1:((bt a0 x5_1) != 46)=false:=bne_eq_false_iff_eq.mpr c14;clear c14
        by_cases c15:0 ≤ x4_1
        ·rw [if_pos c15] at H
         have c15b0:=eq_true c15;have c15b1:decide (0 ≤ x4_1)=true:=decide_eq_true c15;clear c15
         by_cases c16:x4_1 ≤ x5_1
         ·rw [if_pos c16] at H
          have c16b0:=eq_true c16;have c16b1:decide (x4_1 ≤ x5_1)=true:=decide_eq_true c16;clear c16;have c17b0:=eq_true (of_decide_eq_true (by first|(with_reducible assumption)|assumption):x5_1 ≤ (a0.size:Int))
          by_cases c18:x3_1.length < 8796093022208
          ·rw [if_pos c18] at H
           have LMc18:=Am6_ c18;clear c18;obtain ⟨y215,hy215⟩:∃ y_:List ByteArray,y_=(x3_1 ++ [a0.extract (x4_1:Int).toNat (x5_1:Int).toNat]):=⟨_,rfl⟩;replace H:(spec_l9Labels.l0 k1 a0 y215 (wrap64 (x5_1 + 1)) (wrap64 (x5_1 + 1)))=some r:=by first|(rw [hy215];with_reducible exact H)|(have H2_:=(Option.bind_some _ _).symm.trans H;rw [hy215];with_reducible exact H2_)|(have H2_:=(Option.bind_some _ _).symm.trans H;with_reducible exact H2_)|with_reducible exact H|(rw [hy215];exact H)|exact H
           have Ny215:=Am6_ hy215;clear hy215;have H':=Am6_ H;clear H;have p13:0 ≤ (x5_1:Int):=of_decide_eq_true (by first|(with_reducible assumption)|assumption);have q13:x5_1 < (a0.size:Int):=of_decide_eq_true (by first|(with_reducible assumption)|assumption);have hx13:=bt_at a0 x5_1;replace p13:=eq_true p13;replace q13:=eq_true q13
           go_wp2_with (first|((with_reducible refine gate_builtin (b:=.append) (xs:=#[.tmp 23,.tmp 28]) rfl ?_);at_builtin;refine Kd.R_append Kd.string (w0:=w) w.heap.size rfl (.tmp 23) (.tmp 28) 68 9 (.string ⟨#[]⟩) 16 rfl Tryz.underlying68 info9 rfl (by decide) (by omega) u3 x3_1 (a0.extract (x4_1:Int).toNat (x5_1:Int).toNat) [.string (a0.extract (x4_1:Int).toNat (x5_1:Int).toNat)] (fun _ => True) (fun _ => False) rfl rfl ?aP (fun _ hk => hk.elim) ?aF ?aO ?aB ?aS ?aL ?_;(case aP => exact rfl);(case aB => exact (xe_ HB));(case aF => exact (fun _ _ => trivial));(case aO => exact (by (with_reducible repeat (first|apply Kd.R_alloc|apply Kd.R_drewN|apply Kd.R_drew));exact HO_3.out));(case aS => exact (below_size (xe_ HB)));(case aL => have:=LMc18.out;omega);intro v216 w19 ho hb hg hat;rw [← Ny215.out] at ho;have n0_:=Am6_ (hb);have n1_:=Am6_ (ho);clear HB;clear HO_3;have HB:=n0_;have HO217:=n1_;clear n0_ n1_;clear ho hb hg hat))
           go_roundg k1
           case measure => have:=HK1.out;omega
           case rel => exact ⟨(y215),(wrap64 (x5_1 + 1)),(wrap64 (x5_1 + 1)),(by first|rfl|(simp;done)|(simp [*];done)),(by first|rfl|(simp;done)|(simp [*];done)),H',⟨by have:=HK1.out;omega⟩,⟨by (with_reducible repeat (first|apply Kd.R_alloc|apply Kd.R_drewN|apply Kd.R_drew));exact HO217.out⟩,⟨by repeat (first|(with_reducible first|exact HB.out|apply below_alloc|apply pw_below_drewN|apply below_drew1)|exact HB.out)⟩⟩
          ·rw [if_neg c18] at H
           exact absurd H (by simp)
         ·rw [if_neg c16] at H
          exact absurd H (by simp)
        ·rw [if_neg c15] at H
         exact absurd H (by simp)
       ·rw [if_neg c14] at H
        have c14b0:((bt a0 x5_1) == 46)=false:=beq_eq_false_iff_ne.mpr c14;have c14b1:((bt a0 x5_1) != 46)=true:=bne_iff_ne.mpr c14;have H':=Am6_ H;clear H;have p13:0 ≤ (x5_1:Int):=of_decide_eq_true (by first|(with_reducible assumption)|assumption);have q13:x5_1 < (a0.size:Int):=of_decide_eq_true (by first|(with_reducible assumption)|assumption);have hx13:=bt_at a0 x5_1;replace p13:=eq_true p13;replace q13:=eq_true q13
        go_wp2
        go_roundg k1
        case measure => have:=HK1.out;omega
        case rel => exact ⟨(x3_1),(x4_1),(wrap64 (x5_1 + 1)),(by first|rfl|(simp;done)|(simp [*];done)),(by first|rfl|(simp;done)|(simp [*];done)),H',⟨by have:=HK1.out;omega⟩,⟨by (with_reducible repeat (first|apply Kd.R_alloc|apply Kd.R_drewN|apply Kd.R_drew));exact HO_3.out⟩,⟨by repeat (first|(with_reducible first|exact HB.out|apply below_alloc|apply pw_below_drewN|apply below_drew1)|exact HB.out)⟩⟩
      ·rw [if_neg c12] at H
       exact absurd H (by simp)
     ·rw [if_neg c11] at H
      exact absurd H (by simp)
   ·rw [if_neg c4] at H
    have c4b0:decide (x5_1 ≤ (a0.size:Int))=false:=decide_eq_false c4;clear c4;obtain rfl:=Option.some.inj H
    go_wp2
    go_ret
    exact ⟨_,by first|rfl|(simp [errW_none,errW_some] <;> rfl)|(simp [*,errW_none,errW_some] <;> rfl),by (with_reducible repeat (first|apply Kd.R_alloc|apply Kd.R_drewN|apply Kd.R_drew));exact HO_3.out,by repeat (first|(with_reducible first|exact HB.out|apply below_alloc|apply pw_below_drewN|apply below_drew1)|exact HB.out)⟩

/-! ### spec_l1In: function 47 -/
def spec_l1In.f (a0:Int) (a1:Int) (a2:Int):Option (Bool):=if a0 ≥ a1 then (some (decide (a0 ≤ a2))) else (some false)
set_option maxHeartbeats 8000000 in
set_option maxRecDepth 100000 in
theorem spec_l1In.calls (a0:Int) (a1:Int) (a2:Int) (r:Bool) (w:World) (h:spec_l1In.f a0 a1 a2=some r) :
  Calls Tryz.prog 47 #[.int .i64 a0,.int .i64 a1,.int .i64 a2] w fun e w' => e=.returned (.bool r)∧Drawn0 w w':=by
 have H:(if a0 ≥ a1 then (some (decide (a0 ≤ a2))) else (some false))=some r:=h;clear h
 by_cases c4:a0 ≥ a1
 ·rw [if_pos c4] at H
  have c4b0:decide (a1 ≤ a0)=true:=decide_eq_true c4;clear c4;obtain rfl:=Option.some.inj H
  go_enter Tryz.func47,Tryz.ntmps47
  go_wp2
  go_ret
  exact ⟨by first|rfl|(simp;done)|(simp [*];done),by repeat (first|exact Drawn0.refl _|apply Drawn0.step)⟩
 ·rw [if_neg c4] at H
  have c4b0:decide (a1 ≤ a0)=false:=decide_eq_false c4;clear c4;obtain rfl:=Option.some.inj H
  go_enter Tryz.func47,Tryz.ntmps47
  go_wp2
  go_ret
  exact ⟨by first|rfl|(simp;done)|(simp [*];done),by repeat (first|exact Drawn0.refl _|apply Drawn0.step)⟩

/-! ### spec_l9Label: function 78 -/
def spec_l9Label.l0:Nat → ByteArray → Int → Option (Bool)
|0,_,_ => none
|k + 1,x0,x3 => if x3 < (x0.size:Int) then (if 0 ≤ x3 then (if (bt x0 x3) ≥ 97 then (if (bt x0 x3) ≤ 122 then (spec_l9Label.l0 k x0 (wrap64 (x3 + 1))) else (if (bt x0 x3) ≥ 48 then (if (bt x0 x3) ≤ 57 then (spec_l9Label.l0 k x0 (wrap64 (x3 + 1))) else (if ((bt x0 x3)=45) then (spec_l9Label.l0 k x0 (wrap64 (x3 + 1))) else (some false))) else (if ((bt x0 x3)=45) then (spec_l9Label.l0 k x0 (wrap64 (x3 + 1))) else (some false)))) else (if (bt x0 x3) ≥ 48 then (if (bt x0 x3) ≤ 57 then (spec_l9Label.l0 k x0 (wrap64 (x3 + 1))) else (if ((bt x0 x3)=45) then (spec_l9Label.l0 k x0 (wrap64 (x3 + 1))) else (some false))) else (if ((bt x0 x3)=45) then (spec_l9Label.l0 k x0 (wrap64 (x3 + 1))) else (some false)))) else (none)) else ((spec_l1In.f (x0.size:Int) 1 20).bind fun t218 => (if t218=true then (if 0 < (x0.size:Int) then (if (bt x0 0)=45 then (some false) else (if 0 ≤ (wrap64 ((x0.size:Int) - 1)) then (if (wrap64 ((x0.size:Int) - 1)) < (x0.size:Int) then (some ((bt x0 (wrap64 ((x0.size:Int) - 1))) != 45)) else (none)) else (none))) else (none)) else (some false)))
def spec_l9Label.f (k:Nat) (a0:ByteArray):Option (Bool):=spec_l9Label.l0 k a0 0
theorem spec_l9Label.mono_l:∀ k,(∀ y0 y1,LeO (spec_l9Label.l0 k y0 y1) (spec_l9Label.l0 (k + 1) y0 y1))
|0 => fun _ _ r h => by simp [spec_l9Label.l0] at h
|k + 1 => by
  have ih0:=spec_l9Label.mono_l k
  ·intro y0 y1
   unfold spec_l9Label.l0
   repeat' first
  |(with_reducible exact ih0 _ _)
  |(with_reducible exact LeO.refl _)
  |(with_reducible exact LeO.none _)
  |(with_reducible refine LeO.ite ?_ ?_)
  |(with_reducible refine LeO.bind ?_ (fun _ => ?_))
  |exact ih0 _ _
  |exact LeO.none _
  |refine LeO.ite ?_ ?_
  |refine LeO.bind ?_ (fun _ => ?_)
theorem spec_l9Label.mono:∀ a0 k,LeO (spec_l9Label.f k a0) (spec_l9Label.f (k + 1) a0):=by
 intro a0 k;have ih0:=spec_l9Label.mono_l k
 unfold spec_l9Label.f
 repeat' first
  |(with_reducible exact ih0 _ _)
  |(with_reducible exact LeO.refl _)
  |(with_reducible exact LeO.none _)
  |(with_reducible refine LeO.ite ?_ ?_)
  |(with_reducible refine LeO.bind ?_ (fun _ => ?_))
  |exact ih0 _ _
  |exact LeO.none _
  |refine LeO.ite ?_ ?_
  |refine LeO.bind ?_ (fun _ => ?_)
set_option maxHeartbeats 8000000 in
set_option maxRecDepth 100000 in
theorem spec_l9Label.calls (k:Nat) (a0:ByteArray) (r:Bool) (w:World) (h:spec_l9Label.f k a0=some r) :
  Calls Tryz.prog 78 #[.string a0] w fun e w' => e=.returned (.bool r)∧Drawn0 w w':=by
 have H:(spec_l9Label.l0 k a0 0)=some r:=h;clear h;have H':=Am6_ H;clear H
 go_enter Tryz.func78,Tryz.ntmps78
 go_wp2
 go_loopg [3] k (fun kq v3 w' => ∃ (x3_1:Int),v3=.int .i64 x3_1∧Aside0 (spec_l9Label.l0 kq a0 x3_1=some r)∧Aside0 (kq ≤ k)∧Drawn0 w w')
 case atStart => exact ⟨(0),(by first|rfl|(simp;done)|(simp [*];done)),H',⟨Nat.le_refl _⟩,by repeat (first|exact Drawn0.refl _|apply Drawn0.step)⟩
 case round =>
  clear H';obtain ⟨x3_1,rfl,HA,HK1,⟨m1,rfl⟩⟩:=hrel
  cases gk with
 |zero => exact absurd HA.out (by simp [spec_l9Label.l0])
 |succ k1 =>
   have H:=HA.out;clear HA;simp only [spec_l9Label.l0] at H
   by_cases c2:x3_1 < (a0.size:Int)
   ·rw [if_pos c2] at H
    have c2b0:decide (x3_1 < (a0.size:Int))=true:=decide_eq_true c2;clear c2
    by_cases c3:0 ≤ x3_1
    ·rw [if_pos c3] at H
     have c3b0:decide (0 ≤ x3_1)=true:=decide_eq_true c3;clear c3
     by_cases c5:(bt a0 x3_1) ≥ 97
     ·rw [if_pos c5] at H
      have c5b0:decide (97 ≤ (bt a0 x3_1))=true:=decide_eq_true c5;clear c5
      by_cases c7:(bt a0 x3_1) ≤ 122
      ·rw [if_pos c7] at H
       have c7b0:decide ((bt a0 x3_1) ≤ 122)=true:=decide_eq_true c7;clear c7;have H':=Am6_ H;clear H;have p4:0 ≤ (x3_1:Int):=of_decide_eq_true (by first|(with_reducible assumption)|assumption);have q4:x3_1 < (a0.size:Int):=of_decide_eq_true (by first|(with_reducible assumption)|assumption);have hx4:=bt_at a0 x3_1;replace p4:=eq_true p4;replace q4:=eq_true q4;have p6:0 ≤ (x3_1:Int):=of_decide_eq_true (by first|(with_reducible assumption)|assumption);have q6:x3_1 < (a0.size:Int):=of_decide_eq_true (by first|(with_reducible assumption)|assumption);have hx6:=bt_at a0 x3_1;replace p6:=eq_true p6;replace q6:=eq_true q6
       go_wp2
       go_roundg k1
       case measure => have:=HK1.out;omega
       case rel => exact ⟨(wrap64 (x3_1 + 1)),(by first|rfl|(simp;done)|(simp [*];done)),H',⟨by have:=HK1.out;omega⟩,by repeat (first|exact Drawn0.refl _|apply Drawn0.step)⟩
      ·rw [if_neg c7] at H
       have c7b0:decide ((bt a0 x3_1) ≤ 122)=false:=decide_eq_false c7;clear c7
       by_cases c9:(bt a0 x3_1) ≥ 48
       ·rw [if_pos c9] at H
        have c9b0:decide (48 ≤ (bt a0 x3_1))=true:=decide_eq_true c9;clear c9
        by_cases c11:(bt a0 x3_1) ≤ 57
        ·rw [if_pos c11] at H
         have c11b0:decide ((bt a0 x3_1) ≤ 57)=true:=decide_eq_true c11;clear c11;have H':=Am6_ H;clear H;have p4:0 ≤ (x3_1:Int):=of_decide_eq_true (by first|(with_reducible assumption)|assumption);have q4:x3_1 < (a0.size:Int):=of_decide_eq_true (by first|(with_reducible assumption)|assumption);have hx4:=bt_at a0 x3_1;replace p4:=eq_true p4;replace q4:=eq_true q4;have p6:0 ≤ (x3_1:Int):=of_decide_eq_true (by first|(with_reducible assumption)|assumption);have q6:x3_1 < (a0.size:Int):=of_decide_eq_true (by first|(with_reducible assumption)|assumption);have hx6:=bt_at a0 x3_1;replace p6:=eq_true p6;replace q6:=eq_true q6;have p8:0 ≤ (x3_1:Int):=of_decide_eq_true (by first|(with_reducible assumption)|assumption);have q8:x3_1 < (a0.size:Int):=of_decide_eq_true (by first|(with_reducible assumption)|assumption);have hx8:=bt_at a0 x3_1;replace p8:=eq_true p8;replace q8:=eq_true q8;have p10:0 ≤ (x3_1:Int):=of_decide_eq_true (by first|(with_reducible assumption)|assumption);have q10:x3_1 < (a0.size:Int):=of_decide_eq_true (by first|(with_reducible assumption)|assumption);have hx10:=bt_at a0 x3_1;replace p10:=eq_true p10;replace q10:=eq_true q10
         go_wp2
         go_roundg k1
         case measure => have:=HK1.out;omega
         case rel => exact ⟨(wrap64 (x3_1 + 1)),(by first|rfl|(simp;done)|(simp [*];done)),H',⟨by have:=HK1.out;omega⟩,by repeat (first|exact Drawn0.refl _|apply Drawn0.step)⟩
        ·rw [if_neg c11] at H
         have c11b0:decide ((bt a0 x3_1) ≤ 57)=false:=decide_eq_false c11;clear c11
         by_cases c13:((bt a0 x3_1)=45)
         ·rw [if_pos c13] at H
          have c13b0:((bt a0 x3_1) == 45)=true:=beq_iff_eq.mpr c13;have c13b1:((bt a0 x3_1) != 45)=false:=bne_eq_false_iff_eq.mpr c13;clear c13;have H':=Am6_ H;clear H;have p4:0 ≤ (x3_1:Int):=of_decide_eq_true (by first|(with_reducible assumption)|assumption);have q4:x3_1 < (a0.size:Int):=of_decide_eq_true (by first|(with_reducible assumption)|assumption);have hx4:=bt_at a0 x3_1;replace p4:=eq_true p4;replace q4:=eq_true q4;have p6:0 ≤ (x3_1:Int):=of_decide_eq_true (by first|(with_reducible assumption)|assumption);have q6:x3_1 < (a0.size:Int):=of_decide_eq_true (by first|(with_reducible assumption)|assumption);have hx6:=bt_at a0 x3_1;replace p6:=eq_true p6;replace q6:=eq_true q6;have p8:0 ≤ (x3_1:Int):=of_decide_eq_true (by first|(with_reducible assumption)|assumption);have q8:x3_1 < (a0.size:Int):=of_decide_eq_true (by first|(with_reducible assumption)|assumption);have hx8:=bt_at a0 x3_1;replace p8:=eq_true p8;replace q8:=eq_true q8;have p10:0 ≤ (x3_1:Int):=of_decide_eq_true (by first|(with_reducible assumption)|assumption);have q10:x3_1 < (a0.size:Int):=of_decide_eq_true (by first|(with_reducible assumption)|assumption);have hx10:=bt_at a0 x3_1;replace p10:=eq_true p10;replace q10:=eq_true q10;have p12:0 ≤ (x3_1:Int):=of_decide_eq_true (by first|(with_reducible assumption)|assumption);have q12:x3_1 < (a0.size:Int):=of_decide_eq_true (by first|(with_reducible assumption)|assumption);have hx12:=bt_at a0 x3_1;replace p12:=eq_true p12;replace q12:=eq_true q12
          go_wp2
          go_roundg k1
          case measure => have:=HK1.out;omega
          case rel => exact ⟨(wrap64 (x3_1 + 1)),(by first|rfl|(simp;done)|(simp [*];done)),H',⟨by have:=HK1.out;omega⟩,by repeat (first|exact Drawn0.refl _|apply Drawn0.step)⟩
         ·rw [if_neg c13] at H
          have c13b0:((bt a0 x3_1) == 45)=false:=beq_eq_false_iff_ne.mpr c13;have c13b1:((bt a0 x3_1) != 45)=true:=bne_iff_ne.mpr c13;obtain rfl:=Option.some.inj H;have p4:0 ≤ (x3_1:Int):=of_decide_eq_true (by first|(with_reducible assumption)|assumption);have q4:x3_1 < (a0.size:Int):=of_decide_eq_true (by first|(with_reducible assumption)|assumption);have hx4:=bt_at a0 x3_1;replace p4:=eq_true p4;replace q4:=eq_true q4;have p6:0 ≤ (x3_1:Int):=of_decide_eq_true (by first|(with_reducible assumption)|assumption);have q6:x3_1 < (a0.size:Int):=of_decide_eq_true (by first|(with_reducible assumption)|assumption);have hx6:=bt_at a0 x3_1;replace p6:=eq_true p6;replace q6:=eq_true q6;have p8:0 ≤ (x3_1:Int):=of_decide_eq_true (by first|(with_reducible assumption)|assumption);have q8:x3_1 < (a0.size:Int):=of_decide_eq_true (by first|(with_reducible assumption)|assumption);have hx8:=bt_at a0 x3_1;replace p8:=eq_true p8;replace q8:=eq_true q8;have p10:0 ≤ (x3_1:Int):=of_decide_eq_true (by first|(with_reducible assumption)|assumption);have q10:x3_1 < (a0.size:Int):=of_decide_eq_true (by first|(with_reducible assumption)|assumption);have hx10:=bt_at a0 x3_1;replace p10:=eq_true p10;replace q10:=eq_true q10;have p12:0 ≤ (x3_1:Int):=of_decide_eq_true (by first|(with_reducible assumption)|assumption);have q12:x3_1 < (a0.size:Int):=of_decide_eq_true (by first|(with_reducible assumption)|assumption);have hx12:=bt_at a0 x3_1;replace p12:=eq_true p12;replace q12:=eq_true q12
          go_wp2
          go_ret
          exact ⟨by first|rfl|(simp;done)|(simp [*];done),by repeat (first|exact Drawn0.refl _|apply Drawn0.step)⟩
       ·rw [if_neg c9] at H
        have c9b0:decide (48 ≤ (bt a0 x3_1))=false:=decide_eq_false c9;clear c9
        by_cases c15:((bt a0 x3_1)=45)
        ·rw [if_pos c15] at H
         have c15b0:((bt a0 x3_1) == 45)=true:=beq_iff_eq.mpr c15;have c15b1:((bt a0 x3_1) != 45)=false:=bne_eq_false_iff_eq.mpr c15;clear c15;have H':=Am6_ H;clear H;have p4:0 ≤ (x3_1:Int):=of_decide_eq_true (by first|(with_reducible assumption)|assumption);have q4:x3_1 < (a0.size:Int):=of_decide_eq_true (by first|(with_reducible assumption)|assumption);have hx4:=bt_at a0 x3_1;replace p4:=eq_true p4;replace q4:=eq_true q4;have p6:0 ≤ (x3_1:Int):=of_decide_eq_true (by first|(with_reducible assumption)|assumption);have q6:x3_1 < (a0.size:Int):=of_decide_eq_true (by first|(with_reducible assumption)|assumption);have hx6:=bt_at a0 x3_1;replace p6:=eq_true p6;replace q6:=eq_true q6;have p8:0 ≤ (x3_1:Int):=of_decide_eq_true (by first|(with_reducible assumption)|assumption);have q8:x3_1 < (a0.size:Int):=of_decide_eq_true (by first|(with_reducible assumption)|assumption);have hx8:=bt_at a0 x3_1;replace p8:=eq_true p8;replace q8:=eq_true q8;have p14:0 ≤ (x3_1:Int):=of_decide_eq_true (by first|(with_reducible assumption)|assumption);have q14:x3_1 < (a0.size:Int):=of_decide_eq_true (by first|(with_reducible assumption)|assumption);have hx14:=bt_at a0 x3_1;replace p14:=eq_true p14;replace q14:=eq_true q14
         go_wp2
         go_roundg k1
         case measure => have:=HK1.out;omega
         case rel => exact ⟨(wrap64 (x3_1 + 1)),(by first|rfl|(simp;done)|(simp [*];done)),H',⟨by have:=HK1.out;omega⟩,by repeat (first|exact Drawn0.refl _|apply Drawn0.step)⟩
        ·rw [if_neg c15] at H
         have c15b0:((bt a0 x3_1) == 45)=false:=beq_eq_false_iff_ne.mpr c15;have c15b1:((bt a0 x3_1) != 45)=true:=bne_iff_ne.mpr c15;obtain rfl:=Option.some.inj H;have p4:0 ≤ (x3_1:Int):=of_decide_eq_true (by first|(with_reducible assumption)|assumption);have q4:x3_1 < (a0.size:Int):=of_decide_eq_true (by first|(with_reducible assumption)|assumption);have hx4:=bt_at a0 x3_1;replace p4:=eq_true p4;replace q4:=eq_true q4;have p6:0 ≤ (x3_1:Int):=of_decide_eq_true (by first|(with_reducible assumption)|assumption);have q6:x3_1 < (a0.size:Int):=of_decide_eq_true (by first|(with_reducible assumption)|assumption);have hx6:=bt_at a0 x3_1;replace p6:=eq_true p6;replace q6:=eq_true q6;have p8:0 ≤ (x3_1:Int):=of_decide_eq_true (by first|(with_reducible assumption)|assumption);have q8:x3_1 < (a0.size:Int):=of_decide_eq_true (by first|(with_reducible assumption)|assumption);have hx8:=bt_at a0 x3_1;replace p8:=eq_true p8;replace q8:=eq_true q8;have p14:0 ≤ (x3_1:Int):=of_decide_eq_true (by first|(with_reducible assumption)|assumption);have q14:x3_1 < (a0.size:Int):=of_decide_eq_true (by first|(with_reducible assumption)|assumption);have hx14:=bt_at a0 x3_1;replace p14:=eq_true p14;replace q14:=eq_true q14
         go_wp2
         go_ret
         exact ⟨by first|rfl|(simp;done)|(simp [*];done),by repeat (first|exact Drawn0.refl _|apply Drawn0.step)⟩
     ·rw [if_neg c5] at H
      have c5b0:decide (97 ≤ (bt a0 x3_1))=false:=decide_eq_false c5;clear c5
      by_cases c17:(bt a0 x3_1) ≥ 48
      ·rw [if_pos c17] at H
       have c17b0:decide (48 ≤ (bt a0 x3_1))=true:=decide_eq_true c17;clear c17
       by_cases c19:(bt a0 x3_1) ≤ 57
       ·rw [if_pos c19] at H
        have c19b0:decide ((bt a0 x3_1) ≤ 57)=true:=decide_eq_true c19;clear c19;have H':=Am6_ H;clear H;have p4:0 ≤ (x3_1:Int):=of_decide_eq_true (by first|(with_reducible assumption)|assumption);have q4:x3_1 < (a0.size:Int):=of_decide_eq_true (by first|(with_reducible assumption)|assumption);have hx4:=bt_at a0 x3_1;replace p4:=eq_true p4;replace q4:=eq_true q4;have p16:0 ≤ (x3_1:Int):=of_decide_eq_true (by first|(with_reducible assumption)|assumption);have q16:x3_1 < (a0.size:Int):=of_decide_eq_true (by first|(with_reducible assumption)|assumption);have hx16:=bt_at a0 x3_1;replace p16:=eq_true p16;replace q16:=eq_true q16;have p18:0 ≤ (x3_1:Int):=of_decide_eq_true (by first|(with_reducible assumption)|assumption);have q18:x3_1 < (a0.size:Int):=of_decide_eq_true (by first|(with_reducible assumption)|assumption);have hx18:=bt_at a0 x3_1;replace p18:=eq_true p18;replace q18:=eq_true q18
        go_wp2
        go_roundg k1
        case measure => have:=HK1.out;omega
        case rel => exact ⟨(wrap64 (x3_1 + 1)),(by first|rfl|(simp;done)|(simp [*];done)),H',⟨by have:=HK1.out;omega⟩,by repeat (first|exact Drawn0.refl _|apply Drawn0.step)⟩
       ·rw [if_neg c19] at H
        have c19b0:decide ((bt a0 x3_1) ≤ 57)=false:=decide_eq_false c19;clear c19
        by_cases c21:((bt a0 x3_1)=45)
        ·rw [if_pos c21] at H
         have c21b0:((bt a0 x3_1) == 45)=true:=beq_iff_eq.mpr c21;have c21b1:((bt a0 x3_1) != 45)=false:=bne_eq_false_iff_eq.mpr c21;clear c21;have H':=Am6_ H;clear H;have p4:0 ≤ (x3_1:Int):=of_decide_eq_true (by first|(with_reducible assumption)|assumption);have q4:x3_1 < (a0.size:Int):=of_decide_eq_true (by first|(with_reducible assumption)|assumption);have hx4:=bt_at a0 x3_1;replace p4:=eq_true p4;replace q4:=eq_true q4;have p16:0 ≤ (x3_1:Int):=of_decide_eq_true (by first|(with_reducible assumption)|assumption);have q16:x3_1 < (a0.size:Int):=of_decide_eq_true (by first|(with_reducible assumption)|assumption);have hx16:=bt_at a0 x3_1;replace p16:=eq_true p16;replace q16:=eq_true q16;have p18:0 ≤ (x3_1:Int):=of_decide_eq_true (by first|(with_reducible assumption)|assumption);have q18:x3_1 < (a0.size:Int):=of_decide_eq_true (by first|(with_reducible assumption)|assumption);have hx18:=bt_at a0 x3_1;replace p18:=eq_true p18;replace q18:=eq_true q18;have p20:0 ≤ (x3_1:Int):=of_decide_eq_true (by first|(with_reducible assumption)|assumption);have q20:x3_1 < (a0.size:Int):=of_decide_eq_true (by first|(with_reducible assumption)|assumption);have hx20:=bt_at a0 x3_1;replace p20:=eq_true p20;replace q20:=eq_true q20
         go_wp2
         go_roundg k1
         case measure => have:=HK1.out;omega
         case rel => exact ⟨(wrap64 (x3_1 + 1)),(by first|rfl|(simp;done)|(simp [*];done)),H',⟨by have:=HK1.out;omega⟩,by repeat (first|exact Drawn0.refl _|apply Drawn0.step)⟩
        ·rw [if_neg c21] at H
         have c21b0:((bt a0 x3_1) == 45)=false:=beq_eq_false_iff_ne.mpr c21;have c21b1:((bt a0 x3_1) != 45)=true:=bne_iff_ne.mpr c21;obtain rfl:=Option.some.inj H;have p4:0 ≤ (x3_1:Int):=of_decide_eq_true (by first|(with_reducible assumption)|assumption);have q4:x3_1 < (a0.size:Int):=of_decide_eq_true (by first|(with_reducible assumption)|assumption);have hx4:=bt_at a0 x3_1;replace p4:=eq_true p4;replace q4:=eq_true q4;have p16:0 ≤ (x3_1:Int):=of_decide_eq_true (by first|(with_reducible assumption)|assumption);have q16:x3_1 < (a0.size:Int):=of_decide_eq_true (by first|(with_reducible assumption)|assumption);have hx16:=bt_at a0 x3_1;replace p16:=eq_true p16;replace q16:=eq_true q16;have p18:0 ≤ (x3_1:Int):=of_decide_eq_true (by first|(with_reducible assumption)|assumption);have q18:x3_1 < (a0.size:Int):=of_decide_eq_true (by first|(with_reducible assumption)|assumption);have hx18:=bt_at a0 x3_1;replace p18:=eq_true p18;replace q18:=eq_true q18;have p20:0 ≤ (x3_1:Int):=of_decide_eq_true (by first|(with_reducible assumption)|assumption);have q20:x3_1 < (a0.size:Int):=of_decide_eq_true (by first|(with_reducible assumption)|assumption);have hx20:=bt_at a0 x3_1;replace p20:=eq_true p20;replace q20:=eq_true q20
         go_wp2
         go_ret
         exact ⟨by first|rfl|(simp;done)|(simp [*];done),by repeat (first|exact Drawn0.refl _|apply Drawn0.step)⟩
      ·rw [if_neg c17] at H
       have c17b0:decide (48 ≤ (bt a0 x3_1))=false:=decide_eq_false c17;clear c17
       by_cases c23:((bt a0 x3_1)=45)
       ·rw [if_pos c23] at H
        have c23b0:((bt a0 x3_1) == 45)=true:=beq_iff_eq.mpr c23;have c23b1:((bt a0 x3_1) != 45)=false:=bne_eq_false_iff_eq.mpr c23;clear c23;have H':=Am6_ H;clear H;have p4:0 ≤ (x3_1:Int):=of_decide_eq_true (by first|(with_reducible assumption)|assumption);have q4:x3_1 < (a0.size:Int):=of_decide_eq_true (by first|(with_reducible assumption)|assumption);have hx4:=bt_at a0 x3_1;replace p4:=eq_true p4;replace q4:=eq_true q4;have p16:0 ≤ (x3_1:Int):=of_decide_eq_true (by first|(with_reducible assumption)|assumption);have q16:x3_1 < (a0.size:Int):=of_decide_eq_true (by first|(with_reducible assumption)|assumption);have hx16:=bt_at a0 x3_1;replace p16:=eq_true p16;replace q16:=eq_true q16;have p22:0 ≤ (x3_1:Int):=of_decide_eq_true (by first|(with_reducible assumption)|assumption);have q22:x3_1 < (a0.size:Int):=of_decide_eq_true (by first|(with_reducible assumption)|assumption);have hx22:=bt_at a0 x3_1;replace p22:=eq_true p22;replace q22:=eq_true q22
        go_wp2
        go_roundg k1
        case measure => have:=HK1.out;omega
        case rel => exact ⟨(wrap64 (x3_1 + 1)),(by first|rfl|(simp;done)|(simp [*];done)),H',⟨by have:=HK1.out;omega⟩,by repeat (first|exact Drawn0.refl _|apply Drawn0.step)⟩
       ·rw [if_neg c23] at H
        have c23b0:((bt a0 x3_1) == 45)=false:=beq_eq_false_iff_ne.mpr c23;have c23b1:((bt a0 x3_1) != 45)=true:=bne_iff_ne.mpr c23;obtain rfl:=Option.some.inj H;have p4:0 ≤ (x3_1:Int):=of_decide_eq_true (by first|(with_reducible assumption)|assumption);have q4:x3_1 < (a0.size:Int):=of_decide_eq_true (by first|(with_reducible assumption)|assumption);have hx4:=bt_at a0 x3_1;replace p4:=eq_true p4;replace q4:=eq_true q4;have p16:0 ≤ (x3_1:Int):=of_decide_eq_true (by first|(with_reducible assumption)|assumption);have q16:x3_1 < (a0.size:Int):=of_decide_eq_true (by first|(with_reducible assumption)|assumption);have hx16:=bt_at a0 x3_1;replace p16:=eq_true p16;replace q16:=eq_true q16;have p22:0 ≤ (x3_1:Int):=of_decide_eq_true (by first|(with_reducible assumption)|assumption);have q22:x3_1 < (a0.size:Int):=of_decide_eq_true (by first|(with_reducible assumption)|assumption);have hx22:=bt_at a0 x3_1;replace p22:=eq_true p22;replace q22:=eq_true q22
        go_wp2
        go_ret
        exact ⟨by first|rfl|(simp;done)|(simp [*];done),by repeat (first|exact Drawn0.refl _|apply Drawn0.step)⟩
    ·rw [if_neg c3] at H
     exact absurd H (by simp)
   ·rw [if_neg c2] at H
    have c2b0:decide (x3_1 < (a0.size:Int))=false:=decide_eq_false c2;clear c2;replace H:=Option.bind_eq_some_iff.mp H;obtain ⟨t218,A240,H⟩:=H
    try dsimp only at H
    have A24:=Am6_ A240;clear A240
    by_cases c25:t218=true
    ·subst c25
     rw [if_pos rfl] at H
     by_cases c26:0 < (a0.size:Int)
     ·rw [if_pos c26] at H
      have c26b0:decide (0 < (a0.size:Int))=true:=decide_eq_true c26;have c26b1:decide (0 < a0.size)=true:=decide_eq_true (by omega);clear c26
      by_cases c28:(bt a0 0)=45
      ·rw [if_pos c28] at H
       have c28b0:((bt a0 0) == 45)=true:=beq_iff_eq.mpr c28;have c28b1:((bt a0 0) != 45)=false:=bne_eq_false_iff_eq.mpr c28;clear c28;obtain rfl:=Option.some.inj H
       go_wp2_with (first|((with_reducible refine gate_callee (f:=47) rfl ?_);refine goesL_ (some 43) rfl rfl Tryz.func47 (by kernel_rfl) rfl #[.int .i64 (a0.size:Int),.int .i64 1,.int .i64 20] rfl (by (try simp only [List.map_toArray,List.map_cons,List.map_nil]);first|done|rfl|(simp only [List.length_drop,List.length_take];rfl)) ?_;(with_reducible refine (spec_l1In.calls (a0.size:Int) 1 20 true _ A24.out).mono ?_);rintro e w' ⟨rfl,⟨nd,rfl⟩⟩;refine ⟨_,rfl,?_⟩;have p27:0 ≤ (0:Int):=(by omega);have q27:0 < a0.size:=(by have:(0:Int) < (a0.size:Int):=of_decide_eq_true (by first|(with_reducible assumption)|assumption);omega);have hx27:∀ h:0 < a0.size,((a0[0]'h).toNat:Int)=bt a0 0:=bt_at a0 0;clear p27;have qi27:(0 < (a0.size:Int))=True:=eq_true (of_decide_eq_true (by first|(with_reducible assumption)|assumption));replace q27:=eq_true q27))
       go_ret
       exact ⟨by first|rfl|(simp;done)|(simp [*];done),by repeat (first|exact Drawn0.refl _|apply Drawn0.step)⟩
      ·rw [if_neg c28] at H
       have c28b0:((bt a0 0) == 45)=false:=beq_eq_false_iff_ne.mpr c28;have c28b1:((bt a0 0) != 45)=true:=bne_iff_ne.mpr c28;obtain ⟨ji29,hji29⟩:∃ j_:Int,(wrap64 ((a0.size:Int) - 1))=j_:=⟨_,rfl⟩;replace H:(if 0 ≤ (ji29) then (if (ji29) < (a0.size:Int) then (some ((bt a0 (ji29)) != 45)) else (none)) else (none))=some r:=by first|(rw [hji29] at H;exact H)|(simp only [hji29] at H ⊢;exact H)
       (try rw [hji29] at A24);have hji29w:(IntKind.i64.wrap ((a0.size:Int) - 1))=ji29:=(i64_w _).trans hji29
       by_cases c30:0 ≤ (ji29)
       ·rw [if_pos c30] at H
        have c30b0:decide (0 ≤ (ji29))=true:=decide_eq_true c30;clear c30
        by_cases c31:(ji29) < (a0.size:Int)
        ·rw [if_pos c31] at H
         have c31b0:decide ((ji29) < (a0.size:Int))=true:=decide_eq_true c31;clear c31;obtain rfl:=Option.some.inj H
         go_wp2_with (first|((with_reducible refine gate_callee (f:=47) rfl ?_);refine goesL_ (some 43) rfl rfl Tryz.func47 (by kernel_rfl) rfl #[.int .i64 (a0.size:Int),.int .i64 1,.int .i64 20] rfl (by (try simp only [List.map_toArray,List.map_cons,List.map_nil]);first|done|rfl|(simp only [List.length_drop,List.length_take];rfl)) ?_;(with_reducible refine (spec_l1In.calls (a0.size:Int) 1 20 true _ A24.out).mono ?_);rintro e w' ⟨rfl,⟨nd,rfl⟩⟩;refine ⟨_,rfl,?_⟩;have p27:0 ≤ (0:Int):=(by omega);have q27:0 < a0.size:=(by have:(0:Int) < (a0.size:Int):=of_decide_eq_true (by first|(with_reducible assumption)|assumption);omega);have hx27:∀ h:0 < a0.size,((a0[0]'h).toNat:Int)=bt a0 0:=bt_at a0 0;clear p27;have qi27:(0 < (a0.size:Int))=True:=eq_true (of_decide_eq_true (by first|(with_reducible assumption)|assumption));replace q27:=eq_true q27;have p32:0 ≤ ((ji29):Int):=of_decide_eq_true (by first|(with_reducible assumption)|assumption);have q32:(ji29) < (a0.size:Int):=of_decide_eq_true (by first|(with_reducible assumption)|assumption);have hx32:=bt_at a0 (ji29);replace p32:=eq_true p32;replace q32:=eq_true q32))
         go_ret
         exact ⟨by first|rfl|(simp;done)|(simp only [← hji29] <;> (first|rfl|simp))|(simp [*];done),by repeat (first|exact Drawn0.refl _|apply Drawn0.step)⟩
        ·rw [if_neg c31] at H
         exact absurd H (by simp)
       ·rw [if_neg c30] at H
        exact absurd H (by simp)
     ·rw [if_neg c26] at H
      exact absurd H (by simp)
    ·replace c25:=Bool.eq_false_iff.mpr c25;subst c25
     rw [if_neg (show ¬ (false=true) by decide)] at H
     obtain rfl:=Option.some.inj H
     go_wp2_with (first|((with_reducible refine gate_callee (f:=47) rfl ?_);refine goesL_ (some 43) rfl rfl Tryz.func47 (by kernel_rfl) rfl #[.int .i64 (a0.size:Int),.int .i64 1,.int .i64 20] rfl (by (try simp only [List.map_toArray,List.map_cons,List.map_nil]);first|done|rfl|(simp only [List.length_drop,List.length_take];rfl)) ?_;(with_reducible refine (spec_l1In.calls (a0.size:Int) 1 20 false _ A24.out).mono ?_);rintro e w' ⟨rfl,⟨nd,rfl⟩⟩;refine ⟨_,rfl,?_⟩))
     go_ret
     exact ⟨by first|rfl|(simp;done)|(simp [*];done),by repeat (first|exact Drawn0.refl _|apply Drawn0.step)⟩

/-! ### spec_IsHost: function 45 -/
def spec_IsHost.l0:Nat → ByteArray → List ByteArray → Int → Option (Bool)
|0,_,_,_ => none
|k + 1,x0,x3,x4 => if x4 < (x3.length:Int) then (if 0 ≤ x4 then ((spec_l9Label.f k (rdOf ByteArray.empty x3 x4)).bind fun t223 => (if t223=true then (spec_IsHost.l0 k x0 x3 (wrap64 (x4 + 1))) else (some false))) else (none)) else (some (decide ((x0.size:Int) ≤ 60)))
def spec_IsHost.f (k:Nat) (a0:ByteArray):Option (Bool):=(spec_l9Labels.f k a0).bind fun t219 => (spec_IsHost.l0 k a0 t219 0)
theorem spec_IsHost.mono_l:∀ k,(∀ y0 y1 y2,LeO (spec_IsHost.l0 k y0 y1 y2) (spec_IsHost.l0 (k + 1) y0 y1 y2))
|0 => fun _ _ _ r h => by simp [spec_IsHost.l0] at h
|k + 1 => by
  have ih0:=spec_IsHost.mono_l k
  ·intro y0 y1 y2
   unfold spec_IsHost.l0
   repeat' first
  |(with_reducible exact ih0 _ _ _)
  |(with_reducible exact spec_l9Label.mono _ _)
  |(with_reducible exact spec_l9Labels.mono _ _)
  |(with_reducible exact LeO.refl _)
  |(with_reducible exact LeO.none _)
  |(with_reducible refine LeO.ite ?_ ?_)
  |(with_reducible refine LeO.bind ?_ (fun _ => ?_))
  |exact ih0 _ _ _
  |exact spec_l9Label.mono _ _
  |exact spec_l9Labels.mono _ _
  |exact LeO.none _
  |refine LeO.ite ?_ ?_
  |refine LeO.bind ?_ (fun _ => ?_)
theorem spec_IsHost.mono:∀ a0 k,LeO (spec_IsHost.f k a0) (spec_IsHost.f (k + 1) a0):=by
 intro a0 k;have ih0:=spec_IsHost.mono_l k
 unfold spec_IsHost.f
 repeat' first
  |(with_reducible exact ih0 _ _ _)
  |(with_reducible exact spec_l9Label.mono _ _)
  |(with_reducible exact spec_l9Labels.mono _ _)
  |(with_reducible exact LeO.refl _)
  |(with_reducible exact LeO.none _)
  |(with_reducible refine LeO.ite ?_ ?_)
  |(with_reducible refine LeO.bind ?_ (fun _ => ?_))
  |exact ih0 _ _ _
  |exact spec_l9Label.mono _ _
  |exact spec_l9Labels.mono _ _
  |exact LeO.none _
  |refine LeO.ite ?_ ?_
  |refine LeO.bind ?_ (fun _ => ?_)
set_option maxHeartbeats 8000000 in
set_option maxRecDepth 100000 in
theorem spec_IsHost.calls (k:Nat) (a0:ByteArray) (r:Bool) (w:World) (h:spec_IsHost.f k a0=some r) :
  Calls Tryz.prog 45 #[.string a0] w fun e w' => e=.returned (.bool r)∧Below w.heap.size w w':=by
 have HB:=Am6_ (Below.refl w.heap.size w);have H:((spec_l9Labels.f k a0).bind fun t219 => (spec_IsHost.l0 k a0 t219 0))=some r:=h;clear h;replace H:=Option.bind_eq_some_iff.mp H;obtain ⟨t219,A20,H⟩:=H
 try dsimp only at H
 have A2:=Am6_ A20;clear A20;have H':=Am6_ H;clear H
 go_enter Tryz.func45,Tryz.ntmps45
 go_wp2_with (first|((with_reducible refine gate_callee (f:=46) rfl ?_);refine goesL_ (some 6) rfl rfl Tryz.func46 (by kernel_rfl) rfl #[.string a0] rfl (by (try simp only [List.map_toArray,List.map_cons,List.map_nil]);first|done|rfl|(simp only [List.length_drop,List.length_take];rfl)) ?_;(with_reducible refine (spec_l9Labels.calls k a0 t219 _ A2.out).mono ?_);rintro e w3 ⟨v220,rfl,ho0,hb⟩;refine ⟨_,rfl,?_⟩;have n0_:=Am6_ (Kd.R_lower ho0 (below_size (xe_ HB)));have n1_:=bs_ HB hb;clear HB;have HO221:=n0_;have HB:=n1_;clear n0_ n1_;(try clear hb);(try clear hb2);(try clear hk);(try clear hi);(try clear ho0)))
 go_loopg [4] k (fun kq v4 w' => ∃ (x4_1:Int),v4=.int .i64 x4_1∧Aside0 (spec_IsHost.l0 kq a0 t219 x4_1=some r)∧Aside0 (kq ≤ k)∧Aside0 (Kd.R Kd.string 9 w' w.heap.size (fun _ => True) v220 t219)∧Aside0 (Below w.heap.size w w'))
 case atStart => exact ⟨(0),(by first|rfl|(simp;done)|(simp [*];done)),H',⟨Nat.le_refl _⟩,⟨by (with_reducible repeat (first|apply Kd.R_alloc|apply Kd.R_drewN|apply Kd.R_drew));exact HO221.out⟩,⟨by repeat (first|(with_reducible first|exact HB.out|apply below_alloc|apply pw_below_drewN|apply below_drew1)|exact HB.out)⟩⟩
 case round =>
  clear H'
  try clear p2
  obtain ⟨x4_1,rfl,HA,HK1,HO_3,HB⟩:=hrel
  cases gk with
 |zero => exact absurd HA.out (by simp [spec_IsHost.l0])
 |succ k1 =>
   have H:=HA.out;clear HA;simp only [spec_IsHost.l0] at H
   by_cases c4:x4_1 < (t219.length:Int)
   ·rw [if_pos c4] at H
    have c4b0:decide (x4_1 < (t219.length:Int))=true:=decide_eq_true c4;clear c4
    by_cases c5:0 ≤ x4_1
    ·rw [if_pos c5] at H
     have c5b0:decide (0 ≤ x4_1)=true:=decide_eq_true c5;clear c5;replace H:=Option.bind_eq_some_iff.mp H;obtain ⟨t223,A60,H⟩:=H
     try dsimp only at H
     have A6:=Am6_ A60;clear A60
     by_cases c7:t223=true
     ·subst c7
      rw [if_pos rfl] at H
      have H':=Am6_ H;clear H;obtain ⟨Ao8,co8,eo8⟩:=Kd.R_slice HO_3.out;subst eo8;have p222:0 ≤ (x4_1:Int):=of_decide_eq_true (by first|(with_reducible assumption)|assumption);have q222:x4_1 < (t219.length:Int):=of_decide_eq_true (by first|(with_reducible assumption)|assumption);obtain ⟨ad222,e222,hx222_0⟩:=Kd.at_string (Kd.R_reads' HO_3.out).2.2 x4_1 p222 q222
      cases e222
      replace p222:=eq_true p222;replace q222:=eq_true q222
      go_wp2_with (first|((with_reducible refine gate_callee (f:=78) rfl ?_);refine goesL_ (some 17) rfl rfl Tryz.func78 (by kernel_rfl) rfl #[.string (rdOf ByteArray.empty t219 x4_1)] rfl (by (try simp only [List.map_toArray,List.map_cons,List.map_nil]);first|done|rfl|(simp only [List.length_drop,List.length_take];rfl)) ?_;(with_reducible refine (spec_l9Label.calls k1 (rdOf ByteArray.empty t219 x4_1) true _ A6.out).mono ?_);rintro e w' ⟨rfl,⟨nd,rfl⟩⟩;refine ⟨_,rfl,?_⟩))
      go_roundg k1
      case measure => have:=HK1.out;omega
      case rel => exact ⟨(wrap64 (x4_1 + 1)),(by first|rfl|(simp;done)|(simp [*];done)),H',⟨by have:=HK1.out;omega⟩,⟨by (with_reducible repeat (first|apply Kd.R_alloc|apply Kd.R_drewN|apply Kd.R_drew));exact HO_3.out⟩,⟨by repeat (first|(with_reducible first|exact HB.out|apply below_alloc|apply pw_below_drewN|apply below_drew1)|exact HB.out)⟩⟩
     ·replace c7:=Bool.eq_false_iff.mpr c7;subst c7
      rw [if_neg (show ¬ (false=true) by decide)] at H
      obtain rfl:=Option.some.inj H;obtain ⟨Ao9,co9,eo9⟩:=Kd.R_slice HO_3.out;subst eo9;have p222:0 ≤ (x4_1:Int):=of_decide_eq_true (by first|(with_reducible assumption)|assumption);have q222:x4_1 < (t219.length:Int):=of_decide_eq_true (by first|(with_reducible assumption)|assumption);obtain ⟨ad222,e222,hx222_0⟩:=Kd.at_string (Kd.R_reads' HO_3.out).2.2 x4_1 p222 q222
      cases e222
      replace p222:=eq_true p222;replace q222:=eq_true q222
      go_wp2_with (first|((with_reducible refine gate_callee (f:=78) rfl ?_);refine goesL_ (some 17) rfl rfl Tryz.func78 (by kernel_rfl) rfl #[.string (rdOf ByteArray.empty t219 x4_1)] rfl (by (try simp only [List.map_toArray,List.map_cons,List.map_nil]);first|done|rfl|(simp only [List.length_drop,List.length_take];rfl)) ?_;(with_reducible refine (spec_l9Label.calls k1 (rdOf ByteArray.empty t219 x4_1) false _ A6.out).mono ?_);rintro e w' ⟨rfl,⟨nd,rfl⟩⟩;refine ⟨_,rfl,?_⟩))
      go_ret
      exact ⟨by first|rfl|(simp [errW_none,errW_some] <;> rfl)|(simp [*,errW_none,errW_some] <;> rfl),by repeat (first|(with_reducible first|exact HB.out|apply below_alloc|apply pw_below_drewN|apply below_drew1)|exact HB.out)⟩
    ·rw [if_neg c5] at H
     exact absurd H (by simp)
   ·rw [if_neg c4] at H
    have c4b0:decide (x4_1 < (t219.length:Int))=false:=decide_eq_false c4;clear c4;obtain rfl:=Option.some.inj H;obtain ⟨Ao10,co10,eo10⟩:=Kd.R_slice HO_3.out;subst eo10
    go_wp2
    go_ret
    exact ⟨by first|rfl|(simp [errW_none,errW_some] <;> rfl)|(simp [*,errW_none,errW_some] <;> rfl),by repeat (first|(with_reducible first|exact HB.out|apply below_alloc|apply pw_below_drewN|apply below_drew1)|exact HB.out)⟩

/-! ### spec_IsOrigin: function 28 -/
def spec_IsOrigin.f (k:Nat) (a0_0:Bool) (a0_1:ByteArray) (a0_2:Int):Option (Bool):=(spec_IsHost.f k a0_1).bind fun t225 => (if t225=true then ((spec_l1In.f a0_2 1 65535).bind fun t226 => (some t226)) else (some false))
theorem spec_IsOrigin.mono:∀ a0 a1 a2 k,LeO (spec_IsOrigin.f k a0 a1 a2) (spec_IsOrigin.f (k + 1) a0 a1 a2):=by
 intro a0 a1 a2 k
 unfold spec_IsOrigin.f
 repeat' first
  |(with_reducible exact spec_IsHost.mono _ _)
  |(with_reducible exact LeO.refl _)
  |(with_reducible exact LeO.none _)
  |(with_reducible refine LeO.ite ?_ ?_)
  |(with_reducible refine LeO.bind ?_ (fun _ => ?_))
  |exact spec_IsHost.mono _ _
  |exact LeO.none _
  |refine LeO.ite ?_ ?_
  |refine LeO.bind ?_ (fun _ => ?_)
set_option maxHeartbeats 8000000 in
set_option maxRecDepth 100000 in
theorem spec_IsOrigin.calls (k:Nat) (a0_0:Bool) (a0_1:ByteArray) (a0_2:Int) (r:Bool) (w:World) (h:spec_IsOrigin.f k a0_0 a0_1 a0_2=some r) :
  Calls Tryz.prog 28 #[.agg #[.bool a0_0,.string a0_1,.int .i64 a0_2]] w fun e w' => e=.returned (.bool r)∧Below w.heap.size w w':=by
 have hu28:=Tryz.underlying28;have HB:=Am6_ (Below.refl w.heap.size w);have H:=h;unfold spec_IsOrigin.f at H;clear h;replace H:=Option.bind_eq_some_iff.mp H;obtain ⟨t225,A20,H⟩:=H
 try dsimp only at H
 have A2:=Am6_ A20;clear A20
 by_cases c3:t225=true
 ·subst c3
  rw [if_pos rfl] at H
  replace H:=Option.bind_eq_some_iff.mp H;obtain ⟨t226,A40,H⟩:=H
  try dsimp only at H
  have A4:=Am6_ A40;clear A40;obtain rfl:=Option.some.inj H
  go_enter Tryz.func28,Tryz.ntmps28
  go_wp2_with (first|((with_reducible refine gate_dst (N:=1) rfl ?_);refine box_event ?hg (N:=1) ?hd (cs:=#[.bool a0_0,.string a0_1,.int .i64 a0_2]) (t:=28) ?hr ?_;(case hd => rfl);(case hg => rfl);(case hr => first|(go_simp;done)|(go_simp;rfl));intro gb224 hg w5 hbox hb;have n0_:=bs_ HB hb;have n1_:=Am6_ (hbox);have n2_:=gw_ hg HB;have n3_:=gw_ hg HB;clear HB;have HB:=n0_;have BK224:=n1_;have GW224:=n2_;have GE224:=n3_;clear n0_ n1_ n2_ n3_;clear hb hbox hg;have hcz6_0:w5.cell? ⟨gb224,0,none⟩=some (.bool a0_0):=q_ BK224 0 rfl;have hcz6_1:w5.cell? ⟨gb224,1,none⟩=some (.string a0_1):=q_ BK224 1 rfl;have hcz6_2:w5.cell? ⟨gb224,2,none⟩=some (.int .i64 a0_2):=q_ BK224 2 rfl;have hfz6_0:=blk_frozen BK224.out 0;have hfz6_1:=blk_frozen BK224.out 1;have hfz6_2:=blk_frozen BK224.out 2)|((with_reducible refine gate_callee (f:=45) rfl ?_);refine goesL_ (some 5) rfl rfl Tryz.func45 (by kernel_rfl) rfl #[.string a0_1] rfl (by (try simp only [List.map_toArray,List.map_cons,List.map_nil]);first|done|rfl|(simp only [List.length_drop,List.length_take];rfl)) ?_;(with_reducible refine (spec_IsHost.calls k a0_1 true _ A2.out).mono ?_);rintro e w7 ⟨rfl,hb⟩;refine ⟨_,rfl,?_⟩;have n0_:=bb_ BK224 hb;have n1_:=bs_ HB hb;clear BK224;clear HB;have BK224:=n0_;have HB:=n1_;clear n0_ n1_;(try clear hb);(try clear hb2);(try clear hk);(try clear hi);have hcz8_0:w7.cell? ⟨gb224,0,none⟩=some (.bool a0_0):=q_ BK224 0 rfl;have hcz8_1:w7.cell? ⟨gb224,1,none⟩=some (.string a0_1):=q_ BK224 1 rfl;have hcz8_2:w7.cell? ⟨gb224,2,none⟩=some (.int .i64 a0_2):=q_ BK224 2 rfl;have hfz8_0:=blk_frozen BK224.out 0;have hfz8_1:=blk_frozen BK224.out 1;have hfz8_2:=blk_frozen BK224.out 2)|(go_at_call 47;(with_reducible refine (spec_l1In.calls a0_2 1 65535 t226 _ A4.out).mono ?_);rintro e w' ⟨rfl,⟨nd,rfl⟩⟩))
  go_ret
  exact ⟨by first|rfl|(simp [errW_none,errW_some] <;> rfl)|(simp [*,errW_none,errW_some] <;> rfl),by repeat (first|(with_reducible first|exact HB.out|apply below_alloc|apply pw_below_drewN|apply below_drew1|refine below_set ?_ GE224.out)|exact HB.out)⟩
 ·replace c3:=Bool.eq_false_iff.mpr c3;subst c3
  rw [if_neg (show ¬ (false=true) by decide)] at H
  obtain rfl:=Option.some.inj H
  go_enter Tryz.func28,Tryz.ntmps28
  go_wp2_with (first|((with_reducible refine gate_dst (N:=1) rfl ?_);refine box_event ?hg (N:=1) ?hd (cs:=#[.bool a0_0,.string a0_1,.int .i64 a0_2]) (t:=28) ?hr ?_;(case hd => rfl);(case hg => rfl);(case hr => first|(go_simp;done)|(go_simp;rfl));intro gb224 hg w9 hbox hb;have n0_:=bs_ HB hb;have n1_:=Am6_ (hbox);have n2_:=gw_ hg HB;have n3_:=gw_ hg HB;clear HB;have HB:=n0_;have BK224:=n1_;have GW224:=n2_;have GE224:=n3_;clear n0_ n1_ n2_ n3_;clear hb hbox hg;have hcz10_0:w9.cell? ⟨gb224,0,none⟩=some (.bool a0_0):=q_ BK224 0 rfl;have hcz10_1:w9.cell? ⟨gb224,1,none⟩=some (.string a0_1):=q_ BK224 1 rfl;have hcz10_2:w9.cell? ⟨gb224,2,none⟩=some (.int .i64 a0_2):=q_ BK224 2 rfl;have hfz10_0:=blk_frozen BK224.out 0;have hfz10_1:=blk_frozen BK224.out 1;have hfz10_2:=blk_frozen BK224.out 2)|((with_reducible refine gate_callee (f:=45) rfl ?_);refine goesL_ (some 5) rfl rfl Tryz.func45 (by kernel_rfl) rfl #[.string a0_1] rfl (by (try simp only [List.map_toArray,List.map_cons,List.map_nil]);first|done|rfl|(simp only [List.length_drop,List.length_take];rfl)) ?_;(with_reducible refine (spec_IsHost.calls k a0_1 false _ A2.out).mono ?_);rintro e w11 ⟨rfl,hb⟩;refine ⟨_,rfl,?_⟩;have n0_:=bb_ BK224 hb;have n1_:=bs_ HB hb;clear BK224;clear HB;have BK224:=n0_;have HB:=n1_;clear n0_ n1_;(try clear hb);(try clear hb2);(try clear hk);(try clear hi)))
  go_ret
  exact ⟨by first|rfl|(simp [errW_none,errW_some] <;> rfl)|(simp [*,errW_none,errW_some] <;> rfl),by repeat (first|(with_reducible first|exact HB.out|apply below_alloc|apply pw_below_drewN|apply below_drew1|refine below_set ?_ GE224.out)|exact HB.out)⟩

end Go.Proofs.YtogcoedmagoogaaGreatDoor.PFnExactCheckAssertion
