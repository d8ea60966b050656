/- Functions and contracts of a law's callees, written by a program of this session (a changed print): each contract says that the machine's call answers what the plain function says. Conditions: the plain function's own answer. -/
import Derived.Test.YtogcoedmagoogaaGreatDoorZPFnExactCheckAssertionx0
import Derived.Test.YtogcoedmagoogaaGreatDoorZPFnExactCheckAssertionx6
import Derived.Test.YtogcoedmagoogaaGreatDoorZPFnExactCheckAssertionx8
namespace Go.Proofs.YtogcoedmagoogaaGreatDoor.PFnExactCheckAssertion
open Go.RowKit Go.Proofs.YtogcoedmagoogaaGreatDoorW.PrintWords Go.Proofs.YtogcoedmagoogaaGreatDoorW.PrintLast Go.Proofs.YtogcoedmagoogaaGreatDoorW.PrintMore
attribute [local go_sem] max2_int min2_int max_two min_two max_three min_three max_four min_four   -- for this text's walks alone
set_option linter.unusedVariables false
set_option linter.unusedSimpArgs false
abbrev Am9_ {p : Prop} (h : p) : Aside0 p := Aside0.mk h

namespace Y9
class Ex_ (w W:World):Prop where
 k:∀ {g:Nat} {o:Obj},w.heap[g]?=some o → W.heap[g]?=some o
 e:∀ {v:World},Below v.heap.size v w → Below v.heap.size v W
instance (priority:=low) Ex_.rf (w:World):Ex_ w w:=⟨fun h => h,fun h => h⟩
instance Ex_.dn {w W:World} [x:Ex_ w W] (n:Nat):Ex_ w (W.drewN n):=⟨fun h => blk_drewN (x.k h) n,fun h => pw_below_drewN (x.e h) n⟩
instance Ex_.dr {w W:World} [x:Ex_ w W]:Ex_ w W.drew:=⟨fun h => blk_drew (x.k h),fun h => below_drew1 (x.e h)⟩
instance Ex_.al {w W:World} [x:Ex_ w W] (o:Obj):Ex_ w (W.alloc o):=⟨fun h => blk_alloc (x.k h) o,fun h => below_alloc (x.e h) o⟩
theorem xk_ {w W:World} {g:Nat} {o:Obj} (h:Aside0 (w.heap[g]?=some o)) [x:Ex_ w W]:W.heap[g]?=some o:=x.k h.out
theorem ne1_ {w W:World} {g g':Nat} {o:Obj} (hg:g'=W.heap.size) (h:Aside0 (w.heap[g]?=some o)) [x:Ex_ w W]:Aside0 (g ≠ g'):=Am9_ (by rw [hg];exact Nat.ne_of_lt (blk_lt (x.k h.out)))
theorem ne2_ {w W:World} {g g':Nat} {o:Obj} (hg:g'=W.heap.size) (h:Aside0 (w.heap[g]?=some o)) [x:Ex_ w W]:Aside0 (g' ≠ g):=Am9_ (by rw [hg];exact Nat.ne_of_gt (blk_lt (x.k h.out)))
theorem gw_ {v w W:World} {g':Nat} (hg:g'=W.heap.size) (h:Aside0 (Below v.heap.size v w)) [x:Ex_ w W]:Aside0 (v.heap.size ≤ g'):=Am9_ (by rw [hg];exact below_size (x.e h.out))
theorem bb_ {w W W':World} {g:Nat} {o:Obj} (h:Aside0 (w.heap[g]?=some o)) (hb:Below W.heap.size W W') [x:Ex_ w W]:Aside0 (W'.heap[g]?=some o):=Am9_ (blk_below (x.k h.out) hb)
theorem bs_ {v w W W':World} (h:Aside0 (Below v.heap.size v w)) (hb:Below W.heap.size W W') [x:Ex_ w W]:Aside0 (Below v.heap.size v W'):=Am9_ (below_step (x.e h.out) hb)
theorem xe_ {v w W:World} (h:Aside0 (Below v.heap.size v w)) [x:Ex_ w W]:Below v.heap.size v W:=x.e h.out
end Y9
open Y9

namespace Y9
abbrev Sa_ := @List.setIfInBounds_toArray
abbrev Sb_ := @List.set_cons_zero
abbrev Sc_ := @List.set_cons_succ
theorem q_ {w W : World} {g : Nat} {t : TypeId} {cs : Array Value} (h : Aside0 (w.heap[g]? = some (.cells cs t (0, 0)))) (i : Nat) {v : Option Value} (e : cs[i]? = v) [x : Ex_ w W] : W.cell? ⟨g, i, none⟩ = v := (blk_cell (x.k h.out) i).trans e
end Y9
open Y9
/-! ### spec_FormatOrigin: function 61 -/
def spec_FormatOrigin.f (k:Nat) (a0_0:Bool) (a0_1:ByteArray) (a0_2:Int):Option (ByteArray):=(spec_IsOrigin.f k a0_0 a0_1 a0_2).bind fun t272 => (if t272=true then (if a0_0=true then (if a0_2=443 then (if 8 + a0_1.size ≤ 9223372036854775807 then (some ((⟨#[104,116,116,112,115,58,47,47]⟩:ByteArray) ++ a0_1)) else (none)) else (if 8 + a0_1.size ≤ 9223372036854775807 then (if ((⟨#[104,116,116,112,115,58,47,47]⟩:ByteArray) ++ a0_1).size + 1 ≤ 9223372036854775807 then ((spec_FormatInt.f k a0_2).bind fun t273 => (if (((⟨#[104,116,116,112,115,58,47,47]⟩:ByteArray) ++ a0_1) ++ (⟨#[58]⟩:ByteArray)).size + t273.size ≤ 9223372036854775807 then (some ((((⟨#[104,116,116,112,115,58,47,47]⟩:ByteArray) ++ a0_1) ++ (⟨#[58]⟩:ByteArray)) ++ t273)) else (none))) else (none)) else (none))) else (if a0_2=80 then (if 7 + a0_1.size ≤ 9223372036854775807 then (some ((⟨#[104,116,116,112,58,47,47]⟩:ByteArray) ++ a0_1)) else (none)) else (if 7 + a0_1.size ≤ 9223372036854775807 then (if ((⟨#[104,116,116,112,58,47,47]⟩:ByteArray) ++ a0_1).size + 1 ≤ 9223372036854775807 then ((spec_FormatInt.f k a0_2).bind fun t274 => (if (((⟨#[104,116,116,112,58,47,47]⟩:ByteArray) ++ a0_1) ++ (⟨#[58]⟩:ByteArray)).size + t274.size ≤ 9223372036854775807 then (some ((((⟨#[104,116,116,112,58,47,47]⟩:ByteArray) ++ a0_1) ++ (⟨#[58]⟩:ByteArray)) ++ t274)) else (none))) else (none)) else (none)))) else (some (⟨#[]⟩:ByteArray)))
theorem spec_FormatOrigin.mono:∀ a0 a1 a2 k,LeO (spec_FormatOrigin.f k a0 a1 a2) (spec_FormatOrigin.f (k + 1) a0 a1 a2):=by
 intro a0 a1 a2 k
 unfold spec_FormatOrigin.f
 repeat' first
  |(with_reducible exact spec_FormatInt.mono _ _)
  |(with_reducible exact spec_IsOrigin.mono _ _ _ _)
  |(with_reducible exact LeO.refl _)
  |(with_reducible exact LeO.none _)
  |(with_reducible refine LeO.ite ?_ ?_)
  |(with_reducible refine LeO.bind ?_ (fun _ => ?_))
  |exact spec_FormatInt.mono _ _
  |exact spec_IsOrigin.mono _ _ _ _
  |exact LeO.none _
  |refine LeO.ite ?_ ?_
  |refine LeO.bind ?_ (fun _ => ?_)
def spec_FormatOrigin.T10:Bool × List (List Nat × List Nat):=(true,[([],[]),([],[]),([1],[1]),([0,2],[0,2]),([3],[3]),([],[]),([5],[5]),([6],[6]),([4,7],[4,7]),([8,7,0,1,2,3,4,5,6,7,8],[8])])
def spec_FormatOrigin.B10:List Nat:=[0,0,2,7,15,0,32,96,255,511]
theorem spec_FormatOrigin.tab10:rtab .any (opsOf Tryz.f61 10)=spec_FormatOrigin.T10:=by kernel_rfl
theorem spec_FormatOrigin.bits10:waitsOk spec_FormatOrigin.T10.2 spec_FormatOrigin.B10=true:=by kernel_rfl
set_option maxHeartbeats 8000000 in
set_option maxRecDepth 100000 in
theorem spec_FormatOrigin.calls (k:Nat) (a0_0:Bool) (a0_1:ByteArray) (a0_2:Int) (r:ByteArray) (w:World) (h:spec_FormatOrigin.f k a0_0 a0_1 a0_2=some r) :
  Calls Tryz.prog 61 #[.agg #[.bool a0_0,.string a0_1,.int .i64 a0_2]] w fun e w' => e=.returned (.string r)∧Below w.heap.size w w':=by
 have hu28:=Tryz.underlying28;have HB:=Am9_ (Below.refl w.heap.size w);have H:=h;unfold spec_FormatOrigin.f at H;clear h;replace H:=Option.bind_eq_some_iff.mp H;obtain ⟨t272,A20,H⟩:=H
 try dsimp only at H
 have A2:=Am9_ A20;clear A20
 by_cases c3:t272=true
 ·subst c3
  rw [if_pos rfl] at H
  by_cases c4:a0_0=true
  ·subst c4
   rw [if_pos rfl] at H
   by_cases c5:a0_2=443
   ·rw [if_pos c5] at H
    have c5b0:(a0_2 == 443)=true:=beq_iff_eq.mpr c5;have c5b1:(a0_2 != 443)=false:=bne_eq_false_iff_eq.mpr c5;clear c5
    by_cases c6:8 + a0_1.size ≤ 9223372036854775807
    ·rw [if_pos c6] at H
     have c6b0:=eq_true c6;have c6b1:decide (8 + a0_1.size ≤ 9223372036854775807)=true:=decide_eq_true c6
     try have c6b2:(9223372036854775807 < 8 + a0_1.size)=False:=eq_false (Nat.not_lt.2 c6)
     obtain rfl:=Option.some.inj H
     go_enter Tryz.func61,Tryz.ntmps61
     go_wp2_with (first|((with_reducible refine gate_dst (N:=1) rfl ?_);refine box_event ?hg (N:=1) ?hd (cs:=#[.bool true,.string a0_1,.int .i64 a0_2]) (t:=28) ?hr ?_;(case hd => rfl);(case hg => rfl);(case hr => first|(go_simp;done)|(go_simp;rfl));intro gb271 hg w7 hbox hb;have n0_:=bs_ HB hb;have n1_:=Am9_ (hbox);have n2_:=gw_ hg HB;have n3_:=gw_ hg HB;clear HB;have HB:=n0_;have BK271:=n1_;have GW271:=n2_;have GE271:=n3_;clear n0_ n1_ n2_ n3_;clear hb hbox hg;have hcz8_0:w7.cell? ⟨gb271,0,none⟩=some (.bool true):=q_ BK271 0 rfl;have hcz8_1:w7.cell? ⟨gb271,1,none⟩=some (.string a0_1):=q_ BK271 1 rfl;have hcz8_2:w7.cell? ⟨gb271,2,none⟩=some (.int .i64 a0_2):=q_ BK271 2 rfl;have hfz8_0:=blk_frozen BK271.out 0;have hfz8_1:=blk_frozen BK271.out 1;have hfz8_2:=blk_frozen BK271.out 2)|((with_reducible refine gate_callee (f:=28) rfl ?_);refine goesL_ (some 6) rfl rfl Tryz.func28 (by kernel_rfl) rfl #[.agg #[.bool true,.string a0_1,.int .i64 a0_2]] rfl (by (try simp only [List.map_toArray,List.map_cons,List.map_nil]);first|done|rfl|(simp only [List.length_drop,List.length_take];rfl)) ?_;(with_reducible refine (spec_IsOrigin.calls k true a0_1 a0_2 true _ A2.out).mono ?_);rintro e w9 ⟨rfl,hb⟩;refine ⟨_,rfl,?_⟩;have n0_:=bb_ BK271 hb;have n1_:=bs_ HB hb;clear BK271;clear HB;have BK271:=n0_;have HB:=n1_;clear n0_ n1_;(try clear hb);(try clear hb2);(try clear hk);(try clear hi);have hcz10_0:w9.cell? ⟨gb271,0,none⟩=some (.bool true):=q_ BK271 0 rfl;have hcz10_1:w9.cell? ⟨gb271,1,none⟩=some (.string a0_1):=q_ BK271 1 rfl;have hcz10_2:w9.cell? ⟨gb271,2,none⟩=some (.int .i64 a0_2):=q_ BK271 2 rfl;have hfz10_0:=blk_frozen BK271.out 0;have hfz10_1:=blk_frozen BK271.out 1;have hfz10_2:=blk_frozen BK271.out 2))
     go_ret
     exact ⟨by first|rfl|(simp [errW_none,errW_some] <;> rfl)|(simp [*,errW_none,errW_some] <;> rfl),by repeat (first|(with_reducible first|exact HB.out|apply below_alloc|apply pw_below_drewN|apply below_drew1|refine below_set ?_ GE271.out)|exact HB.out)⟩
    ·rw [if_neg c6] at H
     exact absurd H (by simp)
   ·rw [if_neg c5] at H
    have c5b0:(a0_2 == 443)=false:=beq_eq_false_iff_ne.mpr c5;have c5b1:(a0_2 != 443)=true:=bne_iff_ne.mpr c5
    by_cases c11:8 + a0_1.size ≤ 9223372036854775807
    ·rw [if_pos c11] at H
     have c11b0:=eq_true c11;have c11b1:decide (8 + a0_1.size ≤ 9223372036854775807)=true:=decide_eq_true c11
     try have c11b2:(9223372036854775807 < 8 + a0_1.size)=False:=eq_false (Nat.not_lt.2 c11)
     by_cases c12:((⟨#[104,116,116,112,115,58,47,47]⟩:ByteArray) ++ a0_1).size + 1 ≤ 9223372036854775807
     ·rw [if_pos c12] at H
      have c12b0:=eq_true c12;have c12b1:decide (((⟨#[104,116,116,112,115,58,47,47]⟩:ByteArray) ++ a0_1).size + 1 ≤ 9223372036854775807)=true:=decide_eq_true c12
      try have c12b2:(9223372036854775807 < ((⟨#[104,116,116,112,115,58,47,47]⟩:ByteArray) ++ a0_1).size + 1)=False:=eq_false (Nat.not_lt.2 c12)
      have c12b3:(9223372036854775807 < 8 + a0_1.size + 1)=False:=by
       have e:=c12b2;simp only [ByteArray.size_append] at e;exact e
      replace H:=Option.bind_eq_some_iff.mp H;obtain ⟨t273,A130,H⟩:=H
      try dsimp only at H
      have A13:=Am9_ A130;clear A130
      by_cases c14:(((⟨#[104,116,116,112,115,58,47,47]⟩:ByteArray) ++ a0_1) ++ (⟨#[58]⟩:ByteArray)).size + t273.size ≤ 9223372036854775807
      ·rw [if_pos c14] at H
       have c14b0:=eq_true c14;have c14b1:decide ((((⟨#[104,116,116,112,115,58,47,47]⟩:ByteArray) ++ a0_1) ++ (⟨#[58]⟩:ByteArray)).size + t273.size ≤ 9223372036854775807)=true:=decide_eq_true c14
       try have c14b2:(9223372036854775807 < (((⟨#[104,116,116,112,115,58,47,47]⟩:ByteArray) ++ a0_1) ++ (⟨#[58]⟩:ByteArray)).size + t273.size)=False:=eq_false (Nat.not_lt.2 c14)
       have c14b3:(9223372036854775807 < 8 + a0_1.size + 1 + t273.size)=False:=by
        have e:=c14b2;simp only [ByteArray.size_append] at e;exact e
       obtain rfl:=Option.some.inj H
       go_enter Tryz.func61,Tryz.ntmps61
       try go_wp2_with (first|((with_reducible refine gate_dst (N:=1) rfl ?_);refine box_event ?hg (N:=1) ?hd (cs:=#[.bool true,.string a0_1,.int .i64 a0_2]) (t:=28) ?hr ?_;(case hd => rfl);(case hg => rfl);(case hr => first|(go_simp;done)|(go_simp;rfl));intro gb271 hg w15 hbox hb;have n0_:=bs_ HB hb;have n1_:=Am9_ (hbox);have n2_:=gw_ hg HB;have n3_:=gw_ hg HB;clear HB;have HB:=n0_;have BK271:=n1_;have GW271:=n2_;have GE271:=n3_;clear n0_ n1_ n2_ n3_;clear hb hbox hg;have hcz16_0:w15.cell? ⟨gb271,0,none⟩=some (.bool true):=q_ BK271 0 rfl;have hcz16_1:w15.cell? ⟨gb271,1,none⟩=some (.string a0_1):=q_ BK271 1 rfl;have hcz16_2:w15.cell? ⟨gb271,2,none⟩=some (.int .i64 a0_2):=q_ BK271 2 rfl;have hfz16_0:=blk_frozen BK271.out 0;have hfz16_1:=blk_frozen BK271.out 1;have hfz16_2:=blk_frozen BK271.out 2)|((with_reducible refine gate_callee (f:=28) rfl ?_);refine goesL_ (some 6) rfl rfl Tryz.func28 (by kernel_rfl) rfl #[.agg #[.bool true,.string a0_1,.int .i64 a0_2]] rfl (by (try simp only [List.map_toArray,List.map_cons,List.map_nil]);first|done|rfl|(simp only [List.length_drop,List.length_take];rfl)) ?_;(with_reducible refine (spec_IsOrigin.calls k true a0_1 a0_2 true _ A2.out).mono ?_);rintro e w17 ⟨rfl,hb⟩;refine ⟨_,rfl,?_⟩;have n0_:=bb_ BK271 hb;have n1_:=bs_ HB hb;clear BK271;clear HB;have BK271:=n0_;have HB:=n1_;clear n0_ n1_;(try clear hb);(try clear hb2);(try clear hk);(try clear hi);have hcz18_0:w17.cell? ⟨gb271,0,none⟩=some (.bool true):=q_ BK271 0 rfl;have hcz18_1:w17.cell? ⟨gb271,1,none⟩=some (.string a0_1):=q_ BK271 1 rfl;have hcz18_2:w17.cell? ⟨gb271,2,none⟩=some (.int .i64 a0_2):=q_ BK271 2 rfl;have hfz18_0:=blk_frozen BK271.out 0;have hfz18_1:=blk_frozen BK271.out 1;have hfz18_2:=blk_frozen BK271.out 2))
       replace BK271:=Am9_ (blk_drew BK271.out);replace HB:=Am9_ (below_drew1 HB.out);refine start_ (n:=10) (S:=fun w' => w'.cell? ⟨gb271,0,none⟩=some (.bool true)∧w'.cell? ⟨gb271,1,none⟩=some (.string a0_1)∧w'.cell? ⟨gb271,2,none⟩=some (.int .i64 a0_2)) (ds:=[]) #[false,false,false,false,false,false,false,false,false,false] (by kernel_rfl) rfl rfl ⟨q_ BK271 0 rfl,q_ BK271 1 rfl,q_ BK271 2 rfl⟩ (fun hHeld => ?_);refine with_tabW spec_FormatOrigin.tab10 spec_FormatOrigin.bits10 (fun HT_ HW_ => ?_);generalize w17.drew=w19 at BK271 HB hHeld ⊢;refine pure_ (i:=0) (N:=some 18) (v:=?_) (a':=?_) #[true,false,false,false,false,false,false,false,false,false] rfl rfl (any_of HT_.out (by kernel_rfl)) (fun _ _ _ h => h) (Or.inl ⟨by rfl,?_⟩) ?_ ?_;rotate_left
       ·intro w'
        go_simp
        with_reducible rfl
       rotate_left
       ·simp only [Act.put,Sa_,Sb_,Sc_,i64_w,i32_w]
        rfl
       refine pure_ (i:=1) (N:=some 19) (v:=?_) (a':=?_) #[true,true,false,false,false,false,false,false,false,false] rfl rfl (any_of HT_.out (by kernel_rfl)) (fun _ _ _ h => h) (Or.inl ⟨by rfl,?_⟩) ?_ ?_;rotate_left
       ·intro w'
        go_simp
        with_reducible rfl
       rotate_left
       ·simp only [Act.put,Sa_,Sb_,Sc_,i64_w,i32_w]
        rfl
       refine pure_ (i:=5) (N:=some 23) (v:=?_) (a':=?_) #[true,true,false,false,false,true,false,false,false,false] rfl rfl (any_of HT_.out (by kernel_rfl)) (fun _ _ _ h => h) (Or.inl ⟨by rfl,?_⟩) ?_ ?_;rotate_left
       ·intro w'
        go_simp
        with_reducible rfl
       rotate_left
       ·simp only [Act.put,Sa_,Sb_,Sc_,i64_w,i32_w]
        rfl
       refine take_ (i:=2) (N:=some 20) (v:=?_) (a':=?_) #[true,true,true,false,false,true,false,false,false,false] rfl rfl (take_ofW HT_.out HW_.out (by kernel_rfl)) (fun _ _ _ h => h) (Or.inl ⟨by rfl,?_⟩) hHeld ?_ ?_;rotate_left
       ·rintro w' ⟨s0,s1,s2⟩
        go_simp
        with_reducible rfl
       rotate_left
       ·simp only [Act.put,Sa_,Sb_,Sc_,i64_w,i32_w]
        rfl
       refine pure_ (i:=3) (N:=some 21) (v:=?_) (a':=?_) #[true,true,true,true,false,true,false,false,false,false] rfl rfl (any_of HT_.out (by kernel_rfl)) (fun _ _ _ h => h) (Or.inl ⟨by rfl,?_⟩) ?_ ?_;rotate_left
       ·intro w'
        go_simp
        with_reducible rfl
       rotate_left
       ·simp only [Act.put,Sa_,Sb_,Sc_,i64_w,i32_w]
        rfl
       refine pure_ (i:=4) (N:=some 22) (v:=?_) (a':=?_) #[true,true,true,true,true,true,false,false,false,false] rfl rfl (any_of HT_.out (by kernel_rfl)) (fun _ _ _ h => h) (Or.inl ⟨by rfl,?_⟩) ?_ ?_;rotate_left
       ·intro w'
        go_simp
        with_reducible rfl
       rotate_left
       ·simp only [Act.put,Sa_,Sb_,Sc_,i64_w,i32_w]
        rfl
       refine take_ (i:=6) (N:=some 24) (v:=?_) (a':=?_) #[true,true,true,true,true,true,true,false,false,false] rfl rfl (take_ofW HT_.out HW_.out (by kernel_rfl)) (fun _ _ _ h => h) (Or.inl ⟨by rfl,?_⟩) hHeld ?_ ?_;rotate_left
       ·rintro w' ⟨s0,s1,s2⟩
        go_simp
        with_reducible rfl
       rotate_left
       ·simp only [Act.put,Sa_,Sb_,Sc_,i64_w,i32_w]
        rfl
       refine one_ (i:=7) (N:=some 25) #[true,true,true,true,true,true,true,true,false,false] rfl rfl (one_of HT_.out (by kernel_rfl)) (by decide) (fun K hK => ?_);refine goes_ Tryz.func92 (by kernel_rfl) rfl #[.int .i64 a0_2] (by rfl) rfl rfl (by (try simp only [List.map_toArray,List.map_cons,List.map_nil]);first|done|rfl|(simp only [List.length_drop,List.length_take];rfl)) ?_;with_reducible refine (spec_FormatInt.calls k a0_2 t273 _ A13.out).mono ?_;rintro e w20 ⟨rfl,hb⟩;refine ⟨_,rfl,?_⟩;replace BK271:=bb_ BK271 hb;replace HB:=bs_ HB hb;(try clear hb);(try clear hb2);(try clear hk);(try clear hi);refine hK.out _ _ ⟨q_ BK271 0 rfl,q_ BK271 1 rfl,q_ BK271 2 rfl⟩ (fun hHeld => ?_);clear hK K;refine norm_ (a':=?_) ?_ ?_;rotate_left
       ·show Act.put _ (some 25) _=_
        simp only [Act.put,Sa_,Sb_,Sc_,i64_w,i32_w]
        rfl
       refine pure_ (i:=8) (N:=some 26) (v:=?_) (a':=?_) #[true,true,true,true,true,true,true,true,true,false] rfl rfl (any_of HT_.out (by kernel_rfl)) (fun _ _ _ h => h) (Or.inl ⟨by rfl,?_⟩) ?_ ?_;rotate_left
       ·intro w'
        go_simp
        with_reducible rfl
       rotate_left
       ·simp only [Act.put,Sa_,Sb_,Sc_,i64_w,i32_w]
        rfl
       refine pure_ (i:=9) (N:=some 2) (v:=?_) (a':=?_) #[true,true,true,true,true,true,true,true,true,true] rfl rfl (any_of HT_.out (by kernel_rfl)) (fun _ _ _ h => h) (Or.inl ⟨by rfl,?_⟩) ?_ ?_;rotate_left
       ·intro w'
        go_simp
        with_reducible rfl
       rotate_left
       ·simp only [Act.put,Sa_,Sb_,Sc_,i64_w,i32_w]
        rfl
       refine done_ (done_of HT_.out (by kernel_rfl)) ?_
       try go_wp2
       go_ret
       exact ⟨by first|rfl|(simp [errW_none,errW_some] <;> rfl)|(simp [*,errW_none,errW_some] <;> rfl),by repeat (first|(with_reducible first|exact HB.out|apply below_alloc|apply pw_below_drewN|apply below_drew1|refine below_set ?_ GE271.out)|exact HB.out)⟩
      ·rw [if_neg c14] at H
       exact absurd H (by simp)
     ·rw [if_neg c12] at H
      exact absurd H (by simp)
    ·rw [if_neg c11] at H
     exact absurd H (by simp)
  ·replace c4:=Bool.eq_false_iff.mpr c4;subst c4
   rw [if_neg (show ¬ (false=true) by decide)] at H
   by_cases c21:a0_2=80
   ·rw [if_pos c21] at H
    have c21b0:(a0_2 == 80)=true:=beq_iff_eq.mpr c21;have c21b1:(a0_2 != 80)=false:=bne_eq_false_iff_eq.mpr c21;clear c21
    by_cases c22:7 + a0_1.size ≤ 9223372036854775807
    ·rw [if_pos c22] at H
     have c22b0:=eq_true c22;have c22b1:decide (7 + a0_1.size ≤ 9223372036854775807)=true:=decide_eq_true c22
     try have c22b2:(9223372036854775807 < 7 + a0_1.size)=False:=eq_false (Nat.not_lt.2 c22)
     obtain rfl:=Option.some.inj H
     go_enter Tryz.func61,Tryz.ntmps61
     go_wp2_with (first|((with_reducible refine gate_dst (N:=1) rfl ?_);refine box_event ?hg (N:=1) ?hd (cs:=#[.bool false,.string a0_1,.int .i64 a0_2]) (t:=28) ?hr ?_;(case hd => rfl);(case hg => rfl);(case hr => first|(go_simp;done)|(go_simp;rfl));intro gb271 hg w23 hbox hb;have n0_:=bs_ HB hb;have n1_:=Am9_ (hbox);have n2_:=gw_ hg HB;have n3_:=gw_ hg HB;clear HB;have HB:=n0_;have BK271:=n1_;have GW271:=n2_;have GE271:=n3_;clear n0_ n1_ n2_ n3_;clear hb hbox hg;have hcz24_0:w23.cell? ⟨gb271,0,none⟩=some (.bool false):=q_ BK271 0 rfl;have hcz24_1:w23.cell? ⟨gb271,1,none⟩=some (.string a0_1):=q_ BK271 1 rfl;have hcz24_2:w23.cell? ⟨gb271,2,none⟩=some (.int .i64 a0_2):=q_ BK271 2 rfl;have hfz24_0:=blk_frozen BK271.out 0;have hfz24_1:=blk_frozen BK271.out 1;have hfz24_2:=blk_frozen BK271.out 2)|((with_reducible refine gate_callee (f:=28) rfl ?_);refine goesL_ (some 6) rfl rfl Tryz.func28 (by kernel_rfl) rfl #[.agg #[.bool false,.string a0_1,.int .i64 a0_2]] rfl (by (try simp only [List.map_toArray,List.map_cons,List.map_nil]);first|done|rfl|(simp only [List.length_drop,List.length_take];rfl)) ?_;(with_reducible refine (spec_IsOrigin.calls k false a0_1 a0_2 true _ A2.out).mono ?_);rintro e w25 ⟨rfl,hb⟩;refine ⟨_,rfl,?_⟩;have n0_:=bb_ BK271 hb;have n1_:=bs_ HB hb;clear BK271;clear HB;have BK271:=n0_;have HB:=n1_;clear n0_ n1_;(try clear hb);(try clear hb2);(try clear hk);(try clear hi);have hcz26_0:w25.cell? ⟨gb271,0,none⟩=some (.bool false):=q_ BK271 0 rfl;have hcz26_1:w25.cell? ⟨gb271,1,none⟩=some (.string a0_1):=q_ BK271 1 rfl;have hcz26_2:w25.cell? ⟨gb271,2,none⟩=some (.int .i64 a0_2):=q_ BK271 2 rfl;have hfz26_0:=blk_frozen BK271.out 0;have hfz26_1:=blk_frozen BK271.out 1;have hfz26_2:=blk_frozen BK271.out 2))
     go_ret
     exact ⟨by first|rfl|(simp [errW_none,errW_some] <;> rfl)|(simp [*,errW_none,errW_some] <;> rfl),by repeat (first|(with_reducible first|exact HB.out|apply below_alloc|apply pw_below_drewN|apply below_drew1|refine below_set ?_ GE271.out)|exact HB.out)⟩
    ·rw [if_neg c22] at H
     exact absurd H (by simp)
   ·rw [if_neg c21] at H
    have c21b0:(a0_2 == 80)=false:=beq_eq_false_iff_ne.mpr c21;have c21b1:(a0_2 != 80)=true:=bne_iff_ne.mpr c21
    by_cases c27:7 + a0_1.size ≤ 9223372036854775807
    ·rw [if_pos c27] at H
     have c27b0:=eq_true c27;have c27b1:decide (7 + a0_1.size ≤ 9223372036854775807)=true:=decide_eq_true c27
     try have c27b2:(9223372036854775807 < 7 + a0_1.size)=False:=eq_false (Nat.not_lt.2 c27)
     by_cases c28:((⟨#[104,116,116,112,58,47,47]⟩:ByteArray) ++ a0_1).size + 1 ≤ 9223372036854775807
     ·rw [if_pos c28] at H
      have c28b0:=eq_true c28;have c28b1:decide (((⟨#[104,116,116,112,58,47,47]⟩:ByteArray) ++ a0_1).size + 1 ≤ 9223372036854775807)=true:=decide_eq_true c28
      try have c28b2:(9223372036854775807 < ((⟨#[104,116,116,112,58,47,47]⟩:ByteArray) ++ a0_1).size + 1)=False:=eq_false (Nat.not_lt.2 c28)
      have c28b3:(9223372036854775807 < 7 + a0_1.size + 1)=False:=by
       have e:=c28b2;simp only [ByteArray.size_append] at e;exact e
      replace H:=Option.bind_eq_some_iff.mp H;obtain ⟨t274,A290,H⟩:=H
      try dsimp only at H
      have A29:=Am9_ A290;clear A290
      by_cases c30:(((⟨#[104,116,116,112,58,47,47]⟩:ByteArray) ++ a0_1) ++ (⟨#[58]⟩:ByteArray)).size + t274.size ≤ 9223372036854775807
      ·rw [if_pos c30] at H
       have c30b0:=eq_true c30;have c30b1:decide ((((⟨#[104,116,116,112,58,47,47]⟩:ByteArray) ++ a0_1) ++ (⟨#[58]⟩:ByteArray)).size + t274.size ≤ 9223372036854775807)=true:=decide_eq_true c30
       try have c30b2:(9223372036854775807 < (((⟨#[104,116,116,112,58,47,47]⟩:ByteArray) ++ a0_1) ++ (⟨#[58]⟩:ByteArray)).size + t274.size)=False:=eq_false (Nat.not_lt.2 c30)
       have c30b3:(9223372036854775807 < 7 + a0_1.size + 1 + t274.size)=False:=by
        have e:=c30b2;simp only [ByteArray.size_append] at e;exact e
       obtain rfl:=Option.some.inj H
       go_enter Tryz.func61,Tryz.ntmps61
       try go_wp2_with (first|((with_reducible refine gate_dst (N:=1) rfl ?_);refine box_event ?hg (N:=1) ?hd (cs:=#[.bool false,.string a0_1,.int .i64 a0_2]) (t:=28) ?hr ?_;(case hd => rfl);(case hg => rfl);(case hr => first|(go_simp;done)|(go_simp;rfl));intro gb271 hg w31 hbox hb;have n0_:=bs_ HB hb;have n1_:=Am9_ (hbox);have n2_:=gw_ hg HB;have n3_:=gw_ hg HB;clear HB;have HB:=n0_;have BK271:=n1_;have GW271:=n2_;have GE271:=n3_;clear n0_ n1_ n2_ n3_;clear hb hbox hg;have hcz32_0:w31.cell? ⟨gb271,0,none⟩=some (.bool false):=q_ BK271 0 rfl;have hcz32_1:w31.cell? ⟨gb271,1,none⟩=some (.string a0_1):=q_ BK271 1 rfl;have hcz32_2:w31.cell? ⟨gb271,2,none⟩=some (.int .i64 a0_2):=q_ BK271 2 rfl;have hfz32_0:=blk_frozen BK271.out 0;have hfz32_1:=blk_frozen BK271.out 1;have hfz32_2:=blk_frozen BK271.out 2)|((with_reducible refine gate_callee (f:=28) rfl ?_);refine goesL_ (some 6) rfl rfl Tryz.func28 (by kernel_rfl) rfl #[.agg #[.bool false,.string a0_1,.int .i64 a0_2]] rfl (by (try simp only [List.map_toArray,List.map_cons,List.map_nil]);first|done|rfl|(simp only [List.length_drop,List.length_take];rfl)) ?_;(with_reducible refine (spec_IsOrigin.calls k false a0_1 a0_2 true _ A2.out).mono ?_);rintro e w33 ⟨rfl,hb⟩;refine ⟨_,rfl,?_⟩;have n0_:=bb_ BK271 hb;have n1_:=bs_ HB hb;clear BK271;clear HB;have BK271:=n0_;have HB:=n1_;clear n0_ n1_;(try clear hb);(try clear hb2);(try clear hk);(try clear hi);have hcz34_0:w33.cell? ⟨gb271,0,none⟩=some (.bool false):=q_ BK271 0 rfl;have hcz34_1:w33.cell? ⟨gb271,1,none⟩=some (.string a0_1):=q_ BK271 1 rfl;have hcz34_2:w33.cell? ⟨gb271,2,none⟩=some (.int .i64 a0_2):=q_ BK271 2 rfl;have hfz34_0:=blk_frozen BK271.out 0;have hfz34_1:=blk_frozen BK271.out 1;have hfz34_2:=blk_frozen BK271.out 2))
       replace BK271:=Am9_ (blk_drew BK271.out);replace HB:=Am9_ (below_drew1 HB.out);refine start_ (n:=10) (S:=fun w' => w'.cell? ⟨gb271,0,none⟩=some (.bool false)∧w'.cell? ⟨gb271,1,none⟩=some (.string a0_1)∧w'.cell? ⟨gb271,2,none⟩=some (.int .i64 a0_2)) (ds:=[]) #[false,false,false,false,false,false,false,false,false,false] (by kernel_rfl) rfl rfl ⟨q_ BK271 0 rfl,q_ BK271 1 rfl,q_ BK271 2 rfl⟩ (fun hHeld => ?_);refine with_tabW spec_FormatOrigin.tab10 spec_FormatOrigin.bits10 (fun HT_ HW_ => ?_);generalize w33.drew=w35 at BK271 HB hHeld ⊢;refine pure_ (i:=0) (N:=some 18) (v:=?_) (a':=?_) #[true,false,false,false,false,false,false,false,false,false] rfl rfl (any_of HT_.out (by kernel_rfl)) (fun _ _ _ h => h) (Or.inl ⟨by rfl,?_⟩) ?_ ?_;rotate_left
       ·intro w'
        go_simp
        with_reducible rfl
       rotate_left
       ·simp only [Act.put,Sa_,Sb_,Sc_,i64_w,i32_w]
        rfl
       refine pure_ (i:=1) (N:=some 19) (v:=?_) (a':=?_) #[true,true,false,false,false,false,false,false,false,false] rfl rfl (any_of HT_.out (by kernel_rfl)) (fun _ _ _ h => h) (Or.inl ⟨by rfl,?_⟩) ?_ ?_;rotate_left
       ·intro w'
        go_simp
        with_reducible rfl
       rotate_left
       ·simp only [Act.put,Sa_,Sb_,Sc_,i64_w,i32_w]
        rfl
       refine pure_ (i:=5) (N:=some 23) (v:=?_) (a':=?_) #[true,true,false,false,false,true,false,false,false,false] rfl rfl (any_of HT_.out (by kernel_rfl)) (fun _ _ _ h => h) (Or.inl ⟨by rfl,?_⟩) ?_ ?_;rotate_left
       ·intro w'
        go_simp
        with_reducible rfl
       rotate_left
       ·simp only [Act.put,Sa_,Sb_,Sc_,i64_w,i32_w]
        rfl
       refine take_ (i:=2) (N:=some 20) (v:=?_) (a':=?_) #[true,true,true,false,false,true,false,false,false,false] rfl rfl (take_ofW HT_.out HW_.out (by kernel_rfl)) (fun _ _ _ h => h) (Or.inl ⟨by rfl,?_⟩) hHeld ?_ ?_;rotate_left
       ·rintro w' ⟨s0,s1,s2⟩
        go_simp
        with_reducible rfl
       rotate_left
       ·simp only [Act.put,Sa_,Sb_,Sc_,i64_w,i32_w]
        rfl
       refine pure_ (i:=3) (N:=some 21) (v:=?_) (a':=?_) #[true,true,true,true,false,true,false,false,false,false] rfl rfl (any_of HT_.out (by kernel_rfl)) (fun _ _ _ h => h) (Or.inl ⟨by rfl,?_⟩) ?_ ?_;rotate_left
       ·intro w'
        go_simp
        with_reducible rfl
       rotate_left
       ·simp only [Act.put,Sa_,Sb_,Sc_,i64_w,i32_w]
        rfl
       refine pure_ (i:=4) (N:=some 22) (v:=?_) (a':=?_) #[true,true,true,true,true,true,false,false,false,false] rfl rfl (any_of HT_.out (by kernel_rfl)) (fun _ _ _ h => h) (Or.inl ⟨by rfl,?_⟩) ?_ ?_;rotate_left
       ·intro w'
        go_simp
        with_reducible rfl
       rotate_left
       ·simp only [Act.put,Sa_,Sb_,Sc_,i64_w,i32_w]
        rfl
       refine take_ (i:=6) (N:=some 24) (v:=?_) (a':=?_) #[true,true,true,true,true,true,true,false,false,false] rfl rfl (take_ofW HT_.out HW_.out (by kernel_rfl)) (fun _ _ _ h => h) (Or.inl ⟨by rfl,?_⟩) hHeld ?_ ?_;rotate_left
       ·rintro w' ⟨s0,s1,s2⟩
        go_simp
        with_reducible rfl
       rotate_left
       ·simp only [Act.put,Sa_,Sb_,Sc_,i64_w,i32_w]
        rfl
       refine one_ (i:=7) (N:=some 25) #[true,true,true,true,true,true,true,true,false,false] rfl rfl (one_of HT_.out (by kernel_rfl)) (by decide) (fun K hK => ?_);refine goes_ Tryz.func92 (by kernel_rfl) rfl #[.int .i64 a0_2] (by rfl) rfl rfl (by (try simp only [List.map_toArray,List.map_cons,List.map_nil]);first|done|rfl|(simp only [List.length_drop,List.length_take];rfl)) ?_;with_reducible refine (spec_FormatInt.calls k a0_2 t274 _ A29.out).mono ?_;rintro e w36 ⟨rfl,hb⟩;refine ⟨_,rfl,?_⟩;replace BK271:=bb_ BK271 hb;replace HB:=bs_ HB hb;(try clear hb);(try clear hb2);(try clear hk);(try clear hi);refine hK.out _ _ ⟨q_ BK271 0 rfl,q_ BK271 1 rfl,q_ BK271 2 rfl⟩ (fun hHeld => ?_);clear hK K;refine norm_ (a':=?_) ?_ ?_;rotate_left
       ·show Act.put _ (some 25) _=_
        simp only [Act.put,Sa_,Sb_,Sc_,i64_w,i32_w]
        rfl
       refine pure_ (i:=8) (N:=some 26) (v:=?_) (a':=?_) #[true,true,true,true,true,true,true,true,true,false] rfl rfl (any_of HT_.out (by kernel_rfl)) (fun _ _ _ h => h) (Or.inl ⟨by rfl,?_⟩) ?_ ?_;rotate_left
       ·intro w'
        go_simp
        with_reducible rfl
       rotate_left
       ·simp only [Act.put,Sa_,Sb_,Sc_,i64_w,i32_w]
        rfl
       refine pure_ (i:=9) (N:=some 2) (v:=?_) (a':=?_) #[true,true,true,true,true,true,true,true,true,true] rfl rfl (any_of HT_.out (by kernel_rfl)) (fun _ _ _ h => h) (Or.inl ⟨by rfl,?_⟩) ?_ ?_;rotate_left
       ·intro w'
        go_simp
        with_reducible rfl
       rotate_left
       ·simp only [Act.put,Sa_,Sb_,Sc_,i64_w,i32_w]
        rfl
       refine done_ (done_of HT_.out (by kernel_rfl)) ?_
       try go_wp2
       go_ret
       exact ⟨by first|rfl|(simp [errW_none,errW_some] <;> rfl)|(simp [*,errW_none,errW_some] <;> rfl),by repeat (first|(with_reducible first|exact HB.out|apply below_alloc|apply pw_below_drewN|apply below_drew1|refine below_set ?_ GE271.out)|exact HB.out)⟩
      ·rw [if_neg c30] at H
       exact absurd H (by simp)
     ·rw [if_neg c28] at H
      exact absurd H (by simp)
    ·rw [if_neg c27] at H
     exact absurd H (by simp)
 ·replace c3:=Bool.eq_false_iff.mpr c3;subst c3
  rw [if_neg (show ¬ (false=true) by decide)] at H
  obtain rfl:=Option.some.inj H
  go_enter Tryz.func61,Tryz.ntmps61
  go_wp2_with (first|((with_reducible refine gate_dst (N:=1) rfl ?_);refine box_event ?hg (N:=1) ?hd (cs:=#[.bool a0_0,.string a0_1,.int .i64 a0_2]) (t:=28) ?hr ?_;(case hd => rfl);(case hg => rfl);(case hr => first|(go_simp;done)|(go_simp;rfl));intro gb271 hg w37 hbox hb;have n0_:=bs_ HB hb;have n1_:=Am9_ (hbox);have n2_:=gw_ hg HB;have n3_:=gw_ hg HB;clear HB;have HB:=n0_;have BK271:=n1_;have GW271:=n2_;have GE271:=n3_;clear n0_ n1_ n2_ n3_;clear hb hbox hg;have hcz38_0:w37.cell? ⟨gb271,0,none⟩=some (.bool a0_0):=q_ BK271 0 rfl;have hcz38_1:w37.cell? ⟨gb271,1,none⟩=some (.string a0_1):=q_ BK271 1 rfl;have hcz38_2:w37.cell? ⟨gb271,2,none⟩=some (.int .i64 a0_2):=q_ BK271 2 rfl;have hfz38_0:=blk_frozen BK271.out 0;have hfz38_1:=blk_frozen BK271.out 1;have hfz38_2:=blk_frozen BK271.out 2)|((with_reducible refine gate_callee (f:=28) rfl ?_);refine goesL_ (some 6) rfl rfl Tryz.func28 (by kernel_rfl) rfl #[.agg #[.bool a0_0,.string a0_1,.int .i64 a0_2]] rfl (by (try simp only [List.map_toArray,List.map_cons,List.map_nil]);first|done|rfl|(simp only [List.length_drop,List.length_take];rfl)) ?_;(with_reducible refine (spec_IsOrigin.calls k a0_0 a0_1 a0_2 false _ A2.out).mono ?_);rintro e w39 ⟨rfl,hb⟩;refine ⟨_,rfl,?_⟩;have n0_:=bb_ BK271 hb;have n1_:=bs_ HB hb;clear BK271;clear HB;have BK271:=n0_;have HB:=n1_;clear n0_ n1_;(try clear hb);(try clear hb2);(try clear hk);(try clear hi)))
  go_ret
  exact ⟨by first|rfl|(simp [errW_none,errW_some] <;> rfl)|(simp [*,errW_none,errW_some] <;> rfl),by repeat (first|(with_reducible first|exact HB.out|apply below_alloc|apply pw_below_drewN|apply below_drew1|refine below_set ?_ GE271.out)|exact HB.out)⟩

/-! ### spec_ParseInt: function 62 -/
def spec_ParseInt.l0:Nat → ByteArray → Int → Int → Option (Int × Bool)
|0,_,_,_ => none
|k + 1,x0,x4,x5 => if x5 < (x0.size:Int) then (if 0 ≤ x5 then ((spec_l1In.f (wrap64 (bt x0 x5)) 48 57).bind fun t276 => (if t276=true then (spec_ParseInt.l0 k x0 (wrap64 ((wrap64 (10 * x4)) + (((bt x0 x5) - 48) % 256))) (wrap64 (x5 + 1))) else (some (0,false)))) else (none)) else (if x4 > 1000000000000 then (some (0,false)) else ((spec_FormatInt.f k x4).bind fun t277 => (if t277.toList=x0.toList then (some (x4,true)) else (some (0,false)))))
def spec_ParseInt.f (k:Nat) (a0:ByteArray):Option (Int × Bool):=(spec_l1In.f (a0.size:Int) 1 13).bind fun t275 => (if t275=true then (spec_ParseInt.l0 k a0 0 0) else (some (0,false)))
theorem spec_ParseInt.mono_l:∀ k,(∀ y0 y1 y2,LeO (spec_ParseInt.l0 k y0 y1 y2) (spec_ParseInt.l0 (k + 1) y0 y1 y2))
|0 => fun _ _ _ r h => by simp [spec_ParseInt.l0] at h
|k + 1 => by
  have ih0:=spec_ParseInt.mono_l k
  ·intro y0 y1 y2
   unfold spec_ParseInt.l0
   repeat' first
  |(with_reducible exact ih0 _ _ _)
  |(with_reducible exact spec_FormatInt.mono _ _)
  |(with_reducible exact LeO.refl _)
  |(with_reducible exact LeO.none _)
  |(with_reducible refine LeO.ite ?_ ?_)
  |(with_reducible refine LeO.bind ?_ (fun _ => ?_))
  |exact ih0 _ _ _
  |exact spec_FormatInt.mono _ _
  |exact LeO.none _
  |refine LeO.ite ?_ ?_
  |refine LeO.bind ?_ (fun _ => ?_)
theorem spec_ParseInt.mono:∀ a0 k,LeO (spec_ParseInt.f k a0) (spec_ParseInt.f (k + 1) a0):=by
 intro a0 k;have ih0:=spec_ParseInt.mono_l k
 unfold spec_ParseInt.f
 repeat' first
  |(with_reducible exact ih0 _ _ _)
  |(with_reducible exact spec_FormatInt.mono _ _)
  |(with_reducible exact LeO.refl _)
  |(with_reducible exact LeO.none _)
  |(with_reducible refine LeO.ite ?_ ?_)
  |(with_reducible refine LeO.bind ?_ (fun _ => ?_))
  |exact ih0 _ _ _
  |exact spec_FormatInt.mono _ _
  |exact LeO.none _
  |refine LeO.ite ?_ ?_
  |refine LeO.bind ?_ (fun _ => ?_)
set_option maxHeartbeats 8000000 in
set_option maxRecDepth 100000 in
theorem spec_ParseInt.calls (k:Nat) (a0:ByteArray) (r1:Int) (r2:Bool) (w:World) (h:spec_ParseInt.f k a0=some (r1,r2)) :
  Calls Tryz.prog 62 #[.string a0] w fun e w' => e=.returned (.tuple #[.int .i64 r1,.bool r2])∧Below w.heap.size w w':=by
 have HB:=Am9_ (Below.refl w.heap.size w);have H:=h;unfold spec_ParseInt.f at H;clear h;replace H:=Option.bind_eq_some_iff.mp H;obtain ⟨t275,A20,H⟩:=H
 try dsimp only at H
 have A2:=Am9_ A20;clear A20
 by_cases c3:t275=true
 ·subst c3
  rw [if_pos rfl] at H
  have H':=Am9_ H;clear H
  go_enter Tryz.func62,Tryz.ntmps62
  go_wp2_with (first|((with_reducible refine gate_callee (f:=47) rfl ?_);refine goesL_ (some 8) rfl rfl Tryz.func47 (by kernel_rfl) rfl #[.int .i64 (a0.size:Int),.int .i64 1,.int .i64 13] rfl (by (try simp only [List.map_toArray,List.map_cons,List.map_nil]);first|done|rfl|(simp only [List.length_drop,List.length_take];rfl)) ?_;(with_reducible refine (spec_l1In.calls (a0.size:Int) 1 13 true _ A2.out).mono ?_);rintro e w' ⟨rfl,⟨nd,rfl⟩⟩;refine ⟨_,rfl,?_⟩))
  go_loopg [4,5] k (fun kq v4 v5 w' => ∃ (x4_1:Int) (x5_1:Int),v4=.int .i64 x4_1∧v5=.int .i64 x5_1∧Aside0 (spec_ParseInt.l0 kq a0 x4_1 x5_1=some (r1,r2))∧Aside0 (kq ≤ k)∧Aside0 (Below w.heap.size w w'))
  case atStart => exact ⟨(0),(0),(by first|rfl|(simp;done)|(simp [*];done)),(by first|rfl|(simp;done)|(simp [*];done)),H',⟨Nat.le_refl _⟩,⟨by repeat (first|(with_reducible first|exact HB.out|apply below_alloc|apply pw_below_drewN|apply below_drew1)|exact HB.out)⟩⟩
  case round =>
   clear H'
   try clear p2
   try clear c3
   obtain ⟨x4_1,x5_1,rfl,rfl,HA,HK1,HB⟩:=hrel
   cases gk with
  |zero => exact absurd HA.out (by simp [spec_ParseInt.l0])
  |succ k1 =>
    have H:=HA.out;clear HA;simp only [spec_ParseInt.l0] at H
    by_cases c4:x5_1 < (a0.size:Int)
    ·rw [if_pos c4] at H
     have c4b0:decide (x5_1 < (a0.size:Int))=true:=decide_eq_true c4;clear c4
     by_cases c5:0 ≤ x5_1
     ·rw [if_pos c5] at H
      have c5b0:decide (0 ≤ x5_1)=true:=decide_eq_true c5;clear c5;replace H:=Option.bind_eq_some_iff.mp H;obtain ⟨t276,A70,H⟩:=H
      try dsimp only at H
      have A7:=Am9_ A70;clear A70
      by_cases c8:t276=true
      ·subst c8
       rw [if_pos rfl] at H
       have H':=Am9_ H;clear H;have p6:0 ≤ (x5_1:Int):=of_decide_eq_true (by first|(with_reducible assumption)|assumption);have q6:x5_1 < (a0.size:Int):=of_decide_eq_true (by first|(with_reducible assumption)|assumption);have hx6:=bt_at a0 x5_1;replace p6:=eq_true p6;replace q6:=eq_true q6
       go_wp2_with (first|((with_reducible refine gate_callee (f:=47) rfl ?_);refine goesL_ (some 20) rfl rfl Tryz.func47 (by kernel_rfl) rfl #[.int .i64 (wrap64 (bt a0 x5_1)),.int .i64 48,.int .i64 57] rfl (by (try simp only [List.map_toArray,List.map_cons,List.map_nil]);first|done|rfl|(simp only [List.length_drop,List.length_take];rfl)) ?_;(with_reducible refine (spec_l1In.calls (wrap64 (bt a0 x5_1)) 48 57 true _ A7.out).mono ?_);rintro e w' ⟨rfl,⟨nd,rfl⟩⟩;refine ⟨_,rfl,?_⟩;have p9:0 ≤ (x5_1:Int):=of_decide_eq_true (by first|(with_reducible assumption)|assumption);have q9:x5_1 < (a0.size:Int):=of_decide_eq_true (by first|(with_reducible assumption)|assumption);have hx9:=bt_at a0 x5_1;replace p9:=eq_true p9;replace q9:=eq_true q9))
       go_roundg k1
       case measure => have:=HK1.out;omega
       case rel => exact ⟨(wrap64 ((wrap64 (10 * x4_1)) + (((bt a0 x5_1) - 48) % 256))),(wrap64 (x5_1 + 1)),(by first|rfl|(simp;done)|(simp [*];done)),(by first|rfl|(simp;done)|(simp [*];done)),H',⟨by have:=HK1.out;omega⟩,⟨by repeat (first|(with_reducible first|exact HB.out|apply below_alloc|apply pw_below_drewN|apply below_drew1)|exact HB.out)⟩⟩
      ·replace c8:=Bool.eq_false_iff.mpr c8;subst c8
       rw [if_neg (show ¬ (false=true) by decide)] at H
       simp only [Option.some.injEq,Prod.mk.injEq] at H
       obtain ⟨rfl,rfl⟩:=H;have p6:0 ≤ (x5_1:Int):=of_decide_eq_true (by first|(with_reducible assumption)|assumption);have q6:x5_1 < (a0.size:Int):=of_decide_eq_true (by first|(with_reducible assumption)|assumption);have hx6:=bt_at a0 x5_1;replace p6:=eq_true p6;replace q6:=eq_true q6
       go_wp2_with (first|((with_reducible refine gate_callee (f:=47) rfl ?_);refine goesL_ (some 20) rfl rfl Tryz.func47 (by kernel_rfl) rfl #[.int .i64 (wrap64 (bt a0 x5_1)),.int .i64 48,.int .i64 57] rfl (by (try simp only [List.map_toArray,List.map_cons,List.map_nil]);first|done|rfl|(simp only [List.length_drop,List.length_take];rfl)) ?_;(with_reducible refine (spec_l1In.calls (wrap64 (bt a0 x5_1)) 48 57 false _ A7.out).mono ?_);rintro e w' ⟨rfl,⟨nd,rfl⟩⟩;refine ⟨_,rfl,?_⟩))
       go_ret2
       exact ⟨by first|rfl|(simp [errW_none,errW_some] <;> rfl)|(simp [*,errW_none,errW_some] <;> rfl),by repeat (first|(with_reducible first|exact HB.out|apply below_alloc|apply pw_below_drewN|apply below_drew1)|exact HB.out)⟩
     ·rw [if_neg c5] at H
      exact absurd H (by simp)
    ·rw [if_neg c4] at H
     have c4b0:decide (x5_1 < (a0.size:Int))=false:=decide_eq_false c4;clear c4
     by_cases c10:x4_1 > 1000000000000
     ·rw [if_pos c10] at H
      have c10b0:decide (1000000000000 < x4_1)=true:=decide_eq_true c10;clear c10;simp only [Option.some.injEq,Prod.mk.injEq] at H;obtain ⟨rfl,rfl⟩:=H
      go_wp2
      go_ret2
      exact ⟨by first|rfl|(simp [errW_none,errW_some] <;> rfl)|(simp [*,errW_none,errW_some] <;> rfl),by repeat (first|(with_reducible first|exact HB.out|apply below_alloc|apply pw_below_drewN|apply below_drew1)|exact HB.out)⟩
     ·rw [if_neg c10] at H
      have c10b0:decide (1000000000000 < x4_1)=false:=decide_eq_false c10;clear c10;replace H:=Option.bind_eq_some_iff.mp H;obtain ⟨t277,A110,H⟩:=H
      try dsimp only at H
      have A11:=Am9_ A110;clear A110
      by_cases c12:t277.toList=a0.toList
      ·rw [if_pos c12] at H
       have c12b0:(t277.toList == a0.toList)=true:=beq_iff_eq.mpr c12;have c12b1:(t277.toList != a0.toList)=false:=bne_eq_false_iff_eq.mpr c12;clear c12;simp only [Option.some.injEq,Prod.mk.injEq] at H;obtain ⟨rfl,rfl⟩:=H
       go_wp2_with (first|(go_at_call 92;(with_reducible refine (spec_FormatInt.calls k1 x4_1 t277 _ A11.out).mono ?_);rintro e w13 ⟨rfl,hb⟩;have n0_:=bs_ HB hb;clear HB;have HB:=n0_;clear n0_;(try clear hb);(try clear hb2);(try clear hk);(try clear hi)))
       go_ret2
       exact ⟨by first|rfl|(simp [errW_none,errW_some] <;> rfl)|(simp [*,errW_none,errW_some] <;> rfl),by repeat (first|(with_reducible first|exact HB.out|apply below_alloc|apply pw_below_drewN|apply below_drew1)|exact HB.out)⟩
      ·rw [if_neg c12] at H
       have c12b0:(t277.toList == a0.toList)=false:=beq_eq_false_iff_ne.mpr c12;have c12b1:(t277.toList != a0.toList)=true:=bne_iff_ne.mpr c12;simp only [Option.some.injEq,Prod.mk.injEq] at H;obtain ⟨rfl,rfl⟩:=H
       go_wp2_with (first|(go_at_call 92;(with_reducible refine (spec_FormatInt.calls k1 x4_1 t277 _ A11.out).mono ?_);rintro e w14 ⟨rfl,hb⟩;have n0_:=bs_ HB hb;clear HB;have HB:=n0_;clear n0_;(try clear hb);(try clear hb2);(try clear hk);(try clear hi)))
       go_ret2
       exact ⟨by first|rfl|(simp [errW_none,errW_some] <;> rfl)|(simp [*,errW_none,errW_some] <;> rfl),by repeat (first|(with_reducible first|exact HB.out|apply below_alloc|apply pw_below_drewN|apply below_drew1)|exact HB.out)⟩
 ·replace c3:=Bool.eq_false_iff.mpr c3;subst c3
  rw [if_neg (show ¬ (false=true) by decide)] at H
  simp only [Option.some.injEq,Prod.mk.injEq] at H
  obtain ⟨rfl,rfl⟩:=H
  go_enter Tryz.func62,Tryz.ntmps62
  go_wp2_with (first|((with_reducible refine gate_callee (f:=47) rfl ?_);refine goesL_ (some 8) rfl rfl Tryz.func47 (by kernel_rfl) rfl #[.int .i64 (a0.size:Int),.int .i64 1,.int .i64 13] rfl (by (try simp only [List.map_toArray,List.map_cons,List.map_nil]);first|done|rfl|(simp only [List.length_drop,List.length_take];rfl)) ?_;(with_reducible refine (spec_l1In.calls (a0.size:Int) 1 13 false _ A2.out).mono ?_);rintro e w' ⟨rfl,⟨nd,rfl⟩⟩;refine ⟨_,rfl,?_⟩))
  go_ret2
  exact ⟨by first|rfl|(simp [errW_none,errW_some] <;> rfl)|(simp [*,errW_none,errW_some] <;> rfl),by repeat (first|(with_reducible first|exact HB.out|apply below_alloc|apply pw_below_drewN|apply below_drew1)|exact HB.out)⟩

end Go.Proofs.YtogcoedmagoogaaGreatDoor.PFnExactCheckAssertion
