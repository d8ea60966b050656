/- Functions and contracts of a law's callees, written by a program of this session (a changed print): each contract says that the machine's call answers what the plain function says. Conditions: the plain function's own answer. -/
import Derived.Test.YtogcoedmagoogaaGreatDoorZPFnExactCheckAssertionx0
import Derived.Test.YtogcoedmagoogaaGreatDoorZPFnExactCheckAssertionx2
namespace Go.Proofs.YtogcoedmagoogaaGreatDoor.PFnExactCheckAssertion
open Go.RowKit Go.Proofs.YtogcoedmagoogaaGreatDoorW.PrintWords Go.Proofs.YtogcoedmagoogaaGreatDoorW.PrintLast Go.Proofs.YtogcoedmagoogaaGreatDoorW.PrintMore
attribute [local go_sem] max2_int min2_int max_two min_two max_three min_three max_four min_four   -- for this text's walks alone
set_option linter.unusedVariables false
set_option linter.unusedSimpArgs false
abbrev Am3_ {p : Prop} (h : p) : Aside0 p := Aside0.mk h

namespace Y3
class Ex_ (w W:World):Prop where
 k:∀ {g:Nat} {o:Obj},w.heap[g]?=some o → W.heap[g]?=some o
 e:∀ {v:World},Below v.heap.size v w → Below v.heap.size v W
instance (priority:=low) Ex_.rf (w:World):Ex_ w w:=⟨fun h => h,fun h => h⟩
instance Ex_.dn {w W:World} [x:Ex_ w W] (n:Nat):Ex_ w (W.drewN n):=⟨fun h => blk_drewN (x.k h) n,fun h => pw_below_drewN (x.e h) n⟩
instance Ex_.dr {w W:World} [x:Ex_ w W]:Ex_ w W.drew:=⟨fun h => blk_drew (x.k h),fun h => below_drew1 (x.e h)⟩
instance Ex_.al {w W:World} [x:Ex_ w W] (o:Obj):Ex_ w (W.alloc o):=⟨fun h => blk_alloc (x.k h) o,fun h => below_alloc (x.e h) o⟩
theorem xk_ {w W:World} {g:Nat} {o:Obj} (h:Aside0 (w.heap[g]?=some o)) [x:Ex_ w W]:W.heap[g]?=some o:=x.k h.out
theorem ne1_ {w W:World} {g g':Nat} {o:Obj} (hg:g'=W.heap.size) (h:Aside0 (w.heap[g]?=some o)) [x:Ex_ w W]:Aside0 (g ≠ g'):=Am3_ (by rw [hg];exact Nat.ne_of_lt (blk_lt (x.k h.out)))
theorem ne2_ {w W:World} {g g':Nat} {o:Obj} (hg:g'=W.heap.size) (h:Aside0 (w.heap[g]?=some o)) [x:Ex_ w W]:Aside0 (g' ≠ g):=Am3_ (by rw [hg];exact Nat.ne_of_gt (blk_lt (x.k h.out)))
theorem gw_ {v w W:World} {g':Nat} (hg:g'=W.heap.size) (h:Aside0 (Below v.heap.size v w)) [x:Ex_ w W]:Aside0 (v.heap.size ≤ g'):=Am3_ (by rw [hg];exact below_size (x.e h.out))
theorem bb_ {w W W':World} {g:Nat} {o:Obj} (h:Aside0 (w.heap[g]?=some o)) (hb:Below W.heap.size W W') [x:Ex_ w W]:Aside0 (W'.heap[g]?=some o):=Am3_ (blk_below (x.k h.out) hb)
theorem bs_ {v w W W':World} (h:Aside0 (Below v.heap.size v w)) (hb:Below W.heap.size W W') [x:Ex_ w W]:Aside0 (Below v.heap.size v W'):=Am3_ (below_step (x.e h.out) hb)
theorem xe_ {v w W:World} (h:Aside0 (Below v.heap.size v w)) [x:Ex_ w W]:Below v.heap.size v W:=x.e h.out
end Y3
open Y3

namespace Y3
abbrev Sa_ := @List.setIfInBounds_toArray
abbrev Sb_ := @List.set_cons_zero
abbrev Sc_ := @List.set_cons_succ
theorem q_ {w W : World} {g : Nat} {t : TypeId} {cs : Array Value} (h : Aside0 (w.heap[g]? = some (.cells cs t (0, 0)))) (i : Nat) {v : Option Value} (e : cs[i]? = v) [x : Ex_ w W] : W.cell? ⟨g, i, none⟩ = v := (blk_cell (x.k h.out) i).trans e
end Y3
open Y3
/-! ### impl_FormatOrigin: function 26 -/
def impl_FormatOrigin.f (k:Nat) (a0_0:Bool) (a0_1:ByteArray) (a0_2:Int):Option (ByteArray):=(impl_IsOrigin.f k a0_0 a0_1 a0_2).bind fun t150 => (if t150=true then (if a0_0=true then (if a0_2=443 then (if 8 + a0_1.size ≤ 9223372036854775807 then (some ((⟨#[104,116,116,112,115,58,47,47]⟩:ByteArray) ++ a0_1)) else (none)) else (if 8 + a0_1.size ≤ 9223372036854775807 then (if ((⟨#[104,116,116,112,115,58,47,47]⟩:ByteArray) ++ a0_1).size + 1 ≤ 9223372036854775807 then ((impl_FormatInt.f a0_2).bind fun t151 => (if (((⟨#[104,116,116,112,115,58,47,47]⟩:ByteArray) ++ a0_1) ++ (⟨#[58]⟩:ByteArray)).size + t151.size ≤ 9223372036854775807 then (some ((((⟨#[104,116,116,112,115,58,47,47]⟩:ByteArray) ++ a0_1) ++ (⟨#[58]⟩:ByteArray)) ++ t151)) else (none))) else (none)) else (none))) else (if a0_2=80 then (if 7 + a0_1.size ≤ 9223372036854775807 then (some ((⟨#[104,116,116,112,58,47,47]⟩:ByteArray) ++ a0_1)) else (none)) else (if 7 + a0_1.size ≤ 9223372036854775807 then (if ((⟨#[104,116,116,112,58,47,47]⟩:ByteArray) ++ a0_1).size + 1 ≤ 9223372036854775807 then ((impl_FormatInt.f a0_2).bind fun t152 => (if (((⟨#[104,116,116,112,58,47,47]⟩:ByteArray) ++ a0_1) ++ (⟨#[58]⟩:ByteArray)).size + t152.size ≤ 9223372036854775807 then (some ((((⟨#[104,116,116,112,58,47,47]⟩:ByteArray) ++ a0_1) ++ (⟨#[58]⟩:ByteArray)) ++ t152)) else (none))) else (none)) else (none)))) else (some (⟨#[]⟩:ByteArray)))
theorem impl_FormatOrigin.mono:∀ a0 a1 a2 k,LeO (impl_FormatOrigin.f k a0 a1 a2) (impl_FormatOrigin.f (k + 1) a0 a1 a2):=by
 intro a0 a1 a2 k
 unfold impl_FormatOrigin.f
 repeat' first
  |(with_reducible exact impl_IsOrigin.mono _ _ _ _)
  |(with_reducible exact LeO.refl _)
  |(with_reducible exact LeO.none _)
  |(with_reducible refine LeO.ite ?_ ?_)
  |(with_reducible refine LeO.bind ?_ (fun _ => ?_))
  |exact impl_IsOrigin.mono _ _ _ _
  |exact LeO.none _
  |refine LeO.ite ?_ ?_
  |refine LeO.bind ?_ (fun _ => ?_)
def impl_FormatOrigin.T10:Bool × List (List Nat × List Nat):=(true,[([],[]),([],[]),([1],[1]),([0,2],[0,2]),([3],[3]),([],[]),([5],[5]),([6],[6]),([4,7],[4,7]),([8,7,0,1,2,3,4,5,6,7,8],[8])])
def impl_FormatOrigin.B10:List Nat:=[0,0,2,7,15,0,32,96,255,511]
theorem impl_FormatOrigin.tab10:rtab .any (opsOf Tryz.f26 10)=impl_FormatOrigin.T10:=by kernel_rfl
theorem impl_FormatOrigin.bits10:waitsOk impl_FormatOrigin.T10.2 impl_FormatOrigin.B10=true:=by kernel_rfl
set_option maxHeartbeats 8000000 in
set_option maxRecDepth 100000 in
theorem impl_FormatOrigin.calls (k:Nat) (a0_0:Bool) (a0_1:ByteArray) (a0_2:Int) (r:ByteArray) (w:World) (ht_:Man.Tab w) (h:impl_FormatOrigin.f k a0_0 a0_1 a0_2=some r) :
  Calls Tryz.prog 26 #[.agg #[.bool a0_0,.string a0_1,.int .i64 a0_2]] w fun e w' => e=.returned (.string r)∧Below w.heap.size w w':=by
 have HT:=Am3_ ht_;clear ht_;have hu28:=Tryz.underlying28;have HB:=Am3_ (Below.refl w.heap.size w);have H:=h;unfold impl_FormatOrigin.f at H;clear h;replace H:=Option.bind_eq_some_iff.mp H;obtain ⟨t150,A20,H⟩:=H
 try dsimp only at H
 have A2:=Am3_ A20;clear A20
 by_cases c3:t150=true
 ·subst c3
  rw [if_pos rfl] at H
  by_cases c4:a0_0=true
  ·subst c4
   rw [if_pos rfl] at H
   by_cases c5:a0_2=443
   ·rw [if_pos c5] at H
    have c5b0:(a0_2 == 443)=true:=beq_iff_eq.mpr c5;have c5b1:(a0_2 != 443)=false:=bne_eq_false_iff_eq.mpr c5;clear c5
    by_cases c6:8 + a0_1.size ≤ 9223372036854775807
    ·rw [if_pos c6] at H
     have c6b0:=eq_true c6;have c6b1:decide (8 + a0_1.size ≤ 9223372036854775807)=true:=decide_eq_true c6
     try have c6b2:(9223372036854775807 < 8 + a0_1.size)=False:=eq_false (Nat.not_lt.2 c6)
     obtain rfl:=Option.some.inj H
     go_enter Tryz.func26,Tryz.ntmps26
     go_wp2_with (first|((with_reducible refine gate_dst (N:=1) rfl ?_);refine box_event ?hg (N:=1) ?hd (cs:=#[.bool true,.string a0_1,.int .i64 a0_2]) (t:=28) ?hr ?_;(case hd => rfl);(case hg => rfl);(case hr => first|(go_simp;done)|(go_simp;rfl));intro gb149 hg w7 hbox hb;have n0_:=bs_ HB hb;have n1_:=Am3_ (hbox);have n2_:=gw_ hg HB;have n3_:=gw_ hg HB;clear HB;have HB:=n0_;have BK149:=n1_;have GW149:=n2_;have GE149:=n3_;clear n0_ n1_ n2_ n3_;clear hb hbox hg;have hcz8_0:w7.cell? ⟨gb149,0,none⟩=some (.bool true):=q_ BK149 0 rfl;have hcz8_1:w7.cell? ⟨gb149,1,none⟩=some (.string a0_1):=q_ BK149 1 rfl;have hcz8_2:w7.cell? ⟨gb149,2,none⟩=some (.int .i64 a0_2):=q_ BK149 2 rfl;have hfz8_0:=blk_frozen BK149.out 0;have hfz8_1:=blk_frozen BK149.out 1;have hfz8_2:=blk_frozen BK149.out 2)|((with_reducible refine gate_callee (f:=57) rfl ?_);refine goesL_ (some 6) rfl rfl Tryz.func57 (by kernel_rfl) rfl #[.agg #[.bool true,.string a0_1,.int .i64 a0_2]] rfl (by (try simp only [List.map_toArray,List.map_cons,List.map_nil]);first|done|rfl|(simp only [List.length_drop,List.length_take];rfl)) ?_;(with_reducible refine (impl_IsOrigin.calls k true a0_1 a0_2 true _ A2.out).mono ?_);rintro e w9 ⟨rfl,hb⟩;refine ⟨_,rfl,?_⟩;have n0_:=bb_ BK149 hb;have n1_:=bs_ HB hb;clear BK149;clear HB;have BK149:=n0_;have HB:=n1_;clear n0_ n1_;(try clear hb);(try clear hb2);(try clear hk);(try clear hi);have hcz10_0:w9.cell? ⟨gb149,0,none⟩=some (.bool true):=q_ BK149 0 rfl;have hcz10_1:w9.cell? ⟨gb149,1,none⟩=some (.string a0_1):=q_ BK149 1 rfl;have hcz10_2:w9.cell? ⟨gb149,2,none⟩=some (.int .i64 a0_2):=q_ BK149 2 rfl;have hfz10_0:=blk_frozen BK149.out 0;have hfz10_1:=blk_frozen BK149.out 1;have hfz10_2:=blk_frozen BK149.out 2))
     go_ret
     exact ⟨by first|rfl|(simp [errW_none,errW_some] <;> rfl)|(simp [*,errW_none,errW_some] <;> rfl),by repeat (first|(with_reducible first|exact HB.out|apply below_alloc|apply pw_below_drewN|apply below_drew1|refine below_set ?_ GE149.out)|exact HB.out)⟩
    ·rw [if_neg c6] at H
     exact absurd H (by simp)
   ·rw [if_neg c5] at H
    have c5b0:(a0_2 == 443)=false:=beq_eq_false_iff_ne.mpr c5;have c5b1:(a0_2 != 443)=true:=bne_iff_ne.mpr c5
    by_cases c11:8 + a0_1.size ≤ 9223372036854775807
    ·rw [if_pos c11] at H
     have c11b0:=eq_true c11;have c11b1:decide (8 + a0_1.size ≤ 9223372036854775807)=true:=decide_eq_true c11
     try have c11b2:(9223372036854775807 < 8 + a0_1.size)=False:=eq_false (Nat.not_lt.2 c11)
     by_cases c12:((⟨#[104,116,116,112,115,58,47,47]⟩:ByteArray) ++ a0_1).size + 1 ≤ 9223372036854775807
     ·rw [if_pos c12] at H
      have c12b0:=eq_true c12;have c12b1:decide (((⟨#[104,116,116,112,115,58,47,47]⟩:ByteArray) ++ a0_1).size + 1 ≤ 9223372036854775807)=true:=decide_eq_true c12
      try have c12b2:(9223372036854775807 < ((⟨#[104,116,116,112,115,58,47,47]⟩:ByteArray) ++ a0_1).size + 1)=False:=eq_false (Nat.not_lt.2 c12)
      have c12b3:(9223372036854775807 < 8 + a0_1.size + 1)=False:=by
       have e:=c12b2;simp only [ByteArray.size_append] at e;exact e
      replace H:=Option.bind_eq_some_iff.mp H;obtain ⟨t151,A130,H⟩:=H
      try dsimp only at H
      have A13:=Am3_ A130;clear A130
      by_cases c14:(((⟨#[104,116,116,112,115,58,47,47]⟩:ByteArray) ++ a0_1) ++ (⟨#[58]⟩:ByteArray)).size + t151.size ≤ 9223372036854775807
      ·rw [if_pos c14] at H
       have c14b0:=eq_true c14;have c14b1:decide ((((⟨#[104,116,116,112,115,58,47,47]⟩:ByteArray) ++ a0_1) ++ (⟨#[58]⟩:ByteArray)).size + t151.size ≤ 9223372036854775807)=true:=decide_eq_true c14
       try have c14b2:(9223372036854775807 < (((⟨#[104,116,116,112,115,58,47,47]⟩:ByteArray) ++ a0_1) ++ (⟨#[58]⟩:ByteArray)).size + t151.size)=False:=eq_false (Nat.not_lt.2 c14)
       have c14b3:(9223372036854775807 < 8 + a0_1.size + 1 + t151.size)=False:=by
        have e:=c14b2;simp only [ByteArray.size_append] at e;exact e
       obtain rfl:=Option.some.inj H
       go_enter Tryz.func26,Tryz.ntmps26
       try go_wp2_with (first|((with_reducible refine gate_dst (N:=1) rfl ?_);refine box_event ?hg (N:=1) ?hd (cs:=#[.bool true,.string a0_1,.int .i64 a0_2]) (t:=28) ?hr ?_;(case hd => rfl);(case hg => rfl);(case hr => first|(go_simp;done)|(go_simp;rfl));intro gb149 hg w15 hbox hb;have n0_:=bs_ HB hb;have n1_:=Am3_ (hbox);have n2_:=gw_ hg HB;have n3_:=gw_ hg HB;clear HB;have HB:=n0_;have BK149:=n1_;have GW149:=n2_;have GE149:=n3_;clear n0_ n1_ n2_ n3_;clear hb hbox hg;have hcz16_0:w15.cell? ⟨gb149,0,none⟩=some (.bool true):=q_ BK149 0 rfl;have hcz16_1:w15.cell? ⟨gb149,1,none⟩=some (.string a0_1):=q_ BK149 1 rfl;have hcz16_2:w15.cell? ⟨gb149,2,none⟩=some (.int .i64 a0_2):=q_ BK149 2 rfl;have hfz16_0:=blk_frozen BK149.out 0;have hfz16_1:=blk_frozen BK149.out 1;have hfz16_2:=blk_frozen BK149.out 2)|((with_reducible refine gate_callee (f:=57) rfl ?_);refine goesL_ (some 6) rfl rfl Tryz.func57 (by kernel_rfl) rfl #[.agg #[.bool true,.string a0_1,.int .i64 a0_2]] rfl (by (try simp only [List.map_toArray,List.map_cons,List.map_nil]);first|done|rfl|(simp only [List.length_drop,List.length_take];rfl)) ?_;(with_reducible refine (impl_IsOrigin.calls k true a0_1 a0_2 true _ A2.out).mono ?_);rintro e w17 ⟨rfl,hb⟩;refine ⟨_,rfl,?_⟩;have n0_:=bb_ BK149 hb;have n1_:=bs_ HB hb;clear BK149;clear HB;have BK149:=n0_;have HB:=n1_;clear n0_ n1_;(try clear hb);(try clear hb2);(try clear hk);(try clear hi);have hcz18_0:w17.cell? ⟨gb149,0,none⟩=some (.bool true):=q_ BK149 0 rfl;have hcz18_1:w17.cell? ⟨gb149,1,none⟩=some (.string a0_1):=q_ BK149 1 rfl;have hcz18_2:w17.cell? ⟨gb149,2,none⟩=some (.int .i64 a0_2):=q_ BK149 2 rfl;have hfz18_0:=blk_frozen BK149.out 0;have hfz18_1:=blk_frozen BK149.out 1;have hfz18_2:=blk_frozen BK149.out 2))
       replace BK149:=Am3_ (blk_drew BK149.out);replace HB:=Am3_ (below_drew1 HB.out);refine start_ (n:=10) (S:=fun w' => w'.cell? ⟨gb149,0,none⟩=some (.bool true)∧w'.cell? ⟨gb149,1,none⟩=some (.string a0_1)∧w'.cell? ⟨gb149,2,none⟩=some (.int .i64 a0_2)) (ds:=[]) #[false,false,false,false,false,false,false,false,false,false] (by kernel_rfl) rfl rfl ⟨q_ BK149 0 rfl,q_ BK149 1 rfl,q_ BK149 2 rfl⟩ (fun hHeld => ?_);refine with_tabW impl_FormatOrigin.tab10 impl_FormatOrigin.bits10 (fun HT_ HW_ => ?_);generalize w17.drew=w19 at BK149 HB hHeld ⊢;refine pure_ (i:=0) (N:=some 18) (v:=?_) (a':=?_) #[true,false,false,false,false,false,false,false,false,false] rfl rfl (any_of HT_.out (by kernel_rfl)) (fun _ _ _ h => h) (Or.inl ⟨by rfl,?_⟩) ?_ ?_;rotate_left
       ·intro w'
        go_simp
        with_reducible rfl
       rotate_left
       ·simp only [Act.put,Sa_,Sb_,Sc_,i64_w,i32_w]
        rfl
       refine pure_ (i:=1) (N:=some 19) (v:=?_) (a':=?_) #[true,true,false,false,false,false,false,false,false,false] rfl rfl (any_of HT_.out (by kernel_rfl)) (fun _ _ _ h => h) (Or.inl ⟨by rfl,?_⟩) ?_ ?_;rotate_left
       ·intro w'
        go_simp
        with_reducible rfl
       rotate_left
       ·simp only [Act.put,Sa_,Sb_,Sc_,i64_w,i32_w]
        rfl
       refine pure_ (i:=5) (N:=some 23) (v:=?_) (a':=?_) #[true,true,false,false,false,true,false,false,false,false] rfl rfl (any_of HT_.out (by kernel_rfl)) (fun _ _ _ h => h) (Or.inl ⟨by rfl,?_⟩) ?_ ?_;rotate_left
       ·intro w'
        go_simp
        with_reducible rfl
       rotate_left
       ·simp only [Act.put,Sa_,Sb_,Sc_,i64_w,i32_w]
        rfl
       refine take_ (i:=2) (N:=some 20) (v:=?_) (a':=?_) #[true,true,true,false,false,true,false,false,false,false] rfl rfl (take_ofW HT_.out HW_.out (by kernel_rfl)) (fun _ _ _ h => h) (Or.inl ⟨by rfl,?_⟩) hHeld ?_ ?_;rotate_left
       ·rintro w' ⟨s0,s1,s2⟩
        go_simp
        with_reducible rfl
       rotate_left
       ·simp only [Act.put,Sa_,Sb_,Sc_,i64_w,i32_w]
        rfl
       refine pure_ (i:=3) (N:=some 21) (v:=?_) (a':=?_) #[true,true,true,true,false,true,false,false,false,false] rfl rfl (any_of HT_.out (by kernel_rfl)) (fun _ _ _ h => h) (Or.inl ⟨by rfl,?_⟩) ?_ ?_;rotate_left
       ·intro w'
        go_simp
        with_reducible rfl
       rotate_left
       ·simp only [Act.put,Sa_,Sb_,Sc_,i64_w,i32_w]
        rfl
       refine pure_ (i:=4) (N:=some 22) (v:=?_) (a':=?_) #[true,true,true,true,true,true,false,false,false,false] rfl rfl (any_of HT_.out (by kernel_rfl)) (fun _ _ _ h => h) (Or.inl ⟨by rfl,?_⟩) ?_ ?_;rotate_left
       ·intro w'
        go_simp
        with_reducible rfl
       rotate_left
       ·simp only [Act.put,Sa_,Sb_,Sc_,i64_w,i32_w]
        rfl
       refine take_ (i:=6) (N:=some 24) (v:=?_) (a':=?_) #[true,true,true,true,true,true,true,false,false,false] rfl rfl (take_ofW HT_.out HW_.out (by kernel_rfl)) (fun _ _ _ h => h) (Or.inl ⟨by rfl,?_⟩) hHeld ?_ ?_;rotate_left
       ·rintro w' ⟨s0,s1,s2⟩
        go_simp
        with_reducible rfl
       rotate_left
       ·simp only [Act.put,Sa_,Sb_,Sc_,i64_w,i32_w]
        rfl
       refine one_ (i:=7) (N:=some 25) #[true,true,true,true,true,true,true,true,false,false] rfl rfl (one_of HT_.out (by kernel_rfl)) (by decide) (fun K hK => ?_);refine goes_ Tryz.func58 (by kernel_rfl) rfl #[.int .i64 a0_2] (by rfl) rfl rfl (by (try simp only [List.map_toArray,List.map_cons,List.map_nil]);first|done|rfl|(simp only [List.length_drop,List.length_take];rfl)) ?_;with_reducible refine (impl_FormatInt.calls (ht_:=Man.tab_on HT.out (xe_ HB)) a0_2 t151 _ A13.out).mono ?_;rintro e w20 ⟨rfl,hb⟩;refine ⟨_,rfl,?_⟩;replace BK149:=bb_ BK149 hb;replace HB:=bs_ HB hb;(try clear hb);(try clear hb2);(try clear hk);(try clear hi);refine hK.out _ _ ⟨q_ BK149 0 rfl,q_ BK149 1 rfl,q_ BK149 2 rfl⟩ (fun hHeld => ?_);clear hK K;refine norm_ (a':=?_) ?_ ?_;rotate_left
       ·show Act.put _ (some 25) _=_
        simp only [Act.put,Sa_,Sb_,Sc_,i64_w,i32_w]
        rfl
       refine pure_ (i:=8) (N:=some 26) (v:=?_) (a':=?_) #[true,true,true,true,true,true,true,true,true,false] rfl rfl (any_of HT_.out (by kernel_rfl)) (fun _ _ _ h => h) (Or.inl ⟨by rfl,?_⟩) ?_ ?_;rotate_left
       ·intro w'
        go_simp
        with_reducible rfl
       rotate_left
       ·simp only [Act.put,Sa_,Sb_,Sc_,i64_w,i32_w]
        rfl
       refine pure_ (i:=9) (N:=some 2) (v:=?_) (a':=?_) #[true,true,true,true,true,true,true,true,true,true] rfl rfl (any_of HT_.out (by kernel_rfl)) (fun _ _ _ h => h) (Or.inl ⟨by rfl,?_⟩) ?_ ?_;rotate_left
       ·intro w'
        go_simp
        with_reducible rfl
       rotate_left
       ·simp only [Act.put,Sa_,Sb_,Sc_,i64_w,i32_w]
        rfl
       refine done_ (done_of HT_.out (by kernel_rfl)) ?_
       try go_wp2
       go_ret
       exact ⟨by first|rfl|(simp [errW_none,errW_some] <;> rfl)|(simp [*,errW_none,errW_some] <;> rfl),by repeat (first|(with_reducible first|exact HB.out|apply below_alloc|apply pw_below_drewN|apply below_drew1|refine below_set ?_ GE149.out)|exact HB.out)⟩
      ·rw [if_neg c14] at H
       exact absurd H (by simp)
     ·rw [if_neg c12] at H
      exact absurd H (by simp)
    ·rw [if_neg c11] at H
     exact absurd H (by simp)
  ·replace c4:=Bool.eq_false_iff.mpr c4;subst c4
   rw [if_neg (show ¬ (false=true) by decide)] at H
   by_cases c21:a0_2=80
   ·rw [if_pos c21] at H
    have c21b0:(a0_2 == 80)=true:=beq_iff_eq.mpr c21;have c21b1:(a0_2 != 80)=false:=bne_eq_false_iff_eq.mpr c21;clear c21
    by_cases c22:7 + a0_1.size ≤ 9223372036854775807
    ·rw [if_pos c22] at H
     have c22b0:=eq_true c22;have c22b1:decide (7 + a0_1.size ≤ 9223372036854775807)=true:=decide_eq_true c22
     try have c22b2:(9223372036854775807 < 7 + a0_1.size)=False:=eq_false (Nat.not_lt.2 c22)
     obtain rfl:=Option.some.inj H
     go_enter Tryz.func26,Tryz.ntmps26
     go_wp2_with (first|((with_reducible refine gate_dst (N:=1) rfl ?_);refine box_event ?hg (N:=1) ?hd (cs:=#[.bool false,.string a0_1,.int .i64 a0_2]) (t:=28) ?hr ?_;(case hd => rfl);(case hg => rfl);(case hr => first|(go_simp;done)|(go_simp;rfl));intro gb149 hg w23 hbox hb;have n0_:=bs_ HB hb;have n1_:=Am3_ (hbox);have n2_:=gw_ hg HB;have n3_:=gw_ hg HB;clear HB;have HB:=n0_;have BK149:=n1_;have GW149:=n2_;have GE149:=n3_;clear n0_ n1_ n2_ n3_;clear hb hbox hg;have hcz24_0:w23.cell? ⟨gb149,0,none⟩=some (.bool false):=q_ BK149 0 rfl;have hcz24_1:w23.cell? ⟨gb149,1,none⟩=some (.string a0_1):=q_ BK149 1 rfl;have hcz24_2:w23.cell? ⟨gb149,2,none⟩=some (.int .i64 a0_2):=q_ BK149 2 rfl;have hfz24_0:=blk_frozen BK149.out 0;have hfz24_1:=blk_frozen BK149.out 1;have hfz24_2:=blk_frozen BK149.out 2)|((with_reducible refine gate_callee (f:=57) rfl ?_);refine goesL_ (some 6) rfl rfl Tryz.func57 (by kernel_rfl) rfl #[.agg #[.bool false,.string a0_1,.int .i64 a0_2]] rfl (by (try simp only [List.map_toArray,List.map_cons,List.map_nil]);first|done|rfl|(simp only [List.length_drop,List.length_take];rfl)) ?_;(with_reducible refine (impl_IsOrigin.calls k false a0_1 a0_2 true _ A2.out).mono ?_);rintro e w25 ⟨rfl,hb⟩;refine ⟨_,rfl,?_⟩;have n0_:=bb_ BK149 hb;have n1_:=bs_ HB hb;clear BK149;clear HB;have BK149:=n0_;have HB:=n1_;clear n0_ n1_;(try clear hb);(try clear hb2);(try clear hk);(try clear hi);have hcz26_0:w25.cell? ⟨gb149,0,none⟩=some (.bool false):=q_ BK149 0 rfl;have hcz26_1:w25.cell? ⟨gb149,1,none⟩=some (.string a0_1):=q_ BK149 1 rfl;have hcz26_2:w25.cell? ⟨gb149,2,none⟩=some (.int .i64 a0_2):=q_ BK149 2 rfl;have hfz26_0:=blk_frozen BK149.out 0;have hfz26_1:=blk_frozen BK149.out 1;have hfz26_2:=blk_frozen BK149.out 2))
     go_ret
     exact ⟨by first|rfl|(simp [errW_none,errW_some] <;> rfl)|(simp [*,errW_none,errW_some] <;> rfl),by repeat (first|(with_reducible first|exact HB.out|apply below_alloc|apply pw_below_drewN|apply below_drew1|refine below_set ?_ GE149.out)|exact HB.out)⟩
    ·rw [if_neg c22] at H
     exact absurd H (by simp)
   ·rw [if_neg c21] at H
    have c21b0:(a0_2 == 80)=false:=beq_eq_false_iff_ne.mpr c21;have c21b1:(a0_2 != 80)=true:=bne_iff_ne.mpr c21
    by_cases c27:7 + a0_1.size ≤ 9223372036854775807
    ·rw [if_pos c27] at H
     have c27b0:=eq_true c27;have c27b1:decide (7 + a0_1.size ≤ 9223372036854775807)=true:=decide_eq_true c27
     try have c27b2:(9223372036854775807 < 7 + a0_1.size)=False:=eq_false (Nat.not_lt.2 c27)
     by_cases c28:((⟨#[104,116,116,112,58,47,47]⟩:ByteArray) ++ a0_1).size + 1 ≤ 9223372036854775807
     ·rw [if_pos c28] at H
      have c28b0:=eq_true c28;have c28b1:decide (((⟨#[104,116,116,112,58,47,47]⟩:ByteArray) ++ a0_1).size + 1 ≤ 9223372036854775807)=true:=decide_eq_true c28
      try have c28b2:(9223372036854775807 < ((⟨#[104,116,116,112,58,47,47]⟩:ByteArray) ++ a0_1).size + 1)=False:=eq_false (Nat.not_lt.2 c28)
      have c28b3:(9223372036854775807 < 7 + a0_1.size + 1)=False:=by
       have e:=c28b2;simp only [ByteArray.size_append] at e;exact e
      replace H:=Option.bind_eq_some_iff.mp H;obtain ⟨t152,A290,H⟩:=H
      try dsimp only at H
      have A29:=Am3_ A290;clear A290
      by_cases c30:(((⟨#[104,116,116,112,58,47,47]⟩:ByteArray) ++ a0_1) ++ (⟨#[58]⟩:ByteArray)).size + t152.size ≤ 9223372036854775807
      ·rw [if_pos c30] at H
       have c30b0:=eq_true c30;have c30b1:decide ((((⟨#[104,116,116,112,58,47,47]⟩:ByteArray) ++ a0_1) ++ (⟨#[58]⟩:ByteArray)).size + t152.size ≤ 9223372036854775807)=true:=decide_eq_true c30
       try have c30b2:(9223372036854775807 < (((⟨#[104,116,116,112,58,47,47]⟩:ByteArray) ++ a0_1) ++ (⟨#[58]⟩:ByteArray)).size + t152.size)=False:=eq_false (Nat.not_lt.2 c30)
       have c30b3:(9223372036854775807 < 7 + a0_1.size + 1 + t152.size)=False:=by
        have e:=c30b2;simp only [ByteArray.size_append] at e;exact e
       obtain rfl:=Option.some.inj H
       go_enter Tryz.func26,Tryz.ntmps26
       try go_wp2_with (first|((with_reducible refine gate_dst (N:=1) rfl ?_);refine box_event ?hg (N:=1) ?hd (cs:=#[.bool false,.string a0_1,.int .i64 a0_2]) (t:=28) ?hr ?_;(case hd => rfl);(case hg => rfl);(case hr => first|(go_simp;done)|(go_simp;rfl));intro gb149 hg w31 hbox hb;have n0_:=bs_ HB hb;have n1_:=Am3_ (hbox);have n2_:=gw_ hg HB;have n3_:=gw_ hg HB;clear HB;have HB:=n0_;have BK149:=n1_;have GW149:=n2_;have GE149:=n3_;clear n0_ n1_ n2_ n3_;clear hb hbox hg;have hcz32_0:w31.cell? ⟨gb149,0,none⟩=some (.bool false):=q_ BK149 0 rfl;have hcz32_1:w31.cell? ⟨gb149,1,none⟩=some (.string a0_1):=q_ BK149 1 rfl;have hcz32_2:w31.cell? ⟨gb149,2,none⟩=some (.int .i64 a0_2):=q_ BK149 2 rfl;have hfz32_0:=blk_frozen BK149.out 0;have hfz32_1:=blk_frozen BK149.out 1;have hfz32_2:=blk_frozen BK149.out 2)|((with_reducible refine gate_callee (f:=57) rfl ?_);refine goesL_ (some 6) rfl rfl Tryz.func57 (by kernel_rfl) rfl #[.agg #[.bool false,.string a0_1,.int .i64 a0_2]] rfl (by (try simp only [List.map_toArray,List.map_cons,List.map_nil]);first|done|rfl|(simp only [List.length_drop,List.length_take];rfl)) ?_;(with_reducible refine (impl_IsOrigin.calls k false a0_1 a0_2 true _ A2.out).mono ?_);rintro e w33 ⟨rfl,hb⟩;refine ⟨_,rfl,?_⟩;have n0_:=bb_ BK149 hb;have n1_:=bs_ HB hb;clear BK149;clear HB;have BK149:=n0_;have HB:=n1_;clear n0_ n1_;(try clear hb);(try clear hb2);(try clear hk);(try clear hi);have hcz34_0:w33.cell? ⟨gb149,0,none⟩=some (.bool false):=q_ BK149 0 rfl;have hcz34_1:w33.cell? ⟨gb149,1,none⟩=some (.string a0_1):=q_ BK149 1 rfl;have hcz34_2:w33.cell? ⟨gb149,2,none⟩=some (.int .i64 a0_2):=q_ BK149 2 rfl;have hfz34_0:=blk_frozen BK149.out 0;have hfz34_1:=blk_frozen BK149.out 1;have hfz34_2:=blk_frozen BK149.out 2))
       replace BK149:=Am3_ (blk_drew BK149.out);replace HB:=Am3_ (below_drew1 HB.out);refine start_ (n:=10) (S:=fun w' => w'.cell? ⟨gb149,0,none⟩=some (.bool false)∧w'.cell? ⟨gb149,1,none⟩=some (.string a0_1)∧w'.cell? ⟨gb149,2,none⟩=some (.int .i64 a0_2)) (ds:=[]) #[false,false,false,false,false,false,false,false,false,false] (by kernel_rfl) rfl rfl ⟨q_ BK149 0 rfl,q_ BK149 1 rfl,q_ BK149 2 rfl⟩ (fun hHeld => ?_);refine with_tabW impl_FormatOrigin.tab10 impl_FormatOrigin.bits10 (fun HT_ HW_ => ?_);generalize w33.drew=w35 at BK149 HB hHeld ⊢;refine pure_ (i:=0) (N:=some 18) (v:=?_) (a':=?_) #[true,false,false,false,false,false,false,false,false,false] rfl rfl (any_of HT_.out (by kernel_rfl)) (fun _ _ _ h => h) (Or.inl ⟨by rfl,?_⟩) ?_ ?_;rotate_left
       ·intro w'
        go_simp
        with_reducible rfl
       rotate_left
       ·simp only [Act.put,Sa_,Sb_,Sc_,i64_w,i32_w]
        rfl
       refine pure_ (i:=1) (N:=some 19) (v:=?_) (a':=?_) #[true,true,false,false,false,false,false,false,false,false] rfl rfl (any_of HT_.out (by kernel_rfl)) (fun _ _ _ h => h) (Or.inl ⟨by rfl,?_⟩) ?_ ?_;rotate_left
       ·intro w'
        go_simp
        with_reducible rfl
       rotate_left
       ·simp only [Act.put,Sa_,Sb_,Sc_,i64_w,i32_w]
        rfl
       refine pure_ (i:=5) (N:=some 23) (v:=?_) (a':=?_) #[true,true,false,false,false,true,false,false,false,false] rfl rfl (any_of HT_.out (by kernel_rfl)) (fun _ _ _ h => h) (Or.inl ⟨by rfl,?_⟩) ?_ ?_;rotate_left
       ·intro w'
        go_simp
        with_reducible rfl
       rotate_left
       ·simp only [Act.put,Sa_,Sb_,Sc_,i64_w,i32_w]
        rfl
       refine take_ (i:=2) (N:=some 20) (v:=?_) (a':=?_) #[true,true,true,false,false,true,false,false,false,false] rfl rfl (take_ofW HT_.out HW_.out (by kernel_rfl)) (fun _ _ _ h => h) (Or.inl ⟨by rfl,?_⟩) hHeld ?_ ?_;rotate_left
       ·rintro w' ⟨s0,s1,s2⟩
        go_simp
        with_reducible rfl
       rotate_left
       ·simp only [Act.put,Sa_,Sb_,Sc_,i64_w,i32_w]
        rfl
       refine pure_ (i:=3) (N:=some 21) (v:=?_) (a':=?_) #[true,true,true,true,false,true,false,false,false,false] rfl rfl (any_of HT_.out (by kernel_rfl)) (fun _ _ _ h => h) (Or.inl ⟨by rfl,?_⟩) ?_ ?_;rotate_left
       ·intro w'
        go_simp
        with_reducible rfl
       rotate_left
       ·simp only [Act.put,Sa_,Sb_,Sc_,i64_w,i32_w]
        rfl
       refine pure_ (i:=4) (N:=some 22) (v:=?_) (a':=?_) #[true,true,true,true,true,true,false,false,false,false] rfl rfl (any_of HT_.out (by kernel_rfl)) (fun _ _ _ h => h) (Or.inl ⟨by rfl,?_⟩) ?_ ?_;rotate_left
       ·intro w'
        go_simp
        with_reducible rfl
       rotate_left
       ·simp only [Act.put,Sa_,Sb_,Sc_,i64_w,i32_w]
        rfl
       refine take_ (i:=6) (N:=some 24) (v:=?_) (a':=?_) #[true,true,true,true,true,true,true,false,false,false] rfl rfl (take_ofW HT_.out HW_.out (by kernel_rfl)) (fun _ _ _ h => h) (Or.inl ⟨by rfl,?_⟩) hHeld ?_ ?_;rotate_left
       ·rintro w' ⟨s0,s1,s2⟩
        go_simp
        with_reducible rfl
       rotate_left
       ·simp only [Act.put,Sa_,Sb_,Sc_,i64_w,i32_w]
        rfl
       refine one_ (i:=7) (N:=some 25) #[true,true,true,true,true,true,true,true,false,false] rfl rfl (one_of HT_.out (by kernel_rfl)) (by decide) (fun K hK => ?_);refine goes_ Tryz.func58 (by kernel_rfl) rfl #[.int .i64 a0_2] (by rfl) rfl rfl (by (try simp only [List.map_toArray,List.map_cons,List.map_nil]);first|done|rfl|(simp only [List.length_drop,List.length_take];rfl)) ?_;with_reducible refine (impl_FormatInt.calls (ht_:=Man.tab_on HT.out (xe_ HB)) a0_2 t152 _ A29.out).mono ?_;rintro e w36 ⟨rfl,hb⟩;refine ⟨_,rfl,?_⟩;replace BK149:=bb_ BK149 hb;replace HB:=bs_ HB hb;(try clear hb);(try clear hb2);(try clear hk);(try clear hi);refine hK.out _ _ ⟨q_ BK149 0 rfl,q_ BK149 1 rfl,q_ BK149 2 rfl⟩ (fun hHeld => ?_);clear hK K;refine norm_ (a':=?_) ?_ ?_;rotate_left
       ·show Act.put _ (some 25) _=_
        simp only [Act.put,Sa_,Sb_,Sc_,i64_w,i32_w]
        rfl
       refine pure_ (i:=8) (N:=some 26) (v:=?_) (a':=?_) #[true,true,true,true,true,true,true,true,true,false] rfl rfl (any_of HT_.out (by kernel_rfl)) (fun _ _ _ h => h) (Or.inl ⟨by rfl,?_⟩) ?_ ?_;rotate_left
       ·intro w'
        go_simp
        with_reducible rfl
       rotate_left
       ·simp only [Act.put,Sa_,Sb_,Sc_,i64_w,i32_w]
        rfl
       refine pure_ (i:=9) (N:=some 2) (v:=?_) (a':=?_) #[true,true,true,true,true,true,true,true,true,true] rfl rfl (any_of HT_.out (by kernel_rfl)) (fun _ _ _ h => h) (Or.inl ⟨by rfl,?_⟩) ?_ ?_;rotate_left
       ·intro w'
        go_simp
        with_reducible rfl
       rotate_left
       ·simp only [Act.put,Sa_,Sb_,Sc_,i64_w,i32_w]
        rfl
       refine done_ (done_of HT_.out (by kernel_rfl)) ?_
       try go_wp2
       go_ret
       exact ⟨by first|rfl|(simp [errW_none,errW_some] <;> rfl)|(simp [*,errW_none,errW_some] <;> rfl),by repeat (first|(with_reducible first|exact HB.out|apply below_alloc|apply pw_below_drewN|apply below_drew1|refine below_set ?_ GE149.out)|exact HB.out)⟩
      ·rw [if_neg c30] at H
       exact absurd H (by simp)
     ·rw [if_neg c28] at H
      exact absurd H (by simp)
    ·rw [if_neg c27] at H
     exact absurd H (by simp)
 ·replace c3:=Bool.eq_false_iff.mpr c3;subst c3
  rw [if_neg (show ¬ (false=true) by decide)] at H
  obtain rfl:=Option.some.inj H
  go_enter Tryz.func26,Tryz.ntmps26
  go_wp2_with (first|((with_reducible refine gate_dst (N:=1) rfl ?_);refine box_event ?hg (N:=1) ?hd (cs:=#[.bool a0_0,.string a0_1,.int .i64 a0_2]) (t:=28) ?hr ?_;(case hd => rfl);(case hg => rfl);(case hr => first|(go_simp;done)|(go_simp;rfl));intro gb149 hg w37 hbox hb;have n0_:=bs_ HB hb;have n1_:=Am3_ (hbox);have n2_:=gw_ hg HB;have n3_:=gw_ hg HB;clear HB;have HB:=n0_;have BK149:=n1_;have GW149:=n2_;have GE149:=n3_;clear n0_ n1_ n2_ n3_;clear hb hbox hg;have hcz38_0:w37.cell? ⟨gb149,0,none⟩=some (.bool a0_0):=q_ BK149 0 rfl;have hcz38_1:w37.cell? ⟨gb149,1,none⟩=some (.string a0_1):=q_ BK149 1 rfl;have hcz38_2:w37.cell? ⟨gb149,2,none⟩=some (.int .i64 a0_2):=q_ BK149 2 rfl;have hfz38_0:=blk_frozen BK149.out 0;have hfz38_1:=blk_frozen BK149.out 1;have hfz38_2:=blk_frozen BK149.out 2)|((with_reducible refine gate_callee (f:=57) rfl ?_);refine goesL_ (some 6) rfl rfl Tryz.func57 (by kernel_rfl) rfl #[.agg #[.bool a0_0,.string a0_1,.int .i64 a0_2]] rfl (by (try simp only [List.map_toArray,List.map_cons,List.map_nil]);first|done|rfl|(simp only [List.length_drop,List.length_take];rfl)) ?_;(with_reducible refine (impl_IsOrigin.calls k a0_0 a0_1 a0_2 false _ A2.out).mono ?_);rintro e w39 ⟨rfl,hb⟩;refine ⟨_,rfl,?_⟩;have n0_:=bb_ BK149 hb;have n1_:=bs_ HB hb;clear BK149;clear HB;have BK149:=n0_;have HB:=n1_;clear n0_ n1_;(try clear hb);(try clear hb2);(try clear hk);(try clear hi)))
  go_ret
  exact ⟨by first|rfl|(simp [errW_none,errW_some] <;> rfl)|(simp [*,errW_none,errW_some] <;> rfl),by repeat (first|(with_reducible first|exact HB.out|apply below_alloc|apply pw_below_drewN|apply below_drew1|refine below_set ?_ GE149.out)|exact HB.out)⟩


/-! ### strings_CutPrefix: function 54 -/
def strings_CutPrefix.f (a0:ByteArray) (a1:ByteArray):Option (ByteArray × Bool):=some (⟨(Lib.trimPrefix a0.data.toList a1.data.toList).toArray⟩,Lib.hasPrefix a0.data.toList a1.data.toList)
theorem strings_CutPrefix.calls (a0:ByteArray) (a1:ByteArray) (r1:ByteArray) (r2:Bool) (w:World) (h:strings_CutPrefix.f a0 a1=some (r1,r2)) :
  Calls Tryz.prog 54 #[.string a0,.string a1] w fun e w' => e=.returned (.tuple #[.string r1,.bool r2])∧Drawn0 w w':=by
 unfold strings_CutPrefix.f at h;obtain ⟨rfl,rfl⟩:=Prod.mk.inj (Option.some.inj h);exact (Any.strings_CutPrefix Tryz.lays103 a0 a1 w).mono fun e w' ⟨he,hw⟩ => ⟨he,hw ▸ Drawn0.refl w⟩


/-! ### strings_Cut: function 55 -/
def strings_Cut.f (a0:ByteArray) (a1:ByteArray):Option (ByteArray × ByteArray × Bool):=if a1=⟨#[58]⟩∧a0.size < 4294967281 then some (⟨(Lib.cut a0.data.toList [58]).1.toArray⟩,⟨(Lib.cut a0.data.toList [58]).2.1.toArray⟩,(Lib.cut a0.data.toList [58]).2.2) else none
theorem strings_Cut.calls (a0:ByteArray) (a1:ByteArray) (r1:ByteArray) (r2:ByteArray) (r3:Bool) (w:World) (h:strings_Cut.f a0 a1=some (r1,r2,r3)) :
  Calls Tryz.prog 55 #[.string a0,.string a1] w fun e w' => e=.returned (.tuple #[.string r1,.string r2,.bool r3])∧Drawn0 w w':=by
 unfold strings_Cut.f at h
 by_cases hc:a1=⟨#[58]⟩∧a0.size < 4294967281
 case neg => rw [if_neg hc] at h;cases h
 rw [if_pos hc] at h
 obtain ⟨rfl,hs⟩:=hc;obtain ⟨rfl,h2⟩:=Prod.mk.inj (Option.some.inj h);obtain ⟨rfl,rfl⟩:=Prod.mk.inj h2;exact (Man.str_Cut_one Tryz.lays145 a0 58 w hs).mono fun e w' ⟨he,hw⟩ => ⟨he,⟨hw⟩⟩


/-! ### impl_ParseInt: function 56 -/
def impl_ParseInt.f (a0:ByteArray):Option (Int × Bool):=if a0.size ≤ 281474976710656 then some (match Lib.atoiAll a0.data.toList with|.ok v => if v < 0 then (0,false) else if v > 1000000000000 then (0,false) else if Lib.itoa v=a0.data.toList then (v,true) else (0,false)|_ => (0,false)) else none
set_option maxHeartbeats 1000000 in
theorem impl_ParseInt.calls (a0:ByteArray) (r1:Int) (r2:Bool) (w:World) (ht_:Man.Tab w) (h:impl_ParseInt.f a0=some (r1,r2)) :
  Calls Tryz.prog 56 #[.string a0] w fun e w' => e=.returned (.tuple #[.int .i64 r1,.bool r2])∧Below w.heap.size w w':=by
 unfold impl_ParseInt.f at h
 by_cases hs:a0.size ≤ 281474976710656
 case neg => rw [if_neg hs] at h;cases h
 rw [if_pos hs] at h
 have hr:=Option.some.inj h;clear h
 cases ha:Lib.atoiAll a0.data.toList with
|«syntax» =>
  obtain ⟨tp,p,hv⟩:=ht_.2.1;have HC:=Am3_ (Any.strconv_Atoi_syntax_var Tryz.laysC172 a0 hs ha tp p w hv);rw [ha] at hr;obtain ⟨rfl,rfl⟩:=Prod.mk.inj hr;clear ht_ ha hs hr
  go_enter Tryz.func56,Tryz.ntmps56
  go_wp2_with fail
  refine HC.out.mono ?_;rintro e w1 ⟨N,rfl,hN,hc,hb⟩;have HB:=Am3_ hb;clear hN hc hb
  go_wp2_with fail
  go_ret2
  exact ⟨rfl,HB.out⟩
|range =>
  obtain ⟨tp,p,hv⟩:=ht_.2.2;have HC:=Am3_ (Any.strconv_Atoi_range_var Tryz.laysC172 a0 hs ha tp p w hv);rw [ha] at hr;obtain ⟨rfl,rfl⟩:=Prod.mk.inj hr;clear ht_ ha hs hr
  go_enter Tryz.func56,Tryz.ntmps56
  go_wp2_with fail
  refine HC.out.mono ?_;rintro e w1 ⟨N,rfl,hN,hc,hb⟩;have HB:=Am3_ hb;clear hN hc hb
  go_wp2_with fail
  go_ret2
  exact ⟨rfl,HB.out⟩
|ok v =>
  have HC:=Am3_ (Any.strconv_Atoi_ok Tryz.laysC172 a0 (by omega) v ha w);have hvb:=Lib.atoiAll_bounds ha;rw [ha] at hr;simp only at hr;have hT:=Am3_ ht_;clear ht_ ha hs
  by_cases h1:v < 0
  ·rw [if_pos h1] at hr
   obtain ⟨rfl,rfl⟩:=Prod.mk.inj hr;clear hr hT
   go_enter Tryz.func56,Tryz.ntmps56
   go_wp2_with fail
   refine HC.out.mono ?_;rintro e w1 ⟨rfl,hw⟩;have HB:Aside0 (Below w.heap.size w w1):=Am3_ (by rcases hw with rfl|⟨t,rfl⟩;exact Below.refl _ _;exact Lib.bytesWorld_below _ _ _);clear hw
   go_wp2_with fail
   go_ret2
   exact ⟨rfl,HB.out⟩
  rw [if_neg h1] at hr
  by_cases h2:v > 1000000000000
  ·rw [if_pos h2] at hr
   obtain ⟨rfl,rfl⟩:=Prod.mk.inj hr;clear hr hT
   go_enter Tryz.func56,Tryz.ntmps56
   go_wp2_with fail
   refine HC.out.mono ?_;rintro e w1 ⟨rfl,hw⟩;have HB:Aside0 (Below w.heap.size w w1):=Am3_ (by rcases hw with rfl|⟨t,rfl⟩;exact Below.refl _ _;exact Lib.bytesWorld_below _ _ _);clear hw
   go_wp2_with fail
   go_ret2
   exact ⟨rfl,HB.out⟩
  rw [if_neg h2] at hr
  have hI:=fun (W:World) (hb:Below w.heap.size w W) => Any.strconv_Itoa Tryz.laysM171 v hvb.1 hvb.2 W (Man.tab_on hT.out hb).tab
  have HI:=Am3_ hI;clear hT hI
  go_enter Tryz.func56,Tryz.ntmps56
  go_wp2_with fail
  refine HC.out.mono ?_;rintro e w1 ⟨rfl,hw⟩;have HB:Aside0 (Below w.heap.size w w1):=Am3_ (by rcases hw with rfl|⟨t,rfl⟩;exact Below.refl _ _;exact Lib.bytesWorld_below _ _ _);clear hw
  go_wp2_with fail
  refine (HI.out w1 HB.out).mono ?_;rintro e w2 ⟨rfl,k,os,rfl⟩;have HB2:Aside0 (Below w.heap.size w (Go.Sort.grow (w1.drewN k) os)):=Am3_ (below_step HB.out (Man.below_grow w1 k os))
  by_cases h3:Lib.itoa v=a0.data.toList
  ·rw [if_pos h3] at hr
   obtain ⟨rfl,rfl⟩:=Prod.mk.inj hr;have h3b:(Lib.itoa v == a0.toList)=true:=beq_iff_eq.2 (h3.trans (Lib.toList_data a0).symm);clear hr
   go_wp2_with fail
   go_ret2
   exact ⟨rfl,HB2.out⟩
  ·rw [if_neg h3] at hr
   obtain ⟨rfl,rfl⟩:=Prod.mk.inj hr;have h3b:(Lib.itoa v == a0.toList)=false:=beq_eq_false_iff_ne.2 (fun q => h3 (q.trans (Lib.toList_data a0)));clear hr
   go_wp2_with fail
   go_ret2
   exact ⟨rfl,HB2.out⟩

/-! ### impl_ParseOrigin: function 25 -/
mutual
def impl_ParseOrigin.j0:Nat → ByteArray → ByteArray → Bool → Bool → ByteArray → Int → Option (Bool × ByteArray × Int × Bool)
|0,_,_,_,_,_,_ => none
|k + 1,x0,x5,x6,x155000,x155001,x155002 => if x6=true then ((strings_Cut.f x5 (⟨#[58]⟩:ByteArray)).bind fun bt159 => (if bt159.2.2=true then ((impl_ParseInt.f bt159.2.1).bind fun bt162 => (if bt162.2=true then (impl_ParseOrigin.j1 k x0 x155000 bt159.1 bt162.1) else (some (false,(⟨#[]⟩:ByteArray),0,false)))) else (impl_ParseOrigin.j1 k x0 x155000 bt159.1 x155002))) else (some (false,(⟨#[]⟩:ByteArray),0,false))
def impl_ParseOrigin.j1:Nat → ByteArray → Bool → ByteArray → Int → Option (Bool × ByteArray × Int × Bool)
|0,_,_,_,_ => none
|k + 1,x0,x155000,x155001,x155002 => (impl_IsOrigin.f k x155000 x155001 x155002).bind fun t164 => (if t164=true then ((impl_FormatOrigin.f k x155000 x155001 x155002).bind fun t165 => (if t165.toList=x0.toList then (some (x155000,x155001,x155002,true)) else (some (false,(⟨#[]⟩:ByteArray),0,false)))) else (some (false,(⟨#[]⟩:ByteArray),0,false)))
end
def impl_ParseOrigin.f (k:Nat) (a0:ByteArray):Option (Bool × ByteArray × Int × Bool):=(strings_CutPrefix.f a0 (⟨#[104,116,116,112,58,47,47]⟩:ByteArray)).bind fun bt155 => (if bt155.2=true then (impl_ParseOrigin.j0 k a0 bt155.1 bt155.2 false (⟨#[]⟩:ByteArray) 80) else ((strings_CutPrefix.f a0 (⟨#[104,116,116,112,115,58,47,47]⟩:ByteArray)).bind fun bt157 => (impl_ParseOrigin.j0 k a0 bt157.1 bt157.2 true (⟨#[]⟩:ByteArray) 443)))
theorem impl_ParseOrigin.mono_l:∀ k,(∀ y0 y1 y2 y3 y4 y5,LeO (impl_ParseOrigin.j0 k y0 y1 y2 y3 y4 y5) (impl_ParseOrigin.j0 (k + 1) y0 y1 y2 y3 y4 y5))∧(∀ y0 y1 y2 y3,LeO (impl_ParseOrigin.j1 k y0 y1 y2 y3) (impl_ParseOrigin.j1 (k + 1) y0 y1 y2 y3))
|0 => ⟨fun _ _ _ _ _ _ r h => by simp [impl_ParseOrigin.j0] at h,fun _ _ _ _ r h => by simp [impl_ParseOrigin.j1] at h⟩
|k + 1 => by
  obtain ⟨ih0,ih1⟩:=impl_ParseOrigin.mono_l k;refine ⟨?_,?_⟩
  ·intro y0 y1 y2 y3 y4 y5
   unfold impl_ParseOrigin.j0
   repeat' first
  |(with_reducible exact ih0 _ _ _ _ _ _)
  |(with_reducible exact ih1 _ _ _ _)
  |(with_reducible exact impl_FormatOrigin.mono _ _ _ _)
  |(with_reducible exact impl_IsOrigin.mono _ _ _ _)
  |(with_reducible exact LeO.refl _)
  |(with_reducible exact LeO.none _)
  |(with_reducible refine LeO.ite ?_ ?_)
  |(with_reducible refine LeO.bind ?_ (fun _ => ?_))
  |exact ih0 _ _ _ _ _ _
  |exact ih1 _ _ _ _
  |exact impl_FormatOrigin.mono _ _ _ _
  |exact impl_IsOrigin.mono _ _ _ _
  |exact LeO.none _
  |refine LeO.ite ?_ ?_
  |refine LeO.bind ?_ (fun _ => ?_)
  ·intro y0 y1 y2 y3
   unfold impl_ParseOrigin.j1
   repeat' first
  |(with_reducible exact ih0 _ _ _ _ _ _)
  |(with_reducible exact ih1 _ _ _ _)
  |(with_reducible exact impl_FormatOrigin.mono _ _ _ _)
  |(with_reducible exact impl_IsOrigin.mono _ _ _ _)
  |(with_reducible exact LeO.refl _)
  |(with_reducible exact LeO.none _)
  |(with_reducible refine LeO.ite ?_ ?_)
  |(with_reducible refine LeO.bind ?_ (fun _ => ?_))
  |exact ih0 _ _ _ _ _ _
  |exact ih1 _ _ _ _
  |exact impl_FormatOrigin.mono _ _ _ _
  |exact impl_IsOrigin.mono _ _ _ _
  |exact LeO.none _
  |refine LeO.ite ?_ ?_
  |refine LeO.bind ?_ (fun _ => ?_)
theorem impl_ParseOrigin.mono:∀ a0 k,LeO (impl_ParseOrigin.f k a0) (impl_ParseOrigin.f (k + 1) a0):=by
 intro a0 k;obtain ⟨ih0,ih1⟩:=impl_ParseOrigin.mono_l k
 unfold impl_ParseOrigin.f
 repeat' first
  |(with_reducible exact ih0 _ _ _ _ _ _)
  |(with_reducible exact ih1 _ _ _ _)
  |(with_reducible exact impl_FormatOrigin.mono _ _ _ _)
  |(with_reducible exact impl_IsOrigin.mono _ _ _ _)
  |(with_reducible exact LeO.refl _)
  |(with_reducible exact LeO.none _)
  |(with_reducible refine LeO.ite ?_ ?_)
  |(with_reducible refine LeO.bind ?_ (fun _ => ?_))
  |exact ih0 _ _ _ _ _ _
  |exact ih1 _ _ _ _
  |exact impl_FormatOrigin.mono _ _ _ _
  |exact impl_IsOrigin.mono _ _ _ _
  |exact LeO.none _
  |refine LeO.ite ?_ ?_
  |refine LeO.bind ?_ (fun _ => ?_)
set_option maxHeartbeats 8000000 in
set_option maxRecDepth 100000 in
theorem impl_ParseOrigin.calls (k:Nat) (a0:ByteArray) (r1:Bool) (r2:ByteArray) (r3:Int) (r4:Bool) (w:World) (ht_:Man.Tab w) (h:impl_ParseOrigin.f k a0=some (r1,r2,r3,r4)) :
  Calls Tryz.prog 25 #[.string a0] w fun e w' => e=.returned (.tuple #[.agg #[.bool r1,.string r2,.int .i64 r3],.bool r4])∧Below w.heap.size w w':=by
 have HT:=Am3_ ht_;clear ht_;have hu28:=Tryz.underlying28;have HB:=Am3_ (Below.refl w.heap.size w);have H:=h;unfold impl_ParseOrigin.f at H;clear h;replace H:=Option.bind_eq_some_iff.mp H;obtain ⟨⟨t155,t156⟩,A20,H⟩:=H
 try dsimp only at H
 have A2:=Am3_ A20;clear A20;have HC3:=Am3_ H;clear H
 go_enter Tryz.func25,Tryz.ntmps25
 go_upto_if 19 with (first|((with_reducible refine gate_dst (N:=2) rfl ?_);refine box_event ?hg (N:=2) ?hd (cs:=#[.bool false,.string (⟨#[]⟩:ByteArray),.int .i64 0]) (t:=28) ?hr ?_;(case hd => rfl);(case hg => rfl);(case hr => first|(go_simp;done)|(go_simp;rfl));intro gb153 hg w4 hbox hb;have n0_:=bs_ HB hb;have n1_:=Am3_ (hbox);have n2_:=gw_ hg HB;have n3_:=gw_ hg HB;clear HB;have HB:=n0_;have BK153:=n1_;have GW153:=n2_;have GE153:=n3_;clear n0_ n1_ n2_ n3_;clear hb hbox hg)|((with_reducible refine gate_dst (N:=4) rfl ?_);refine box_event ?hg (N:=4) ?hd (cs:=#[.bool false,.string (⟨#[]⟩:ByteArray),.int .i64 0]) (t:=28) ?hr ?_;(case hd => rfl);(case hg => rfl);(case hr => first|(go_simp;done)|(go_simp;rfl));intro gb154 hg w5 hbox hb;have n0_:=bb_ BK153 hb;have n1_:=bs_ HB hb;have n2_:=Am3_ (hbox);have n3_:=gw_ hg HB;have n4_:=gw_ hg HB;have n5_:=ne1_ hg BK153;have n6_:=ne2_ hg BK153;clear BK153;clear HB;have BK153:=n0_;have HB:=n1_;have BK154:=n2_;have GW154:=n3_;have GE154:=n4_;have NB153_154:=n5_;have NB154_153:=n6_;clear n0_ n1_ n2_ n3_ n4_ n5_ n6_;clear hb hbox hg;have hnb6:=NB154_153.out;have hnc6:=NB153_154.out;have hcz7_0:w5.cell? ⟨gb154,0,none⟩=some (.bool false):=q_ BK154 0 rfl;have hcz7_1:w5.cell? ⟨gb154,1,none⟩=some (.string (⟨#[]⟩:ByteArray)):=q_ BK154 1 rfl;have hcz7_2:w5.cell? ⟨gb154,2,none⟩=some (.int .i64 0):=q_ BK154 2 rfl;have hfz7_0:=blk_frozen BK154.out 0;have hfz7_1:=blk_frozen BK154.out 1;have hfz7_2:=blk_frozen BK154.out 2)|((with_reducible refine gate_callee (f:=54) rfl ?_);refine goesL_ (some 15) rfl rfl Tryz.func54 (by kernel_rfl) rfl #[.string a0,.string (⟨#[104,116,116,112,58,47,47]⟩:ByteArray)] rfl (by (try simp only [List.map_toArray,List.map_cons,List.map_nil]);first|done|rfl|(simp only [List.length_drop,List.length_take];rfl)) ?_;(with_reducible refine (strings_CutPrefix.calls a0 (⟨#[104,116,116,112,58,47,47]⟩:ByteArray) t155 t156 _ A2.out).mono ?_);rintro e w' ⟨rfl,⟨nd,rfl⟩⟩;refine ⟨_,rfl,?_⟩))
 (try simp only [Act.put,Sa_,Sb_,Sc_])
 go_cut [5,6] (fun v5 v6 wc => ∃ (kq:Nat) (x5_2:ByteArray) (x6_2:Bool) (x155000_2:Bool) (x155001_2:ByteArray) (x155002_2:Int),v5=.string x5_2∧v6=.bool x6_2∧Aside0 (impl_ParseOrigin.j0 kq a0 x5_2 x6_2 x155000_2 x155001_2 x155002_2=some (r1,r2,r3,r4))∧Aside0 (kq ≤ k)∧Aside0 (wc.heap[gb153]?=some (.cells #[.bool false,.string (⟨#[]⟩:ByteArray),.int .i64 0] 28 (0,0)))∧Aside0 (wc.heap[gb154]?=some (.cells #[.bool x155000_2,.string x155001_2,.int .i64 x155002_2] 28 (0,0)))∧Aside0 (Below w.heap.size w wc))
 case first =>
  have H:=HC3.out;clear HC3
  by_cases c8:t156=true
  ·subst c8
   rw [if_pos rfl] at H
   have H':=Am3_ H;clear H
   go_wp2
   go_meet
   case rel => exact ⟨_,(t155),(true),(false),((⟨#[]⟩:ByteArray)),(80),(by first|rfl|(simp;done)|(simp [*];done)),(by first|rfl|(simp;done)|(simp [*];done)),H',⟨by first|omega|exact Nat.le_refl _⟩,⟨by (with_reducible repeat (first|refine blk_drewN ?_ _|refine blk_drew ?_|refine blk_alloc ?_ _));refine blk_far ?_ NB153_154.out _;(with_reducible repeat (first|refine blk_drewN ?_ _|refine blk_drew ?_|refine blk_alloc ?_ _));refine blk_far ?_ NB153_154.out _;(with_reducible repeat (first|refine blk_drewN ?_ _|refine blk_drew ?_|refine blk_alloc ?_ _));refine blk_far ?_ NB153_154.out _;(with_reducible repeat (first|refine blk_drewN ?_ _|refine blk_drew ?_|refine blk_alloc ?_ _));exact BK153.out⟩,⟨by (with_reducible repeat (first|refine blk_drewN ?_ _|refine blk_drew ?_|refine blk_alloc ?_ _));refine blk_put (cs:=#[.bool false,.string (⟨#[]⟩:ByteArray),.int .i64 0]) ?_ 2 _ rfl;(with_reducible repeat (first|refine blk_drewN ?_ _|refine blk_drew ?_|refine blk_alloc ?_ _));refine blk_put (cs:=#[.bool false,.string (⟨#[]⟩:ByteArray),.int .i64 0]) ?_ 1 _ rfl;(with_reducible repeat (first|refine blk_drewN ?_ _|refine blk_drew ?_|refine blk_alloc ?_ _));refine blk_put (cs:=#[.bool false,.string (⟨#[]⟩:ByteArray),.int .i64 0]) ?_ 0 _ rfl;(with_reducible repeat (first|refine blk_drewN ?_ _|refine blk_drew ?_|refine blk_alloc ?_ _));exact BK154.out⟩,⟨by repeat (first|(with_reducible first|exact HB.out|apply below_alloc|apply pw_below_drewN|apply below_drew1|refine below_set ?_ GE153.out|refine below_set ?_ GE154.out)|exact HB.out)⟩⟩
  ·replace c8:=Bool.eq_false_iff.mpr c8;subst c8
   rw [if_neg (show ¬ (false=true) by decide)] at H
   replace H:=Option.bind_eq_some_iff.mp H;obtain ⟨⟨t157,t158⟩,A90,H⟩:=H
   try dsimp only at H
   have A9:=Am3_ A90;clear A90;have H':=Am3_ H;clear H
   go_wp2_with (first|((with_reducible refine gate_callee (f:=54) rfl ?_);refine goesL_ (some 22) rfl rfl Tryz.func54 (by kernel_rfl) rfl #[.string a0,.string (⟨#[104,116,116,112,115,58,47,47]⟩:ByteArray)] rfl (by (try simp only [List.map_toArray,List.map_cons,List.map_nil]);first|done|rfl|(simp only [List.length_drop,List.length_take];rfl)) ?_;(with_reducible refine (strings_CutPrefix.calls a0 (⟨#[104,116,116,112,115,58,47,47]⟩:ByteArray) t157 t158 _ A9.out).mono ?_);rintro e w' ⟨rfl,⟨nd,rfl⟩⟩;refine ⟨_,rfl,?_⟩;have hnb10:=NB154_153.out;have hnc10:=NB153_154.out;have hcz11_0:w5.cell? ⟨gb154,0,none⟩=some (.bool false):=q_ BK154 0 rfl;have hcz11_1:w5.cell? ⟨gb154,1,none⟩=some (.string (⟨#[]⟩:ByteArray)):=q_ BK154 1 rfl;have hcz11_2:w5.cell? ⟨gb154,2,none⟩=some (.int .i64 0):=q_ BK154 2 rfl;have hfz11_0:=blk_frozen BK154.out 0;have hfz11_1:=blk_frozen BK154.out 1;have hfz11_2:=blk_frozen BK154.out 2))
   go_meet
   case rel => exact ⟨_,(t157),(t158),(true),((⟨#[]⟩:ByteArray)),(443),(by first|rfl|(simp;done)|(simp [*];done)),(by first|rfl|(simp;done)|(simp [*];done)),H',⟨by first|omega|exact Nat.le_refl _⟩,⟨by (with_reducible repeat (first|refine blk_drewN ?_ _|refine blk_drew ?_|refine blk_alloc ?_ _));refine blk_far ?_ NB153_154.out _;(with_reducible repeat (first|refine blk_drewN ?_ _|refine blk_drew ?_|refine blk_alloc ?_ _));refine blk_far ?_ NB153_154.out _;(with_reducible repeat (first|refine blk_drewN ?_ _|refine blk_drew ?_|refine blk_alloc ?_ _));refine blk_far ?_ NB153_154.out _;(with_reducible repeat (first|refine blk_drewN ?_ _|refine blk_drew ?_|refine blk_alloc ?_ _));refine blk_far ?_ NB153_154.out _;(with_reducible repeat (first|refine blk_drewN ?_ _|refine blk_drew ?_|refine blk_alloc ?_ _));refine blk_far ?_ NB153_154.out _;(with_reducible repeat (first|refine blk_drewN ?_ _|refine blk_drew ?_|refine blk_alloc ?_ _));refine blk_far ?_ NB153_154.out _;(with_reducible repeat (first|refine blk_drewN ?_ _|refine blk_drew ?_|refine blk_alloc ?_ _));exact BK153.out⟩,⟨by (with_reducible repeat (first|refine blk_drewN ?_ _|refine blk_drew ?_|refine blk_alloc ?_ _));refine blk_put (cs:=#[.bool true,.string (⟨#[]⟩:ByteArray),.int .i64 80]) ?_ 2 _ rfl;(with_reducible repeat (first|refine blk_drewN ?_ _|refine blk_drew ?_|refine blk_alloc ?_ _));refine blk_put (cs:=#[.bool true,.string (⟨#[]⟩:ByteArray),.int .i64 80]) ?_ 1 _ rfl;(with_reducible repeat (first|refine blk_drewN ?_ _|refine blk_drew ?_|refine blk_alloc ?_ _));refine blk_put (cs:=#[.bool false,.string (⟨#[]⟩:ByteArray),.int .i64 80]) ?_ 0 _ rfl;(with_reducible repeat (first|refine blk_drewN ?_ _|refine blk_drew ?_|refine blk_alloc ?_ _));refine blk_put (cs:=#[.bool false,.string (⟨#[]⟩:ByteArray),.int .i64 0]) ?_ 2 _ rfl;(with_reducible repeat (first|refine blk_drewN ?_ _|refine blk_drew ?_|refine blk_alloc ?_ _));refine blk_put (cs:=#[.bool false,.string (⟨#[]⟩:ByteArray),.int .i64 0]) ?_ 1 _ rfl;(with_reducible repeat (first|refine blk_drewN ?_ _|refine blk_drew ?_|refine blk_alloc ?_ _));refine blk_put (cs:=#[.bool false,.string (⟨#[]⟩:ByteArray),.int .i64 0]) ?_ 0 _ rfl;(with_reducible repeat (first|refine blk_drewN ?_ _|refine blk_drew ?_|refine blk_alloc ?_ _));exact BK154.out⟩,⟨by repeat (first|(with_reducible first|exact HB.out|apply below_alloc|apply pw_below_drewN|apply below_drew1|refine below_set ?_ GE153.out|refine below_set ?_ GE154.out)|exact HB.out)⟩⟩
 case rest =>
  clear HC3
  try clear c1
  try clear c2
  try clear p2
  try clear c5
  try clear c6
  try clear c8
  try clear c10
  try clear hcz11_0
  try clear hcz11_1
  try clear hcz11_2
  try clear hcz7_0
  try clear hcz7_1
  try clear hcz7_2
  try clear hfz11_0
  try clear hfz11_1
  try clear hfz11_2
  try clear hfz7_0
  try clear hfz7_1
  try clear hfz7_2
  obtain ⟨kq,x5_2,x6_2,x155000_2,x155001_2,x155002_2,rfl,rfl,HA,HJ2,BK153,BK154,HB⟩:=hcut
  cases kq with
 |zero => exact absurd HA.out (by simp [impl_ParseOrigin.j0])
 |succ kj2 =>
   have H:=HA.out;clear HA;simp only [impl_ParseOrigin.j0] at H
   by_cases c12:x6_2=true
   ·subst c12
    rw [if_pos rfl] at H
    replace H:=Option.bind_eq_some_iff.mp H;obtain ⟨⟨t159,t160,t161⟩,A130,H⟩:=H
    try dsimp only at H
    have A13:=Am3_ A130;clear A130;have HC14:=Am3_ H;clear H
    go_upto_if 37 with (first|((with_reducible refine gate_callee (f:=55) rfl ?_);refine goesL_ (some 31) rfl rfl Tryz.func55 (by kernel_rfl) rfl #[.string x5_2,.string (⟨#[58]⟩:ByteArray)] rfl (by (try simp only [List.map_toArray,List.map_cons,List.map_nil]);first|done|rfl|(simp only [List.length_drop,List.length_take];rfl)) ?_;(with_reducible refine (strings_Cut.calls x5_2 (⟨#[58]⟩:ByteArray) t159 t160 t161 _ A13.out).mono ?_);rintro e w' ⟨rfl,⟨nd,rfl⟩⟩;refine ⟨_,rfl,?_⟩;(try (rw [drewN_self wc];generalize hq_:World.drewN wc _=wc;have n0_:Aside0 (wc.heap[gb153]?=some (.cells #[.bool false,.string (⟨#[]⟩:ByteArray),.int .i64 0] 28 (0,0))):=⟨by rw [← hq_];exact (xk_ BK153)⟩;have n1_:Aside0 (wc.heap[gb154]?=some (.cells #[.bool x155000_2,.string x155001_2,.int .i64 x155002_2] 28 (0,0))):=⟨by rw [← hq_];exact (xk_ BK154)⟩;have n2_:Aside0 (Below w.heap.size w wc):=⟨by rw [← hq_];exact (xe_ HB)⟩;clear BK153 BK154 HB hq_;have BK153:=n0_;have BK154:=n1_;have HB:=n2_;clear n0_ n1_ n2_));have hnb15:=NB154_153.out;have hnc15:=NB153_154.out;have hcz16_0:wc.cell? ⟨gb154,0,none⟩=some (.bool x155000_2):=q_ BK154 0 rfl;have hcz16_1:wc.cell? ⟨gb154,1,none⟩=some (.string x155001_2):=q_ BK154 1 rfl;have hcz16_2:wc.cell? ⟨gb154,2,none⟩=some (.int .i64 x155002_2):=q_ BK154 2 rfl;have hfz16_0:=blk_frozen BK154.out 0;have hfz16_1:=blk_frozen BK154.out 1;have hfz16_2:=blk_frozen BK154.out 2))
    (try simp only [Act.put,Sa_,Sb_,Sc_])
    go_cut [] (fun wc => ∃ (kq:Nat) (x154000_13:Bool) (x154001_13:ByteArray) (x154002_13:Int) (x155002_13:Int),Aside0 (impl_ParseOrigin.j1 kq a0 x155000_2 t159 x155002_13=some (r1,r2,r3,r4))∧Aside0 (kq ≤ kj2)∧Aside0 (wc.heap[gb153]?=some (.cells #[.bool x154000_13,.string x154001_13,.int .i64 x154002_13] 28 (0,0)))∧Aside0 (wc.heap[gb154]?=some (.cells #[.bool x155000_2,.string t159,.int .i64 x155002_13] 28 (0,0)))∧Aside0 (Below w.heap.size w wc))
    case first =>
     have H:=HC14.out;clear HC14
     by_cases c17:t161=true
     ·subst c17
      rw [if_pos rfl] at H
      replace H:=Option.bind_eq_some_iff.mp H;obtain ⟨⟨t162,t163⟩,A180,H⟩:=H
      try dsimp only at H
      have A18:=Am3_ A180;clear A180
      by_cases c19:t163=true
      ·subst c19
       rw [if_pos rfl] at H
       have H':=Am3_ H;clear H
       go_wp2_with (first|((with_reducible refine gate_callee (f:=56) rfl ?_);refine goesL_ (some 40) rfl rfl Tryz.func56 (by kernel_rfl) rfl #[.string t160] rfl (by (try simp only [List.map_toArray,List.map_cons,List.map_nil]);first|done|rfl|(simp only [List.length_drop,List.length_take];rfl)) ?_;(with_reducible refine (impl_ParseInt.calls (ht_:=Man.tab_on HT.out (by repeat (first|(with_reducible first|exact HB.out|apply below_alloc|apply pw_below_drewN|apply below_drew1|refine below_set ?_ GE153.out|refine below_set ?_ GE154.out)|exact HB.out))) t160 t162 true _ A18.out).mono ?_);rintro e w20 ⟨rfl,hb⟩;refine ⟨_,rfl,?_⟩;have n0_:=Am3_ (blk_below (g:=gb153) (o:=.cells #[.bool false,.string (⟨#[]⟩:ByteArray),.int .i64 0] 28 (0,0)) (by (repeat (first|(with_reducible first|refine blk_drewN ?_ _|refine blk_drew ?_|refine blk_alloc ?_ _)|refine blk_far ?_ NB153_154.out _));exact BK153.out) hb);have n1_:=Am3_ (blk_below (g:=gb154) (o:=.cells #[.bool x155000_2,.string t159,.int .i64 x155002_2] 28 (0,0)) (by (with_reducible repeat (first|refine blk_drewN ?_ _|refine blk_drew ?_|refine blk_alloc ?_ _));refine blk_put (cs:=#[.bool x155000_2,.string x155001_2,.int .i64 x155002_2]) ?_ 1 _ rfl;(with_reducible repeat (first|refine blk_drewN ?_ _|refine blk_drew ?_|refine blk_alloc ?_ _));exact BK154.out) hb);have n2_:=Am3_ (below_step (by repeat (first|(with_reducible first|exact HB.out|apply below_alloc|apply pw_below_drewN|apply below_drew1|refine below_set ?_ GE153.out|refine below_set ?_ GE154.out)|exact HB.out)) hb);clear BK153;clear BK154;clear HB;have BK153:=n0_;have BK154:=n1_;have HB:=n2_;clear n0_ n1_ n2_;(try clear hb);(try clear hb2);(try clear hk);(try clear hi);have hnb21:=NB154_153.out;have hnc21:=NB153_154.out;have hcz22_0:w20.cell? ⟨gb154,0,none⟩=some (.bool x155000_2):=q_ BK154 0 rfl;have hcz22_1:w20.cell? ⟨gb154,1,none⟩=some (.string t159):=q_ BK154 1 rfl;have hcz22_2:w20.cell? ⟨gb154,2,none⟩=some (.int .i64 x155002_2):=q_ BK154 2 rfl;have hfz22_0:=blk_frozen BK154.out 0;have hfz22_1:=blk_frozen BK154.out 1;have hfz22_2:=blk_frozen BK154.out 2))
       go_meet
       case rel => exact ⟨_,(false),((⟨#[]⟩:ByteArray)),(0),(t162),H',⟨by have:=HJ2.out;first|omega|exact Nat.le_refl _⟩,⟨by (with_reducible repeat (first|refine blk_drewN ?_ _|refine blk_drew ?_|refine blk_alloc ?_ _));refine blk_far ?_ NB153_154.out _;(with_reducible repeat (first|refine blk_drewN ?_ _|refine blk_drew ?_|refine blk_alloc ?_ _));exact BK153.out⟩,⟨by (with_reducible repeat (first|refine blk_drewN ?_ _|refine blk_drew ?_|refine blk_alloc ?_ _));refine blk_put (cs:=#[.bool x155000_2,.string t159,.int .i64 x155002_2]) ?_ 2 _ rfl;(with_reducible repeat (first|refine blk_drewN ?_ _|refine blk_drew ?_|refine blk_alloc ?_ _));exact BK154.out⟩,⟨by repeat (first|(with_reducible first|exact HB.out|apply below_alloc|apply pw_below_drewN|apply below_drew1|refine below_set ?_ GE153.out|refine below_set ?_ GE154.out)|exact HB.out)⟩⟩
      ·replace c19:=Bool.eq_false_iff.mpr c19;subst c19
       rw [if_neg (show ¬ (false=true) by decide)] at H
       simp only [Option.some.injEq,Prod.mk.injEq] at H
       obtain ⟨rfl,rfl,rfl,rfl⟩:=H
       go_wp2_with (first|((with_reducible refine gate_callee (f:=56) rfl ?_);refine goesL_ (some 40) rfl rfl Tryz.func56 (by kernel_rfl) rfl #[.string t160] rfl (by (try simp only [List.map_toArray,List.map_cons,List.map_nil]);first|done|rfl|(simp only [List.length_drop,List.length_take];rfl)) ?_;(with_reducible refine (impl_ParseInt.calls (ht_:=Man.tab_on HT.out (by repeat (first|(with_reducible first|exact HB.out|apply below_alloc|apply pw_below_drewN|apply below_drew1|refine below_set ?_ GE153.out|refine below_set ?_ GE154.out)|exact HB.out))) t160 t162 false _ A18.out).mono ?_);rintro e w23 ⟨rfl,hb⟩;refine ⟨_,rfl,?_⟩;have n0_:=Am3_ (blk_below (g:=gb153) (o:=.cells #[.bool false,.string (⟨#[]⟩:ByteArray),.int .i64 0] 28 (0,0)) (by (repeat (first|(with_reducible first|refine blk_drewN ?_ _|refine blk_drew ?_|refine blk_alloc ?_ _)|refine blk_far ?_ NB153_154.out _));exact BK153.out) hb);have n1_:=Am3_ (blk_below (g:=gb154) (o:=.cells #[.bool x155000_2,.string t159,.int .i64 x155002_2] 28 (0,0)) (by (with_reducible repeat (first|refine blk_drewN ?_ _|refine blk_drew ?_|refine blk_alloc ?_ _));refine blk_put (cs:=#[.bool x155000_2,.string x155001_2,.int .i64 x155002_2]) ?_ 1 _ rfl;(with_reducible repeat (first|refine blk_drewN ?_ _|refine blk_drew ?_|refine blk_alloc ?_ _));exact BK154.out) hb);have n2_:=Am3_ (below_step (by repeat (first|(with_reducible first|exact HB.out|apply below_alloc|apply pw_below_drewN|apply below_drew1|refine below_set ?_ GE153.out|refine below_set ?_ GE154.out)|exact HB.out)) hb);clear BK153;clear BK154;clear HB;have BK153:=n0_;have BK154:=n1_;have HB:=n2_;clear n0_ n1_ n2_;(try clear hb);(try clear hb2);(try clear hk);(try clear hi);have hnb24:=NB153_154.out;have hnc24:=NB154_153.out;have hcz25_0:w23.cell? ⟨gb153,0,none⟩=some (.bool false):=q_ BK153 0 rfl;have hcz25_1:w23.cell? ⟨gb153,1,none⟩=some (.string (⟨#[]⟩:ByteArray)):=q_ BK153 1 rfl;have hcz25_2:w23.cell? ⟨gb153,2,none⟩=some (.int .i64 0):=q_ BK153 2 rfl;have hfz25_0:=blk_frozen BK153.out 0;have hfz25_1:=blk_frozen BK153.out 1;have hfz25_2:=blk_frozen BK153.out 2))
       refine bodyPost_ret (results_ct rfl _ _ gb153 28 #[.bool false,.string (⟨#[]⟩:ByteArray),.int .i64 0] (0,0) _ rfl (by (with_reducible repeat (first|refine blk_drewN ?_ _|refine blk_drew ?_|refine blk_alloc ?_ _));refine blk_put (cs:=#[.bool false,.string (⟨#[]⟩:ByteArray),.int .i64 0]) ?_ 2 _ rfl;(with_reducible repeat (first|refine blk_drewN ?_ _|refine blk_drew ?_|refine blk_alloc ?_ _));refine blk_put (cs:=#[.bool false,.string (⟨#[]⟩:ByteArray),.int .i64 0]) ?_ 1 _ rfl;(with_reducible repeat (first|refine blk_drewN ?_ _|refine blk_drew ?_|refine blk_alloc ?_ _));refine blk_put (cs:=#[.bool false,.string (⟨#[]⟩:ByteArray),.int .i64 0]) ?_ 0 _ rfl;(with_reducible repeat (first|refine blk_drewN ?_ _|refine blk_drew ?_|refine blk_alloc ?_ _));exact BK153.out) Tryz.underlying28 rfl (by kernel_rfl)) rfl ?_;exact ⟨by first|rfl|(simp [errW_none,errW_some] <;> rfl)|(simp [*,errW_none,errW_some] <;> rfl),by repeat (first|(with_reducible first|exact HB.out|apply below_alloc|apply pw_below_drewN|apply below_drew1|refine below_set ?_ GE153.out|refine below_set ?_ GE154.out)|exact HB.out)⟩
     ·replace c17:=Bool.eq_false_iff.mpr c17;subst c17
      rw [if_neg (show ¬ (false=true) by decide)] at H
      have H':=Am3_ H;clear H
      go_wp2
      go_meet
      case rel => exact ⟨_,(false),((⟨#[]⟩:ByteArray)),(0),(x155002_2),H',⟨by have:=HJ2.out;first|omega|exact Nat.le_refl _⟩,⟨by (with_reducible repeat (first|refine blk_drewN ?_ _|refine blk_drew ?_|refine blk_alloc ?_ _));refine blk_far ?_ NB153_154.out _;(with_reducible repeat (first|refine blk_drewN ?_ _|refine blk_drew ?_|refine blk_alloc ?_ _));exact BK153.out⟩,⟨by (with_reducible repeat (first|refine blk_drewN ?_ _|refine blk_drew ?_|refine blk_alloc ?_ _));refine blk_put (cs:=#[.bool x155000_2,.string x155001_2,.int .i64 x155002_2]) ?_ 1 _ rfl;(with_reducible repeat (first|refine blk_drewN ?_ _|refine blk_drew ?_|refine blk_alloc ?_ _));exact BK154.out⟩,⟨by repeat (first|(with_reducible first|exact HB.out|apply below_alloc|apply pw_below_drewN|apply below_drew1|refine below_set ?_ GE153.out|refine below_set ?_ GE154.out)|exact HB.out)⟩⟩
    case rest =>
     clear HC14
     try clear c1
     try clear c2
     try clear p2
     try clear c5
     try clear c6
     try clear c8
     try clear c10
     try clear c12
     try clear c15
     try clear c17
     try clear c19
     try clear c21
     try clear c24
     try clear c25
     try clear hcz11_0
     try clear hcz11_1
     try clear hcz11_2
     try clear hcz16_0
     try clear hcz16_1
     try clear hcz16_2
     try clear hcz22_0
     try clear hcz22_1
     try clear hcz22_2
     try clear hcz25_0
     try clear hcz25_1
     try clear hcz25_2
     try clear hcz7_0
     try clear hcz7_1
     try clear hcz7_2
     try clear hfz11_0
     try clear hfz11_1
     try clear hfz11_2
     try clear hfz16_0
     try clear hfz16_1
     try clear hfz16_2
     try clear hfz22_0
     try clear hfz22_1
     try clear hfz22_2
     try clear hfz25_0
     try clear hfz25_1
     try clear hfz25_2
     try clear hfz7_0
     try clear hfz7_1
     try clear hfz7_2
     try clear p2
     obtain ⟨kq,x154000_13,x154001_13,x154002_13,x155002_13,HA,HJ13,BK153,BK154,HB⟩:=hcut
     cases kq with
    |zero => exact absurd HA.out (by simp [impl_ParseOrigin.j1])
    |succ kj13 =>
      have H:=HA.out;clear HA;simp only [impl_ParseOrigin.j1] at H;replace H:=Option.bind_eq_some_iff.mp H;obtain ⟨t164,A260,H⟩:=H
      try dsimp only at H
      have A26:=Am3_ A260;clear A260
      by_cases c27:t164=true
      ·subst c27
       rw [if_pos rfl] at H
       replace H:=Option.bind_eq_some_iff.mp H;obtain ⟨t165,A280,H⟩:=H
       try dsimp only at H
       have A28:=Am3_ A280;clear A280
       by_cases c29:t165.toList=a0.toList
       ·rw [if_pos c29] at H
        have c29b0:(t165.toList == a0.toList)=true:=beq_iff_eq.mpr c29;have c29b1:(t165.toList != a0.toList)=false:=bne_eq_false_iff_eq.mpr c29;clear c29;simp only [Option.some.injEq,Prod.mk.injEq] at H;obtain ⟨rfl,rfl,rfl,rfl⟩:=H;have hnb30:=NB154_153.out;have hnc30:=NB153_154.out;have hcz31_0:wc.cell? ⟨gb154,0,none⟩=some (.bool x155000_2):=q_ BK154 0 rfl;have hcz31_1:wc.cell? ⟨gb154,1,none⟩=some (.string t159):=q_ BK154 1 rfl;have hcz31_2:wc.cell? ⟨gb154,2,none⟩=some (.int .i64 x155002_13):=q_ BK154 2 rfl;have hfz31_0:=blk_frozen BK154.out 0;have hfz31_1:=blk_frozen BK154.out 1;have hfz31_2:=blk_frozen BK154.out 2
        go_wp2_with (first|((with_reducible refine gate_callee (f:=57) rfl ?_);refine goesL_ (some 49) rfl rfl Tryz.func57 (by kernel_rfl) rfl #[.agg #[.bool x155000_2,.string t159,.int .i64 x155002_13]] rfl (by (try simp only [List.map_toArray,List.map_cons,List.map_nil]);first|done|rfl|(simp only [List.length_drop,List.length_take];rfl)) ?_;(with_reducible refine (impl_IsOrigin.calls kj13 x155000_2 t159 x155002_13 true _ A26.out).mono ?_);rintro e w32 ⟨rfl,hb⟩;refine ⟨_,rfl,?_⟩;have n0_:=bb_ BK153 hb;have n1_:=bb_ BK154 hb;have n2_:=bs_ HB hb;clear BK153;clear BK154;clear HB;have BK153:=n0_;have BK154:=n1_;have HB:=n2_;clear n0_ n1_ n2_;(try clear hb);(try clear hb2);(try clear hk);(try clear hi);have hcz33_0:w32.cell? ⟨gb154,0,none⟩=some (.bool x155000_2):=q_ BK154 0 rfl;have hcz33_1:w32.cell? ⟨gb154,1,none⟩=some (.string t159):=q_ BK154 1 rfl;have hcz33_2:w32.cell? ⟨gb154,2,none⟩=some (.int .i64 x155002_13):=q_ BK154 2 rfl;have hfz33_0:=blk_frozen BK154.out 0;have hfz33_1:=blk_frozen BK154.out 1;have hfz33_2:=blk_frozen BK154.out 2)|(go_at_call 26;(with_reducible refine (impl_FormatOrigin.calls (ht_:=Man.tab_on HT.out (xe_ HB)) kj13 x155000_2 t159 x155002_13 t165 _ A28.out).mono ?_);rintro e w34 ⟨rfl,hb⟩;have n0_:=bb_ BK153 hb;have n1_:=bb_ BK154 hb;have n2_:=bs_ HB hb;clear BK153;clear BK154;clear HB;have BK153:=n0_;have BK154:=n1_;have HB:=n2_;clear n0_ n1_ n2_;(try clear hb);(try clear hb2);(try clear hk);(try clear hi);have hcz35_0:w34.cell? ⟨gb154,0,none⟩=some (.bool x155000_2):=q_ BK154 0 rfl;have hcz35_1:w34.cell? ⟨gb154,1,none⟩=some (.string t159):=q_ BK154 1 rfl;have hcz35_2:w34.cell? ⟨gb154,2,none⟩=some (.int .i64 x155002_13):=q_ BK154 2 rfl;have hfz35_0:=blk_frozen BK154.out 0;have hfz35_1:=blk_frozen BK154.out 1;have hfz35_2:=blk_frozen BK154.out 2;have hcz36_0:w34.cell? ⟨gb153,0,none⟩=some (.bool x154000_13):=q_ BK153 0 rfl;have hcz36_1:w34.cell? ⟨gb153,1,none⟩=some (.string x154001_13):=q_ BK153 1 rfl;have hcz36_2:w34.cell? ⟨gb153,2,none⟩=some (.int .i64 x154002_13):=q_ BK153 2 rfl;have hfz36_0:=blk_frozen BK153.out 0;have hfz36_1:=blk_frozen BK153.out 1;have hfz36_2:=blk_frozen BK153.out 2))
        refine bodyPost_ret (results_ct rfl _ _ gb153 28 #[.bool x155000_2,.string t159,.int .i64 x155002_13] (0,0) _ rfl (by (with_reducible repeat (first|refine blk_drewN ?_ _|refine blk_drew ?_|refine blk_alloc ?_ _));refine blk_put (cs:=#[.bool x155000_2,.string t159,.int .i64 x154002_13]) ?_ 2 _ rfl;(with_reducible repeat (first|refine blk_drewN ?_ _|refine blk_drew ?_|refine blk_alloc ?_ _));refine blk_put (cs:=#[.bool x155000_2,.string x154001_13,.int .i64 x154002_13]) ?_ 1 _ rfl;(with_reducible repeat (first|refine blk_drewN ?_ _|refine blk_drew ?_|refine blk_alloc ?_ _));refine blk_put (cs:=#[.bool x154000_13,.string x154001_13,.int .i64 x154002_13]) ?_ 0 _ rfl;(with_reducible repeat (first|refine blk_drewN ?_ _|refine blk_drew ?_|refine blk_alloc ?_ _));exact BK153.out) Tryz.underlying28 rfl (by kernel_rfl)) rfl ?_;exact ⟨by first|rfl|(simp [errW_none,errW_some] <;> rfl)|(simp [*,errW_none,errW_some] <;> rfl),by repeat (first|(with_reducible first|exact HB.out|apply below_alloc|apply pw_below_drewN|apply below_drew1|refine below_set ?_ GE153.out|refine below_set ?_ GE154.out)|exact HB.out)⟩
       ·rw [if_neg c29] at H
        have c29b0:(t165.toList == a0.toList)=false:=beq_eq_false_iff_ne.mpr c29;have c29b1:(t165.toList != a0.toList)=true:=bne_iff_ne.mpr c29;simp only [Option.some.injEq,Prod.mk.injEq] at H;obtain ⟨rfl,rfl,rfl,rfl⟩:=H;have hnb37:=NB154_153.out;have hnc37:=NB153_154.out;have hcz38_0:wc.cell? ⟨gb154,0,none⟩=some (.bool x155000_2):=q_ BK154 0 rfl;have hcz38_1:wc.cell? ⟨gb154,1,none⟩=some (.string t159):=q_ BK154 1 rfl;have hcz38_2:wc.cell? ⟨gb154,2,none⟩=some (.int .i64 x155002_13):=q_ BK154 2 rfl;have hfz38_0:=blk_frozen BK154.out 0;have hfz38_1:=blk_frozen BK154.out 1;have hfz38_2:=blk_frozen BK154.out 2
        go_wp2_with (first|((with_reducible refine gate_callee (f:=57) rfl ?_);refine goesL_ (some 49) rfl rfl Tryz.func57 (by kernel_rfl) rfl #[.agg #[.bool x155000_2,.string t159,.int .i64 x155002_13]] rfl (by (try simp only [List.map_toArray,List.map_cons,List.map_nil]);first|done|rfl|(simp only [List.length_drop,List.length_take];rfl)) ?_;(with_reducible refine (impl_IsOrigin.calls kj13 x155000_2 t159 x155002_13 true _ A26.out).mono ?_);rintro e w39 ⟨rfl,hb⟩;refine ⟨_,rfl,?_⟩;have n0_:=bb_ BK153 hb;have n1_:=bb_ BK154 hb;have n2_:=bs_ HB hb;clear BK153;clear BK154;clear HB;have BK153:=n0_;have BK154:=n1_;have HB:=n2_;clear n0_ n1_ n2_;(try clear hb);(try clear hb2);(try clear hk);(try clear hi);have hcz40_0:w39.cell? ⟨gb154,0,none⟩=some (.bool x155000_2):=q_ BK154 0 rfl;have hcz40_1:w39.cell? ⟨gb154,1,none⟩=some (.string t159):=q_ BK154 1 rfl;have hcz40_2:w39.cell? ⟨gb154,2,none⟩=some (.int .i64 x155002_13):=q_ BK154 2 rfl;have hfz40_0:=blk_frozen BK154.out 0;have hfz40_1:=blk_frozen BK154.out 1;have hfz40_2:=blk_frozen BK154.out 2)|(go_at_call 26;(with_reducible refine (impl_FormatOrigin.calls (ht_:=Man.tab_on HT.out (xe_ HB)) kj13 x155000_2 t159 x155002_13 t165 _ A28.out).mono ?_);rintro e w41 ⟨rfl,hb⟩;have n0_:=bb_ BK153 hb;have n1_:=bb_ BK154 hb;have n2_:=bs_ HB hb;clear BK153;clear BK154;clear HB;have BK153:=n0_;have BK154:=n1_;have HB:=n2_;clear n0_ n1_ n2_;(try clear hb);(try clear hb2);(try clear hk);(try clear hi);have hcz42_0:w41.cell? ⟨gb153,0,none⟩=some (.bool x154000_13):=q_ BK153 0 rfl;have hcz42_1:w41.cell? ⟨gb153,1,none⟩=some (.string x154001_13):=q_ BK153 1 rfl;have hcz42_2:w41.cell? ⟨gb153,2,none⟩=some (.int .i64 x154002_13):=q_ BK153 2 rfl;have hfz42_0:=blk_frozen BK153.out 0;have hfz42_1:=blk_frozen BK153.out 1;have hfz42_2:=blk_frozen BK153.out 2))
        refine bodyPost_ret (results_ct rfl _ _ gb153 28 #[.bool false,.string (⟨#[]⟩:ByteArray),.int .i64 0] (0,0) _ rfl (by (with_reducible repeat (first|refine blk_drewN ?_ _|refine blk_drew ?_|refine blk_alloc ?_ _));refine blk_put (cs:=#[.bool false,.string (⟨#[]⟩:ByteArray),.int .i64 x154002_13]) ?_ 2 _ rfl;(with_reducible repeat (first|refine blk_drewN ?_ _|refine blk_drew ?_|refine blk_alloc ?_ _));refine blk_put (cs:=#[.bool false,.string x154001_13,.int .i64 x154002_13]) ?_ 1 _ rfl;(with_reducible repeat (first|refine blk_drewN ?_ _|refine blk_drew ?_|refine blk_alloc ?_ _));refine blk_put (cs:=#[.bool x154000_13,.string x154001_13,.int .i64 x154002_13]) ?_ 0 _ rfl;(with_reducible repeat (first|refine blk_drewN ?_ _|refine blk_drew ?_|refine blk_alloc ?_ _));exact BK153.out) Tryz.underlying28 rfl (by kernel_rfl)) rfl ?_;exact ⟨by first|rfl|(simp [errW_none,errW_some] <;> rfl)|(simp [*,errW_none,errW_some] <;> rfl),by repeat (first|(with_reducible first|exact HB.out|apply below_alloc|apply pw_below_drewN|apply below_drew1|refine below_set ?_ GE153.out|refine below_set ?_ GE154.out)|exact HB.out)⟩
      ·replace c27:=Bool.eq_false_iff.mpr c27;subst c27
       rw [if_neg (show ¬ (false=true) by decide)] at H
       simp only [Option.some.injEq,Prod.mk.injEq] at H
       obtain ⟨rfl,rfl,rfl,rfl⟩:=H;have hnb43:=NB154_153.out;have hnc43:=NB153_154.out;have hcz44_0:wc.cell? ⟨gb154,0,none⟩=some (.bool x155000_2):=q_ BK154 0 rfl;have hcz44_1:wc.cell? ⟨gb154,1,none⟩=some (.string t159):=q_ BK154 1 rfl;have hcz44_2:wc.cell? ⟨gb154,2,none⟩=some (.int .i64 x155002_13):=q_ BK154 2 rfl;have hfz44_0:=blk_frozen BK154.out 0;have hfz44_1:=blk_frozen BK154.out 1;have hfz44_2:=blk_frozen BK154.out 2
       go_wp2_with (first|((with_reducible refine gate_callee (f:=57) rfl ?_);refine goesL_ (some 49) rfl rfl Tryz.func57 (by kernel_rfl) rfl #[.agg #[.bool x155000_2,.string t159,.int .i64 x155002_13]] rfl (by (try simp only [List.map_toArray,List.map_cons,List.map_nil]);first|done|rfl|(simp only [List.length_drop,List.length_take];rfl)) ?_;(with_reducible refine (impl_IsOrigin.calls kj13 x155000_2 t159 x155002_13 false _ A26.out).mono ?_);rintro e w45 ⟨rfl,hb⟩;refine ⟨_,rfl,?_⟩;have n0_:=bb_ BK153 hb;have n1_:=bb_ BK154 hb;have n2_:=bs_ HB hb;clear BK153;clear BK154;clear HB;have BK153:=n0_;have BK154:=n1_;have HB:=n2_;clear n0_ n1_ n2_;(try clear hb);(try clear hb2);(try clear hk);(try clear hi);have hcz46_0:w45.cell? ⟨gb153,0,none⟩=some (.bool x154000_13):=q_ BK153 0 rfl;have hcz46_1:w45.cell? ⟨gb153,1,none⟩=some (.string x154001_13):=q_ BK153 1 rfl;have hcz46_2:w45.cell? ⟨gb153,2,none⟩=some (.int .i64 x154002_13):=q_ BK153 2 rfl;have hfz46_0:=blk_frozen BK153.out 0;have hfz46_1:=blk_frozen BK153.out 1;have hfz46_2:=blk_frozen BK153.out 2))
       refine bodyPost_ret (results_ct rfl _ _ gb153 28 #[.bool false,.string (⟨#[]⟩:ByteArray),.int .i64 0] (0,0) _ rfl (by (with_reducible repeat (first|refine blk_drewN ?_ _|refine blk_drew ?_|refine blk_alloc ?_ _));refine blk_put (cs:=#[.bool false,.string (⟨#[]⟩:ByteArray),.int .i64 x154002_13]) ?_ 2 _ rfl;(with_reducible repeat (first|refine blk_drewN ?_ _|refine blk_drew ?_|refine blk_alloc ?_ _));refine blk_put (cs:=#[.bool false,.string x154001_13,.int .i64 x154002_13]) ?_ 1 _ rfl;(with_reducible repeat (first|refine blk_drewN ?_ _|refine blk_drew ?_|refine blk_alloc ?_ _));refine blk_put (cs:=#[.bool x154000_13,.string x154001_13,.int .i64 x154002_13]) ?_ 0 _ rfl;(with_reducible repeat (first|refine blk_drewN ?_ _|refine blk_drew ?_|refine blk_alloc ?_ _));exact BK153.out) Tryz.underlying28 rfl (by kernel_rfl)) rfl ?_;exact ⟨by first|rfl|(simp [errW_none,errW_some] <;> rfl)|(simp [*,errW_none,errW_some] <;> rfl),by repeat (first|(with_reducible first|exact HB.out|apply below_alloc|apply pw_below_drewN|apply below_drew1|refine below_set ?_ GE153.out|refine below_set ?_ GE154.out)|exact HB.out)⟩
   ·replace c12:=Bool.eq_false_iff.mpr c12;subst c12
    rw [if_neg (show ¬ (false=true) by decide)] at H
    simp only [Option.some.injEq,Prod.mk.injEq] at H
    obtain ⟨rfl,rfl,rfl,rfl⟩:=H;have hnb47:=NB153_154.out;have hnc47:=NB154_153.out;have hcz48_0:wc.cell? ⟨gb153,0,none⟩=some (.bool false):=q_ BK153 0 rfl;have hcz48_1:wc.cell? ⟨gb153,1,none⟩=some (.string (⟨#[]⟩:ByteArray)):=q_ BK153 1 rfl;have hcz48_2:wc.cell? ⟨gb153,2,none⟩=some (.int .i64 0):=q_ BK153 2 rfl;have hfz48_0:=blk_frozen BK153.out 0;have hfz48_1:=blk_frozen BK153.out 1;have hfz48_2:=blk_frozen BK153.out 2
    go_wp2
    refine bodyPost_ret (results_ct rfl _ _ gb153 28 #[.bool false,.string (⟨#[]⟩:ByteArray),.int .i64 0] (0,0) _ rfl (by (with_reducible repeat (first|refine blk_drewN ?_ _|refine blk_drew ?_|refine blk_alloc ?_ _));refine blk_put (cs:=#[.bool false,.string (⟨#[]⟩:ByteArray),.int .i64 0]) ?_ 2 _ rfl;(with_reducible repeat (first|refine blk_drewN ?_ _|refine blk_drew ?_|refine blk_alloc ?_ _));refine blk_put (cs:=#[.bool false,.string (⟨#[]⟩:ByteArray),.int .i64 0]) ?_ 1 _ rfl;(with_reducible repeat (first|refine blk_drewN ?_ _|refine blk_drew ?_|refine blk_alloc ?_ _));refine blk_put (cs:=#[.bool false,.string (⟨#[]⟩:ByteArray),.int .i64 0]) ?_ 0 _ rfl;(with_reducible repeat (first|refine blk_drewN ?_ _|refine blk_drew ?_|refine blk_alloc ?_ _));exact BK153.out) Tryz.underlying28 rfl (by kernel_rfl)) rfl ?_;exact ⟨by first|rfl|(simp [errW_none,errW_some] <;> rfl)|(simp [*,errW_none,errW_some] <;> rfl),by repeat (first|(with_reducible first|exact HB.out|apply below_alloc|apply pw_below_drewN|apply below_drew1|refine below_set ?_ GE153.out|refine below_set ?_ GE154.out)|exact HB.out)⟩


/-! ### strings_Contains: function 64 -/
def strings_Contains.f (a0:ByteArray) (a1:ByteArray):Option (Bool):=if a1=⟨#[46]⟩ then some (decide (0 ≤ Lib.indexByte a0.data.toList 46)) else none
theorem strings_Contains.calls (a0:ByteArray) (a1:ByteArray) (r:Bool) (w:World) (h:strings_Contains.f a0 a1=some r) :
  Calls Tryz.prog 64 #[.string a0,.string a1] w fun e w' => e=.returned (.bool r)∧Drawn0 w w':=by
 unfold strings_Contains.f at h
 by_cases hc:a1=⟨#[46]⟩
 case neg => rw [if_neg hc] at h;cases h
 rw [if_pos hc] at h
 subst hc;obtain rfl:=Option.some.inj h;exact (Any.strings_Contains_one Tryz.lays144 a0 46 w).mono fun e w' ⟨he,hw⟩ => ⟨he,hw ▸ Drawn0.refl w⟩

end Go.Proofs.YtogcoedmagoogaaGreatDoor.PFnExactCheckAssertion
