/- Functions and contracts of a law's callees, written by a program of this session (a changed print): each contract says that the machine's call answers what the plain function says. Conditions: the plain function's own answer. -/
import Derived.Test.YtogcoedmagoogaaDoorZPFnExactRelayAssertionx0
import Derived.Test.YtogcoedmagoogaaDoorZPFnExactRelayAssertionx1
import Derived.Test.YtogcoedmagoogaaDoorZPFnExactRelayAssertionx2
import Derived.Test.YtogcoedmagoogaaDoorZPFnExactRelayAssertionx4
namespace Go.Proofs.YtogcoedmagoogaaDoor.PFnExactRelayAssertion
open Go.RowKit Go.Proofs.YtogcoedmagoogaaDoorW.PrintWords Go.Proofs.YtogcoedmagoogaaDoorW.PrintLast Go.Proofs.YtogcoedmagoogaaDoorW.PrintMore
attribute [local go_sem] max2_int min2_int max_two min_two max_three min_three max_four min_four   -- for this text's walks alone
set_option linter.unusedVariables false
set_option linter.unusedSimpArgs false
abbrev Am6_ {p : Prop} (h : p) : Aside0 p := Aside0.mk h

namespace Y6
class Ex_ (w W:World):Prop where
 k:∀ {g:Nat} {o:Obj},w.heap[g]?=some o → W.heap[g]?=some o
 e:∀ {v:World},Below v.heap.size v w → Below v.heap.size v W
instance (priority:=low) Ex_.rf (w:World):Ex_ w w:=⟨fun h => h,fun h => h⟩
instance Ex_.dn {w W:World} [x:Ex_ w W] (n:Nat):Ex_ w (W.drewN n):=⟨fun h => blk_drewN (x.k h) n,fun h => pw_below_drewN (x.e h) n⟩
instance Ex_.dr {w W:World} [x:Ex_ w W]:Ex_ w W.drew:=⟨fun h => blk_drew (x.k h),fun h => below_drew1 (x.e h)⟩
instance Ex_.al {w W:World} [x:Ex_ w W] (o:Obj):Ex_ w (W.alloc o):=⟨fun h => blk_alloc (x.k h) o,fun h => below_alloc (x.e h) o⟩
theorem xk_ {w W:World} {g:Nat} {o:Obj} (h:Aside0 (w.heap[g]?=some o)) [x:Ex_ w W]:W.heap[g]?=some o:=x.k h.out
theorem ne1_ {w W:World} {g g':Nat} {o:Obj} (hg:g'=W.heap.size) (h:Aside0 (w.heap[g]?=some o)) [x:Ex_ w W]:Aside0 (g ≠ g'):=Am6_ (by rw [hg];exact Nat.ne_of_lt (blk_lt (x.k h.out)))
theorem ne2_ {w W:World} {g g':Nat} {o:Obj} (hg:g'=W.heap.size) (h:Aside0 (w.heap[g]?=some o)) [x:Ex_ w W]:Aside0 (g' ≠ g):=Am6_ (by rw [hg];exact Nat.ne_of_gt (blk_lt (x.k h.out)))
theorem gw_ {v w W:World} {g':Nat} (hg:g'=W.heap.size) (h:Aside0 (Below v.heap.size v w)) [x:Ex_ w W]:Aside0 (v.heap.size ≤ g'):=Am6_ (by rw [hg];exact below_size (x.e h.out))
theorem bb_ {w W W':World} {g:Nat} {o:Obj} (h:Aside0 (w.heap[g]?=some o)) (hb:Below W.heap.size W W') [x:Ex_ w W]:Aside0 (W'.heap[g]?=some o):=Am6_ (blk_below (x.k h.out) hb)
theorem bs_ {v w W W':World} (h:Aside0 (Below v.heap.size v w)) (hb:Below W.heap.size W W') [x:Ex_ w W]:Aside0 (Below v.heap.size v W'):=Am6_ (below_step (x.e h.out) hb)
theorem xe_ {v w W:World} (h:Aside0 (Below v.heap.size v w)) [x:Ex_ w W]:Below v.heap.size v W:=x.e h.out
end Y6
open Y6

namespace Y6
abbrev Sa_ := @List.setIfInBounds_toArray
abbrev Sb_ := @List.set_cons_zero
abbrev Sc_ := @List.set_cons_succ
theorem q_ {w W : World} {g : Nat} {t : TypeId} {cs : Array Value} (h : Aside0 (w.heap[g]? = some (.cells cs t (0, 0)))) (i : Nat) {v : Option Value} (e : cs[i]? = v) [x : Ex_ w W] : W.cell? ⟨g, i, none⟩ = v := (blk_cell (x.k h.out) i).trans e
end Y6
open Y6
/-! ### spec_AssertionMessage: function 26 -/
def spec_AssertionMessage.f (k:Nat) (a0_0:ByteArray) (a0_1:ByteArray) (a0_2:Int) (a0_3:Int) (a0_4:Bool) (a0_5:Int) (a0_6:Int):Option (List Int):=if a0_4=true then ((spec_SiteHash.f k a0_0).bind fun t208 => ((spec_DeriveFromString.f k 211 a0_1).bind fun t209 => (some (([199,t208,t209,a0_2,a0_3,1]:List Int))))) else ((spec_SiteHash.f k a0_0).bind fun t213 => ((spec_DeriveFromString.f k 211 a0_1).bind fun t214 => (some (([199,t213,t214,a0_2,a0_3,0]:List Int)))))
theorem spec_AssertionMessage.mono:∀ a0 a1 a2 a3 a4 a5 a6 k,LeO (spec_AssertionMessage.f k a0 a1 a2 a3 a4 a5 a6) (spec_AssertionMessage.f (k + 1) a0 a1 a2 a3 a4 a5 a6):=by
 intro a0 a1 a2 a3 a4 a5 a6 k
 unfold spec_AssertionMessage.f
 repeat' first
  |(with_reducible exact spec_DeriveFromString.mono _ _ _)
  |(with_reducible exact spec_SiteHash.mono _ _)
  |(with_reducible exact LeO.refl _)
  |(with_reducible exact LeO.none _)
  |(with_reducible refine LeO.ite ?_ ?_)
  |(with_reducible refine LeO.bind ?_ (fun _ => ?_))
  |exact spec_DeriveFromString.mono _ _ _
  |exact spec_SiteHash.mono _ _
  |exact LeO.none _
  |refine LeO.ite ?_ ?_
  |refine LeO.bind ?_ (fun _ => ?_)
def spec_AssertionMessage.T4:Bool × List (List Nat × List Nat):=(true,[([],[]),([0],[0]),([1],[1]),([],[]),([3],[3]),([4,2],[4]),([],[]),([6],[6]),([],[]),([8],[8]),([],[]),([2,5,7,9,10],[2,5,7,9,10]),([11,5,0,1,2,3,4,5,6,7,8,9,10,11],[11])])
def spec_AssertionMessage.B4:List Nat:=[0,1,3,0,8,31,0,64,0,256,0,2047,4095]
theorem spec_AssertionMessage.tab4:rtab .any (opsOf Tryd.f26 4)=spec_AssertionMessage.T4:=by kernel_rfl
theorem spec_AssertionMessage.bits4:waitsOk spec_AssertionMessage.T4.2 spec_AssertionMessage.B4=true:=by kernel_rfl
set_option maxHeartbeats 8000000 in
set_option maxRecDepth 100000 in
theorem spec_AssertionMessage.calls (k:Nat) (a0_0:ByteArray) (a0_1:ByteArray) (a0_2:Int) (a0_3:Int) (a0_4:Bool) (a0_5:Int) (a0_6:Int) (r:List Int) (w:World) (h:spec_AssertionMessage.f k a0_0 a0_1 a0_2 a0_3 a0_4 a0_5 a0_6=some r) :
  Calls Tryd.prog 26 #[.agg #[.string a0_0,.string a0_1,.int .i64 a0_2,.int .i64 a0_3,.bool a0_4,.int .i64 a0_5,.int .i64 a0_6]] w fun e w' => ∃ v0_:Value,e=.returned (v0_)∧Kd.R (Kd.int .i64) 3 w' w.heap.size (fun _ => True) v0_ r∧Below w.heap.size w w':=by
 have hu33:=Tryd.underlying33;have HB:=Am6_ (Below.refl w.heap.size w);have H:=h;unfold spec_AssertionMessage.f at H;clear h
 by_cases c2:a0_4=true
 ·subst c2
  rw [if_pos rfl] at H
  replace H:=Option.bind_eq_some_iff.mp H;obtain ⟨t208,A30,H⟩:=H
  try dsimp only at H
  have A3:=Am6_ A30;clear A30;replace H:=Option.bind_eq_some_iff.mp H;obtain ⟨t209,A40,H⟩:=H
  try dsimp only at H
  have A4:=Am6_ A40;clear A40;obtain ⟨y210,hy210⟩:∃ y_:List Int,y_=(([199,t208,t209,a0_2,a0_3,1]:List Int)):=⟨_,rfl⟩;replace H:(some y210)=some r:=by first|(rw [hy210];with_reducible exact H)|(have H2_:=(Option.bind_some _ _).symm.trans H;rw [hy210];with_reducible exact H2_)|(have H2_:=(Option.bind_some _ _).symm.trans H;with_reducible exact H2_)|with_reducible exact H|(rw [hy210];exact H)|exact H
  have Ny210:=Am6_ hy210;clear hy210;obtain rfl:=Option.some.inj H
  go_enter Tryd.func26,Tryd.ntmps26
  try go_wp2_with (first|((with_reducible refine gate_dst (N:=1) rfl ?_);refine box_event ?hg (N:=1) ?hd (cs:=#[.string a0_0,.string a0_1,.int .i64 a0_2,.int .i64 a0_3,.bool true,.int .i64 a0_5,.int .i64 a0_6]) (t:=33) ?hr ?_;(case hd => rfl);(case hg => rfl);(case hr => first|(go_simp;done)|(go_simp;rfl));intro gb207 hg w5 hbox hb;have n0_:=bs_ HB hb;have n1_:=Am6_ (hbox);have n2_:=gw_ hg HB;have n3_:=gw_ hg HB;clear HB;have HB:=n0_;have BK207:=n1_;have GW207:=n2_;have GE207:=n3_;clear n0_ n1_ n2_ n3_;clear hb hbox hg;have hcz6_0:w5.cell? ⟨gb207,0,none⟩=some (.string a0_0):=q_ BK207 0 rfl;have hcz6_1:w5.cell? ⟨gb207,1,none⟩=some (.string a0_1):=q_ BK207 1 rfl;have hcz6_2:w5.cell? ⟨gb207,2,none⟩=some (.int .i64 a0_2):=q_ BK207 2 rfl;have hcz6_3:w5.cell? ⟨gb207,3,none⟩=some (.int .i64 a0_3):=q_ BK207 3 rfl;have hcz6_4:w5.cell? ⟨gb207,4,none⟩=some (.bool true):=q_ BK207 4 rfl;have hcz6_5:w5.cell? ⟨gb207,5,none⟩=some (.int .i64 a0_5):=q_ BK207 5 rfl;have hcz6_6:w5.cell? ⟨gb207,6,none⟩=some (.int .i64 a0_6):=q_ BK207 6 rfl;have hfz6_0:=blk_frozen BK207.out 0;have hfz6_1:=blk_frozen BK207.out 1;have hfz6_2:=blk_frozen BK207.out 2;have hfz6_3:=blk_frozen BK207.out 3;have hfz6_4:=blk_frozen BK207.out 4;have hfz6_5:=blk_frozen BK207.out 5;have hfz6_6:=blk_frozen BK207.out 6))
  replace BK207:=Am6_ (blk_drew BK207.out);replace HB:=Am6_ (below_drew1 HB.out);refine start_ (n:=13) (S:=fun w' => w'.cell? ⟨gb207,0,none⟩=some (.string a0_0)∧w'.cell? ⟨gb207,1,none⟩=some (.string a0_1)∧w'.cell? ⟨gb207,2,none⟩=some (.int .i64 a0_2)∧w'.cell? ⟨gb207,3,none⟩=some (.int .i64 a0_3)∧w'.cell? ⟨gb207,4,none⟩=some (.bool true)∧w'.cell? ⟨gb207,5,none⟩=some (.int .i64 a0_5)∧w'.cell? ⟨gb207,6,none⟩=some (.int .i64 a0_6)) (ds:=[]) #[false,false,false,false,false,false,false,false,false,false,false,false,false] (by kernel_rfl) rfl rfl ⟨q_ BK207 0 rfl,q_ BK207 1 rfl,q_ BK207 2 rfl,q_ BK207 3 rfl,q_ BK207 4 rfl,q_ BK207 5 rfl,q_ BK207 6 rfl⟩ (fun hHeld => ?_);refine with_tabW spec_AssertionMessage.tab4 spec_AssertionMessage.bits4 (fun HT_ HW_ => ?_);generalize w5.drew=w7 at BK207 HB hHeld ⊢;refine pure_ (i:=0) (N:=some 6) (v:=?_) (a':=?_) #[true,false,false,false,false,false,false,false,false,false,false,false,false] rfl rfl (any_of HT_.out (by kernel_rfl)) (fun _ _ _ h => h) (Or.inl ⟨by rfl,?_⟩) ?_ ?_;rotate_left
  ·intro w'
   go_simp
   with_reducible rfl
  rotate_left
  ·simp only [Act.put,Sa_,Sb_,Sc_,i64_w,i32_w]
   rfl
  refine pure_ (i:=3) (N:=some 9) (v:=?_) (a':=?_) #[true,false,false,true,false,false,false,false,false,false,false,false,false] rfl rfl (any_of HT_.out (by kernel_rfl)) (fun _ _ _ h => h) (Or.inl ⟨by rfl,?_⟩) ?_ ?_;rotate_left
  ·intro w'
   go_simp
   with_reducible rfl
  rotate_left
  ·simp only [Act.put,Sa_,Sb_,Sc_,i64_w,i32_w]
   rfl
  refine pure_ (i:=6) (N:=some 12) (v:=?_) (a':=?_) #[true,false,false,true,false,false,true,false,false,false,false,false,false] rfl rfl (any_of HT_.out (by kernel_rfl)) (fun _ _ _ h => h) (Or.inl ⟨by rfl,?_⟩) ?_ ?_;rotate_left
  ·intro w'
   go_simp
   with_reducible rfl
  rotate_left
  ·simp only [Act.put,Sa_,Sb_,Sc_,i64_w,i32_w]
   rfl
  refine pure_ (i:=8) (N:=some 14) (v:=?_) (a':=?_) #[true,false,false,true,false,false,true,false,true,false,false,false,false] rfl rfl (any_of HT_.out (by kernel_rfl)) (fun _ _ _ h => h) (Or.inl ⟨by rfl,?_⟩) ?_ ?_;rotate_left
  ·intro w'
   go_simp
   with_reducible rfl
  rotate_left
  ·simp only [Act.put,Sa_,Sb_,Sc_,i64_w,i32_w]
   rfl
  refine pure_ (i:=10) (N:=some 16) (v:=?_) (a':=?_) #[true,false,false,true,false,false,true,false,true,false,true,false,false] rfl rfl (any_of HT_.out (by kernel_rfl)) (fun _ _ _ h => h) (Or.inl ⟨by rfl,?_⟩) ?_ ?_;rotate_left
  ·intro w'
   go_simp
   with_reducible rfl
  rotate_left
  ·simp only [Act.put,Sa_,Sb_,Sc_,i64_w,i32_w]
   rfl
  refine take_ (i:=1) (N:=some 7) (v:=?_) (a':=?_) #[true,true,false,true,false,false,true,false,true,false,true,false,false] rfl rfl (take_ofW HT_.out HW_.out (by kernel_rfl)) (fun _ _ _ h => h) (Or.inl ⟨by rfl,?_⟩) hHeld ?_ ?_;rotate_left
  ·rintro w' ⟨s0,s1,s2,s3,s4,s5,s6⟩
   go_simp
   with_reducible rfl
  rotate_left
  ·simp only [Act.put,Sa_,Sb_,Sc_,i64_w,i32_w]
   rfl
  refine take_ (i:=4) (N:=some 10) (v:=?_) (a':=?_) #[true,true,false,true,true,false,true,false,true,false,true,false,false] rfl rfl (take_ofW HT_.out HW_.out (by kernel_rfl)) (fun _ _ _ h => h) (Or.inl ⟨by rfl,?_⟩) hHeld ?_ ?_;rotate_left
  ·rintro w' ⟨s0,s1,s2,s3,s4,s5,s6⟩
   go_simp
   with_reducible rfl
  rotate_left
  ·simp only [Act.put,Sa_,Sb_,Sc_,i64_w,i32_w]
   rfl
  refine take_ (i:=7) (N:=some 13) (v:=?_) (a':=?_) #[true,true,false,true,true,false,true,true,true,false,true,false,false] rfl rfl (take_ofW HT_.out HW_.out (by kernel_rfl)) (fun _ _ _ h => h) (Or.inl ⟨by rfl,?_⟩) hHeld ?_ ?_;rotate_left
  ·rintro w' ⟨s0,s1,s2,s3,s4,s5,s6⟩
   go_simp
   with_reducible rfl
  rotate_left
  ·simp only [Act.put,Sa_,Sb_,Sc_,i64_w,i32_w]
   rfl
  refine take_ (i:=9) (N:=some 15) (v:=?_) (a':=?_) #[true,true,false,true,true,false,true,true,true,true,true,false,false] rfl rfl (take_ofW HT_.out HW_.out (by kernel_rfl)) (fun _ _ _ h => h) (Or.inl ⟨by rfl,?_⟩) hHeld ?_ ?_;rotate_left
  ·rintro w' ⟨s0,s1,s2,s3,s4,s5,s6⟩
   go_simp
   with_reducible rfl
  rotate_left
  ·simp only [Act.put,Sa_,Sb_,Sc_,i64_w,i32_w]
   rfl
  refine one_ (i:=2) (N:=some 8) #[true,true,true,true,true,false,true,true,true,true,true,false,false] rfl rfl (one_of HT_.out (by kernel_rfl)) (by decide) (fun K hK => ?_);refine goes_ Tryd.func43 (by kernel_rfl) rfl #[.string a0_0] (by rfl) rfl rfl (by (try simp only [List.map_toArray,List.map_cons,List.map_nil]);first|done|rfl|(simp only [List.length_drop,List.length_take];rfl)) ?_;with_reducible refine (spec_SiteHash.calls k a0_0 t208 _ A3.out).mono ?_;rintro e w8 ⟨rfl,hb⟩;refine ⟨_,rfl,?_⟩;replace BK207:=bb_ BK207 hb;replace HB:=bs_ HB hb;(try clear hb);(try clear hb2);(try clear hk);(try clear hi);refine hK.out _ _ ⟨q_ BK207 0 rfl,q_ BK207 1 rfl,q_ BK207 2 rfl,q_ BK207 3 rfl,q_ BK207 4 rfl,q_ BK207 5 rfl,q_ BK207 6 rfl⟩ (fun hHeld => ?_);clear hK K;refine norm_ (a':=?_) ?_ ?_;rotate_left
  ·show Act.put _ (some 8) _=_
   simp only [Act.put,Sa_,Sb_,Sc_,i64_w,i32_w]
   rfl
  refine one_ (i:=5) (N:=some 11) #[true,true,true,true,true,true,true,true,true,true,true,false,false] rfl rfl (one_of HT_.out (by kernel_rfl)) (by decide) (fun K hK => ?_);refine goes_ Tryd.func44 (by kernel_rfl) rfl #[.int .i64 211,.string a0_1] (by rfl) rfl rfl (by (try simp only [List.map_toArray,List.map_cons,List.map_nil]);first|done|rfl|(simp only [List.length_drop,List.length_take];rfl)) ?_;with_reducible refine (spec_DeriveFromString.calls k 211 a0_1 t209 _ A4.out).mono ?_;rintro e w9 ⟨rfl,hb⟩;refine ⟨_,rfl,?_⟩;replace BK207:=bb_ BK207 hb;replace HB:=bs_ HB hb;(try clear hb);(try clear hb2);(try clear hk);(try clear hi);refine hK.out _ _ ⟨q_ BK207 0 rfl,q_ BK207 1 rfl,q_ BK207 2 rfl,q_ BK207 3 rfl,q_ BK207 4 rfl,q_ BK207 5 rfl,q_ BK207 6 rfl⟩ (fun hHeld => ?_);clear hK K;refine norm_ (a':=?_) ?_ ?_;rotate_left
  ·show Act.put _ (some 11) _=_
   simp only [Act.put,Sa_,Sb_,Sc_,i64_w,i32_w]
   rfl
  refine one_ (i:=11) (N:=some 17) #[true,true,true,true,true,true,true,true,true,true,true,true,false] rfl rfl (one_of HT_.out (by kernel_rfl)) (by decide) (fun K hK => ?_);refine Kd.R_lit_step (Kd.int .i64) _ 3 ?hg (N:=17) ?hd (xs:=([199,t208,t209,a0_2,a0_3,1]:List Int)) (inner:=[.int .i64 199,.int .i64 t208,.int .i64 t209,.int .i64 a0_2,.int .i64 a0_3,.int .i64 1]) (ok:=fun _ => True) (okp:=fun _ => True) ?hr ?hp (fun _ hk => hk) trivial (Below.refl _ _) (Nat.le_refl _) (by simp) ?_;(case hd => rfl);(case hg => rfl);(case hr => first|(go_simp;done)|(go_simp;rfl));(case hp => exact (Reps.one (show Kd.M (Kd.int .i64) _ _ _ 199 [.int .i64 199] from rfl) (Reps.one (show Kd.M (Kd.int .i64) _ _ _ t208 [.int .i64 t208] from rfl) (Reps.one (show Kd.M (Kd.int .i64) _ _ _ t209 [.int .i64 t209] from rfl) (Reps.one (show Kd.M (Kd.int .i64) _ _ _ a0_2 [.int .i64 a0_2] from rfl) (Reps.one (show Kd.M (Kd.int .i64) _ _ _ a0_3 [.int .i64 a0_3] from rfl) (Reps.one (show Kd.M (Kd.int .i64) _ _ _ 1 [.int .i64 1] from rfl) (Reps.none _ _))))))));intro v211 w10 ho11 hb hg_ hnew_;clear hg_ hnew_
  (first|rw [← Ny210.out] at ho11|(simp only [Int.reduceToNat] at ho11;rw [← Ny210.out] at ho11))
  have HO212:=Am6_ (Kd.R_lower ho11 (below_size (xe_ HB)));replace BK207:=bb_ BK207 hb;replace HB:=bs_ HB hb;clear hb ho11;refine hK.out _ _ ⟨q_ BK207 0 rfl,q_ BK207 1 rfl,q_ BK207 2 rfl,q_ BK207 3 rfl,q_ BK207 4 rfl,q_ BK207 5 rfl,q_ BK207 6 rfl⟩ (fun hHeld => ?_);clear hK K;refine norm_ (a':=?_) ?_ ?_;rotate_left
  ·show Act.put _ (some 17) _=_
   simp only [Act.put,Sa_,Sb_,Sc_,i64_w,i32_w]
   rfl
  refine pure_ (i:=12) (N:=some 2) (v:=?_) (a':=?_) #[true,true,true,true,true,true,true,true,true,true,true,true,true] rfl rfl (any_of HT_.out (by kernel_rfl)) (fun _ _ _ h => h) (Or.inl ⟨by rfl,?_⟩) ?_ ?_;rotate_left
  ·intro w'
   go_simp
   with_reducible rfl
  rotate_left
  ·simp only [Act.put,Sa_,Sb_,Sc_,i64_w,i32_w]
   rfl
  refine done_ (done_of HT_.out (by kernel_rfl)) ?_
  try go_wp2
  go_ret
  exact ⟨_,by first|rfl|(simp [errW_none,errW_some] <;> rfl)|(simp [*,errW_none,errW_some] <;> rfl),by (with_reducible repeat (first|apply Kd.R_alloc|apply Kd.R_drewN|apply Kd.R_drew));exact HO212.out,by repeat (first|(with_reducible first|exact HB.out|apply below_alloc|apply pw_below_drewN|apply below_drew1|refine below_set ?_ GE207.out)|exact HB.out)⟩
 ·replace c2:=Bool.eq_false_iff.mpr c2;subst c2
  rw [if_neg (show ¬ (false=true) by decide)] at H
  replace H:=Option.bind_eq_some_iff.mp H;obtain ⟨t213,A120,H⟩:=H
  try dsimp only at H
  have A12:=Am6_ A120;clear A120;replace H:=Option.bind_eq_some_iff.mp H;obtain ⟨t214,A130,H⟩:=H
  try dsimp only at H
  have A13:=Am6_ A130;clear A130;obtain ⟨y215,hy215⟩:∃ y_:List Int,y_=(([199,t213,t214,a0_2,a0_3,0]:List Int)):=⟨_,rfl⟩;replace H:(some y215)=some r:=by first|(rw [hy215];with_reducible exact H)|(have H2_:=(Option.bind_some _ _).symm.trans H;rw [hy215];with_reducible exact H2_)|(have H2_:=(Option.bind_some _ _).symm.trans H;with_reducible exact H2_)|with_reducible exact H|(rw [hy215];exact H)|exact H
  have Ny215:=Am6_ hy215;clear hy215;obtain rfl:=Option.some.inj H
  go_enter Tryd.func26,Tryd.ntmps26
  try go_wp2_with (first|((with_reducible refine gate_dst (N:=1) rfl ?_);refine box_event ?hg (N:=1) ?hd (cs:=#[.string a0_0,.string a0_1,.int .i64 a0_2,.int .i64 a0_3,.bool false,.int .i64 a0_5,.int .i64 a0_6]) (t:=33) ?hr ?_;(case hd => rfl);(case hg => rfl);(case hr => first|(go_simp;done)|(go_simp;rfl));intro gb207 hg w14 hbox hb;have n0_:=bs_ HB hb;have n1_:=Am6_ (hbox);have n2_:=gw_ hg HB;have n3_:=gw_ hg HB;clear HB;have HB:=n0_;have BK207:=n1_;have GW207:=n2_;have GE207:=n3_;clear n0_ n1_ n2_ n3_;clear hb hbox hg;have hcz15_0:w14.cell? ⟨gb207,0,none⟩=some (.string a0_0):=q_ BK207 0 rfl;have hcz15_1:w14.cell? ⟨gb207,1,none⟩=some (.string a0_1):=q_ BK207 1 rfl;have hcz15_2:w14.cell? ⟨gb207,2,none⟩=some (.int .i64 a0_2):=q_ BK207 2 rfl;have hcz15_3:w14.cell? ⟨gb207,3,none⟩=some (.int .i64 a0_3):=q_ BK207 3 rfl;have hcz15_4:w14.cell? ⟨gb207,4,none⟩=some (.bool false):=q_ BK207 4 rfl;have hcz15_5:w14.cell? ⟨gb207,5,none⟩=some (.int .i64 a0_5):=q_ BK207 5 rfl;have hcz15_6:w14.cell? ⟨gb207,6,none⟩=some (.int .i64 a0_6):=q_ BK207 6 rfl;have hfz15_0:=blk_frozen BK207.out 0;have hfz15_1:=blk_frozen BK207.out 1;have hfz15_2:=blk_frozen BK207.out 2;have hfz15_3:=blk_frozen BK207.out 3;have hfz15_4:=blk_frozen BK207.out 4;have hfz15_5:=blk_frozen BK207.out 5;have hfz15_6:=blk_frozen BK207.out 6))
  replace BK207:=Am6_ (blk_drew BK207.out);replace HB:=Am6_ (below_drew1 HB.out);refine start_ (n:=13) (S:=fun w' => w'.cell? ⟨gb207,0,none⟩=some (.string a0_0)∧w'.cell? ⟨gb207,1,none⟩=some (.string a0_1)∧w'.cell? ⟨gb207,2,none⟩=some (.int .i64 a0_2)∧w'.cell? ⟨gb207,3,none⟩=some (.int .i64 a0_3)∧w'.cell? ⟨gb207,4,none⟩=some (.bool false)∧w'.cell? ⟨gb207,5,none⟩=some (.int .i64 a0_5)∧w'.cell? ⟨gb207,6,none⟩=some (.int .i64 a0_6)) (ds:=[]) #[false,false,false,false,false,false,false,false,false,false,false,false,false] (by kernel_rfl) rfl rfl ⟨q_ BK207 0 rfl,q_ BK207 1 rfl,q_ BK207 2 rfl,q_ BK207 3 rfl,q_ BK207 4 rfl,q_ BK207 5 rfl,q_ BK207 6 rfl⟩ (fun hHeld => ?_);refine with_tabW spec_AssertionMessage.tab4 spec_AssertionMessage.bits4 (fun HT_ HW_ => ?_);generalize w14.drew=w16 at BK207 HB hHeld ⊢;refine pure_ (i:=0) (N:=some 6) (v:=?_) (a':=?_) #[true,false,false,false,false,false,false,false,false,false,false,false,false] rfl rfl (any_of HT_.out (by kernel_rfl)) (fun _ _ _ h => h) (Or.inl ⟨by rfl,?_⟩) ?_ ?_;rotate_left
  ·intro w'
   go_simp
   with_reducible rfl
  rotate_left
  ·simp only [Act.put,Sa_,Sb_,Sc_,i64_w,i32_w]
   rfl
  refine pure_ (i:=3) (N:=some 9) (v:=?_) (a':=?_) #[true,false,false,true,false,false,false,false,false,false,false,false,false] rfl rfl (any_of HT_.out (by kernel_rfl)) (fun _ _ _ h => h) (Or.inl ⟨by rfl,?_⟩) ?_ ?_;rotate_left
  ·intro w'
   go_simp
   with_reducible rfl
  rotate_left
  ·simp only [Act.put,Sa_,Sb_,Sc_,i64_w,i32_w]
   rfl
  refine pure_ (i:=6) (N:=some 12) (v:=?_) (a':=?_) #[true,false,false,true,false,false,true,false,false,false,false,false,false] rfl rfl (any_of HT_.out (by kernel_rfl)) (fun _ _ _ h => h) (Or.inl ⟨by rfl,?_⟩) ?_ ?_;rotate_left
  ·intro w'
   go_simp
   with_reducible rfl
  rotate_left
  ·simp only [Act.put,Sa_,Sb_,Sc_,i64_w,i32_w]
   rfl
  refine pure_ (i:=8) (N:=some 14) (v:=?_) (a':=?_) #[true,false,false,true,false,false,true,false,true,false,false,false,false] rfl rfl (any_of HT_.out (by kernel_rfl)) (fun _ _ _ h => h) (Or.inl ⟨by rfl,?_⟩) ?_ ?_;rotate_left
  ·intro w'
   go_simp
   with_reducible rfl
  rotate_left
  ·simp only [Act.put,Sa_,Sb_,Sc_,i64_w,i32_w]
   rfl
  refine pure_ (i:=10) (N:=some 16) (v:=?_) (a':=?_) #[true,false,false,true,false,false,true,false,true,false,true,false,false] rfl rfl (any_of HT_.out (by kernel_rfl)) (fun _ _ _ h => h) (Or.inl ⟨by rfl,?_⟩) ?_ ?_;rotate_left
  ·intro w'
   go_simp
   with_reducible rfl
  rotate_left
  ·simp only [Act.put,Sa_,Sb_,Sc_,i64_w,i32_w]
   rfl
  refine take_ (i:=1) (N:=some 7) (v:=?_) (a':=?_) #[true,true,false,true,false,false,true,false,true,false,true,false,false] rfl rfl (take_ofW HT_.out HW_.out (by kernel_rfl)) (fun _ _ _ h => h) (Or.inl ⟨by rfl,?_⟩) hHeld ?_ ?_;rotate_left
  ·rintro w' ⟨s0,s1,s2,s3,s4,s5,s6⟩
   go_simp
   with_reducible rfl
  rotate_left
  ·simp only [Act.put,Sa_,Sb_,Sc_,i64_w,i32_w]
   rfl
  refine take_ (i:=4) (N:=some 10) (v:=?_) (a':=?_) #[true,true,false,true,true,false,true,false,true,false,true,false,false] rfl rfl (take_ofW HT_.out HW_.out (by kernel_rfl)) (fun _ _ _ h => h) (Or.inl ⟨by rfl,?_⟩) hHeld ?_ ?_;rotate_left
  ·rintro w' ⟨s0,s1,s2,s3,s4,s5,s6⟩
   go_simp
   with_reducible rfl
  rotate_left
  ·simp only [Act.put,Sa_,Sb_,Sc_,i64_w,i32_w]
   rfl
  refine take_ (i:=7) (N:=some 13) (v:=?_) (a':=?_) #[true,true,false,true,true,false,true,true,true,false,true,false,false] rfl rfl (take_ofW HT_.out HW_.out (by kernel_rfl)) (fun _ _ _ h => h) (Or.inl ⟨by rfl,?_⟩) hHeld ?_ ?_;rotate_left
  ·rintro w' ⟨s0,s1,s2,s3,s4,s5,s6⟩
   go_simp
   with_reducible rfl
  rotate_left
  ·simp only [Act.put,Sa_,Sb_,Sc_,i64_w,i32_w]
   rfl
  refine take_ (i:=9) (N:=some 15) (v:=?_) (a':=?_) #[true,true,false,true,true,false,true,true,true,true,true,false,false] rfl rfl (take_ofW HT_.out HW_.out (by kernel_rfl)) (fun _ _ _ h => h) (Or.inl ⟨by rfl,?_⟩) hHeld ?_ ?_;rotate_left
  ·rintro w' ⟨s0,s1,s2,s3,s4,s5,s6⟩
   go_simp
   with_reducible rfl
  rotate_left
  ·simp only [Act.put,Sa_,Sb_,Sc_,i64_w,i32_w]
   rfl
  refine one_ (i:=2) (N:=some 8) #[true,true,true,true,true,false,true,true,true,true,true,false,false] rfl rfl (one_of HT_.out (by kernel_rfl)) (by decide) (fun K hK => ?_);refine goes_ Tryd.func43 (by kernel_rfl) rfl #[.string a0_0] (by rfl) rfl rfl (by (try simp only [List.map_toArray,List.map_cons,List.map_nil]);first|done|rfl|(simp only [List.length_drop,List.length_take];rfl)) ?_;with_reducible refine (spec_SiteHash.calls k a0_0 t213 _ A12.out).mono ?_;rintro e w17 ⟨rfl,hb⟩;refine ⟨_,rfl,?_⟩;replace BK207:=bb_ BK207 hb;replace HB:=bs_ HB hb;(try clear hb);(try clear hb2);(try clear hk);(try clear hi);refine hK.out _ _ ⟨q_ BK207 0 rfl,q_ BK207 1 rfl,q_ BK207 2 rfl,q_ BK207 3 rfl,q_ BK207 4 rfl,q_ BK207 5 rfl,q_ BK207 6 rfl⟩ (fun hHeld => ?_);clear hK K;refine norm_ (a':=?_) ?_ ?_;rotate_left
  ·show Act.put _ (some 8) _=_
   simp only [Act.put,Sa_,Sb_,Sc_,i64_w,i32_w]
   rfl
  refine one_ (i:=5) (N:=some 11) #[true,true,true,true,true,true,true,true,true,true,true,false,false] rfl rfl (one_of HT_.out (by kernel_rfl)) (by decide) (fun K hK => ?_);refine goes_ Tryd.func44 (by kernel_rfl) rfl #[.int .i64 211,.string a0_1] (by rfl) rfl rfl (by (try simp only [List.map_toArray,List.map_cons,List.map_nil]);first|done|rfl|(simp only [List.length_drop,List.length_take];rfl)) ?_;with_reducible refine (spec_DeriveFromString.calls k 211 a0_1 t214 _ A13.out).mono ?_;rintro e w18 ⟨rfl,hb⟩;refine ⟨_,rfl,?_⟩;replace BK207:=bb_ BK207 hb;replace HB:=bs_ HB hb;(try clear hb);(try clear hb2);(try clear hk);(try clear hi);refine hK.out _ _ ⟨q_ BK207 0 rfl,q_ BK207 1 rfl,q_ BK207 2 rfl,q_ BK207 3 rfl,q_ BK207 4 rfl,q_ BK207 5 rfl,q_ BK207 6 rfl⟩ (fun hHeld => ?_);clear hK K;refine norm_ (a':=?_) ?_ ?_;rotate_left
  ·show Act.put _ (some 11) _=_
   simp only [Act.put,Sa_,Sb_,Sc_,i64_w,i32_w]
   rfl
  refine one_ (i:=11) (N:=some 17) #[true,true,true,true,true,true,true,true,true,true,true,true,false] rfl rfl (one_of HT_.out (by kernel_rfl)) (by decide) (fun K hK => ?_);refine Kd.R_lit_step (Kd.int .i64) _ 3 ?hg (N:=17) ?hd (xs:=([199,t213,t214,a0_2,a0_3,0]:List Int)) (inner:=[.int .i64 199,.int .i64 t213,.int .i64 t214,.int .i64 a0_2,.int .i64 a0_3,.int .i64 0]) (ok:=fun _ => True) (okp:=fun _ => True) ?hr ?hp (fun _ hk => hk) trivial (Below.refl _ _) (Nat.le_refl _) (by simp) ?_;(case hd => rfl);(case hg => rfl);(case hr => first|(go_simp;done)|(go_simp;rfl));(case hp => exact (Reps.one (show Kd.M (Kd.int .i64) _ _ _ 199 [.int .i64 199] from rfl) (Reps.one (show Kd.M (Kd.int .i64) _ _ _ t213 [.int .i64 t213] from rfl) (Reps.one (show Kd.M (Kd.int .i64) _ _ _ t214 [.int .i64 t214] from rfl) (Reps.one (show Kd.M (Kd.int .i64) _ _ _ a0_2 [.int .i64 a0_2] from rfl) (Reps.one (show Kd.M (Kd.int .i64) _ _ _ a0_3 [.int .i64 a0_3] from rfl) (Reps.one (show Kd.M (Kd.int .i64) _ _ _ 0 [.int .i64 0] from rfl) (Reps.none _ _))))))));intro v216 w19 ho20 hb hg_ hnew_;clear hg_ hnew_
  (first|rw [← Ny215.out] at ho20|(simp only [Int.reduceToNat] at ho20;rw [← Ny215.out] at ho20))
  have HO217:=Am6_ (Kd.R_lower ho20 (below_size (xe_ HB)));replace BK207:=bb_ BK207 hb;replace HB:=bs_ HB hb;clear hb ho20;refine hK.out _ _ ⟨q_ BK207 0 rfl,q_ BK207 1 rfl,q_ BK207 2 rfl,q_ BK207 3 rfl,q_ BK207 4 rfl,q_ BK207 5 rfl,q_ BK207 6 rfl⟩ (fun hHeld => ?_);clear hK K;refine norm_ (a':=?_) ?_ ?_;rotate_left
  ·show Act.put _ (some 17) _=_
   simp only [Act.put,Sa_,Sb_,Sc_,i64_w,i32_w]
   rfl
  refine pure_ (i:=12) (N:=some 2) (v:=?_) (a':=?_) #[true,true,true,true,true,true,true,true,true,true,true,true,true] rfl rfl (any_of HT_.out (by kernel_rfl)) (fun _ _ _ h => h) (Or.inl ⟨by rfl,?_⟩) ?_ ?_;rotate_left
  ·intro w'
   go_simp
   with_reducible rfl
  rotate_left
  ·simp only [Act.put,Sa_,Sb_,Sc_,i64_w,i32_w]
   rfl
  refine done_ (done_of HT_.out (by kernel_rfl)) ?_
  try go_wp2
  go_ret
  exact ⟨_,by first|rfl|(simp [errW_none,errW_some] <;> rfl)|(simp [*,errW_none,errW_some] <;> rfl),by (with_reducible repeat (first|apply Kd.R_alloc|apply Kd.R_drewN|apply Kd.R_drew));exact HO217.out,by repeat (first|(with_reducible first|exact HB.out|apply below_alloc|apply pw_below_drewN|apply below_drew1|refine below_set ?_ GE207.out)|exact HB.out)⟩

/-! ### spec_MayUse: function 27 -/
def spec_MayUse.f (k:Nat) (a0_0:Bool) (a0_1:ByteArray) (a0_2:Int) (a1:ByteArray):Option (Bool):=(spec_IsOrigin.f k a0_0 a0_1 a0_2).bind fun t219 => (if t219=true then (if a0_0=true then ((spec_IsHost.f k a1).bind fun t220 => (if t220=true then ((spec_l9Labels.f k a1).bind fun t221 => (if (t221.length:Int) < 2 then (some false) else (if a0_1.toList=a1.toList then (some true) else (if (wrap64 ((a0_1.size:Int) - (a1.size:Int))) > 0 then (if 0 ≤ (wrap64 ((a0_1.size:Int) - (a1.size:Int))) then (if (wrap64 ((a0_1.size:Int) - (a1.size:Int))) ≤ (a0_1.size:Int) then (if (a0_1.extract ((wrap64 ((a0_1.size:Int) - (a1.size:Int))):Int).toNat a0_1.size).toList=a1.toList then (if 0 ≤ (wrap64 ((wrap64 ((a0_1.size:Int) - (a1.size:Int))) - 1)) then (if (wrap64 ((wrap64 ((a0_1.size:Int) - (a1.size:Int))) - 1)) < (a0_1.size:Int) then (some ((bt a0_1 (wrap64 ((wrap64 ((a0_1.size:Int) - (a1.size:Int))) - 1))) == 46)) else (none)) else (none)) else (some false)) else (none)) else (none)) else (some false))))) else (some false))) else (some false)) else (some false))
theorem spec_MayUse.mono:∀ a0 a1 a2 a3 k,LeO (spec_MayUse.f k a0 a1 a2 a3) (spec_MayUse.f (k + 1) a0 a1 a2 a3):=by
 intro a0 a1 a2 a3 k
 unfold spec_MayUse.f
 repeat' first
  |(with_reducible exact spec_IsHost.mono _ _)
  |(with_reducible exact spec_IsOrigin.mono _ _ _ _)
  |(with_reducible exact spec_l9Labels.mono _ _)
  |(with_reducible exact LeO.refl _)
  |(with_reducible exact LeO.none _)
  |(with_reducible refine LeO.ite ?_ ?_)
  |(with_reducible refine LeO.bind ?_ (fun _ => ?_))
  |exact spec_IsHost.mono _ _
  |exact spec_IsOrigin.mono _ _ _ _
  |exact spec_l9Labels.mono _ _
  |exact LeO.none _
  |refine LeO.ite ?_ ?_
  |refine LeO.bind ?_ (fun _ => ?_)
set_option maxHeartbeats 8000000 in
set_option maxRecDepth 100000 in
theorem spec_MayUse.calls (k:Nat) (a0_0:Bool) (a0_1:ByteArray) (a0_2:Int) (a1:ByteArray) (r:Bool) (w:World) (h:spec_MayUse.f k a0_0 a0_1 a0_2 a1=some r) :
  Calls Tryd.prog 27 #[.agg #[.bool a0_0,.string a0_1,.int .i64 a0_2],.string a1] w fun e w' => e=.returned (.bool r)∧Below w.heap.size w w':=by
 have hu26:=Tryd.underlying26;have HB:=Am6_ (Below.refl w.heap.size w);have H:=h;unfold spec_MayUse.f at H;clear h;replace H:=Option.bind_eq_some_iff.mp H;obtain ⟨t219,A30,H⟩:=H
 try dsimp only at H
 have A3:=Am6_ A30;clear A30
 by_cases c4:t219=true
 ·subst c4
  rw [if_pos rfl] at H
  by_cases c5:a0_0=true
  ·subst c5
   rw [if_pos rfl] at H
   replace H:=Option.bind_eq_some_iff.mp H;obtain ⟨t220,A60,H⟩:=H
   try dsimp only at H
   have A6:=Am6_ A60;clear A60
   by_cases c7:t220=true
   ·subst c7
    rw [if_pos rfl] at H
    replace H:=Option.bind_eq_some_iff.mp H;obtain ⟨t221,A80,H⟩:=H
    try dsimp only at H
    have A8:=Am6_ A80;clear A80
    by_cases c9:(t221.length:Int) < 2
    ·rw [if_pos c9] at H
     have c9b0:decide ((t221.length:Int) < 2)=true:=decide_eq_true c9;have c9b1:decide (t221.length < 2)=true:=decide_eq_true (by omega);clear c9;obtain rfl:=Option.some.inj H
     go_enter Tryd.func27,Tryd.ntmps27
     go_wp2_with (first|((with_reducible refine gate_dst (N:=2) rfl ?_);(try (refine gate_guard (by rfl) ?_;dsimp only));refine box_event ?hg (N:=2) ?hd (cs:=#[.bool true,.string a0_1,.int .i64 a0_2]) (t:=26) ?hr ?_;(case hd => rfl);(case hg => rfl);(case hr => first|(go_simp;done)|(go_simp;rfl));intro gb218 hg w10 hbox hb;have n0_:=bs_ HB hb;have n1_:=Am6_ (hbox);have n2_:=gw_ hg HB;have n3_:=gw_ hg HB;clear HB;have HB:=n0_;have BK218:=n1_;have GW218:=n2_;have GE218:=n3_;clear n0_ n1_ n2_ n3_;clear hb hbox hg;have hcz11_0:w10.cell? ⟨gb218,0,none⟩=some (.bool true):=q_ BK218 0 rfl;have hcz11_1:w10.cell? ⟨gb218,1,none⟩=some (.string a0_1):=q_ BK218 1 rfl;have hcz11_2:w10.cell? ⟨gb218,2,none⟩=some (.int .i64 a0_2):=q_ BK218 2 rfl;have hfz11_0:=blk_frozen BK218.out 0;have hfz11_1:=blk_frozen BK218.out 1;have hfz11_2:=blk_frozen BK218.out 2)|((with_reducible refine gate_callee (f:=21) rfl ?_);refine goesL_ (some 7) rfl rfl Tryd.func21 (by kernel_rfl) rfl #[.agg #[.bool true,.string a0_1,.int .i64 a0_2]] rfl (by (try simp only [List.map_toArray,List.map_cons,List.map_nil]);first|done|rfl|(simp only [List.length_drop,List.length_take];rfl)) ?_;(with_reducible refine (spec_IsOrigin.calls k true a0_1 a0_2 true _ A3.out).mono ?_);rintro e w12 ⟨rfl,hb⟩;refine ⟨_,rfl,?_⟩;have n0_:=bb_ BK218 hb;have n1_:=bs_ HB hb;clear BK218;clear HB;have BK218:=n0_;have HB:=n1_;clear n0_ n1_;(try clear hb);(try clear hb2);(try clear hk);(try clear hi);have hcz13_0:w12.cell? ⟨gb218,0,none⟩=some (.bool true):=q_ BK218 0 rfl;have hcz13_1:w12.cell? ⟨gb218,1,none⟩=some (.string a0_1):=q_ BK218 1 rfl;have hcz13_2:w12.cell? ⟨gb218,2,none⟩=some (.int .i64 a0_2):=q_ BK218 2 rfl;have hfz13_0:=blk_frozen BK218.out 0;have hfz13_1:=blk_frozen BK218.out 1;have hfz13_2:=blk_frozen BK218.out 2)|(go_at_call 35;(with_reducible refine (spec_IsHost.calls k a1 true _ A6.out).mono ?_);rintro e w14 ⟨rfl,hb⟩;have n0_:=bb_ BK218 hb;have n1_:=bs_ HB hb;clear BK218;clear HB;have BK218:=n0_;have HB:=n1_;clear n0_ n1_;(try clear hb);(try clear hb2);(try clear hk);(try clear hi))|(go_at_call 45;(with_reducible refine (spec_l9Labels.calls k a1 t221 _ A8.out).mono ?_);rintro e w15 ⟨v222,rfl,ho0,hb⟩;have n0_:=Am6_ (Kd.R_lower ho0 (below_size (xe_ HB)));have n1_:=bb_ BK218 hb;have n2_:=bs_ HB hb;clear BK218;clear HB;have HO223:=n0_;have BK218:=n1_;have HB:=n2_;clear n0_ n1_ n2_;(try clear hb);(try clear hb2);(try clear hk);(try clear hi);(try clear ho0);obtain ⟨Ao16,co16,eo16⟩:=Kd.R_slice HO223.out;subst eo16))
     go_ret
     exact ⟨by first|rfl|(simp [errW_none,errW_some] <;> rfl)|(simp [*,errW_none,errW_some] <;> rfl),by repeat (first|(with_reducible first|exact HB.out|apply below_alloc|apply pw_below_drewN|apply below_drew1|refine below_set ?_ GE218.out)|exact HB.out)⟩
    ·rw [if_neg c9] at H
     have c9b0:decide ((t221.length:Int) < 2)=false:=decide_eq_false c9;have c9b1:decide (t221.length < 2)=false:=decide_eq_false (by omega);clear c9
     by_cases c17:a0_1.toList=a1.toList
     ·rw [if_pos c17] at H
      have c17b0:(a0_1.toList == a1.toList)=true:=beq_iff_eq.mpr c17;have c17b1:(a0_1.toList != a1.toList)=false:=bne_eq_false_iff_eq.mpr c17;clear c17;obtain rfl:=Option.some.inj H
      go_enter Tryd.func27,Tryd.ntmps27
      go_wp2_with (first|((with_reducible refine gate_dst (N:=2) rfl ?_);(try (refine gate_guard (by rfl) ?_;dsimp only));refine box_event ?hg (N:=2) ?hd (cs:=#[.bool true,.string a0_1,.int .i64 a0_2]) (t:=26) ?hr ?_;(case hd => rfl);(case hg => rfl);(case hr => first|(go_simp;done)|(go_simp;rfl));intro gb218 hg w18 hbox hb;have n0_:=bs_ HB hb;have n1_:=Am6_ (hbox);have n2_:=gw_ hg HB;have n3_:=gw_ hg HB;clear HB;have HB:=n0_;have BK218:=n1_;have GW218:=n2_;have GE218:=n3_;clear n0_ n1_ n2_ n3_;clear hb hbox hg;have hcz19_0:w18.cell? ⟨gb218,0,none⟩=some (.bool true):=q_ BK218 0 rfl;have hcz19_1:w18.cell? ⟨gb218,1,none⟩=some (.string a0_1):=q_ BK218 1 rfl;have hcz19_2:w18.cell? ⟨gb218,2,none⟩=some (.int .i64 a0_2):=q_ BK218 2 rfl;have hfz19_0:=blk_frozen BK218.out 0;have hfz19_1:=blk_frozen BK218.out 1;have hfz19_2:=blk_frozen BK218.out 2)|((with_reducible refine gate_callee (f:=21) rfl ?_);refine goesL_ (some 7) rfl rfl Tryd.func21 (by kernel_rfl) rfl #[.agg #[.bool true,.string a0_1,.int .i64 a0_2]] rfl (by (try simp only [List.map_toArray,List.map_cons,List.map_nil]);first|done|rfl|(simp only [List.length_drop,List.length_take];rfl)) ?_;(with_reducible refine (spec_IsOrigin.calls k true a0_1 a0_2 true _ A3.out).mono ?_);rintro e w20 ⟨rfl,hb⟩;refine ⟨_,rfl,?_⟩;have n0_:=bb_ BK218 hb;have n1_:=bs_ HB hb;clear BK218;clear HB;have BK218:=n0_;have HB:=n1_;clear n0_ n1_;(try clear hb);(try clear hb2);(try clear hk);(try clear hi);have hcz21_0:w20.cell? ⟨gb218,0,none⟩=some (.bool true):=q_ BK218 0 rfl;have hcz21_1:w20.cell? ⟨gb218,1,none⟩=some (.string a0_1):=q_ BK218 1 rfl;have hcz21_2:w20.cell? ⟨gb218,2,none⟩=some (.int .i64 a0_2):=q_ BK218 2 rfl;have hfz21_0:=blk_frozen BK218.out 0;have hfz21_1:=blk_frozen BK218.out 1;have hfz21_2:=blk_frozen BK218.out 2)|(go_at_call 35;(with_reducible refine (spec_IsHost.calls k a1 true _ A6.out).mono ?_);rintro e w22 ⟨rfl,hb⟩;have n0_:=bb_ BK218 hb;have n1_:=bs_ HB hb;clear BK218;clear HB;have BK218:=n0_;have HB:=n1_;clear n0_ n1_;(try clear hb);(try clear hb2);(try clear hk);(try clear hi))|(go_at_call 45;(with_reducible refine (spec_l9Labels.calls k a1 t221 _ A8.out).mono ?_);rintro e w23 ⟨v222,rfl,ho0,hb⟩;have n0_:=Am6_ (Kd.R_lower ho0 (below_size (xe_ HB)));have n1_:=bb_ BK218 hb;have n2_:=bs_ HB hb;clear BK218;clear HB;have HO223:=n0_;have BK218:=n1_;have HB:=n2_;clear n0_ n1_ n2_;(try clear hb);(try clear hb2);(try clear hk);(try clear hi);(try clear ho0);obtain ⟨Ao24,co24,eo24⟩:=Kd.R_slice HO223.out;subst eo24;have hcz25_0:w23.cell? ⟨gb218,0,none⟩=some (.bool true):=q_ BK218 0 rfl;have hcz25_1:w23.cell? ⟨gb218,1,none⟩=some (.string a0_1):=q_ BK218 1 rfl;have hcz25_2:w23.cell? ⟨gb218,2,none⟩=some (.int .i64 a0_2):=q_ BK218 2 rfl;have hfz25_0:=blk_frozen BK218.out 0;have hfz25_1:=blk_frozen BK218.out 1;have hfz25_2:=blk_frozen BK218.out 2))
      go_ret
      exact ⟨by first|rfl|(simp [errW_none,errW_some] <;> rfl)|(simp [*,errW_none,errW_some] <;> rfl),by repeat (first|(with_reducible first|exact HB.out|apply below_alloc|apply pw_below_drewN|apply below_drew1|refine below_set ?_ GE218.out)|exact HB.out)⟩
     ·rw [if_neg c17] at H
      have c17b0:(a0_1.toList == a1.toList)=false:=beq_eq_false_iff_ne.mpr c17;have c17b1:(a0_1.toList != a1.toList)=true:=bne_iff_ne.mpr c17
      by_cases c26:(wrap64 ((a0_1.size:Int) - (a1.size:Int))) > 0
      ·rw [if_pos c26] at H
       have c26b0:decide (0 < (wrap64 ((a0_1.size:Int) - (a1.size:Int))))=true:=decide_eq_true c26;clear c26;obtain ⟨ji27,hji27⟩:∃ j_:Int,(wrap64 ((a0_1.size:Int) - (a1.size:Int)))=j_:=⟨_,rfl⟩;replace H:(if 0 ≤ (ji27) then (if (ji27) ≤ (a0_1.size:Int) then (if (a0_1.extract ((ji27):Int).toNat a0_1.size).toList=a1.toList then (if 0 ≤ (wrap64 ((ji27) - 1)) then (if (wrap64 ((ji27) - 1)) < (a0_1.size:Int) then (some ((bt a0_1 (wrap64 ((ji27) - 1))) == 46)) else (none)) else (none)) else (some false)) else (none)) else (none))=some r:=by first|(rw [hji27] at H;exact H)|(simp only [hji27] at H ⊢;exact H)
       (try rw [hji27] at c26b0);(try rw [hji27] at A3);(try rw [hji27] at A6);(try rw [hji27] at A8);have hji27w:(IntKind.i64.wrap ((a0_1.size:Int) - (a1.size:Int)))=ji27:=(i64_w _).trans hji27
       by_cases c28:0 ≤ (ji27)
       ·rw [if_pos c28] at H
        have c28b0:=eq_true c28;have c28b1:decide (0 ≤ (ji27))=true:=decide_eq_true c28;clear c28
        by_cases c29:(ji27) ≤ (a0_1.size:Int)
        ·rw [if_pos c29] at H
         have c29b0:=eq_true c29;have c29b1:decide ((ji27) ≤ (a0_1.size:Int))=true:=decide_eq_true c29;clear c29
         by_cases c30:(a0_1.extract ((ji27):Int).toNat a0_1.size).toList=a1.toList
         ·rw [if_pos c30] at H
          have c30b0:((a0_1.extract ((ji27):Int).toNat a0_1.size).toList == a1.toList)=true:=beq_iff_eq.mpr c30;have c30b1:((a0_1.extract ((ji27):Int).toNat a0_1.size).toList != a1.toList)=false:=bne_eq_false_iff_eq.mpr c30;clear c30;obtain ⟨ji31,hji31⟩:∃ j_:Int,(wrap64 ((ji27) - 1))=j_:=⟨_,rfl⟩;replace H:(if 0 ≤ (ji31) then (if (ji31) < (a0_1.size:Int) then (some ((bt a0_1 (ji31)) == 46)) else (none)) else (none))=some r:=by first|(rw [hji31] at H;exact H)|(simp only [hji31] at H ⊢;exact H)
          (try rw [hji31] at A3);(try rw [hji31] at A6);(try rw [hji31] at A8);have hji31w:(IntKind.i64.wrap ((ji27) - 1))=ji31:=(i64_w _).trans hji31
          by_cases c32:0 ≤ (ji31)
          ·rw [if_pos c32] at H
           have c32b0:decide (0 ≤ (ji31))=true:=decide_eq_true c32;clear c32
           by_cases c33:(ji31) < (a0_1.size:Int)
           ·rw [if_pos c33] at H
            have c33b0:decide ((ji31) < (a0_1.size:Int))=true:=decide_eq_true c33;clear c33;obtain rfl:=Option.some.inj H
            go_enter Tryd.func27,Tryd.ntmps27
            go_wp2_with (first|((with_reducible refine gate_dst (N:=2) rfl ?_);(try (refine gate_guard (by rfl) ?_;dsimp only));refine box_event ?hg (N:=2) ?hd (cs:=#[.bool true,.string a0_1,.int .i64 a0_2]) (t:=26) ?hr ?_;(case hd => rfl);(case hg => rfl);(case hr => first|(go_simp;done)|(go_simp;rfl));intro gb218 hg w35 hbox hb;have n0_:=bs_ HB hb;have n1_:=Am6_ (hbox);have n2_:=gw_ hg HB;have n3_:=gw_ hg HB;clear HB;have HB:=n0_;have BK218:=n1_;have GW218:=n2_;have GE218:=n3_;clear n0_ n1_ n2_ n3_;clear hb hbox hg;have hcz36_0:w35.cell? ⟨gb218,0,none⟩=some (.bool true):=q_ BK218 0 rfl;have hcz36_1:w35.cell? ⟨gb218,1,none⟩=some (.string a0_1):=q_ BK218 1 rfl;have hcz36_2:w35.cell? ⟨gb218,2,none⟩=some (.int .i64 a0_2):=q_ BK218 2 rfl;have hfz36_0:=blk_frozen BK218.out 0;have hfz36_1:=blk_frozen BK218.out 1;have hfz36_2:=blk_frozen BK218.out 2)|((with_reducible refine gate_callee (f:=21) rfl ?_);refine goesL_ (some 7) rfl rfl Tryd.func21 (by kernel_rfl) rfl #[.agg #[.bool true,.string a0_1,.int .i64 a0_2]] rfl (by (try simp only [List.map_toArray,List.map_cons,List.map_nil]);first|done|rfl|(simp only [List.length_drop,List.length_take];rfl)) ?_;(with_reducible refine (spec_IsOrigin.calls k true a0_1 a0_2 true _ A3.out).mono ?_);rintro e w37 ⟨rfl,hb⟩;refine ⟨_,rfl,?_⟩;have n0_:=bb_ BK218 hb;have n1_:=bs_ HB hb;clear BK218;clear HB;have BK218:=n0_;have HB:=n1_;clear n0_ n1_;(try clear hb);(try clear hb2);(try clear hk);(try clear hi);have hcz38_0:w37.cell? ⟨gb218,0,none⟩=some (.bool true):=q_ BK218 0 rfl;have hcz38_1:w37.cell? ⟨gb218,1,none⟩=some (.string a0_1):=q_ BK218 1 rfl;have hcz38_2:w37.cell? ⟨gb218,2,none⟩=some (.int .i64 a0_2):=q_ BK218 2 rfl;have hfz38_0:=blk_frozen BK218.out 0;have hfz38_1:=blk_frozen BK218.out 1;have hfz38_2:=blk_frozen BK218.out 2)|(go_at_call 35;(with_reducible refine (spec_IsHost.calls k a1 true _ A6.out).mono ?_);rintro e w39 ⟨rfl,hb⟩;have n0_:=bb_ BK218 hb;have n1_:=bs_ HB hb;clear BK218;clear HB;have BK218:=n0_;have HB:=n1_;clear n0_ n1_;(try clear hb);(try clear hb2);(try clear hk);(try clear hi))|(go_at_call 45;(with_reducible refine (spec_l9Labels.calls k a1 t221 _ A8.out).mono ?_);rintro e w40 ⟨v222,rfl,ho0,hb⟩;have n0_:=Am6_ (Kd.R_lower ho0 (below_size (xe_ HB)));have n1_:=bb_ BK218 hb;have n2_:=bs_ HB hb;clear BK218;clear HB;have HO223:=n0_;have BK218:=n1_;have HB:=n2_;clear n0_ n1_ n2_;(try clear hb);(try clear hb2);(try clear hk);(try clear hi);(try clear ho0);obtain ⟨Ao41,co41,eo41⟩:=Kd.R_slice HO223.out;subst eo41;have hcz42_0:w40.cell? ⟨gb218,0,none⟩=some (.bool true):=q_ BK218 0 rfl;have hcz42_1:w40.cell? ⟨gb218,1,none⟩=some (.string a0_1):=q_ BK218 1 rfl;have hcz42_2:w40.cell? ⟨gb218,2,none⟩=some (.int .i64 a0_2):=q_ BK218 2 rfl;have hfz42_0:=blk_frozen BK218.out 0;have hfz42_1:=blk_frozen BK218.out 1;have hfz42_2:=blk_frozen BK218.out 2;have p34:0 ≤ ((ji31):Int):=of_decide_eq_true (by first|(with_reducible assumption)|assumption);have q34:(ji31) < (a0_1.size:Int):=of_decide_eq_true (by first|(with_reducible assumption)|assumption);have hx34:=bt_at a0_1 (ji31);replace p34:=eq_true p34;replace q34:=eq_true q34))
            go_ret
            exact ⟨by first|rfl|(simp [errW_none,errW_some] <;> rfl)|(simp only [← hji27,← hji31];first|rfl|(simp [errW_none,errW_some] <;> rfl))|(simp [*,errW_none,errW_some] <;> rfl),by repeat (first|(with_reducible first|exact HB.out|apply below_alloc|apply pw_below_drewN|apply below_drew1|refine below_set ?_ GE218.out)|exact HB.out)⟩
           ·rw [if_neg c33] at H
            exact absurd H (by simp)
          ·rw [if_neg c32] at H
           exact absurd H (by simp)
         ·rw [if_neg c30] at H
          have c30b0:((a0_1.extract ((ji27):Int).toNat a0_1.size).toList == a1.toList)=false:=beq_eq_false_iff_ne.mpr c30;have c30b1:((a0_1.extract ((ji27):Int).toNat a0_1.size).toList != a1.toList)=true:=bne_iff_ne.mpr c30;obtain rfl:=Option.some.inj H
          go_enter Tryd.func27,Tryd.ntmps27
          go_wp2_with (first|((with_reducible refine gate_dst (N:=2) rfl ?_);(try (refine gate_guard (by rfl) ?_;dsimp only));refine box_event ?hg (N:=2) ?hd (cs:=#[.bool true,.string a0_1,.int .i64 a0_2]) (t:=26) ?hr ?_;(case hd => rfl);(case hg => rfl);(case hr => first|(go_simp;done)|(go_simp;rfl));intro gb218 hg w43 hbox hb;have n0_:=bs_ HB hb;have n1_:=Am6_ (hbox);have n2_:=gw_ hg HB;have n3_:=gw_ hg HB;clear HB;have HB:=n0_;have BK218:=n1_;have GW218:=n2_;have GE218:=n3_;clear n0_ n1_ n2_ n3_;clear hb hbox hg;have hcz44_0:w43.cell? ⟨gb218,0,none⟩=some (.bool true):=q_ BK218 0 rfl;have hcz44_1:w43.cell? ⟨gb218,1,none⟩=some (.string a0_1):=q_ BK218 1 rfl;have hcz44_2:w43.cell? ⟨gb218,2,none⟩=some (.int .i64 a0_2):=q_ BK218 2 rfl;have hfz44_0:=blk_frozen BK218.out 0;have hfz44_1:=blk_frozen BK218.out 1;have hfz44_2:=blk_frozen BK218.out 2)|((with_reducible refine gate_callee (f:=21) rfl ?_);refine goesL_ (some 7) rfl rfl Tryd.func21 (by kernel_rfl) rfl #[.agg #[.bool true,.string a0_1,.int .i64 a0_2]] rfl (by (try simp only [List.map_toArray,List.map_cons,List.map_nil]);first|done|rfl|(simp only [List.length_drop,List.length_take];rfl)) ?_;(with_reducible refine (spec_IsOrigin.calls k true a0_1 a0_2 true _ A3.out).mono ?_);rintro e w45 ⟨rfl,hb⟩;refine ⟨_,rfl,?_⟩;have n0_:=bb_ BK218 hb;have n1_:=bs_ HB hb;clear BK218;clear HB;have BK218:=n0_;have HB:=n1_;clear n0_ n1_;(try clear hb);(try clear hb2);(try clear hk);(try clear hi);have hcz46_0:w45.cell? ⟨gb218,0,none⟩=some (.bool true):=q_ BK218 0 rfl;have hcz46_1:w45.cell? ⟨gb218,1,none⟩=some (.string a0_1):=q_ BK218 1 rfl;have hcz46_2:w45.cell? ⟨gb218,2,none⟩=some (.int .i64 a0_2):=q_ BK218 2 rfl;have hfz46_0:=blk_frozen BK218.out 0;have hfz46_1:=blk_frozen BK218.out 1;have hfz46_2:=blk_frozen BK218.out 2)|(go_at_call 35;(with_reducible refine (spec_IsHost.calls k a1 true _ A6.out).mono ?_);rintro e w47 ⟨rfl,hb⟩;have n0_:=bb_ BK218 hb;have n1_:=bs_ HB hb;clear BK218;clear HB;have BK218:=n0_;have HB:=n1_;clear n0_ n1_;(try clear hb);(try clear hb2);(try clear hk);(try clear hi))|(go_at_call 45;(with_reducible refine (spec_l9Labels.calls k a1 t221 _ A8.out).mono ?_);rintro e w48 ⟨v222,rfl,ho0,hb⟩;have n0_:=Am6_ (Kd.R_lower ho0 (below_size (xe_ HB)));have n1_:=bb_ BK218 hb;have n2_:=bs_ HB hb;clear BK218;clear HB;have HO223:=n0_;have BK218:=n1_;have HB:=n2_;clear n0_ n1_ n2_;(try clear hb);(try clear hb2);(try clear hk);(try clear hi);(try clear ho0);obtain ⟨Ao49,co49,eo49⟩:=Kd.R_slice HO223.out;subst eo49;have hcz50_0:w48.cell? ⟨gb218,0,none⟩=some (.bool true):=q_ BK218 0 rfl;have hcz50_1:w48.cell? ⟨gb218,1,none⟩=some (.string a0_1):=q_ BK218 1 rfl;have hcz50_2:w48.cell? ⟨gb218,2,none⟩=some (.int .i64 a0_2):=q_ BK218 2 rfl;have hfz50_0:=blk_frozen BK218.out 0;have hfz50_1:=blk_frozen BK218.out 1;have hfz50_2:=blk_frozen BK218.out 2))
          go_ret
          exact ⟨by first|rfl|(simp [errW_none,errW_some] <;> rfl)|(simp only [← hji27];first|rfl|(simp [errW_none,errW_some] <;> rfl))|(simp [*,errW_none,errW_some] <;> rfl),by repeat (first|(with_reducible first|exact HB.out|apply below_alloc|apply pw_below_drewN|apply below_drew1|refine below_set ?_ GE218.out)|exact HB.out)⟩
        ·rw [if_neg c29] at H
         exact absurd H (by simp)
       ·rw [if_neg c28] at H
        exact absurd H (by simp)
      ·rw [if_neg c26] at H
       have c26b0:decide (0 < (wrap64 ((a0_1.size:Int) - (a1.size:Int))))=false:=decide_eq_false c26;clear c26;obtain rfl:=Option.some.inj H
       go_enter Tryd.func27,Tryd.ntmps27
       go_wp2_with (first|((with_reducible refine gate_dst (N:=2) rfl ?_);(try (refine gate_guard (by rfl) ?_;dsimp only));refine box_event ?hg (N:=2) ?hd (cs:=#[.bool true,.string a0_1,.int .i64 a0_2]) (t:=26) ?hr ?_;(case hd => rfl);(case hg => rfl);(case hr => first|(go_simp;done)|(go_simp;rfl));intro gb218 hg w51 hbox hb;have n0_:=bs_ HB hb;have n1_:=Am6_ (hbox);have n2_:=gw_ hg HB;have n3_:=gw_ hg HB;clear HB;have HB:=n0_;have BK218:=n1_;have GW218:=n2_;have GE218:=n3_;clear n0_ n1_ n2_ n3_;clear hb hbox hg;have hcz52_0:w51.cell? ⟨gb218,0,none⟩=some (.bool true):=q_ BK218 0 rfl;have hcz52_1:w51.cell? ⟨gb218,1,none⟩=some (.string a0_1):=q_ BK218 1 rfl;have hcz52_2:w51.cell? ⟨gb218,2,none⟩=some (.int .i64 a0_2):=q_ BK218 2 rfl;have hfz52_0:=blk_frozen BK218.out 0;have hfz52_1:=blk_frozen BK218.out 1;have hfz52_2:=blk_frozen BK218.out 2)|((with_reducible refine gate_callee (f:=21) rfl ?_);refine goesL_ (some 7) rfl rfl Tryd.func21 (by kernel_rfl) rfl #[.agg #[.bool true,.string a0_1,.int .i64 a0_2]] rfl (by (try simp only [List.map_toArray,List.map_cons,List.map_nil]);first|done|rfl|(simp only [List.length_drop,List.length_take];rfl)) ?_;(with_reducible refine (spec_IsOrigin.calls k true a0_1 a0_2 true _ A3.out).mono ?_);rintro e w53 ⟨rfl,hb⟩;refine ⟨_,rfl,?_⟩;have n0_:=bb_ BK218 hb;have n1_:=bs_ HB hb;clear BK218;clear HB;have BK218:=n0_;have HB:=n1_;clear n0_ n1_;(try clear hb);(try clear hb2);(try clear hk);(try clear hi);have hcz54_0:w53.cell? ⟨gb218,0,none⟩=some (.bool true):=q_ BK218 0 rfl;have hcz54_1:w53.cell? ⟨gb218,1,none⟩=some (.string a0_1):=q_ BK218 1 rfl;have hcz54_2:w53.cell? ⟨gb218,2,none⟩=some (.int .i64 a0_2):=q_ BK218 2 rfl;have hfz54_0:=blk_frozen BK218.out 0;have hfz54_1:=blk_frozen BK218.out 1;have hfz54_2:=blk_frozen BK218.out 2)|(go_at_call 35;(with_reducible refine (spec_IsHost.calls k a1 true _ A6.out).mono ?_);rintro e w55 ⟨rfl,hb⟩;have n0_:=bb_ BK218 hb;have n1_:=bs_ HB hb;clear BK218;clear HB;have BK218:=n0_;have HB:=n1_;clear n0_ n1_;(try clear hb);(try clear hb2);(try clear hk);(try clear hi))|(go_at_call 45;(with_reducible refine (spec_l9Labels.calls k a1 t221 _ A8.out).mono ?_);rintro e w56 ⟨v222,rfl,ho0,hb⟩;have n0_:=Am6_ (Kd.R_lower ho0 (below_size (xe_ HB)));have n1_:=bb_ BK218 hb;have n2_:=bs_ HB hb;clear BK218;clear HB;have HO223:=n0_;have BK218:=n1_;have HB:=n2_;clear n0_ n1_ n2_;(try clear hb);(try clear hb2);(try clear hk);(try clear hi);(try clear ho0);obtain ⟨Ao57,co57,eo57⟩:=Kd.R_slice HO223.out;subst eo57;have hcz58_0:w56.cell? ⟨gb218,0,none⟩=some (.bool true):=q_ BK218 0 rfl;have hcz58_1:w56.cell? ⟨gb218,1,none⟩=some (.string a0_1):=q_ BK218 1 rfl;have hcz58_2:w56.cell? ⟨gb218,2,none⟩=some (.int .i64 a0_2):=q_ BK218 2 rfl;have hfz58_0:=blk_frozen BK218.out 0;have hfz58_1:=blk_frozen BK218.out 1;have hfz58_2:=blk_frozen BK218.out 2))
       go_ret
       exact ⟨by first|rfl|(simp [errW_none,errW_some] <;> rfl)|(simp [*,errW_none,errW_some] <;> rfl),by repeat (first|(with_reducible first|exact HB.out|apply below_alloc|apply pw_below_drewN|apply below_drew1|refine below_set ?_ GE218.out)|exact HB.out)⟩
   ·replace c7:=Bool.eq_false_iff.mpr c7;subst c7
    rw [if_neg (show ¬ (false=true) by decide)] at H
    obtain rfl:=Option.some.inj H
    go_enter Tryd.func27,Tryd.ntmps27
    go_wp2_with (first|((with_reducible refine gate_dst (N:=2) rfl ?_);(try (refine gate_guard (by rfl) ?_;dsimp only));refine box_event ?hg (N:=2) ?hd (cs:=#[.bool true,.string a0_1,.int .i64 a0_2]) (t:=26) ?hr ?_;(case hd => rfl);(case hg => rfl);(case hr => first|(go_simp;done)|(go_simp;rfl));intro gb218 hg w59 hbox hb;have n0_:=bs_ HB hb;have n1_:=Am6_ (hbox);have n2_:=gw_ hg HB;have n3_:=gw_ hg HB;clear HB;have HB:=n0_;have BK218:=n1_;have GW218:=n2_;have GE218:=n3_;clear n0_ n1_ n2_ n3_;clear hb hbox hg;have hcz60_0:w59.cell? ⟨gb218,0,none⟩=some (.bool true):=q_ BK218 0 rfl;have hcz60_1:w59.cell? ⟨gb218,1,none⟩=some (.string a0_1):=q_ BK218 1 rfl;have hcz60_2:w59.cell? ⟨gb218,2,none⟩=some (.int .i64 a0_2):=q_ BK218 2 rfl;have hfz60_0:=blk_frozen BK218.out 0;have hfz60_1:=blk_frozen BK218.out 1;have hfz60_2:=blk_frozen BK218.out 2)|((with_reducible refine gate_callee (f:=21) rfl ?_);refine goesL_ (some 7) rfl rfl Tryd.func21 (by kernel_rfl) rfl #[.agg #[.bool true,.string a0_1,.int .i64 a0_2]] rfl (by (try simp only [List.map_toArray,List.map_cons,List.map_nil]);first|done|rfl|(simp only [List.length_drop,List.length_take];rfl)) ?_;(with_reducible refine (spec_IsOrigin.calls k true a0_1 a0_2 true _ A3.out).mono ?_);rintro e w61 ⟨rfl,hb⟩;refine ⟨_,rfl,?_⟩;have n0_:=bb_ BK218 hb;have n1_:=bs_ HB hb;clear BK218;clear HB;have BK218:=n0_;have HB:=n1_;clear n0_ n1_;(try clear hb);(try clear hb2);(try clear hk);(try clear hi);have hcz62_0:w61.cell? ⟨gb218,0,none⟩=some (.bool true):=q_ BK218 0 rfl;have hcz62_1:w61.cell? ⟨gb218,1,none⟩=some (.string a0_1):=q_ BK218 1 rfl;have hcz62_2:w61.cell? ⟨gb218,2,none⟩=some (.int .i64 a0_2):=q_ BK218 2 rfl;have hfz62_0:=blk_frozen BK218.out 0;have hfz62_1:=blk_frozen BK218.out 1;have hfz62_2:=blk_frozen BK218.out 2)|(go_at_call 35;(with_reducible refine (spec_IsHost.calls k a1 false _ A6.out).mono ?_);rintro e w63 ⟨rfl,hb⟩;have n0_:=bb_ BK218 hb;have n1_:=bs_ HB hb;clear BK218;clear HB;have BK218:=n0_;have HB:=n1_;clear n0_ n1_;(try clear hb);(try clear hb2);(try clear hk);(try clear hi)))
    go_ret
    exact ⟨by first|rfl|(simp [errW_none,errW_some] <;> rfl)|(simp [*,errW_none,errW_some] <;> rfl),by repeat (first|(with_reducible first|exact HB.out|apply below_alloc|apply pw_below_drewN|apply below_drew1|refine below_set ?_ GE218.out)|exact HB.out)⟩
  ·replace c5:=Bool.eq_false_iff.mpr c5;subst c5
   rw [if_neg (show ¬ (false=true) by decide)] at H
   obtain rfl:=Option.some.inj H
   go_enter Tryd.func27,Tryd.ntmps27
   go_wp2_with (first|((with_reducible refine gate_dst (N:=2) rfl ?_);(try (refine gate_guard (by rfl) ?_;dsimp only));refine box_event ?hg (N:=2) ?hd (cs:=#[.bool false,.string a0_1,.int .i64 a0_2]) (t:=26) ?hr ?_;(case hd => rfl);(case hg => rfl);(case hr => first|(go_simp;done)|(go_simp;rfl));intro gb218 hg w64 hbox hb;have n0_:=bs_ HB hb;have n1_:=Am6_ (hbox);have n2_:=gw_ hg HB;have n3_:=gw_ hg HB;clear HB;have HB:=n0_;have BK218:=n1_;have GW218:=n2_;have GE218:=n3_;clear n0_ n1_ n2_ n3_;clear hb hbox hg;have hcz65_0:w64.cell? ⟨gb218,0,none⟩=some (.bool false):=q_ BK218 0 rfl;have hcz65_1:w64.cell? ⟨gb218,1,none⟩=some (.string a0_1):=q_ BK218 1 rfl;have hcz65_2:w64.cell? ⟨gb218,2,none⟩=some (.int .i64 a0_2):=q_ BK218 2 rfl;have hfz65_0:=blk_frozen BK218.out 0;have hfz65_1:=blk_frozen BK218.out 1;have hfz65_2:=blk_frozen BK218.out 2)|((with_reducible refine gate_callee (f:=21) rfl ?_);refine goesL_ (some 7) rfl rfl Tryd.func21 (by kernel_rfl) rfl #[.agg #[.bool false,.string a0_1,.int .i64 a0_2]] rfl (by (try simp only [List.map_toArray,List.map_cons,List.map_nil]);first|done|rfl|(simp only [List.length_drop,List.length_take];rfl)) ?_;(with_reducible refine (spec_IsOrigin.calls k false a0_1 a0_2 true _ A3.out).mono ?_);rintro e w66 ⟨rfl,hb⟩;refine ⟨_,rfl,?_⟩;have n0_:=bb_ BK218 hb;have n1_:=bs_ HB hb;clear BK218;clear HB;have BK218:=n0_;have HB:=n1_;clear n0_ n1_;(try clear hb);(try clear hb2);(try clear hk);(try clear hi);have hcz67_0:w66.cell? ⟨gb218,0,none⟩=some (.bool false):=q_ BK218 0 rfl;have hcz67_1:w66.cell? ⟨gb218,1,none⟩=some (.string a0_1):=q_ BK218 1 rfl;have hcz67_2:w66.cell? ⟨gb218,2,none⟩=some (.int .i64 a0_2):=q_ BK218 2 rfl;have hfz67_0:=blk_frozen BK218.out 0;have hfz67_1:=blk_frozen BK218.out 1;have hfz67_2:=blk_frozen BK218.out 2))
   go_ret
   exact ⟨by first|rfl|(simp [errW_none,errW_some] <;> rfl)|(simp [*,errW_none,errW_some] <;> rfl),by repeat (first|(with_reducible first|exact HB.out|apply below_alloc|apply pw_below_drewN|apply below_drew1|refine below_set ?_ GE218.out)|exact HB.out)⟩
 ·replace c4:=Bool.eq_false_iff.mpr c4;subst c4
  rw [if_neg (show ¬ (false=true) by decide)] at H
  obtain rfl:=Option.some.inj H
  go_enter Tryd.func27,Tryd.ntmps27
  go_wp2_with (first|((with_reducible refine gate_dst (N:=2) rfl ?_);(try (refine gate_guard (by rfl) ?_;dsimp only));refine box_event ?hg (N:=2) ?hd (cs:=#[.bool a0_0,.string a0_1,.int .i64 a0_2]) (t:=26) ?hr ?_;(case hd => rfl);(case hg => rfl);(case hr => first|(go_simp;done)|(go_simp;rfl));intro gb218 hg w68 hbox hb;have n0_:=bs_ HB hb;have n1_:=Am6_ (hbox);have n2_:=gw_ hg HB;have n3_:=gw_ hg HB;clear HB;have HB:=n0_;have BK218:=n1_;have GW218:=n2_;have GE218:=n3_;clear n0_ n1_ n2_ n3_;clear hb hbox hg;have hcz69_0:w68.cell? ⟨gb218,0,none⟩=some (.bool a0_0):=q_ BK218 0 rfl;have hcz69_1:w68.cell? ⟨gb218,1,none⟩=some (.string a0_1):=q_ BK218 1 rfl;have hcz69_2:w68.cell? ⟨gb218,2,none⟩=some (.int .i64 a0_2):=q_ BK218 2 rfl;have hfz69_0:=blk_frozen BK218.out 0;have hfz69_1:=blk_frozen BK218.out 1;have hfz69_2:=blk_frozen BK218.out 2)|((with_reducible refine gate_callee (f:=21) rfl ?_);refine goesL_ (some 7) rfl rfl Tryd.func21 (by kernel_rfl) rfl #[.agg #[.bool a0_0,.string a0_1,.int .i64 a0_2]] rfl (by (try simp only [List.map_toArray,List.map_cons,List.map_nil]);first|done|rfl|(simp only [List.length_drop,List.length_take];rfl)) ?_;(with_reducible refine (spec_IsOrigin.calls k a0_0 a0_1 a0_2 false _ A3.out).mono ?_);rintro e w70 ⟨rfl,hb⟩;refine ⟨_,rfl,?_⟩;have n0_:=bb_ BK218 hb;have n1_:=bs_ HB hb;clear BK218;clear HB;have BK218:=n0_;have HB:=n1_;clear n0_ n1_;(try clear hb);(try clear hb2);(try clear hk);(try clear hi)))
  go_ret
  exact ⟨by first|rfl|(simp [errW_none,errW_some] <;> rfl)|(simp [*,errW_none,errW_some] <;> rfl),by repeat (first|(with_reducible first|exact HB.out|apply below_alloc|apply pw_below_drewN|apply below_drew1|refine below_set ?_ GE218.out)|exact HB.out)⟩

end Go.Proofs.YtogcoedmagoogaaDoor.PFnExactRelayAssertion
