/- Functions and contracts of a law's callees, written by a program of this session (a changed print): each contract says that the machine's call answers what the plain function says. Conditions: the plain function's own answer. -/
import Derived.Test.YtogcoedmagoogaaGreatDoorZPFnAssertionsx0
import Derived.Test.YtogcoedmagoogaaGreatDoorZPFnAssertionsx1
import Derived.Test.YtogcoedmagoogaaGreatDoorZPFnAssertionsx3
namespace Go.Proofs.YtogcoedmagoogaaGreatDoor.PFnAssertions
open Go.RowKit Go.Proofs.YtogcoedmagoogaaGreatDoorW.PrintWords Go.Proofs.YtogcoedmagoogaaGreatDoorW.PrintLast Go.Proofs.YtogcoedmagoogaaGreatDoorW.PrintMore
attribute [local go_sem] max2_int min2_int max_two min_two max_three min_three max_four min_four   -- for this text's walks alone
set_option linter.unusedVariables false
set_option linter.unusedSimpArgs false
abbrev Am4_ {p : Prop} (h : p) : Aside0 p := Aside0.mk h

namespace Y4
class Ex_ (w W:World):Prop where
 k:∀ {g:Nat} {o:Obj},w.heap[g]?=some o → W.heap[g]?=some o
 e:∀ {v:World},Below v.heap.size v w → Below v.heap.size v W
instance (priority:=low) Ex_.rf (w:World):Ex_ w w:=⟨fun h => h,fun h => h⟩
instance Ex_.dn {w W:World} [x:Ex_ w W] (n:Nat):Ex_ w (W.drewN n):=⟨fun h => blk_drewN (x.k h) n,fun h => pw_below_drewN (x.e h) n⟩
instance Ex_.dr {w W:World} [x:Ex_ w W]:Ex_ w W.drew:=⟨fun h => blk_drew (x.k h),fun h => below_drew1 (x.e h)⟩
instance Ex_.al {w W:World} [x:Ex_ w W] (o:Obj):Ex_ w (W.alloc o):=⟨fun h => blk_alloc (x.k h) o,fun h => below_alloc (x.e h) o⟩
theorem xk_ {w W:World} {g:Nat} {o:Obj} (h:Aside0 (w.heap[g]?=some o)) [x:Ex_ w W]:W.heap[g]?=some o:=x.k h.out
theorem ne1_ {w W:World} {g g':Nat} {o:Obj} (hg:g'=W.heap.size) (h:Aside0 (w.heap[g]?=some o)) [x:Ex_ w W]:Aside0 (g ≠ g'):=Am4_ (by rw [hg];exact Nat.ne_of_lt (blk_lt (x.k h.out)))
theorem ne2_ {w W:World} {g g':Nat} {o:Obj} (hg:g'=W.heap.size) (h:Aside0 (w.heap[g]?=some o)) [x:Ex_ w W]:Aside0 (g' ≠ g):=Am4_ (by rw [hg];exact Nat.ne_of_gt (blk_lt (x.k h.out)))
theorem gw_ {v w W:World} {g':Nat} (hg:g'=W.heap.size) (h:Aside0 (Below v.heap.size v w)) [x:Ex_ w W]:Aside0 (v.heap.size ≤ g'):=Am4_ (by rw [hg];exact below_size (x.e h.out))
theorem bb_ {w W W':World} {g:Nat} {o:Obj} (h:Aside0 (w.heap[g]?=some o)) (hb:Below W.heap.size W W') [x:Ex_ w W]:Aside0 (W'.heap[g]?=some o):=Am4_ (blk_below (x.k h.out) hb)
theorem bs_ {v w W W':World} (h:Aside0 (Below v.heap.size v w)) (hb:Below W.heap.size W W') [x:Ex_ w W]:Aside0 (Below v.heap.size v W'):=Am4_ (below_step (x.e h.out) hb)
theorem xe_ {v w W:World} (h:Aside0 (Below v.heap.size v w)) [x:Ex_ w W]:Below v.heap.size v W:=x.e h.out
end Y4
open Y4

namespace Y4
abbrev Sa_ := @List.setIfInBounds_toArray
abbrev Sb_ := @List.set_cons_zero
abbrev Sc_ := @List.set_cons_succ
theorem q_ {w W : World} {g : Nat} {t : TypeId} {cs : Array Value} (h : Aside0 (w.heap[g]? = some (.cells cs t (0, 0)))) (i : Nat) {v : Option Value} (e : cs[i]? = v) [x : Ex_ w W] : W.cell? ⟨g, i, none⟩ = v := (blk_cell (x.k h.out) i).trans e
end Y4
open Y4
/-! ### impl_DeriveKey: function 101 -/
def impl_DeriveKey.f (k:Nat) (a0:Int) (l1:List Int):Option (Int):=(impl_joined.f k (([151]:List Int)) (([l1]:List (List Int)))).bind fun t183 => ((impl_KeyedHash.f k a0 t183).bind fun t186 => ((impl_orOne.f t186).bind fun t187 => (some t187)))
theorem impl_DeriveKey.mono:∀ a0 a1 k,LeO (impl_DeriveKey.f k a0 a1) (impl_DeriveKey.f (k + 1) a0 a1):=by
 intro a0 a1 k
 unfold impl_DeriveKey.f
 repeat' first
  |(with_reducible exact impl_KeyedHash.mono _ _ _)
  |(with_reducible exact impl_joined.mono _ _ _)
  |(with_reducible exact LeO.refl _)
  |(with_reducible exact LeO.none _)
  |(with_reducible refine LeO.ite ?_ ?_)
  |(with_reducible refine LeO.bind ?_ (fun _ => ?_))
  |exact impl_KeyedHash.mono _ _ _
  |exact impl_joined.mono _ _ _
  |exact LeO.none _
  |refine LeO.ite ?_ ?_
  |refine LeO.bind ?_ (fun _ => ?_)
set_option maxHeartbeats 8000000 in
set_option maxRecDepth 100000 in
theorem impl_DeriveKey.calls (k:Nat) (a0:Int) (P1_:Nat → Prop) (A1:Option Addr) (c1:Nat) (l1:List Int) (r:Int) (w:World) (hs1:Kd.V (Kd.int .i64) 3 w w.heap.size (fun k_ => P1_ k_) (.slice A1 l1.length c1) l1) (h:impl_DeriveKey.f k a0 l1=some r) :
  Calls Tryz.prog 101 #[.int .i64 a0,.slice A1 l1.length c1] w fun e w' => e=.returned (.int .i64 r)∧Below w.heap.size w w':=by
 have HO1:=Am4_ (show Kd.V (Kd.int .i64) 3 w w.heap.size (fun k_ => (P1_ k_ ∨ w.heap.size ≤ k_)) (.slice A1 l1.length c1) l1 from Kd.V_mono hs1 (fun k_ hk => .inl hk));have HB:=Am4_ (Below.refl w.heap.size w);have H:=h;unfold impl_DeriveKey.f at H;clear h;obtain ⟨y177,hy177⟩:∃ y_:List Int,y_=(([151]:List Int)):=⟨_,rfl⟩;replace H:((impl_joined.f k y177 (([l1]:List (List Int)))).bind fun t183 => ((impl_KeyedHash.f k a0 t183).bind fun t186 => ((impl_orOne.f t186).bind fun t187 => (some t187))))=some r:=by first|(rw [hy177];with_reducible exact H)|(have H2_:=(Option.bind_some _ _).symm.trans H;rw [hy177];with_reducible exact H2_)|(have H2_:=(Option.bind_some _ _).symm.trans H;with_reducible exact H2_)|with_reducible exact H|(rw [hy177];exact H)|exact H
 have Ny177:=Am4_ hy177;clear hy177;obtain ⟨y180,hy180⟩:∃ y_:List (List Int),y_=(([l1]:List (List Int))):=⟨_,rfl⟩;replace H:((impl_joined.f k y177 y180).bind fun t183 => ((impl_KeyedHash.f k a0 t183).bind fun t186 => ((impl_orOne.f t186).bind fun t187 => (some t187))))=some r:=by first|(rw [hy180];with_reducible exact H)|(have H2_:=(Option.bind_some _ _).symm.trans H;rw [hy180];with_reducible exact H2_)|(have H2_:=(Option.bind_some _ _).symm.trans H;with_reducible exact H2_)|with_reducible exact H|(rw [hy180];exact H)|exact H
 have Ny180:=Am4_ hy180;clear hy180;replace H:=Option.bind_eq_some_iff.mp H;obtain ⟨t183,A30,H⟩:=H
 try dsimp only at H
 have A3:=Am4_ A30;clear A30;replace H:=Option.bind_eq_some_iff.mp H;obtain ⟨t186,A40,H⟩:=H
 try dsimp only at H
 have A4:=Am4_ A40;clear A40;replace H:=Option.bind_eq_some_iff.mp H;obtain ⟨t187,A50,H⟩:=H
 try dsimp only at H
 have A5:=Am4_ A50;clear A50;obtain rfl:=Option.some.inj H
 go_enter Tryz.func101,Tryz.ntmps101
 go_wp2_with (first|((with_reducible refine gate_dst (N:=6) rfl ?_);refine Kd.R_lit (Kd.int .i64) _ 3 ?hg (N:=6) ?hd (xs:=([151]:List Int)) (inner:=[.int .i64 151]) (ok:=fun _ => True) (okp:=fun _ => True) ?hr ?hp (fun _ hk => by first|exact hk|(revert hk;dsimp only;grind)|grind) trivial (Below.refl _ _) (Nat.le_refl _) (by simp) ?_;(case hd => rfl);(case hg => rfl);(case hr => first|(go_simp;done)|(go_simp;rfl));(case hp => exact (Reps.one (show Kd.M (Kd.int .i64) _ _ _ 151 [.int .i64 151] from rfl) (Reps.none _ _)));intro v178 w6 ho7 hb hg_ hnew_;clear hg_ hnew_;(first|rw [← Ny177.out] at ho7|(simp only [Int.reduceToNat] at ho7;rw [← Ny177.out] at ho7));have n0_:=Am4_ (Kd.V_elder' (by (with_reducible repeat (first|apply Kd.V_alloc|apply Kd.V_drewN|apply Kd.V_drew));exact HO1.out) (Kd.R_base ho7) hb);have n1_:=Am4_ (Kd.R_lower (Kd.R_newM (M:=fun k_ => (w.heap.size ≤ k_)) ho7 (below_size (by repeat (first|(with_reducible first|exact HB.out|apply below_alloc|apply pw_below_drewN|apply below_drew1)|exact HB.out))) (fun k_ h_ => h_)) (below_size (by repeat (first|(with_reducible first|exact HB.out|apply below_alloc|apply pw_below_drewN|apply below_drew1)|exact HB.out))));have n2_:=Am4_ (below_step (by repeat (first|(with_reducible first|exact HB.out|apply below_alloc|apply pw_below_drewN|apply below_drew1)|exact HB.out)) hb);clear HO1;clear HB;have HO1:=n0_;have HO179:=n1_;have HB:=n2_;clear n0_ n1_ n2_;clear hb ho7)|((with_reducible refine gate_dst (N:=8) rfl ?_);refine Kd.N_lit (Kd.slice 3 (Kd.int .i64)) _ 47 ?hg (N':=8) ?hd (xs:=([l1]:List (List Int))) (inner:=[.slice A1 l1.length c1]) (ok:=(fun k_ => (P1_ k_ ∨ w.heap.size ≤ k_)∧some k_ ≠ (v178:Value).ownBlock)) (okp:=(fun k_ => (P1_ k_ ∨ w.heap.size ≤ k_)∧some k_ ≠ (v178:Value).ownBlock)) ?hr ?hp (fun _ hk => by first|exact hk|(revert hk;dsimp only;grind)|grind) ((show ∀ k_,w6.heap.size ≤ k_ → (fun k_ => (P1_ k_ ∨ w.heap.size ≤ k_)∧some k_ ≠ (v178:Value).ownBlock) k_ from fun k_ hk => ⟨(.inr (Nat.le_trans (below_size (by repeat (first|(with_reducible first|exact HB.out|apply below_alloc|apply pw_below_drewN|apply below_drew1)|exact HB.out))) hk)),Kd.fresh' (Kd.R_lt (by (with_reducible repeat (first|apply Kd.R_alloc|apply Kd.R_drewN|apply Kd.R_drew));exact HO179.out)) k_ hk⟩) _ (Nat.le_refl _)) (Below.refl _ _) (Nat.le_refl _) (by simp) ?_;(case hd => rfl);(case hg => rfl);(case hr => first|(go_simp;done)|(go_simp;rfl));(case hp => exact (Reps.one (show Kd.FK (Kd.slice 3 (Kd.int .i64)) _ _ l1 [.slice A1 l1.length c1] from (Kd.FK_slice_mk (Kd.V_reads' (Kd.V_mono (ok':=(fun k_ => (P1_ k_ ∨ w.heap.size ≤ k_)∧some k_ ≠ (v178:Value).ownBlock)) (HO1.out) (fun k_ hk => by first|exact ⟨hk.1,hk.2⟩|(revert hk;dsimp only;grind)|grind))).2.1 (Kd.V_F (Kd.V_mono (ok':=(fun k_ => (P1_ k_ ∨ w.heap.size ≤ k_)∧some k_ ≠ (v178:Value).ownBlock)) (HO1.out) (fun k_ hk => by first|exact ⟨hk.1,hk.2⟩|(revert hk;dsimp only;grind)|grind))))) (Reps.none _ _)));intro v181 w8 ho9 hb hg_ hnew_;clear hg_ hnew_;(first|rw [← Ny180.out] at ho9|(simp only [Int.reduceToNat] at ho9;rw [← Ny180.out] at ho9));have n0_:=Am4_ (Kd.V_elder' (by (with_reducible repeat (first|apply Kd.V_alloc|apply Kd.V_drewN|apply Kd.V_drew));exact HO1.out) (Kd.N_base ho9) hb);have n1_:=Am4_ (Kd.R_below (by (with_reducible repeat (first|apply Kd.R_alloc|apply Kd.R_drewN|apply Kd.R_drew));exact HO179.out) hb);have n2_:=Am4_ (Kd.N_lower ho9 (below_size (by repeat (first|(with_reducible first|exact HB.out|apply below_alloc|apply pw_below_drewN|apply below_drew1)|exact HB.out))));have n3_:=Am4_ (below_step (by repeat (first|(with_reducible first|exact HB.out|apply below_alloc|apply pw_below_drewN|apply below_drew1)|exact HB.out)) hb);clear HO1;clear HO179;clear HB;have HO1:=n0_;have HO179:=n1_;have HO182:=n2_;have HB:=n3_;clear n0_ n1_ n2_ n3_;clear hb ho9;obtain ⟨Ao10,co10,eo10⟩:=Kd.R_slice HO179.out;subst eo10;obtain ⟨Ao11,co11,eo11⟩:=Kd.N_slice HO182.out;subst eo11)|((with_reducible refine gate_callee (f:=42) rfl ?_);refine goesL_ (some 9) rfl rfl Tryz.func42 (by kernel_rfl) rfl #[.slice Ao10 y177.length co10,.slice Ao11 y180.length co11] rfl (by (try simp only [List.map_toArray,List.map_cons,List.map_nil]);first|done|rfl|(simp only [List.length_drop,List.length_take];rfl)) ?_;(with_reducible refine (impl_joined.calls k _ _ y177 _ _ y180 t183 _ ?side1 ?side2 ?side3 ?side4 A3.out).mono ?_);(case side1 => repeat (first|exact (Kd.R_reads' HO179.out).2.2|(with_reducible refine Kd.C_alloc ?_ _)|(with_reducible refine Kd.C_drewN ?_ _)|(with_reducible refine Kd.C_drew ?_)));(case side2 => exact (Kd.R_reads' HO179.out).2.1);(case side3 => repeat (first|exact (Kd.N_reads' HO182.out).2.2|(with_reducible refine Kd.C_alloc ?_ _)|(with_reducible refine Kd.C_drewN ?_ _)|(with_reducible refine Kd.C_drew ?_)));(case side4 => exact (Kd.N_reads' HO182.out).2.1);rintro e w12 ⟨v184,rfl,ho0,hb⟩;refine ⟨_,rfl,?_⟩;have n0_:=Am4_ (Kd.V_elder' (by (with_reducible repeat (first|apply Kd.V_alloc|apply Kd.V_drewN|apply Kd.V_drew));exact HO1.out) (Kd.R_base ho0) hb);have n1_:=Am4_ (Kd.R_elder' (by (with_reducible repeat (first|apply Kd.R_alloc|apply Kd.R_drewN|apply Kd.R_drew));exact HO179.out) (Kd.R_base ho0) hb);have n2_:=Am4_ (Kd.N_elder' (by (with_reducible repeat (first|apply Kd.N_alloc|apply Kd.N_drewN|apply Kd.N_drew));exact HO182.out) (Kd.R_base ho0) hb);have n3_:=Am4_ (Kd.R_lower (Kd.R_new' (Kd.R_newM (M:=fun k_ => (w.heap.size ≤ k_)) ho0 (below_size (by repeat (first|(with_reducible first|exact HB.out|apply below_alloc|apply pw_below_drewN|apply below_drew1)|exact HB.out))) (fun k_ h_ => h_)) (Kd.R_lt (by (with_reducible repeat (first|apply Kd.R_alloc|apply Kd.R_drewN|apply Kd.R_drew));exact HO179.out))) (below_size (by repeat (first|(with_reducible first|exact HB.out|apply below_alloc|apply pw_below_drewN|apply below_drew1)|exact HB.out))));have n4_:=Am4_ (below_step (by repeat (first|(with_reducible first|exact HB.out|apply below_alloc|apply pw_below_drewN|apply below_drew1)|exact HB.out)) hb);clear HO1;clear HO179;clear HO182;clear HB;have HO1:=n0_;have HO179:=n1_;have HO182:=n2_;have HO185:=n3_;have HB:=n4_;clear n0_ n1_ n2_ n3_ n4_;(try clear hb);(try clear hb2);(try clear hk);(try clear hi);(try clear ho0);obtain ⟨Ao13,co13,eo13⟩:=Kd.R_slice HO185.out;subst eo13)|((with_reducible refine gate_callee (f:=80) rfl ?_);refine goesL_ (some 10) rfl rfl Tryz.func80 (by kernel_rfl) rfl #[.int .i64 a0,.slice Ao13 t183.length co13] rfl (by (try simp only [List.map_toArray,List.map_cons,List.map_nil]);first|done|rfl|(simp only [List.length_drop,List.length_take];rfl)) ?_;(with_reducible refine (impl_KeyedHash.calls k a0 (fun k_ => some k_=(.slice Ao13 t183.length co13:Value).ownBlock) _ _ t183 t186 _ ?side1 A4.out).mono ?_);(case side1 => exact Kd.R_V (Kd.R_tight rfl (Kd.R_apart' (HO185.out) (Kd.N_typed HO182.out) (by decide))));rintro e w14 ⟨rfl,hb⟩;refine ⟨_,rfl,?_⟩;have n0_:=Am4_ (Kd.V_below (by (with_reducible repeat (first|apply Kd.V_alloc|apply Kd.V_drewN|apply Kd.V_drew));exact HO1.out) hb);have n1_:=Am4_ (Kd.R_below (by (with_reducible repeat (first|apply Kd.R_alloc|apply Kd.R_drewN|apply Kd.R_drew));exact HO179.out) hb);have n2_:=Am4_ (Kd.N_below (by (with_reducible repeat (first|apply Kd.N_alloc|apply Kd.N_drewN|apply Kd.N_drew));exact HO182.out) hb);have n3_:=Am4_ (Kd.R_below (by (with_reducible repeat (first|apply Kd.R_alloc|apply Kd.R_drewN|apply Kd.R_drew));exact HO185.out) hb);have n4_:=Am4_ (below_step (by repeat (first|(with_reducible first|exact HB.out|apply below_alloc|apply pw_below_drewN|apply below_drew1)|exact HB.out)) hb);clear HO1;clear HO179;clear HO182;clear HO185;clear HB;have HO1:=n0_;have HO179:=n1_;have HO182:=n2_;have HO185:=n3_;have HB:=n4_;clear n0_ n1_ n2_ n3_ n4_;(try clear hb);(try clear hb2);(try clear hk);(try clear hi))|((with_reducible refine gate_callee (f:=79) rfl ?_);refine goesL_ (some 11) rfl rfl Tryz.func79 (by kernel_rfl) rfl #[.int .i64 t186] rfl (by (try simp only [List.map_toArray,List.map_cons,List.map_nil]);first|done|rfl|(simp only [List.length_drop,List.length_take];rfl)) ?_;(with_reducible refine (impl_orOne.calls t186 t187 _ A5.out).mono ?_);rintro e w' ⟨rfl,⟨nd,rfl⟩⟩;refine ⟨_,rfl,?_⟩))
 go_ret
 exact ⟨by first|rfl|(simp [errW_none,errW_some] <;> rfl)|(simp [*,errW_none,errW_some] <;> rfl),by repeat (first|(with_reducible first|exact HB.out|apply below_alloc|apply pw_below_drewN|apply below_drew1)|exact HB.out)⟩

/-! ### impl_SitePrivate: function 70 -/
def impl_SitePrivate.f (k:Nat) (a0_0:Int) (a0_1:Int) (a0_2:Int) (a0_3:Int) (a1:ByteArray) (a2:Int):Option (Int):=(impl_SiteHash.f k a1).bind fun t189 => ((impl_DeriveKey.f k a0_2 (([179,t189,a2]:List Int))).bind fun t193 => (some t193))
theorem impl_SitePrivate.mono:∀ a0 a1 a2 a3 a4 a5 k,LeO (impl_SitePrivate.f k a0 a1 a2 a3 a4 a5) (impl_SitePrivate.f (k + 1) a0 a1 a2 a3 a4 a5):=by
 intro a0 a1 a2 a3 a4 a5 k
 unfold impl_SitePrivate.f
 repeat' first
  |(with_reducible exact impl_DeriveKey.mono _ _ _)
  |(with_reducible exact impl_SiteHash.mono _ _)
  |(with_reducible exact LeO.refl _)
  |(with_reducible exact LeO.none _)
  |(with_reducible refine LeO.ite ?_ ?_)
  |(with_reducible refine LeO.bind ?_ (fun _ => ?_))
  |exact impl_DeriveKey.mono _ _ _
  |exact impl_SiteHash.mono _ _
  |exact LeO.none _
  |refine LeO.ite ?_ ?_
  |refine LeO.bind ?_ (fun _ => ?_)
def impl_SitePrivate.T1:Bool × List (List Nat × List Nat):=(true,[([],[]),([0],[0]),([],[]),([2],[2]),([],[]),([3,4],[3,4]),([1,5,3],[1,5]),([6,6,0,1,2,3,4,5,6],[6])])
def impl_SitePrivate.B1:List Nat:=[0,1,0,4,0,28,63,127]
theorem impl_SitePrivate.tab1:rtab .any (opsOf Tryz.f70 1)=impl_SitePrivate.T1:=by kernel_rfl
theorem impl_SitePrivate.bits1:waitsOk impl_SitePrivate.T1.2 impl_SitePrivate.B1=true:=by kernel_rfl
set_option maxHeartbeats 8000000 in
set_option maxRecDepth 100000 in
theorem impl_SitePrivate.calls (k:Nat) (a0_0:Int) (a0_1:Int) (a0_2:Int) (a0_3:Int) (a1:ByteArray) (a2:Int) (r:Int) (w:World) (h:impl_SitePrivate.f k a0_0 a0_1 a0_2 a0_3 a1 a2=some r) :
  Calls Tryz.prog 70 #[.agg #[.int .i64 a0_0,.int .i64 a0_1,.int .i64 a0_2,.int .i64 a0_3],.string a1,.int .i64 a2] w fun e w' => e=.returned (.int .i64 r)∧Below w.heap.size w w':=by
 have hu26:=Tryz.underlying26;have HB:=Am4_ (Below.refl w.heap.size w);have H:=h;unfold impl_SitePrivate.f at H;clear h;replace H:=Option.bind_eq_some_iff.mp H;obtain ⟨t189,A40,H⟩:=H
 try dsimp only at H
 have A4:=Am4_ A40;clear A40;obtain ⟨y190,hy190⟩:∃ y_:List Int,y_=(([179,t189,a2]:List Int)):=⟨_,rfl⟩;replace H:((impl_DeriveKey.f k a0_2 y190).bind fun t193 => (some t193))=some r:=by first|(rw [hy190];with_reducible exact H)|(have H2_:=(Option.bind_some _ _).symm.trans H;rw [hy190];with_reducible exact H2_)|(have H2_:=(Option.bind_some _ _).symm.trans H;with_reducible exact H2_)|with_reducible exact H|(rw [hy190];exact H)|exact H
 have Ny190:=Am4_ hy190;clear hy190;replace H:=Option.bind_eq_some_iff.mp H;obtain ⟨t193,A50,H⟩:=H
 try dsimp only at H
 have A5:=Am4_ A50;clear A50;obtain rfl:=Option.some.inj H
 go_enter Tryz.func70,Tryz.ntmps70
 try go_wp2_with (first|((with_reducible refine gate_dst (N:=3) rfl ?_);refine box_event ?hg (N:=3) ?hd (cs:=#[.int .i64 a0_0,.int .i64 a0_1,.int .i64 a0_2,.int .i64 a0_3]) (t:=26) ?hr ?_;(case hd => rfl);(case hg => rfl);(case hr => first|(go_simp;done)|(go_simp;rfl));intro gb188 hg w6 hbox hb;have n0_:=Am4_ (below_step (by repeat (first|(with_reducible first|exact HB.out|apply below_alloc|apply pw_below_drewN|apply below_drew1)|exact HB.out)) hb);have n1_:=Am4_ (hbox);have n2_:=Am4_ ((by rw [hg];exact (below_size (by repeat (first|(with_reducible first|exact HB.out|apply below_alloc|apply pw_below_drewN|apply below_drew1)|exact HB.out))):w.heap.size ≤ gb188));have n3_:=Am4_ ((by rw [hg];exact (below_size (by repeat (first|(with_reducible first|exact HB.out|apply below_alloc|apply pw_below_drewN|apply below_drew1)|exact HB.out))):w.heap.size ≤ gb188));clear HB;have HB:=n0_;have BK188:=n1_;have GW188:=n2_;have GE188:=n3_;clear n0_ n1_ n2_ n3_;clear hb hbox hg))
 replace BK188:=Am4_ (blk_drew BK188.out);replace HB:=Am4_ (below_drew1 HB.out);refine start_ (n:=8) (S:=fun w' => w'.cell? ⟨gb188,0,none⟩=some (.int .i64 a0_0)∧w'.cell? ⟨gb188,1,none⟩=some (.int .i64 a0_1)∧w'.cell? ⟨gb188,2,none⟩=some (.int .i64 a0_2)∧w'.cell? ⟨gb188,3,none⟩=some (.int .i64 a0_3)) (ds:=[]) #[false,false,false,false,false,false,false,false] (by kernel_rfl) rfl rfl ⟨q_ BK188 0 rfl,q_ BK188 1 rfl,q_ BK188 2 rfl,q_ BK188 3 rfl⟩ (fun hHeld => ?_);refine with_tabW impl_SitePrivate.tab1 impl_SitePrivate.bits1 (fun HT_ HW_ => ?_);generalize w6.drew=w7 at BK188 HB hHeld ⊢;refine pure_ (i:=0) (N:=some 7) (v:=?_) (a':=?_) #[true,false,false,false,false,false,false,false] rfl rfl (any_of HT_.out (by kernel_rfl)) (fun _ _ _ h => h) (Or.inl ⟨by rfl,?_⟩) ?_ ?_;rotate_left
 ·intro w'
  go_simp
  with_reducible rfl
 rotate_left
 ·simp only [Act.put,Sa_,Sb_,Sc_,i64_w,i32_w]
  rfl
 refine pure_ (i:=2) (N:=some 9) (v:=?_) (a':=?_) #[true,false,true,false,false,false,false,false] rfl rfl (any_of HT_.out (by kernel_rfl)) (fun _ _ _ h => h) (Or.inl ⟨by rfl,?_⟩) ?_ ?_;rotate_left
 ·intro w'
  go_simp
  with_reducible rfl
 rotate_left
 ·simp only [Act.put,Sa_,Sb_,Sc_,i64_w,i32_w]
  rfl
 refine pure_ (i:=4) (N:=some 11) (v:=?_) (a':=?_) #[true,false,true,false,true,false,false,false] rfl rfl (any_of HT_.out (by kernel_rfl)) (fun _ _ _ h => h) (Or.inl ⟨by rfl,?_⟩) ?_ ?_;rotate_left
 ·intro w'
  go_simp
  with_reducible rfl
 rotate_left
 ·simp only [Act.put,Sa_,Sb_,Sc_,i64_w,i32_w]
  rfl
 refine take_ (i:=1) (N:=some 8) (v:=?_) (a':=?_) #[true,true,true,false,true,false,false,false] rfl rfl (take_ofW HT_.out HW_.out (by kernel_rfl)) (fun _ _ _ h => h) (Or.inl ⟨by rfl,?_⟩) hHeld ?_ ?_;rotate_left
 ·rintro w' ⟨s0,s1,s2,s3⟩
  go_simp
  with_reducible rfl
 rotate_left
 ·simp only [Act.put,Sa_,Sb_,Sc_,i64_w,i32_w]
  rfl
 refine one_ (i:=3) (N:=some 10) #[true,true,true,true,true,false,false,false] rfl rfl (one_of HT_.out (by kernel_rfl)) (by decide) (fun K hK => ?_);refine goes_ Tryz.func36 (by kernel_rfl) rfl #[.string a1] (by rfl) rfl rfl (by (try simp only [List.map_toArray,List.map_cons,List.map_nil]);first|done|rfl|(simp only [List.length_drop,List.length_take];rfl)) ?_;with_reducible refine (impl_SiteHash.calls k a1 t189 _ A4.out).mono ?_;rintro e w8 ⟨rfl,hb⟩;refine ⟨_,rfl,?_⟩;replace BK188:=bb_ BK188 hb;replace HB:=Am4_ (below_step (by repeat (first|(with_reducible first|exact HB.out|apply below_alloc|apply pw_below_drewN|apply below_drew1|refine below_set ?_ GE188.out)|exact HB.out)) hb);(try clear hb);(try clear hb2);(try clear hk);(try clear hi);refine hK.out _ _ ⟨q_ BK188 0 rfl,q_ BK188 1 rfl,q_ BK188 2 rfl,q_ BK188 3 rfl⟩ (fun hHeld => ?_);clear hK K;refine norm_ (a':=?_) ?_ ?_;rotate_left
 ·show Act.put _ (some 10) _=_
  simp only [Act.put,Sa_,Sb_,Sc_,i64_w,i32_w]
  rfl
 refine one_ (i:=5) (N:=some 12) #[true,true,true,true,true,true,false,false] rfl rfl (one_of HT_.out (by kernel_rfl)) (by decide) (fun K hK => ?_);refine Kd.R_lit_step (Kd.int .i64) _ 3 ?hg (N:=12) ?hd (xs:=([179,t189,a2]:List Int)) (inner:=[.int .i64 179,.int .i64 t189,.int .i64 a2]) (ok:=fun _ => True) (okp:=fun _ => True) ?hr ?hp (fun _ hk => by first|exact hk|(revert hk;dsimp only;grind)|grind) trivial (Below.refl _ _) (Nat.le_refl _) (by simp) ?_;(case hd => rfl);(case hg => rfl);(case hr => first|(go_simp;done)|(go_simp;rfl));(case hp => exact (Reps.one (show Kd.M (Kd.int .i64) _ _ _ 179 [.int .i64 179] from rfl) (Reps.one (show Kd.M (Kd.int .i64) _ _ _ t189 [.int .i64 t189] from rfl) (Reps.one (show Kd.M (Kd.int .i64) _ _ _ a2 [.int .i64 a2] from rfl) (Reps.none _ _)))));intro v191 w9 ho10 hb hg_ hnew_;clear hg_ hnew_
 (first|rw [← Ny190.out] at ho10|(simp only [Int.reduceToNat] at ho10;rw [← Ny190.out] at ho10))
 have HO192:=Am4_ (Kd.R_lower ho10 (below_size (by repeat (first|(with_reducible first|exact HB.out|apply below_alloc|apply pw_below_drewN|apply below_drew1|refine below_set ?_ GE188.out)|exact HB.out))));replace BK188:=bb_ BK188 hb;replace HB:=Am4_ (below_step (by repeat (first|(with_reducible first|exact HB.out|apply below_alloc|apply pw_below_drewN|apply below_drew1|refine below_set ?_ GE188.out)|exact HB.out)) hb);clear hb ho10;obtain ⟨Ao11,co11,eo11⟩:=Kd.R_slice HO192.out
 (first|subst eo11|(injection eo11 with f1_ f2_ f3_;have f4_:=f1_.symm;have f5_:=f3_.symm;clear f1_ f2_ f3_;subst f4_;subst f5_))
 refine hK.out _ _ ⟨q_ BK188 0 rfl,q_ BK188 1 rfl,q_ BK188 2 rfl,q_ BK188 3 rfl⟩ (fun hHeld => ?_);clear hK K;refine norm_ (a':=?_) ?_ ?_;rotate_left
 ·show Act.put _ (some 12) _=_
  simp only [Act.put,Sa_,Sb_,Sc_,i64_w,i32_w]
  rfl
 refine one_ (i:=6) (N:=some 13) #[true,true,true,true,true,true,true,false] rfl rfl (one_of HT_.out (by kernel_rfl)) (by decide) (fun K hK => ?_);refine goes_ Tryz.func101 (by kernel_rfl) rfl #[.int .i64 a0_2,.slice Ao11 y190.length co11] (by rfl) rfl rfl (by (try simp only [List.map_toArray,List.map_cons,List.map_nil]);first|done|rfl|(simp only [List.length_drop,List.length_take];rfl)) ?_;with_reducible refine (impl_DeriveKey.calls k a0_2 (fun k_ => some k_=(.slice Ao11 y190.length co11:Value).ownBlock) _ _ y190 t193 _ ?side1 A5.out).mono ?_
 (case side1 => exact Kd.R_V (Kd.R_tight rfl (Kd.R_types (HO192.out) BK188.out (by decide))))
 rintro e w12 ⟨rfl,hb⟩;refine ⟨_,rfl,?_⟩;replace HO192:=Am4_ (Kd.R_below (by (with_reducible repeat (first|apply Kd.R_alloc|apply Kd.R_drewN|apply Kd.R_drew));exact HO192.out) hb);replace BK188:=bb_ BK188 hb;replace HB:=Am4_ (below_step (by repeat (first|(with_reducible first|exact HB.out|apply below_alloc|apply pw_below_drewN|apply below_drew1|refine below_set ?_ GE188.out)|exact HB.out)) hb);(try clear hb);(try clear hb2);(try clear hk);(try clear hi);refine hK.out _ _ ⟨q_ BK188 0 rfl,q_ BK188 1 rfl,q_ BK188 2 rfl,q_ BK188 3 rfl⟩ (fun hHeld => ?_);clear hK K;refine norm_ (a':=?_) ?_ ?_;rotate_left
 ·show Act.put _ (some 13) _=_
  simp only [Act.put,Sa_,Sb_,Sc_,i64_w,i32_w]
  rfl
 refine pure_ (i:=7) (N:=some 6) (v:=?_) (a':=?_) #[true,true,true,true,true,true,true,true] rfl rfl (any_of HT_.out (by kernel_rfl)) (fun _ _ _ h => h) (Or.inl ⟨by rfl,?_⟩) ?_ ?_;rotate_left
 ·intro w'
  go_simp
  with_reducible rfl
 rotate_left
 ·simp only [Act.put,Sa_,Sb_,Sc_,i64_w,i32_w]
  rfl
 refine done_ (done_of HT_.out (by kernel_rfl)) ?_
 try go_wp2
 go_ret
 exact ⟨by first|rfl|(simp [errW_none,errW_some] <;> rfl)|(simp [*,errW_none,errW_some] <;> rfl),by repeat (first|(with_reducible first|exact HB.out|apply below_alloc|apply pw_below_drewN|apply below_drew1|refine below_set ?_ GE188.out)|exact HB.out)⟩

/-! ### impl_SignWithStore: function 38 -/
def impl_SignWithStore.j0:Nat → ByteArray → Int → List Int → Bool → Int → Int → Int → Int → Option (Int × Int × Int × Int × Int × Bool)
|0,_,_,_,_,_,_,_,_ => none
|k + 1,x1,x2,x3,x18,x195000,x195001,x195002,x195003 => if x18=true then (some (x195000,x195001,x195002,x195003,0,false)) else ((impl_SitePrivate.f k x195000 x195001 x195002 (wrap64 (x195003 + 1)) x1 x2).bind fun t197 => ((impl_joined.f k x3 (([(([wrap64 (x195003 + 1)]:List Int))]:List (List Int)))).bind fun t204 => ((impl_SignMessage.f k t197 t204).bind fun t207 => (some (x195000,x195001,x195002,wrap64 (x195003 + 1),t207,true)))))
def impl_SignWithStore.f (k:Nat) (a0_0:Int) (a0_1:Int) (a0_2:Int) (a0_3:Int) (a1:ByteArray) (a2:Int) (l3:List Int):Option (Int × Int × Int × Int × Int × Bool):=(impl_IsValidStore.f a0_0 a0_1 a0_2 a0_3).bind fun t196 => (if t196=true then (impl_SignWithStore.j0 k a1 a2 l3 (a0_3 == 1000000) a0_0 a0_1 a0_2 a0_3) else (impl_SignWithStore.j0 k a1 a2 l3 true a0_0 a0_1 a0_2 a0_3))
theorem impl_SignWithStore.mono_l:∀ k,(∀ y0 y1 y2 y3 y4 y5 y6 y7,LeO (impl_SignWithStore.j0 k y0 y1 y2 y3 y4 y5 y6 y7) (impl_SignWithStore.j0 (k + 1) y0 y1 y2 y3 y4 y5 y6 y7))
|0 => fun _ _ _ _ _ _ _ _ r h => by simp [impl_SignWithStore.j0] at h
|k + 1 => by
  have ih0:=impl_SignWithStore.mono_l k
  ·intro y0 y1 y2 y3 y4 y5 y6 y7
   unfold impl_SignWithStore.j0
   repeat' first
  |(with_reducible exact ih0 _ _ _ _ _ _ _ _)
  |(with_reducible exact impl_SignMessage.mono _ _ _)
  |(with_reducible exact impl_SitePrivate.mono _ _ _ _ _ _ _)
  |(with_reducible exact impl_joined.mono _ _ _)
  |(with_reducible exact LeO.refl _)
  |(with_reducible exact LeO.none _)
  |(with_reducible refine LeO.ite ?_ ?_)
  |(with_reducible refine LeO.bind ?_ (fun _ => ?_))
  |exact ih0 _ _ _ _ _ _ _ _
  |exact impl_SignMessage.mono _ _ _
  |exact impl_SitePrivate.mono _ _ _ _ _ _ _
  |exact impl_joined.mono _ _ _
  |exact LeO.none _
  |refine LeO.ite ?_ ?_
  |refine LeO.bind ?_ (fun _ => ?_)
theorem impl_SignWithStore.mono:∀ a0 a1 a2 a3 a4 a5 a6 k,LeO (impl_SignWithStore.f k a0 a1 a2 a3 a4 a5 a6) (impl_SignWithStore.f (k + 1) a0 a1 a2 a3 a4 a5 a6):=by
 intro a0 a1 a2 a3 a4 a5 a6 k;have ih0:=impl_SignWithStore.mono_l k
 unfold impl_SignWithStore.f
 repeat' first
  |(with_reducible exact ih0 _ _ _ _ _ _ _ _)
  |(with_reducible exact impl_SignMessage.mono _ _ _)
  |(with_reducible exact impl_SitePrivate.mono _ _ _ _ _ _ _)
  |(with_reducible exact impl_joined.mono _ _ _)
  |(with_reducible exact LeO.refl _)
  |(with_reducible exact LeO.none _)
  |(with_reducible refine LeO.ite ?_ ?_)
  |(with_reducible refine LeO.bind ?_ (fun _ => ?_))
  |exact ih0 _ _ _ _ _ _ _ _
  |exact impl_SignMessage.mono _ _ _
  |exact impl_SitePrivate.mono _ _ _ _ _ _ _
  |exact impl_joined.mono _ _ _
  |exact LeO.none _
  |refine LeO.ite ?_ ?_
  |refine LeO.bind ?_ (fun _ => ?_)
def impl_SignWithStore.T4:Bool × List (List Nat × List Nat):=(true,[([],[]),([],[]),([],[]),([],[]),([1,2,3],[1,2,3]),([],[]),([],[]),([6],[6]),([7],[7]),([8],[8]),([5,9,4],[5,9]),([4,10,10],[4,10]),([0,11,0],[0]),([11,12,0,1,2,3,4,5,6,7,8,9,10,11,12],[11]),([13,0,1,2,3,4,5,6,7,8,9,10,11,12,13],[])])
def impl_SignWithStore.B4:List Nat:=[0,0,0,0,14,0,0,64,192,448,1022,2046,4095,8191,16383]
theorem impl_SignWithStore.tab4:rtab .any (opsOf Tryz.f38 4)=impl_SignWithStore.T4:=by kernel_rfl
theorem impl_SignWithStore.bits4:waitsOk impl_SignWithStore.T4.2 impl_SignWithStore.B4=true:=by kernel_rfl
set_option maxHeartbeats 8000000 in
set_option maxRecDepth 100000 in
theorem impl_SignWithStore.calls (k:Nat) (a0_0:Int) (a0_1:Int) (a0_2:Int) (a0_3:Int) (a1:ByteArray) (a2:Int) (A3:Option Addr) (c3:Nat) (l3:List Int) (r1:Int) (r2:Int) (r3:Int) (r4:Int) (r5:Int) (r6:Bool) (w:World) (hr3:Kd.C (Kd.int .i64) w A3 l3.length l3) (hc3:l3.length ≤ c3) (h:impl_SignWithStore.f k a0_0 a0_1 a0_2 a0_3 a1 a2 l3=some (r1,r2,r3,r4,r5,r6)) :
  Calls Tryz.prog 38 #[.agg #[.int .i64 a0_0,.int .i64 a0_1,.int .i64 a0_2,.int .i64 a0_3],.string a1,.int .i64 a2,.slice A3 l3.length c3] w fun e w' => e=.returned (.tuple #[.agg #[.int .i64 r1,.int .i64 r2,.int .i64 r3,.int .i64 r4],.int .i64 r5,.bool r6])∧Below w.heap.size w w':=by
 have hu26:=Tryz.underlying26;have HR3:=Am4_ hr3;have HC3:=Am4_ hc3;clear hr3 hc3;have HB:=Am4_ (Below.refl w.heap.size w);have H:=h;unfold impl_SignWithStore.f at H;clear h;have HC5:=Am4_ H;clear H
 go_enter Tryz.func38,Tryz.ntmps38
 go_upto_region 1 with (first|((with_reducible refine gate_dst (N:=4) rfl ?_);refine box_event ?hg (N:=4) ?hd (cs:=#[.int .i64 a0_0,.int .i64 a0_1,.int .i64 a0_2,.int .i64 a0_3]) (t:=26) ?hr ?_;(case hd => rfl);(case hg => rfl);(case hr => first|(go_simp;done)|(go_simp;rfl));intro gb194 hg w6 hbox hb;have n0_:=bs_ HB hb;have n1_:=Am4_ (hbox);have n2_:=gw_ hg HB;have n3_:=gw_ hg HB;clear HB;have HB:=n0_;have BK194:=n1_;have GW194:=n2_;have GE194:=n3_;clear n0_ n1_ n2_ n3_;clear hb hbox hg)|((with_reducible refine gate_dst (N:=8) rfl ?_);refine box_event ?hg (N:=8) ?hd (cs:=#[.int .i64 0,.int .i64 0,.int .i64 0,.int .i64 0]) (t:=26) ?hr ?_;(case hd => rfl);(case hg => rfl);(case hr => first|(go_simp;done)|(go_simp;rfl));intro gb195 hg w7 hbox hb;have n0_:=bb_ BK194 hb;have n1_:=Am4_ (below_step (by repeat (first|(with_reducible first|exact HB.out|apply below_alloc|apply pw_below_drewN|apply below_drew1|refine below_set ?_ GE194.out)|exact HB.out)) hb);have n2_:=Am4_ (hbox);have n3_:=Am4_ ((by rw [hg];exact (below_size (by repeat (first|(with_reducible first|exact HB.out|apply below_alloc|apply pw_below_drewN|apply below_drew1|refine below_set ?_ GE194.out)|exact HB.out))):w.heap.size ≤ gb195));have n4_:=Am4_ ((by rw [hg];exact (below_size (by repeat (first|(with_reducible first|exact HB.out|apply below_alloc|apply pw_below_drewN|apply below_drew1|refine below_set ?_ GE194.out)|exact HB.out))):w.heap.size ≤ gb195));have n5_:=ne1_ hg BK194;have n6_:=ne2_ hg BK194;clear BK194;clear HB;have BK194:=n0_;have HB:=n1_;have BK195:=n2_;have GW195:=n3_;have GE195:=n4_;have NB194_195:=n5_;have NB195_194:=n6_;clear n0_ n1_ n2_ n3_ n4_ n5_ n6_;clear hb hbox hg))
 (try simp only [Act.put,Sa_,Sb_,Sc_])
 go_cut [18] (fun v18 wc => ∃ (kq:Nat) (x18_4:Bool),v18=.bool x18_4∧Aside0 (impl_SignWithStore.j0 kq a1 a2 l3 x18_4 a0_0 a0_1 a0_2 a0_3=some (r1,r2,r3,r4,r5,r6))∧Aside0 (kq ≤ k)∧Aside0 (wc.heap[gb194]?=some (.cells #[.int .i64 a0_0,.int .i64 a0_1,.int .i64 a0_2,.int .i64 a0_3] 26 (0,0)))∧Aside0 (wc.heap[gb195]?=some (.cells #[.int .i64 0,.int .i64 0,.int .i64 0,.int .i64 0] 26 (0,0)))∧Aside0 (Below w.heap.size w wc))
 case first =>
  have H:=HC5.out;clear HC5;replace H:=Option.bind_eq_some_iff.mp H;obtain ⟨t196,A80,H⟩:=H
  try dsimp only at H
  have A8:=Am4_ A80;clear A80
  by_cases c9:t196=true
  ·subst c9
   rw [if_pos rfl] at H
   have H':=Am4_ H;clear H;have hnb10:=NB194_195.out;have hnc10:=NB195_194.out;have hcz11_0:w7.cell? ⟨gb194,0,none⟩=some (.int .i64 a0_0):=q_ BK194 0 rfl;have hcz11_1:w7.cell? ⟨gb194,1,none⟩=some (.int .i64 a0_1):=q_ BK194 1 rfl;have hcz11_2:w7.cell? ⟨gb194,2,none⟩=some (.int .i64 a0_2):=q_ BK194 2 rfl;have hcz11_3:w7.cell? ⟨gb194,3,none⟩=some (.int .i64 a0_3):=q_ BK194 3 rfl;have hfz11_0:=blk_frozen BK194.out 0;have hfz11_1:=blk_frozen BK194.out 1;have hfz11_2:=blk_frozen BK194.out 2;have hfz11_3:=blk_frozen BK194.out 3
   go_wp2_with (first|((with_reducible refine gate_callee (f:=68) rfl ?_);refine goesL_ (some 12) rfl rfl Tryz.func68 (by kernel_rfl) rfl #[.agg #[.int .i64 a0_0,.int .i64 a0_1,.int .i64 a0_2,.int .i64 a0_3]] rfl (by (try simp only [List.map_toArray,List.map_cons,List.map_nil]);first|done|rfl|(simp only [List.length_drop,List.length_take];rfl)) ?_;(with_reducible refine (impl_IsValidStore.calls a0_0 a0_1 a0_2 a0_3 true _ A8.out).mono ?_);rintro e w12 ⟨rfl,hb⟩;refine ⟨_,rfl,?_⟩;have n0_:=Am4_ (blk_below (g:=gb194) (o:=.cells #[.int .i64 a0_0,.int .i64 a0_1,.int .i64 a0_2,.int .i64 a0_3] 26 (0,0)) (by (with_reducible repeat (first|refine blk_drewN ?_ _|refine blk_drew ?_|refine blk_alloc ?_ _));exact BK194.out) hb);have n1_:=Am4_ (blk_below (g:=gb195) (o:=.cells #[.int .i64 0,.int .i64 0,.int .i64 0,.int .i64 0] 26 (0,0)) (by (with_reducible repeat (first|refine blk_drewN ?_ _|refine blk_drew ?_|refine blk_alloc ?_ _));exact BK195.out) hb);have n2_:=Am4_ (below_step (by repeat (first|(with_reducible first|exact HB.out|apply below_alloc|apply pw_below_drewN|apply below_drew1|refine below_set ?_ GE194.out|refine below_set ?_ GE195.out)|exact HB.out)) hb);clear BK194;clear BK195;clear HB;have BK194:=n0_;have BK195:=n1_;have HB:=n2_;clear n0_ n1_ n2_;(try clear hb);(try clear hb2);(try clear hk);(try clear hi);have hcz13_0:w12.cell? ⟨gb194,0,none⟩=some (.int .i64 a0_0):=q_ BK194 0 rfl;have hcz13_1:w12.cell? ⟨gb194,1,none⟩=some (.int .i64 a0_1):=q_ BK194 1 rfl;have hcz13_2:w12.cell? ⟨gb194,2,none⟩=some (.int .i64 a0_2):=q_ BK194 2 rfl;have hcz13_3:w12.cell? ⟨gb194,3,none⟩=some (.int .i64 a0_3):=q_ BK194 3 rfl;have hfz13_0:=blk_frozen BK194.out 0;have hfz13_1:=blk_frozen BK194.out 1;have hfz13_2:=blk_frozen BK194.out 2;have hfz13_3:=blk_frozen BK194.out 3))
   go_meet
   case rel => exact ⟨_,((a0_3 == 1000000)),(by first|rfl|(simp;done)|(simp [*];done)),H',⟨by first|omega|exact Nat.le_refl _⟩,⟨by (with_reducible repeat (first|refine blk_drewN ?_ _|refine blk_drew ?_|refine blk_alloc ?_ _));exact BK194.out⟩,⟨by (with_reducible repeat (first|refine blk_drewN ?_ _|refine blk_drew ?_|refine blk_alloc ?_ _));exact BK195.out⟩,⟨by repeat (first|(with_reducible first|exact HB.out|apply below_alloc|apply pw_below_drewN|apply below_drew1|refine below_set ?_ GE194.out|refine below_set ?_ GE195.out)|exact HB.out)⟩⟩
  ·replace c9:=Bool.eq_false_iff.mpr c9;subst c9
   rw [if_neg (show ¬ (false=true) by decide)] at H
   have H':=Am4_ H;clear H;have hnb14:=NB194_195.out;have hnc14:=NB195_194.out;have hcz15_0:w7.cell? ⟨gb194,0,none⟩=some (.int .i64 a0_0):=q_ BK194 0 rfl;have hcz15_1:w7.cell? ⟨gb194,1,none⟩=some (.int .i64 a0_1):=q_ BK194 1 rfl;have hcz15_2:w7.cell? ⟨gb194,2,none⟩=some (.int .i64 a0_2):=q_ BK194 2 rfl;have hcz15_3:w7.cell? ⟨gb194,3,none⟩=some (.int .i64 a0_3):=q_ BK194 3 rfl;have hfz15_0:=blk_frozen BK194.out 0;have hfz15_1:=blk_frozen BK194.out 1;have hfz15_2:=blk_frozen BK194.out 2;have hfz15_3:=blk_frozen BK194.out 3
   go_wp2_with (first|((with_reducible refine gate_callee (f:=68) rfl ?_);refine goesL_ (some 12) rfl rfl Tryz.func68 (by kernel_rfl) rfl #[.agg #[.int .i64 a0_0,.int .i64 a0_1,.int .i64 a0_2,.int .i64 a0_3]] rfl (by (try simp only [List.map_toArray,List.map_cons,List.map_nil]);first|done|rfl|(simp only [List.length_drop,List.length_take];rfl)) ?_;(with_reducible refine (impl_IsValidStore.calls a0_0 a0_1 a0_2 a0_3 false _ A8.out).mono ?_);rintro e w16 ⟨rfl,hb⟩;refine ⟨_,rfl,?_⟩;have n0_:=Am4_ (blk_below (g:=gb194) (o:=.cells #[.int .i64 a0_0,.int .i64 a0_1,.int .i64 a0_2,.int .i64 a0_3] 26 (0,0)) (by (with_reducible repeat (first|refine blk_drewN ?_ _|refine blk_drew ?_|refine blk_alloc ?_ _));exact BK194.out) hb);have n1_:=Am4_ (blk_below (g:=gb195) (o:=.cells #[.int .i64 0,.int .i64 0,.int .i64 0,.int .i64 0] 26 (0,0)) (by (with_reducible repeat (first|refine blk_drewN ?_ _|refine blk_drew ?_|refine blk_alloc ?_ _));exact BK195.out) hb);have n2_:=Am4_ (below_step (by repeat (first|(with_reducible first|exact HB.out|apply below_alloc|apply pw_below_drewN|apply below_drew1|refine below_set ?_ GE194.out|refine below_set ?_ GE195.out)|exact HB.out)) hb);clear BK194;clear BK195;clear HB;have BK194:=n0_;have BK195:=n1_;have HB:=n2_;clear n0_ n1_ n2_;(try clear hb);(try clear hb2);(try clear hk);(try clear hi)))
   go_meet
   case rel => exact ⟨_,(true),(by first|rfl|(simp;done)|(simp [*];done)),H',⟨by first|omega|exact Nat.le_refl _⟩,⟨by (with_reducible repeat (first|refine blk_drewN ?_ _|refine blk_drew ?_|refine blk_alloc ?_ _));exact BK194.out⟩,⟨by (with_reducible repeat (first|refine blk_drewN ?_ _|refine blk_drew ?_|refine blk_alloc ?_ _));exact BK195.out⟩,⟨by repeat (first|(with_reducible first|exact HB.out|apply below_alloc|apply pw_below_drewN|apply below_drew1|refine below_set ?_ GE194.out|refine below_set ?_ GE195.out)|exact HB.out)⟩⟩
 case rest =>
  clear HC5
  try clear c1
  try clear p2
  try clear c3
  try clear c6
  try clear c9
  try clear c10
  try clear c14
  try clear hcz11_0
  try clear hcz11_1
  try clear hcz11_2
  try clear hcz11_3
  try clear hcz13_0
  try clear hcz13_1
  try clear hcz13_2
  try clear hcz13_3
  try clear hcz15_0
  try clear hcz15_1
  try clear hcz15_2
  try clear hcz15_3
  try clear hfz11_0
  try clear hfz11_1
  try clear hfz11_2
  try clear hfz11_3
  try clear hfz13_0
  try clear hfz13_1
  try clear hfz13_2
  try clear hfz13_3
  try clear hfz15_0
  try clear hfz15_1
  try clear hfz15_2
  try clear hfz15_3
  obtain ⟨kq,x18_4,rfl,HA,HJ4,BK194,BK195,HB⟩:=hcut
  cases kq with
 |zero => exact absurd HA.out (by simp [impl_SignWithStore.j0])
 |succ kj4 =>
   have H:=HA.out;clear HA;simp only [impl_SignWithStore.j0] at H
   by_cases c17:x18_4=true
   ·subst c17
    rw [if_pos rfl] at H
    simp only [Option.some.injEq,Prod.mk.injEq] at H
    obtain ⟨rfl,rfl,rfl,rfl,rfl,rfl⟩:=H;have hnb18:=NB194_195.out;have hnc18:=NB195_194.out;have hcz19_0:wc.cell? ⟨gb194,0,none⟩=some (.int .i64 a0_0):=q_ BK194 0 rfl;have hcz19_1:wc.cell? ⟨gb194,1,none⟩=some (.int .i64 a0_1):=q_ BK194 1 rfl;have hcz19_2:wc.cell? ⟨gb194,2,none⟩=some (.int .i64 a0_2):=q_ BK194 2 rfl;have hcz19_3:wc.cell? ⟨gb194,3,none⟩=some (.int .i64 a0_3):=q_ BK194 3 rfl;have hfz19_0:=blk_frozen BK194.out 0;have hfz19_1:=blk_frozen BK194.out 1;have hfz19_2:=blk_frozen BK194.out 2;have hfz19_3:=blk_frozen BK194.out 3;have hcz20_0:wc.cell? ⟨gb195,0,none⟩=some (.int .i64 0):=q_ BK195 0 rfl;have hcz20_1:wc.cell? ⟨gb195,1,none⟩=some (.int .i64 0):=q_ BK195 1 rfl;have hcz20_2:wc.cell? ⟨gb195,2,none⟩=some (.int .i64 0):=q_ BK195 2 rfl;have hcz20_3:wc.cell? ⟨gb195,3,none⟩=some (.int .i64 0):=q_ BK195 3 rfl;have hfz20_0:=blk_frozen BK195.out 0;have hfz20_1:=blk_frozen BK195.out 1;have hfz20_2:=blk_frozen BK195.out 2;have hfz20_3:=blk_frozen BK195.out 3
    go_wp2
    refine bodyPost_ret (results_ctt rfl _ _ gb195 26 #[.int .i64 a0_0,.int .i64 a0_1,.int .i64 a0_2,.int .i64 a0_3] (0,0) _ rfl (by (with_reducible repeat (first|refine blk_drewN ?_ _|refine blk_drew ?_|refine blk_alloc ?_ _));refine blk_put (cs:=#[.int .i64 a0_0,.int .i64 a0_1,.int .i64 a0_2,.int .i64 0]) ?_ 3 _ rfl;(with_reducible repeat (first|refine blk_drewN ?_ _|refine blk_drew ?_|refine blk_alloc ?_ _));refine blk_put (cs:=#[.int .i64 a0_0,.int .i64 a0_1,.int .i64 0,.int .i64 0]) ?_ 2 _ rfl;(with_reducible repeat (first|refine blk_drewN ?_ _|refine blk_drew ?_|refine blk_alloc ?_ _));refine blk_put (cs:=#[.int .i64 a0_0,.int .i64 0,.int .i64 0,.int .i64 0]) ?_ 1 _ rfl;(with_reducible repeat (first|refine blk_drewN ?_ _|refine blk_drew ?_|refine blk_alloc ?_ _));refine blk_put (cs:=#[.int .i64 0,.int .i64 0,.int .i64 0,.int .i64 0]) ?_ 0 _ rfl;(with_reducible repeat (first|refine blk_drewN ?_ _|refine blk_drew ?_|refine blk_alloc ?_ _));exact BK195.out) Tryz.underlying26 rfl (by kernel_rfl)) rfl ?_;exact ⟨by first|rfl|(simp [errW_none,errW_some] <;> rfl)|(simp [*,errW_none,errW_some] <;> rfl),by repeat (first|(with_reducible first|exact HB.out|apply below_alloc|apply pw_below_drewN|apply below_drew1|refine below_set ?_ GE194.out|refine below_set ?_ GE195.out)|exact HB.out)⟩
   ·replace c17:=Bool.eq_false_iff.mpr c17;subst c17
    rw [if_neg (show ¬ (false=true) by decide)] at H
    replace H:=Option.bind_eq_some_iff.mp H;obtain ⟨t197,A210,H⟩:=H
    try dsimp only at H
    have A21:=Am4_ A210;clear A210;obtain ⟨y198,hy198⟩:∃ y_:List Int,y_=(([wrap64 (a0_3 + 1)]:List Int)):=⟨_,rfl⟩;replace H:((impl_joined.f kj4 l3 (([y198]:List (List Int)))).bind fun t204 => ((impl_SignMessage.f kj4 t197 t204).bind fun t207 => (some (a0_0,a0_1,a0_2,wrap64 (a0_3 + 1),t207,true))))=some (r1,r2,r3,r4,r5,r6):=by first|(rw [hy198];with_reducible exact H)|(have H2_:=(Option.bind_some _ _).symm.trans H;rw [hy198];with_reducible exact H2_)|(have H2_:=(Option.bind_some _ _).symm.trans H;with_reducible exact H2_)|with_reducible exact H|(rw [hy198];exact H)|exact H
    have Ny198:=Am4_ hy198;clear hy198;obtain ⟨y201,hy201⟩:∃ y_:List (List Int),y_=(([y198]:List (List Int))):=⟨_,rfl⟩;replace H:((impl_joined.f kj4 l3 y201).bind fun t204 => ((impl_SignMessage.f kj4 t197 t204).bind fun t207 => (some (a0_0,a0_1,a0_2,wrap64 (a0_3 + 1),t207,true))))=some (r1,r2,r3,r4,r5,r6):=by first|(rw [hy201];with_reducible exact H)|(have H2_:=(Option.bind_some _ _).symm.trans H;rw [hy201];with_reducible exact H2_)|(have H2_:=(Option.bind_some _ _).symm.trans H;with_reducible exact H2_)|with_reducible exact H|(rw [hy201];exact H)|exact H
    have Ny201:=Am4_ hy201;clear hy201;replace H:=Option.bind_eq_some_iff.mp H;obtain ⟨t204,A220,H⟩:=H
    try dsimp only at H
    have A22:=Am4_ A220;clear A220;replace H:=Option.bind_eq_some_iff.mp H;obtain ⟨t207,A230,H⟩:=H
    try dsimp only at H
    have A23:=Am4_ A230;clear A230;simp only [Option.some.injEq,Prod.mk.injEq] at H;obtain ⟨rfl,rfl,rfl,rfl,rfl,rfl⟩:=H;have hnb24:=NB194_195.out;have hnc24:=NB195_194.out;have hcz25_0:wc.cell? ⟨gb194,0,none⟩=some (.int .i64 a0_0):=q_ BK194 0 rfl;have hcz25_1:wc.cell? ⟨gb194,1,none⟩=some (.int .i64 a0_1):=q_ BK194 1 rfl;have hcz25_2:wc.cell? ⟨gb194,2,none⟩=some (.int .i64 a0_2):=q_ BK194 2 rfl;have hcz25_3:wc.cell? ⟨gb194,3,none⟩=some (.int .i64 a0_3):=q_ BK194 3 rfl;have hfz25_0:=blk_frozen BK194.out 0;have hfz25_1:=blk_frozen BK194.out 1;have hfz25_2:=blk_frozen BK194.out 2;have hfz25_3:=blk_frozen BK194.out 3
    try go_wp2
    have n0_:Aside0 ((wc.setCell ⟨gb194,3,none⟩ (.int .i64 (wrap64 (a0_3 + 1)))).heap[gb194]?=some (.cells #[.int .i64 a0_0,.int .i64 a0_1,.int .i64 a0_2,.int .i64 (wrap64 (a0_3 + 1))] 26 (0,0))):=⟨by (with_reducible repeat (first|refine blk_drewN ?_ _|refine blk_drew ?_|refine blk_alloc ?_ _));refine blk_put (cs:=#[.int .i64 a0_0,.int .i64 a0_1,.int .i64 a0_2,.int .i64 a0_3]) ?_ 3 _ rfl;(with_reducible repeat (first|refine blk_drewN ?_ _|refine blk_drew ?_|refine blk_alloc ?_ _));exact BK194.out⟩;have n1_:Aside0 ((wc.setCell ⟨gb194,3,none⟩ (.int .i64 (wrap64 (a0_3 + 1)))).heap[gb195]?=some (.cells #[.int .i64 0,.int .i64 0,.int .i64 0,.int .i64 0] 26 (0,0))):=⟨by (with_reducible repeat (first|refine blk_drewN ?_ _|refine blk_drew ?_|refine blk_alloc ?_ _));refine blk_far ?_ NB195_194.out _;(with_reducible repeat (first|refine blk_drewN ?_ _|refine blk_drew ?_|refine blk_alloc ?_ _));exact BK195.out⟩;have n2_:Aside0 (Below w.heap.size w (wc.setCell ⟨gb194,3,none⟩ (.int .i64 (wrap64 (a0_3 + 1))))):=⟨by repeat (first|(with_reducible first|exact HB.out|apply below_alloc|apply pw_below_drewN|apply below_drew1|refine below_set ?_ GE194.out|refine below_set ?_ GE195.out)|exact HB.out)⟩;(try clear BK194);(try clear BK195);(try clear HB);generalize (wc.setCell ⟨gb194,3,none⟩ (.int .i64 (wrap64 (a0_3 + 1))))=w26 at n0_ n1_ n2_ ⊢;have BK194:=n0_;have BK195:=n1_;have HB:=n2_;clear n0_ n1_ n2_;replace BK194:=Am4_ (blk_drew BK194.out);replace BK195:=Am4_ (blk_drew BK195.out);replace HB:=Am4_ (below_drew1 HB.out);refine start_ (n:=15) (S:=fun w' => True) (ds:=[]) #[false,false,false,false,false,false,false,false,false,false,false,false,false,false,false] (by kernel_rfl) rfl rfl trivial (fun hHeld => ?_);refine with_tabW impl_SignWithStore.tab4 impl_SignWithStore.bits4 (fun HT_ HW_ => ?_);generalize w26.drew=w27 at BK194 BK195 HB hHeld ⊢;refine pure_ (i:=2) (N:=some 26) (v:=?_) (a':=?_) #[false,false,true,false,false,false,false,false,false,false,false,false,false,false,false] rfl rfl (any_of HT_.out (by kernel_rfl)) (fun _ _ _ h => h) (Or.inl ⟨by rfl,?_⟩) ?_ ?_;rotate_left
    ·intro w'
     go_simp
     with_reducible rfl
    rotate_left
    ·simp only [Act.put,Sa_,Sb_,Sc_,i64_w,i32_w]
     rfl
    refine pure_ (i:=3) (N:=some 27) (v:=?_) (a':=?_) #[false,false,true,true,false,false,false,false,false,false,false,false,false,false,false] rfl rfl (any_of HT_.out (by kernel_rfl)) (fun _ _ _ h => h) (Or.inl ⟨by rfl,?_⟩) ?_ ?_;rotate_left
    ·intro w'
     go_simp
     with_reducible rfl
    rotate_left
    ·simp only [Act.put,Sa_,Sb_,Sc_,i64_w,i32_w]
     rfl
    refine pure_ (i:=5) (N:=some 29) (v:=?_) (a':=?_) #[false,false,true,true,false,true,false,false,false,false,false,false,false,false,false] rfl rfl (any_of HT_.out (by kernel_rfl)) (fun _ _ _ h => h) (Or.inl ⟨by rfl,?_⟩) ?_ ?_;rotate_left
    ·intro w'
     go_simp
     with_reducible rfl
    rotate_left
    ·simp only [Act.put,Sa_,Sb_,Sc_,i64_w,i32_w]
     rfl
    refine pure_ (i:=6) (N:=some 30) (v:=?_) (a':=?_) #[false,false,true,true,false,true,true,false,false,false,false,false,false,false,false] rfl rfl (any_of HT_.out (by kernel_rfl)) (fun _ _ _ h => h) (Or.inl ⟨by rfl,?_⟩) ?_ ?_;rotate_left
    ·intro w'
     go_simp
     with_reducible rfl
    rotate_left
    ·simp only [Act.put,Sa_,Sb_,Sc_,i64_w,i32_w]
     rfl
    refine inv_at [0,1,4,7,8,9,10,11,12,13,14] (fun a0_ b a w' => ∃ (v199:Value) (v202:Value) (v205:Value),a=putSel a0_ b [(0,24,.agg #[.int .i64 a0_0,.int .i64 a0_1,.int .i64 a0_2,.int .i64 (wrap64 (a0_3 + 1))]),(1,25,.agg #[.int .i64 a0_0,.int .i64 a0_1,.int .i64 a0_2,.int .i64 (wrap64 (a0_3 + 1))]),(4,28,.int .i64 t197),(7,31,.int .i64 (wrap64 (a0_3 + 1))),(8,32,v199),(9,33,v202),(10,34,v205),(11,35,.int .i64 t207),(13,9,.int .i64 t207),(14,10,.bool true)]∧(w'.heap[gb194]?=some (.cells #[.int .i64 a0_0,.int .i64 a0_1,.int .i64 a0_2,.int .i64 (wrap64 (a0_3 + 1))] 26 (0,0)))∧(b 12=false → w'.heap[gb195]?=some (.cells #[.int .i64 0,.int .i64 0,.int .i64 0,.int .i64 0] 26 (0,0)))∧(Below w.heap.size w w')∧(b 8=true → b 9=false → Kd.R (Kd.int .i64) 3 w' w.heap.size (fun _ => True) v199 y198)∧(b 9=true → Kd.N (Kd.slice 3 (Kd.int .i64)) 47 w' w.heap.size (fun k_ => k_ ≠ gb194∧k_ ≠ gb195) v202 y201)∧(b 10=true → Kd.R (Kd.int .i64) 3 w' w.heap.size (fun _ => True) v205 t204)∧(b 12=true → w'.heap[gb195]?=some (.cells #[.int .i64 a0_0,.int .i64 a0_1,.int .i64 a0_2,.int .i64 (wrap64 (a0_3 + 1))] 26 (0,0)))) HT_.out HW_.out (by kernel_rfl) (by kernel_rfl) ?_ ?_ ?_
    ·exact ⟨.bool false,.bool false,.bool false,by simp only [putSel,Bool.false_eq_true,if_false],BK194.out,fun _ => BK195.out,HB.out,fun h_ => absurd h_ (by decide),fun h_ => absurd h_ (by decide),fun h_ => absurd h_ (by decide),fun h_ => absurd h_ (by decide)⟩
    ·skip
     clear BK194 BK195 HB;refine steps_cons ?_ ?_
     ·rintro b a w' ⟨v199,v202,v205,ha,Q_BK194,Q_BK195,Q_HB,Q_HO200,Q_HO203,Q_HO206,Q_BK195_e12⟩ hb_ hon hoff;refine ⟨_,rfl,fun K hK => ?_⟩;have e4:a.tmps[4]?=some (.pointer (some ⟨gb194,0,none⟩)):=by rw [ha];exact (putSel_off rfl).trans rfl
      replace ha:=Am4_ ha;have BK194:=Am4_ Q_BK194;have BK195:=Am4_ (Q_BK195 (hoff 12 (by kernel_rfl)));have HB:=Am4_ Q_HB;have hc0_:w'.cell? ⟨gb194,0,none⟩=some (.int .i64 a0_0):=q_ BK194 0 rfl;have hc1_:w'.cell? ⟨gb194,1,none⟩=some (.int .i64 a0_1):=q_ BK194 1 rfl;have hc2_:w'.cell? ⟨gb194,2,none⟩=some (.int .i64 a0_2):=q_ BK194 2 rfl;have hc3_:w'.cell? ⟨gb194,3,none⟩=some (.int .i64 (wrap64 (a0_3 + 1))):=q_ BK194 3 rfl;refine value_ (w1:=w') (v:=.agg #[.int .i64 a0_0,.int .i64 a0_1,.int .i64 a0_2,.int .i64 (wrap64 (a0_3 + 1))]) (by rfl) rfl ?_ ?_
      ·go_simp
       (try simp only [i64_w])
       try rfl
      refine hK.out _ _ ⟨v199,v202,v205,(by rw [ha.out];exact putSel_upk 0 hb_ rfl rfl rfl),Q_BK194,Q_BK195,Q_HB,Q_HO200,Q_HO203,Q_HO206,fun h0_ => absurd ((hoff 12 (by kernel_rfl)).symm.trans h0_) (by decide)⟩
     refine steps_cons ?_ ?_
     ·rintro b a w' ⟨v199,v202,v205,ha,Q_BK194,Q_BK195,Q_HB,Q_HO200,Q_HO203,Q_HO206,Q_BK195_e12⟩ hb_ hon hoff;refine ⟨_,rfl,fun K hK => ?_⟩;have e4:a.tmps[4]?=some (.pointer (some ⟨gb194,0,none⟩)):=by rw [ha];exact (putSel_off rfl).trans rfl
      replace ha:=Am4_ ha;have BK194:=Am4_ Q_BK194;have BK195:=Am4_ (Q_BK195 (hoff 12 (by kernel_rfl)));have HB:=Am4_ Q_HB;have hc0_:w'.cell? ⟨gb194,0,none⟩=some (.int .i64 a0_0):=q_ BK194 0 rfl;have hc1_:w'.cell? ⟨gb194,1,none⟩=some (.int .i64 a0_1):=q_ BK194 1 rfl;have hc2_:w'.cell? ⟨gb194,2,none⟩=some (.int .i64 a0_2):=q_ BK194 2 rfl;have hc3_:w'.cell? ⟨gb194,3,none⟩=some (.int .i64 (wrap64 (a0_3 + 1))):=q_ BK194 3 rfl;refine value_ (w1:=w') (v:=.agg #[.int .i64 a0_0,.int .i64 a0_1,.int .i64 a0_2,.int .i64 (wrap64 (a0_3 + 1))]) (by rfl) rfl ?_ ?_
      ·go_simp
       (try simp only [i64_w])
       try rfl
      refine hK.out _ _ ⟨v199,v202,v205,(by rw [ha.out];exact putSel_upk 1 hb_ rfl rfl rfl),Q_BK194,Q_BK195,Q_HB,Q_HO200,Q_HO203,fun h0_ => absurd ((hoff 10 (by kernel_rfl)).symm.trans h0_) (by decide),fun h0_ => absurd ((hoff 12 (by kernel_rfl)).symm.trans h0_) (by decide)⟩
     refine steps_cons ?_ ?_
     ·rintro b a w' ⟨v199,v202,v205,ha,Q_BK194,Q_BK195,Q_HB,Q_HO200,Q_HO203,Q_HO206,Q_BK195_e12⟩ hb_ hon hoff;refine ⟨_,rfl,fun K hK => ?_⟩;have e25:a.tmps[25]?=some (.agg #[.int .i64 a0_0,.int .i64 a0_1,.int .i64 a0_2,.int .i64 (wrap64 (a0_3 + 1))]):=by rw [ha];exact putSel_on (e:=(1,25,.agg #[.int .i64 a0_0,.int .i64 a0_1,.int .i64 a0_2,.int .i64 (wrap64 (a0_3 + 1))])) 1 rfl rfl (hon 1 (by kernel_rfl)) rfl
      have e26:a.tmps[26]?=some (.string a1):=by rw [ha];exact (putSel_off rfl).trans rfl
      have e27:a.tmps[27]?=some (.int .i64 a2):=by rw [ha];exact (putSel_off rfl).trans rfl
      replace ha:=Am4_ ha;have BK194:=Am4_ Q_BK194;have BK195:=Am4_ (Q_BK195 (hoff 12 (by kernel_rfl)));have HB:=Am4_ Q_HB;refine goes_ Tryz.func70 (by kernel_rfl) rfl #[.agg #[.int .i64 a0_0,.int .i64 a0_1,.int .i64 a0_2,.int .i64 (wrap64 (a0_3 + 1))],.string a1,.int .i64 a2] (by rfl) rfl rfl (by simp only [List.map_toArray,List.map_cons,List.map_nil,Act.eval,Array.getD_eq_getD_getElem?,Option.getD_some,e25,e26,e27] <;> rfl) ?_;with_reducible refine (impl_SitePrivate.calls kj4 a0_0 a0_1 a0_2 (wrap64 (a0_3 + 1)) a1 a2 t197 _ A21.out).mono ?_;rintro e w28 ⟨rfl,hb⟩;refine ⟨_,rfl,?_⟩;have n0_:=bb_ BK194 hb;have n1_:=bb_ BK195 hb;have n2_:=Am4_ (below_step (by repeat (first|(with_reducible first|exact HB.out|apply below_alloc|apply pw_below_drewN|apply below_drew1|refine below_set ?_ GE194.out|refine below_set ?_ GE195.out)|exact HB.out)) hb);have z_HO200:=fun (h0_:b 8=true) (h1_:b 9=false) => (show Kd.R (Kd.int .i64) 3 w28 w.heap.size (fun _ => True) v199 y198 from by first|exact (Kd.R_below (by (with_reducible repeat (first|apply Kd.R_alloc|apply Kd.R_drewN|apply Kd.R_drew));exact (Q_HO200 h0_ h1_)) hb)|exact Kd.R_mono (Kd.R_below (by (with_reducible repeat (first|apply Kd.R_alloc|apply Kd.R_drewN|apply Kd.R_drew));exact (Q_HO200 h0_ h1_)) hb) (fun _ h_ => by first|trivial|exact h_|exact h_.1))
      have z_HO203:=fun (h0_:b 9=true) => (show Kd.N (Kd.slice 3 (Kd.int .i64)) 47 w28 w.heap.size (fun k_ => k_ ≠ gb194∧k_ ≠ gb195) v202 y201 from by first|exact (Kd.N_below (by (with_reducible repeat (first|apply Kd.N_alloc|apply Kd.N_drewN|apply Kd.N_drew));exact (Q_HO203 h0_)) hb)|exact Kd.N_mono (Kd.N_below (by (with_reducible repeat (first|apply Kd.N_alloc|apply Kd.N_drewN|apply Kd.N_drew));exact (Q_HO203 h0_)) hb) (fun _ h_ => by first|trivial|exact h_|exact h_.1))
      clear BK194;clear BK195;clear HB;have BK194:=n0_;have BK195:=n1_;have HB:=n2_;clear n0_ n1_ n2_;(try clear hb);(try clear hb2);(try clear hk);(try clear hi);refine hK.out _ _ ⟨v199,v202,v205,(by rw [ha.out];exact putSel_upk 2 hb_ rfl rfl rfl),(xk_ BK194),fun _ => (xk_ BK195),(by repeat (first|(with_reducible first|exact HB.out|apply below_alloc|apply pw_below_drewN|apply below_drew1|refine below_set ?_ GE194.out|refine below_set ?_ GE195.out)|exact HB.out)),z_HO200,z_HO203,fun h0_ => absurd ((hoff 10 (by kernel_rfl)).symm.trans h0_) (by decide),fun h0_ => absurd ((hoff 12 (by kernel_rfl)).symm.trans h0_) (by decide)⟩
     refine steps_cons ?_ ?_
     ·rintro b a w' ⟨v199,v202,v205,ha,Q_BK194,Q_BK195,Q_HB,Q_HO200,Q_HO203,Q_HO206,Q_BK195_e12⟩ hb_ hon hoff;refine ⟨_,rfl,fun K hK => ?_⟩;have e30:a.tmps[30]?=some (.pointer (some ⟨gb194,3,none⟩)):=by rw [ha];exact (putSel_off rfl).trans rfl
      replace ha:=Am4_ ha;have BK194:=Am4_ Q_BK194;have BK195:=Am4_ (Q_BK195 (hoff 12 (by kernel_rfl)));have HB:=Am4_ Q_HB;have hc0_:w'.cell? ⟨gb194,0,none⟩=some (.int .i64 a0_0):=q_ BK194 0 rfl;have hc1_:w'.cell? ⟨gb194,1,none⟩=some (.int .i64 a0_1):=q_ BK194 1 rfl;have hc2_:w'.cell? ⟨gb194,2,none⟩=some (.int .i64 a0_2):=q_ BK194 2 rfl;have hc3_:w'.cell? ⟨gb194,3,none⟩=some (.int .i64 (wrap64 (a0_3 + 1))):=q_ BK194 3 rfl;refine value_ (w1:=w') (v:=.int .i64 (wrap64 (a0_3 + 1))) (by rfl) rfl ?_ ?_
      ·go_simp
       (try simp only [i64_w])
       try rfl
      refine hK.out _ _ ⟨v199,v202,v205,(by rw [ha.out];exact putSel_upk 3 hb_ rfl rfl rfl),Q_BK194,Q_BK195,Q_HB,fun h0_ _ => absurd ((hoff 8 (by kernel_rfl)).symm.trans h0_) (by decide),fun h0_ => absurd ((hoff 9 (by kernel_rfl)).symm.trans h0_) (by decide),fun h0_ => absurd ((hoff 10 (by kernel_rfl)).symm.trans h0_) (by decide),fun h0_ => absurd ((hoff 12 (by kernel_rfl)).symm.trans h0_) (by decide)⟩
     refine steps_cons ?_ ?_
     ·rintro b a w' ⟨v199,v202,v205,ha,Q_BK194,Q_BK195,Q_HB,Q_HO200,Q_HO203,Q_HO206,Q_BK195_e12⟩ hb_ hon hoff;refine ⟨_,rfl,fun K hK => ?_⟩;have e31:a.tmps[31]?=some (.int .i64 (wrap64 (a0_3 + 1))):=by rw [ha];exact putSel_on (e:=(7,31,.int .i64 (wrap64 (a0_3 + 1)))) 3 rfl rfl (hon 7 (by kernel_rfl)) rfl
      replace ha:=Am4_ ha;have BK194:=Am4_ Q_BK194;have BK195:=Am4_ (Q_BK195 (hoff 12 (by kernel_rfl)));have HB:=Am4_ Q_HB;refine Kd.R_lit_step (Kd.int .i64) _ 3 ?hg (N:=32) ?hd (xs:=([wrap64 (a0_3 + 1)]:List Int)) (inner:=[.int .i64 (wrap64 (a0_3 + 1))]) (ok:=fun _ => True) (okp:=fun _ => True) ?hr ?hp (fun _ hk => by first|exact hk|(revert hk;dsimp only;grind)|grind) trivial (Below.refl _ _) (Nat.le_refl _) (by simp) ?_;(case hd => rfl);(case hg => rfl);(case hr => first|(go_simp;done)|(go_simp;rfl));(case hp => exact (Reps.one (show Kd.M (Kd.int .i64) _ _ _ (wrap64 (a0_3 + 1)) [.int .i64 (wrap64 (a0_3 + 1))] from rfl) (Reps.none _ _)));intro v199 w28 ho29 hb hg_ hnew_;clear hg_ hnew_
      (first|rw [← Ny198.out] at ho29|(simp only [Int.reduceToNat] at ho29;rw [← Ny198.out] at ho29))
      have HO200:=Am4_ (Kd.R_lower ho29 (below_size (by repeat (first|(with_reducible first|exact HB.out|apply below_alloc|apply pw_below_drewN|apply below_drew1|refine below_set ?_ GE194.out|refine below_set ?_ GE195.out)|exact HB.out))));replace BK194:=bb_ BK194 hb;replace BK195:=bb_ BK195 hb;replace HB:=Am4_ (below_step (by repeat (first|(with_reducible first|exact HB.out|apply below_alloc|apply pw_below_drewN|apply below_drew1|refine below_set ?_ GE194.out|refine below_set ?_ GE195.out)|exact HB.out)) hb);clear hb ho29;refine hK.out _ _ ⟨v199,v202,v205,(by rw [ha.out];exact putSel_upk 4 hb_ rfl rfl rfl),(xk_ BK194),fun _ => (xk_ BK195),(by repeat (first|(with_reducible first|exact HB.out|apply below_alloc|apply pw_below_drewN|apply below_drew1|refine below_set ?_ GE194.out|refine below_set ?_ GE195.out)|exact HB.out)),fun _ _ => (by (with_reducible repeat (first|apply Kd.R_alloc|apply Kd.R_drewN|apply Kd.R_drew));exact HO200.out),fun h0_ => absurd ((hoff 9 (by kernel_rfl)).symm.trans h0_) (by decide),fun h0_ => absurd ((hoff 10 (by kernel_rfl)).symm.trans h0_) (by decide),fun h0_ => absurd ((hoff 12 (by kernel_rfl)).symm.trans h0_) (by decide)⟩
     refine steps_cons ?_ ?_
     ·rintro b a w' ⟨v199,v202,v205,ha,Q_BK194,Q_BK195,Q_HB,Q_HO200,Q_HO203,Q_HO206,Q_BK195_e12⟩ hb_ hon hoff;refine ⟨_,rfl,fun K hK => ?_⟩;have e32:a.tmps[32]?=some (v199):=by rw [ha];exact putSel_on (e:=(8,32,v199)) 4 rfl rfl (hon 8 (by kernel_rfl)) rfl
      replace ha:=Am4_ ha;have BK194:=Am4_ Q_BK194;have BK195:=Am4_ (Q_BK195 (hoff 12 (by kernel_rfl)));have HB:=Am4_ Q_HB;have HO200:=Am4_ (Q_HO200 (hon 8 (by kernel_rfl)) hb_);obtain ⟨Ao31,co31,eo31⟩:=Kd.R_slice HO200.out
      (first|subst eo31|(injection eo31 with f1_ f2_ f3_;have f4_:=f1_.symm;have f5_:=f3_.symm;clear f1_ f2_ f3_;subst f4_;subst f5_))
      refine Kd.N_lit_step (Kd.slice 3 (Kd.int .i64)) _ 47 ?hg (N':=33) ?hd (xs:=([y198]:List (List Int))) (inner:=[.slice Ao31 y198.length co31]) (ok:=(fun k_ => k_ ≠ gb194∧k_ ≠ gb195)) (okp:=(fun k_ => k_ ≠ gb194∧k_ ≠ gb195)) ?hr ?hp (fun _ hk => by first|exact hk|(revert hk;dsimp only;grind)|grind) ((show ∀ k_,w'.heap.size ≤ k_ → (fun k_ => k_ ≠ gb194∧k_ ≠ gb195) k_ from fun k_ hk => ⟨Kd.freshB (xk_ BK194) k_ hk,Kd.freshB (xk_ BK195) k_ hk⟩) _ (Nat.le_refl _)) (Below.refl _ _) (Nat.le_refl _) (by simp) ?_;(case hd => rfl);(case hg => rfl);(case hr => first|(go_simp;done)|(go_simp;rfl));(case hp => exact (Reps.one (show Kd.FK (Kd.slice 3 (Kd.int .i64)) _ _ y198 [.slice Ao31 y198.length co31] from (Kd.FK_slice_mk (Kd.R_reads' (Kd.R_mono (ok':=(fun k_ => k_ ≠ gb194∧k_ ≠ gb195)) (Kd.R_types (Kd.R_types (HO200.out) BK194.out (by decide)) BK195.out (by decide)) (fun k_ hk => by first|exact ⟨hk.1.2,hk.2⟩|(revert hk;dsimp only;grind)|grind))).2.1 (Kd.R_F (Kd.R_mono (ok':=(fun k_ => k_ ≠ gb194∧k_ ≠ gb195)) (Kd.R_types (Kd.R_types (HO200.out) BK194.out (by decide)) BK195.out (by decide)) (fun k_ hk => by first|exact ⟨hk.1.2,hk.2⟩|(revert hk;dsimp only;grind)|grind))))) (Reps.none _ _)));intro v202 w32 ho33 hb hg_ hnew_;clear hg_ hnew_
      (first|rw [← Ny201.out] at ho33|(simp only [Int.reduceToNat] at ho33;rw [← Ny201.out] at ho33))
      have n0_:=Am4_ (Kd.N_lower ho33 (below_size (by repeat (first|(with_reducible first|exact HB.out|apply below_alloc|apply pw_below_drewN|apply below_drew1|refine below_set ?_ GE194.out|refine below_set ?_ GE195.out)|exact HB.out))));have n1_:=bb_ BK194 hb;have n2_:=bb_ BK195 hb;have n3_:=Am4_ (below_step (by repeat (first|(with_reducible first|exact HB.out|apply below_alloc|apply pw_below_drewN|apply below_drew1|refine below_set ?_ GE194.out|refine below_set ?_ GE195.out)|exact HB.out)) hb);clear BK194;clear BK195;clear HB;clear HO200;have HO203:=n0_;have BK194:=n1_;have BK195:=n2_;have HB:=n3_;clear n0_ n1_ n2_ n3_;clear hb ho33;refine hK.out _ _ ⟨.slice Ao31 y198.length co31,v202,v205,(by rw [ha.out];exact putSel_upk 5 hb_ rfl rfl rfl),(xk_ BK194),fun _ => (xk_ BK195),(by repeat (first|(with_reducible first|exact HB.out|apply below_alloc|apply pw_below_drewN|apply below_drew1|refine below_set ?_ GE194.out|refine below_set ?_ GE195.out)|exact HB.out)),fun _ h1_ => absurd ((up_self b 9).symm.trans h1_) (by decide),fun _ => (by (with_reducible repeat (first|apply Kd.N_alloc|apply Kd.N_drewN|apply Kd.N_drew));exact HO203.out),fun h0_ => absurd ((hoff 10 (by kernel_rfl)).symm.trans h0_) (by decide),fun h0_ => absurd ((hoff 12 (by kernel_rfl)).symm.trans h0_) (by decide)⟩
     refine steps_cons ?_ ?_
     ·rintro b a w' ⟨v199,v202,v205,ha,Q_BK194,Q_BK195,Q_HB,Q_HO200,Q_HO203,Q_HO206,Q_BK195_e12⟩ hb_ hon hoff;refine ⟨_,rfl,fun K hK => ?_⟩;have e29:a.tmps[29]?=some (.slice A3 l3.length c3):=by rw [ha];exact (putSel_off rfl).trans rfl
      have e33:a.tmps[33]?=some (v202):=by rw [ha];exact putSel_on (e:=(9,33,v202)) 5 rfl rfl (hon 9 (by kernel_rfl)) rfl
      replace ha:=Am4_ ha;have BK194:=Am4_ Q_BK194;have BK195:=Am4_ (Q_BK195 (hoff 12 (by kernel_rfl)));have HB:=Am4_ Q_HB;have HO203:=Am4_ (Q_HO203 (hon 9 (by kernel_rfl)));obtain ⟨Ao35,co35,eo35⟩:=Kd.N_slice HO203.out
      (first|subst eo35|(injection eo35 with f1_ f2_ f3_;have f4_:=f1_.symm;have f5_:=f3_.symm;clear f1_ f2_ f3_;subst f4_;subst f5_))
      refine goes_ Tryz.func42 (by kernel_rfl) rfl #[.slice A3 l3.length c3,.slice Ao35 y201.length co35] (by rfl) rfl rfl (by simp only [List.map_toArray,List.map_cons,List.map_nil,Act.eval,Array.getD_eq_getD_getElem?,Option.getD_some,e29,e33] <;> rfl) ?_;with_reducible refine (impl_joined.calls kj4 _ _ l3 _ _ y201 t204 _ ?side1 ?side2 ?side3 ?side4 A22.out).mono ?_
      (case side1 => repeat (first|exact (Kd.C_below HR3.out HB.out)|(with_reducible refine Kd.C_alloc ?_ _)|(with_reducible refine Kd.C_drewN ?_ _)|(with_reducible refine Kd.C_drew ?_)))
      (case side2 => exact HC3.out)
      (case side3 => repeat (first|exact (Kd.N_reads' HO203.out).2.2|(with_reducible refine Kd.C_alloc ?_ _)|(with_reducible refine Kd.C_drewN ?_ _)|(with_reducible refine Kd.C_drew ?_)))
      (case side4 => exact (Kd.N_reads' HO203.out).2.1)
      rintro e w36 ⟨v205,rfl,ho0,hb⟩;refine ⟨_,rfl,?_⟩;have HO206:=Am4_ (Kd.R_lower ho0 (below_size (by repeat (first|(with_reducible first|exact HB.out|apply below_alloc|apply pw_below_drewN|apply below_drew1|refine below_set ?_ GE194.out|refine below_set ?_ GE195.out)|exact HB.out))));replace HO203:=Am4_ (Kd.N_elder' (by (with_reducible repeat (first|apply Kd.N_alloc|apply Kd.N_drewN|apply Kd.N_drew));exact HO203.out) (Kd.R_base ho0) hb);replace BK194:=bb_ BK194 hb;replace BK195:=bb_ BK195 hb;replace HB:=Am4_ (below_step (by repeat (first|(with_reducible first|exact HB.out|apply below_alloc|apply pw_below_drewN|apply below_drew1|refine below_set ?_ GE194.out|refine below_set ?_ GE195.out)|exact HB.out)) hb);(try clear hb);(try clear hb2);(try clear hk);(try clear hi);(try clear ho0);refine hK.out _ _ ⟨v199,.slice Ao35 y201.length co35,v205,(by rw [ha.out];exact putSel_upk 6 hb_ rfl rfl rfl),(xk_ BK194),fun _ => (xk_ BK195),(by repeat (first|(with_reducible first|exact HB.out|apply below_alloc|apply pw_below_drewN|apply below_drew1|refine below_set ?_ GE194.out|refine below_set ?_ GE195.out)|exact HB.out)),fun _ h1_ => absurd ((hon 9 (by kernel_rfl)).symm.trans h1_) (by decide),fun _ => (by (with_reducible repeat (first|apply Kd.N_alloc|apply Kd.N_drewN|apply Kd.N_drew));exact Kd.N_mono HO203.out (fun _ hk => by first|exact ⟨hk.2,⟨hk.1.1,hk.1.2⟩⟩|(revert hk;dsimp only;grind)|grind)),fun _ => (by (with_reducible repeat (first|apply Kd.R_alloc|apply Kd.R_drewN|apply Kd.R_drew));exact HO206.out),fun h0_ => absurd ((hoff 12 (by kernel_rfl)).symm.trans h0_) (by decide)⟩
     refine steps_cons ?_ ?_
     ·rintro b a w' ⟨v199,v202,v205,ha,Q_BK194,Q_BK195,Q_HB,Q_HO200,Q_HO203,Q_HO206,Q_BK195_e12⟩ hb_ hon hoff;refine ⟨_,rfl,fun K hK => ?_⟩;have e28:a.tmps[28]?=some (.int .i64 t197):=by rw [ha];exact putSel_on (e:=(4,28,.int .i64 t197)) 2 rfl rfl (hon 4 (by kernel_rfl)) rfl
      have e34:a.tmps[34]?=some (v205):=by rw [ha];exact putSel_on (e:=(10,34,v205)) 6 rfl rfl (hon 10 (by kernel_rfl)) rfl
      replace ha:=Am4_ ha;have BK194:=Am4_ Q_BK194;have BK195:=Am4_ (Q_BK195 (hoff 12 (by kernel_rfl)));have HB:=Am4_ Q_HB;have HO203:=Am4_ (Q_HO203 (hon 9 (by kernel_rfl)));have HO206:=Am4_ (Q_HO206 (hon 10 (by kernel_rfl)));obtain ⟨Ao37,co37,eo37⟩:=Kd.R_slice HO206.out
      (first|subst eo37|(injection eo37 with f1_ f2_ f3_;have f4_:=f1_.symm;have f5_:=f3_.symm;clear f1_ f2_ f3_;subst f4_;subst f5_))
      refine goes_ Tryz.func69 (by kernel_rfl) rfl #[.int .i64 t197,.slice Ao37 t204.length co37] (by rfl) rfl rfl (by simp only [List.map_toArray,List.map_cons,List.map_nil,Act.eval,Array.getD_eq_getD_getElem?,Option.getD_some,e28,e34] <;> rfl) ?_;with_reducible refine (impl_SignMessage.calls kj4 t197 (fun k_ => some k_=(.slice Ao37 t204.length co37:Value).ownBlock) _ _ t204 t207 _ ?side1 A23.out).mono ?_
      (case side1 => exact Kd.R_V (Kd.R_tight rfl (Kd.R_types (Kd.R_types (Kd.R_apart' (HO206.out) (Kd.N_typed HO203.out) (by decide)) BK194.out (by decide)) BK195.out (by decide))))
      rintro e w38 ⟨rfl,hb⟩;refine ⟨_,rfl,?_⟩;replace HO203:=Am4_ (Kd.N_below (by (with_reducible repeat (first|apply Kd.N_alloc|apply Kd.N_drewN|apply Kd.N_drew));exact HO203.out) hb);replace HO206:=Am4_ (Kd.R_below (by (with_reducible repeat (first|apply Kd.R_alloc|apply Kd.R_drewN|apply Kd.R_drew));exact HO206.out) hb);replace BK194:=bb_ BK194 hb;replace BK195:=bb_ BK195 hb;replace HB:=Am4_ (below_step (by repeat (first|(with_reducible first|exact HB.out|apply below_alloc|apply pw_below_drewN|apply below_drew1|refine below_set ?_ GE194.out|refine below_set ?_ GE195.out)|exact HB.out)) hb);(try clear hb);(try clear hb2);(try clear hk);(try clear hi);refine hK.out _ _ ⟨v199,v202,.slice Ao37 t204.length co37,(by rw [ha.out];exact putSel_upk 7 hb_ rfl rfl rfl),(xk_ BK194),fun _ => (xk_ BK195),(by repeat (first|(with_reducible first|exact HB.out|apply below_alloc|apply pw_below_drewN|apply below_drew1|refine below_set ?_ GE194.out|refine below_set ?_ GE195.out)|exact HB.out)),fun _ h1_ => absurd ((hon 9 (by kernel_rfl)).symm.trans h1_) (by decide),fun _ => (by (with_reducible repeat (first|apply Kd.N_alloc|apply Kd.N_drewN|apply Kd.N_drew));exact HO203.out),fun _ => (by (with_reducible repeat (first|apply Kd.R_alloc|apply Kd.R_drewN|apply Kd.R_drew));exact HO206.out),fun h0_ => absurd ((hoff 12 (by kernel_rfl)).symm.trans h0_) (by decide)⟩
     refine steps_cons ?_ ?_
     ·rintro b a w' ⟨v199,v202,v205,ha,Q_BK194,Q_BK195,Q_HB,Q_HO200,Q_HO203,Q_HO206,Q_BK195_e12⟩ hb_ hon hoff;refine ⟨_,rfl,fun K hK => ?_⟩;have e8:a.tmps[8]?=some (.pointer (some ⟨gb195,0,none⟩)):=by rw [ha];exact (putSel_off rfl).trans rfl
      have e24:a.tmps[24]?=some (.agg #[.int .i64 a0_0,.int .i64 a0_1,.int .i64 a0_2,.int .i64 (wrap64 (a0_3 + 1))]):=by rw [ha];exact putSel_on (e:=(0,24,.agg #[.int .i64 a0_0,.int .i64 a0_1,.int .i64 a0_2,.int .i64 (wrap64 (a0_3 + 1))])) 0 rfl rfl (hon 0 (by kernel_rfl)) rfl
      replace ha:=Am4_ ha;have BK194:=Am4_ Q_BK194;have BK195:=Am4_ (Q_BK195 hb_);have HB:=Am4_ Q_HB;have HO203:=Am4_ (Q_HO203 (hon 9 (by kernel_rfl)));have HO206:=Am4_ (Q_HO206 (hon 10 (by kernel_rfl)));have hs39:w'.cell? ⟨gb195,0,none⟩=some (.int .i64 0):=q_ BK195 0 rfl;have hfs39:=blk_frozen BK195.out 0;have hns39_0:=NB194_195.out;have hms39_0:=NB195_194.out;have hs40:w'.cell? ⟨gb195,1,none⟩=some (.int .i64 0):=q_ BK195 1 rfl;have hfs40:=blk_frozen BK195.out 1;have hns40_0:=NB194_195.out;have hms40_0:=NB195_194.out;have hs41:w'.cell? ⟨gb195,2,none⟩=some (.int .i64 0):=q_ BK195 2 rfl;have hfs41:=blk_frozen BK195.out 2;have hns41_0:=NB194_195.out;have hms41_0:=NB195_194.out;have hs42:w'.cell? ⟨gb195,3,none⟩=some (.int .i64 0):=q_ BK195 3 rfl;have hfs42:=blk_frozen BK195.out 3;have hns42_0:=NB194_195.out;have hms42_0:=NB195_194.out;refine skip_ (w1:=?_) (by rfl) rfl ?_ ?_;rotate_left
      ·go_simp
       rfl
      refine hK.out _ _ ⟨v199,v202,v205,(by rw [ha.out];exact putSel_none (v:=undef) rfl),(by (repeat (first|(with_reducible first|refine blk_drewN ?_ _|refine blk_drew ?_|refine blk_alloc ?_ _)|refine blk_far ?_ NB194_195.out _));exact BK194.out),fun h0_ => absurd ((up_self b 12).symm.trans h0_) (by decide),(by repeat (first|(with_reducible first|exact HB.out|apply below_alloc|apply pw_below_drewN|apply below_drew1|refine below_set ?_ GE194.out|refine below_set ?_ GE195.out)|exact HB.out)),fun _ h1_ => absurd ((hon 9 (by kernel_rfl)).symm.trans h1_) (by decide),fun _ => (by (with_reducible repeat (first|apply Kd.N_alloc|apply Kd.N_drewN|apply Kd.N_drew));exact Kd.N_mono (Kd.N_far (p:=⟨gb195,3,none⟩) (Kd.N_far (p:=⟨gb195,2,none⟩) (Kd.N_far (p:=⟨gb195,1,none⟩) (Kd.N_far (p:=⟨gb195,0,none⟩) (Kd.N_mono HO203.out (fun k_ hk => (⟨by first|exact hk|exact hk|grind,by first|exact hk.2.2|(revert hk;dsimp only;grind)|grind⟩:_∧k_ ≠ gb195))) (fun _ hk => by first|exact hk.2|(revert hk;dsimp only;grind)|grind) (.int .i64 a0_0)) (fun _ hk => by first|exact hk.2|(revert hk;dsimp only;grind)|grind) (.int .i64 a0_1)) (fun _ hk => by first|exact hk.2|(revert hk;dsimp only;grind)|grind) (.int .i64 a0_2)) (fun _ hk => by first|exact hk.2|(revert hk;dsimp only;grind)|grind) (.int .i64 (wrap64 (a0_3 + 1)))) (fun _ hk => by first|exact ⟨hk.1.1,⟨hk.1.2.1,hk.1.2.2⟩⟩|(revert hk;dsimp only;grind)|grind)),fun _ => (by (with_reducible repeat (first|apply Kd.R_alloc|apply Kd.R_drewN|apply Kd.R_drew));exact Kd.R_mono (Kd.R_far (p:=⟨gb195,3,none⟩) (Kd.R_far (p:=⟨gb195,2,none⟩) (Kd.R_far (p:=⟨gb195,1,none⟩) (Kd.R_far (p:=⟨gb195,0,none⟩) (Kd.R_types HO206.out BK195.out (by decide)) (fun _ hk => by first|exact hk.2|(revert hk;dsimp only;grind)|grind) (.int .i64 a0_0)) (fun _ hk => by first|exact hk.2|(revert hk;dsimp only;grind)|grind) (.int .i64 a0_1)) (fun _ hk => by first|exact hk.2|(revert hk;dsimp only;grind)|grind) (.int .i64 a0_2)) (fun _ hk => by first|exact hk.2|(revert hk;dsimp only;grind)|grind) (.int .i64 (wrap64 (a0_3 + 1)))) (fun _ hk => trivial)),fun _ => (by (with_reducible repeat (first|refine blk_drewN ?_ _|refine blk_drew ?_|refine blk_alloc ?_ _));refine blk_put (cs:=#[.int .i64 a0_0,.int .i64 a0_1,.int .i64 a0_2,.int .i64 0]) ?_ 3 _ rfl;(with_reducible repeat (first|refine blk_drewN ?_ _|refine blk_drew ?_|refine blk_alloc ?_ _));refine blk_put (cs:=#[.int .i64 a0_0,.int .i64 a0_1,.int .i64 0,.int .i64 0]) ?_ 2 _ rfl;(with_reducible repeat (first|refine blk_drewN ?_ _|refine blk_drew ?_|refine blk_alloc ?_ _));refine blk_put (cs:=#[.int .i64 a0_0,.int .i64 0,.int .i64 0,.int .i64 0]) ?_ 1 _ rfl;(with_reducible repeat (first|refine blk_drewN ?_ _|refine blk_drew ?_|refine blk_alloc ?_ _));refine blk_put (cs:=#[.int .i64 0,.int .i64 0,.int .i64 0,.int .i64 0]) ?_ 0 _ rfl;(with_reducible repeat (first|refine blk_drewN ?_ _|refine blk_drew ?_|refine blk_alloc ?_ _));exact BK195.out)⟩
     refine steps_cons ?_ ?_
     ·rintro b a w' ⟨v199,v202,v205,ha,Q_BK194,Q_BK195,Q_HB,Q_HO200,Q_HO203,Q_HO206,Q_BK195_e12⟩ hb_ hon hoff;refine ⟨_,rfl,fun K hK => ?_⟩;have e35:a.tmps[35]?=some (.int .i64 t207):=by rw [ha];exact putSel_on (e:=(11,35,.int .i64 t207)) 7 rfl rfl (hon 11 (by kernel_rfl)) rfl
      replace ha:=Am4_ ha;have BK194:=Am4_ Q_BK194;have HB:=Am4_ Q_HB;have HO203:=Am4_ (Q_HO203 (hon 9 (by kernel_rfl)));have HO206:=Am4_ (Q_HO206 (hon 10 (by kernel_rfl)));have BK195:=Am4_ (Q_BK195_e12 (hon 12 (by kernel_rfl)));refine value_ (w1:=w') (v:=.int .i64 t207) (by rfl) rfl ?_ ?_
      ·go_simp
       (try simp only [i64_w])
       try rfl
      refine hK.out _ _ ⟨v199,v202,v205,(by rw [ha.out];exact putSel_upk 8 hb_ rfl rfl rfl),Q_BK194,fun h0_ => absurd ((hon 12 (by kernel_rfl)).symm.trans h0_) (by decide),Q_HB,fun _ h1_ => absurd ((hon 9 (by kernel_rfl)).symm.trans h1_) (by decide),Q_HO203,Q_HO206,Q_BK195_e12⟩
     refine steps_cons ?_ ?_
     ·rintro b a w' ⟨v199,v202,v205,ha,Q_BK194,Q_BK195,Q_HB,Q_HO200,Q_HO203,Q_HO206,Q_BK195_e12⟩ hb_ hon hoff;refine ⟨_,rfl,fun K hK => ?_⟩;replace ha:=Am4_ ha;have BK194:=Am4_ Q_BK194;have HB:=Am4_ Q_HB;have HO203:=Am4_ (Q_HO203 (hon 9 (by kernel_rfl)));have HO206:=Am4_ (Q_HO206 (hon 10 (by kernel_rfl)));have BK195:=Am4_ (Q_BK195_e12 (hon 12 (by kernel_rfl)));refine value_ (w1:=w') (v:=.bool true) (by rfl) rfl ?_ ?_
      ·go_simp
       (try simp only [i64_w])
       try rfl
      refine hK.out _ _ ⟨v199,v202,v205,(by rw [ha.out];exact putSel_upk 9 hb_ rfl rfl rfl),Q_BK194,fun h0_ => absurd ((hon 12 (by kernel_rfl)).symm.trans h0_) (by decide),Q_HB,fun _ h1_ => absurd ((hon 9 (by kernel_rfl)).symm.trans h1_) (by decide),Q_HO203,Q_HO206,Q_BK195_e12⟩
     exact steps_nil
    rintro b a w42 hall ⟨v199,v202,v205,ha,Q_BK194,Q_BK195,Q_HB,Q_HO200,Q_HO203,Q_HO206,Q_BK195_e12⟩;clear BK194 BK195 HB;have hb0_:=hall 0 (by kernel_rfl);have hb1_:=hall 1 (by kernel_rfl);have hb4_:=hall 4 (by kernel_rfl);have hb7_:=hall 7 (by kernel_rfl);have hb8_:=hall 8 (by kernel_rfl);have hb9_:=hall 9 (by kernel_rfl);have hb10_:=hall 10 (by kernel_rfl);have hb11_:=hall 11 (by kernel_rfl);have hb12_:=hall 12 (by kernel_rfl);have hb13_:=hall 13 (by kernel_rfl);have hb14_:=hall 14 (by kernel_rfl);subst ha;simp only [putSel,hb0_,hb1_,hb4_,hb7_,hb8_,hb9_,hb10_,hb11_,hb12_,hb13_,hb14_,if_true,Act.put,Sa_,Sb_,Sc_];have BK194:=Am4_ Q_BK194;clear Q_BK194;clear Q_BK195;have HB:=Am4_ Q_HB;clear Q_HB;clear Q_HO200;have HO203:=Am4_ (Q_HO203 hb9_);clear Q_HO203;have HO206:=Am4_ (Q_HO206 hb10_);clear Q_HO206;have BK195:=Am4_ (Q_BK195_e12 hb12_);clear Q_BK195_e12;clear hall hb0_ hb1_ hb4_ hb7_ hb8_ hb9_ hb10_ hb11_ hb12_ hb13_ hb14_
    try go_wp2
    refine bodyPost_ret (results_ctt rfl _ _ gb195 26 #[.int .i64 a0_0,.int .i64 a0_1,.int .i64 a0_2,.int .i64 (wrap64 (a0_3 + 1))] (0,0) _ rfl (xk_ BK195) Tryz.underlying26 rfl (by kernel_rfl)) rfl ?_;exact ⟨by first|rfl|(simp [errW_none,errW_some] <;> rfl)|(simp [*,errW_none,errW_some] <;> rfl),by repeat (first|(with_reducible first|exact HB.out|apply below_alloc|apply pw_below_drewN|apply below_drew1|refine below_set ?_ GE194.out|refine below_set ?_ GE195.out)|exact HB.out)⟩

end Go.Proofs.YtogcoedmagoogaaGreatDoor.PFnAssertions
