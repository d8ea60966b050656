/- Functions and contracts of a law's callees, written by a program of this session (a changed print): each contract says that the machine's call answers what the plain function says. Conditions: the plain function's own answer. -/
import Derived.Test.YtogcoedmagoogaaDoorZPFnExactRelayAssertionx0
import Derived.Test.YtogcoedmagoogaaDoorZPFnExactRelayAssertionx3
namespace Go.Proofs.YtogcoedmagoogaaDoor.PFnExactRelayAssertion
open Go.RowKit Go.Proofs.YtogcoedmagoogaaDoorW.PrintWords Go.Proofs.YtogcoedmagoogaaDoorW.PrintLast Go.Proofs.YtogcoedmagoogaaDoorW.PrintMore
attribute [local go_sem] max2_int min2_int max_two min_two max_three min_three max_four min_four   -- for this text's walks alone
set_option linter.unusedVariables false
set_option linter.unusedSimpArgs false
abbrev Am4_ {p : Prop} (h : p) : Aside0 p := Aside0.mk h


/-! ### spec_DeriveFromString: function 44 -/
def spec_DeriveFromString.f (k:Nat) (a0:Int) (a1:ByteArray):Option (Int):=if a1.size < 17592186044416 then ((spec_BytesToInts.f k (bytesOf a1)).bind fun t => ((spec_KeyedHash.f k a0 t).bind fun u => ((spec_Max.f 1 u).bind fun v => (some v)))) else none
theorem spec_DeriveFromString.mono:∀ a0 a1 k,LeO (spec_DeriveFromString.f k a0 a1) (spec_DeriveFromString.f (k + 1) a0 a1):=by
 intro a0 a1 k
 unfold spec_DeriveFromString.f
 exact LeO.ite (LeO.bind (spec_BytesToInts.mono _ _) (fun _ => LeO.bind (spec_KeyedHash.mono _ _ _) (fun _ => LeO.refl _))) (LeO.refl _)
set_option maxHeartbeats 800000 in
theorem spec_DeriveFromString.calls (k:Nat) (a0:Int) (a1:ByteArray) (r:Int) (w:World) (h:spec_DeriveFromString.f k a0 a1=some r) :
  Calls Tryd.prog 44 #[.int .i64 a0,.string a1] w fun e w' => e=.returned (.int .i64 r)∧Below w.heap.size w w':=by
 unfold spec_DeriveFromString.f at h
 by_cases hs:a1.size < 17592186044416
 case neg => rw [if_neg hs] at h;cases h
 rw [if_pos hs] at h
 obtain ⟨t,ht,h⟩:=Option.bind_eq_some_iff.1 h
 obtain ⟨u,hu,h⟩:=Option.bind_eq_some_iff.1 h
 obtain ⟨v,hv,h⟩:=Option.bind_eq_some_iff.1 h
 obtain rfl:v=r:=by simpa using h
 clear h
 have HU:=Am4_ hu
 have HV:=Am4_ hv
 have hcap:(bytesOf a1).length ≤ grownCap w a1.size 0 5:=by rw [bytesOf_length];exact grownCap_ge _ _ _ _
 have C1:=spec_BytesToInts.calls k _ _ (bytesOf a1) t _ (Man.bytes_C w 5 a1 hs) hcap ht
 rw [bytesOf_length] at C1
 have HC:=Am4_ C1
 have HB0:=Am4_ (Man.bytes_below w 5 a1)
 clear hu hv ht C1 hcap hs
 have hcv:=fun W:World => Lib.run_convert_string_bytes (P:=Tryd.prog) W 9 60 5 a1 Tryd.underlying9 Tryd.underlying60 Tryd.underlying5
 go_enter Tryd.func44,Tryd.ntmps44
 go_wp2_with fail
 refine HC.out.mono ?_
 rintro e w1 ⟨v0,rfl,hR,hb⟩
 obtain ⟨A,c,rfl⟩:=Kd.R_slice hR
 have HR:=Am4_ hR
 have HB1:=Am4_ (below_step HB0.out hb)
 clear hR hb
 go_wp2_with fail
 refine (spec_KeyedHash.calls k a0 A c t u w1 (Kd.R_reads' HR.out).2.2 (Kd.R_reads' HR.out).2.1 HU.out).mono ?_
 rintro e w2 ⟨rfl,hb⟩
 have HB2:=Am4_ (below_step HB1.out hb)
 clear hb
 go_wp2_with fail
 refine (spec_Max.calls 1 u v w2 HV.out).mono ?_
 rintro e w3 ⟨rfl,hb⟩
 have HB3:=Am4_ (below_step HB2.out hb.below)
 clear hb
 go_wp2_with fail
 go_ret
 exact ⟨rfl,HB3.out⟩

/-! ### spec_SiteHash: function 43 -/
def spec_SiteHash.f (k:Nat) (a0:ByteArray):Option (Int):=(spec_DeriveFromString.f k 173 a0).bind fun t174 => (some t174)
theorem spec_SiteHash.mono:∀ a0 k,LeO (spec_SiteHash.f k a0) (spec_SiteHash.f (k + 1) a0):=by
 intro a0 k
 unfold spec_SiteHash.f
 repeat' first
  |(with_reducible exact spec_DeriveFromString.mono _ _ _)
  |(with_reducible exact LeO.refl _)
  |(with_reducible exact LeO.none _)
  |(with_reducible refine LeO.ite ?_ ?_)
  |(with_reducible refine LeO.bind ?_ (fun _ => ?_))
  |exact spec_DeriveFromString.mono _ _ _
  |exact LeO.none _
  |refine LeO.ite ?_ ?_
  |refine LeO.bind ?_ (fun _ => ?_)
set_option maxHeartbeats 8000000 in
set_option maxRecDepth 100000 in
theorem spec_SiteHash.calls (k:Nat) (a0:ByteArray) (r:Int) (w:World) (h:spec_SiteHash.f k a0=some r) :
  Calls Tryd.prog 43 #[.string a0] w fun e w' => e=.returned (.int .i64 r)∧Below w.heap.size w w':=by
 have HB:=Am4_ (Below.refl w.heap.size w)
 have H:((spec_DeriveFromString.f k 173 a0).bind fun t174 => (some t174))=some r:=h
 clear h
 replace H:=Option.bind_eq_some_iff.mp H
 obtain ⟨t174,A20,H⟩:=H
 replace H:(some t174)=some r:=H
 have A2:=Am4_ A20
 clear A20
 obtain rfl:=Option.some.inj H
 go_enter Tryd.func43,Tryd.ntmps43
 go_wp2_with (first|((with_reducible refine gate_callee (f:=44) rfl ?_);refine goesL_ (some 4) rfl rfl Tryd.func44 (by kernel_rfl) rfl #[.int .i64 173,.string a0] rfl (by (try simp only [List.map_toArray,List.map_cons,List.map_nil]);first|done|rfl|(simp only [List.length_drop,List.length_take];rfl)) ?_;(with_reducible refine (spec_DeriveFromString.calls k 173 a0 t174 _ A2.out).mono ?_);rintro e w3 ⟨rfl,hb⟩;refine ⟨_,rfl,?_⟩;have n0_:=Am4_ (below_step (by repeat (first|(with_reducible first|exact HB.out|apply below_alloc|apply pw_below_drewN|apply below_drew1)|exact HB.out)) hb);clear HB;have HB:=n0_;clear n0_;(try clear hb);(try clear hb2);(try clear hk);(try clear hi)))
 go_ret
 exact ⟨by first|rfl|(simp [errW_none,errW_some] <;> rfl)|(simp [*,errW_none,errW_some] <;> rfl),by repeat (first|(with_reducible first|exact HB.out|apply below_alloc|apply pw_below_drewN|apply below_drew1)|exact HB.out)⟩

/-! ### spec_DeriveKey: function 63 -/
def spec_DeriveKey.f (k:Nat) (a0:Int) (l1:List Int):Option (Int):=(some (([151]:List Int):List Int)).bind fun y175 => (if y175.length + l1.length < 17592186044416 then ((spec_KeyedHash.f k a0 (y175 ++ l1)).bind fun t181 => ((spec_Max.f 1 t181).bind fun t182 => (some t182))) else (none))
theorem spec_DeriveKey.mono:∀ a0 a1 k,LeO (spec_DeriveKey.f k a0 a1) (spec_DeriveKey.f (k + 1) a0 a1):=by
 intro a0 a1 k
 unfold spec_DeriveKey.f
 repeat' first
  |(with_reducible exact spec_KeyedHash.mono _ _ _)
  |(with_reducible exact LeO.refl _)
  |(with_reducible exact LeO.none _)
  |(with_reducible refine LeO.ite ?_ ?_)
  |(with_reducible refine LeO.bind ?_ (fun _ => ?_))
  |exact spec_KeyedHash.mono _ _ _
  |exact LeO.none _
  |refine LeO.ite ?_ ?_
  |refine LeO.bind ?_ (fun _ => ?_)
set_option maxHeartbeats 8000000 in
set_option maxRecDepth 100000 in
theorem spec_DeriveKey.calls (k:Nat) (a0:Int) (A1:Option Addr) (c1:Nat) (l1:List Int) (r:Int) (w:World) (hr1:Kd.C (Kd.int .i64) w A1 l1.length l1) (hc1:l1.length ≤ c1) (h:spec_DeriveKey.f k a0 l1=some r) :
  Calls Tryd.prog 63 #[.int .i64 a0,.slice A1 l1.length c1] w fun e w' => e=.returned (.int .i64 r)∧Below w.heap.size w w':=by
 have HR1:=Am4_ hr1
 have HC1:=Am4_ hc1
 clear hr1 hc1
 have HB:=Am4_ (Below.refl w.heap.size w)
 have H:((some (([151]:List Int):List Int)).bind fun y175 => (if y175.length + l1.length < 17592186044416 then ((spec_KeyedHash.f k a0 (y175 ++ l1)).bind fun t181 => ((spec_Max.f 1 t181).bind fun t182 => (some t182))) else (none)))=some r:=h
 clear h
 obtain ⟨y175,hy175⟩:∃ y_:List Int,y_=(([151]:List Int)):=⟨_,rfl⟩
 replace H:(if y175.length + l1.length < 17592186044416 then ((spec_KeyedHash.f k a0 (y175 ++ l1)).bind fun t181 => ((spec_Max.f 1 t181).bind fun t182 => (some t182))) else (none))=some r:=by first|(rw [hy175];with_reducible exact H)|(have H2_:=(Option.bind_some _ _).symm.trans H;rw [hy175];with_reducible exact H2_)|(have H2_:=(Option.bind_some _ _).symm.trans H;with_reducible exact H2_)|with_reducible exact H|(rw [hy175];exact H)|exact H
 have Ny175:=Am4_ hy175
 clear hy175
 by_cases c3:y175.length + l1.length < 17592186044416
 ·rw [if_pos c3] at H
  have LMc3:=Am4_ c3
  clear c3
  obtain ⟨y178,hy178⟩:∃ y_:List Int,y_=(y175 ++ l1):=⟨_,rfl⟩
  replace H:((spec_KeyedHash.f k a0 y178).bind fun t181 => ((spec_Max.f 1 t181).bind fun t182 => (some t182)))=some r:=by first|(rw [hy178];with_reducible exact H)|(have H2_:=(Option.bind_some _ _).symm.trans H;rw [hy178];with_reducible exact H2_)|(have H2_:=(Option.bind_some _ _).symm.trans H;with_reducible exact H2_)|with_reducible exact H|(rw [hy178];exact H)|exact H
  have Ny178:=Am4_ hy178
  clear hy178
  replace H:=Option.bind_eq_some_iff.mp H
  obtain ⟨t181,A40,H⟩:=H
  replace H:((spec_Max.f 1 t181).bind fun t182 => (some t182))=some r:=H
  have A4:=Am4_ A40
  clear A40
  replace H:=Option.bind_eq_some_iff.mp H
  obtain ⟨t182,A50,H⟩:=H
  replace H:(some t182)=some r:=H
  have A5:=Am4_ A50
  clear A50
  obtain rfl:=Option.some.inj H
  go_enter Tryd.func63,Tryd.ntmps63
  go_wp2_with (first|((with_reducible refine gate_dst (N:=6) rfl ?_);refine Kd.R_lit (Kd.int .i64) _ 3 ?hg (N:=6) ?hd (xs:=([151]:List Int)) (inner:=[.int .i64 151]) (ok:=fun _ => True) (okp:=fun _ => True) ?hr ?hp (fun _ hk => hk) trivial (Below.refl _ _) (Nat.le_refl _) (by simp) ?_;(case hd => rfl);(case hg => rfl);(case hr => first|(go_simp;done)|(go_simp;rfl));(case hp => exact (Reps.one (show Kd.M (Kd.int .i64) _ _ _ 151 [.int .i64 151] from rfl) (Reps.none _ _)));intro v176 w6 ho7 hb hg_ hnew_;clear hg_ hnew_;(first|rw [← Ny175.out] at ho7|(simp only [Int.reduceToNat] at ho7;rw [← Ny175.out] at ho7));have n0_:=Am4_ (Kd.R_lower ho7 (below_size (by repeat (first|(with_reducible first|exact HB.out|apply below_alloc|apply pw_below_drewN|apply below_drew1)|exact HB.out))));have n1_:=Am4_ (below_step (by repeat (first|(with_reducible first|exact HB.out|apply below_alloc|apply pw_below_drewN|apply below_drew1)|exact HB.out)) hb);clear HB;have HO177:=n0_;have HB:=n1_;clear n0_ n1_;clear hb ho7)|((with_reducible refine gate_builtin (b:=.append) (xs:=#[.tmp 6,.tmp 7]) rfl ?_);at_builtin;refine Kd.R_append_rows (Kd.int .i64) (w0:=w) w.heap.size rfl (.tmp 6) (.tmp 7) 50 3 (.int .i64 0) 8 rfl Tryd.underlying50 info3 rfl (by decide) (by omega) v176 y175 l1 _ _ _ (fun _ => True) (fun _ => False) rfl rfl ?aO ?aR (fun _ _ h => h) (fun _ h => h.elim) ?aF ?aB ?aS ?aL ?_;(case aR => repeat (first|exact (Kd.C_below HR1.out HB.out)|(with_reducible refine Kd.C_alloc ?_ _)|(with_reducible refine Kd.C_drewN ?_ _)|(with_reducible refine Kd.C_drew ?_)));(case aB => exact (by repeat (first|(with_reducible first|exact HB.out|apply below_alloc|apply pw_below_drewN|apply below_drew1)|exact HB.out)));(case aF => exact (fun _ _ => trivial));(case aO => exact (by (with_reducible repeat (first|apply Kd.R_alloc|apply Kd.R_drewN|apply Kd.R_drew));exact HO177.out));(case aS => exact (below_size (by repeat (first|(with_reducible first|exact HB.out|apply below_alloc|apply pw_below_drewN|apply below_drew1)|exact HB.out))));(case aL => have:=LMc3.out;omega);intro v179 w8 ho hb hg hat;rw [← Ny178.out] at ho;have n0_:=Am4_ (hb);have n1_:=Am4_ (ho);clear HB;clear HO177;have HB:=n0_;have HO180:=n1_;clear n0_ n1_;clear ho hb hg hat;obtain ⟨Ao9,co9,eo9⟩:=Kd.R_slice HO180.out;subst eo9)|((with_reducible refine gate_callee (f:=62) rfl ?_);refine goesL_ (some 9) rfl rfl Tryd.func62 (by kernel_rfl) rfl #[.int .i64 a0,.slice Ao9 y178.length co9] rfl (by (try simp only [List.map_toArray,List.map_cons,List.map_nil]);first|done|rfl|(simp only [List.length_drop,List.length_take];rfl)) ?_;(with_reducible refine (spec_KeyedHash.calls k a0 _ _ y178 t181 _ ?side1 ?side2 A4.out).mono ?_);(case side1 => repeat (first|exact (Kd.R_reads' HO180.out).2.2|(with_reducible refine Kd.C_alloc ?_ _)|(with_reducible refine Kd.C_drewN ?_ _)|(with_reducible refine Kd.C_drew ?_)));(case side2 => exact (Kd.R_reads' HO180.out).2.1);rintro e w10 ⟨rfl,hb⟩;refine ⟨_,rfl,?_⟩;have n0_:=Am4_ (Kd.R_below (by (with_reducible repeat (first|apply Kd.R_alloc|apply Kd.R_drewN|apply Kd.R_drew));exact HO180.out) hb);have n1_:=Am4_ (below_step (by repeat (first|(with_reducible first|exact HB.out|apply below_alloc|apply pw_below_drewN|apply below_drew1)|exact HB.out)) hb);clear HO180;clear HB;have HO180:=n0_;have HB:=n1_;clear n0_ n1_;(try clear hb);(try clear hb2);(try clear hk);(try clear hi))|((with_reducible refine gate_callee (f:=64) rfl ?_);refine goesL_ (some 10) rfl rfl Tryd.func64 (by kernel_rfl) rfl #[.int .i64 1,.int .i64 t181] rfl (by (try simp only [List.map_toArray,List.map_cons,List.map_nil]);first|done|rfl|(simp only [List.length_drop,List.length_take];rfl)) ?_;(with_reducible refine (spec_Max.calls 1 t181 t182 _ A5.out).mono ?_);rintro e w' ⟨rfl,⟨nd,rfl⟩⟩;refine ⟨_,rfl,?_⟩))
  go_ret
  exact ⟨by first|rfl|(simp [errW_none,errW_some] <;> rfl)|(simp [*,errW_none,errW_some] <;> rfl),by repeat (first|(with_reducible first|exact HB.out|apply below_alloc|apply pw_below_drewN|apply below_drew1)|exact HB.out)⟩
 ·rw [if_neg c3] at H
  exact absurd H (by simp)

/-! ### spec_SitePrivate: function 42 -/
def spec_SitePrivate.f (k:Nat) (a0_0:Int) (a0_1:Int) (a0_2:Int) (a0_3:Int) (a1:ByteArray) (a2:Int):Option (Int):=(spec_SiteHash.f k a1).bind fun t184 => ((spec_DeriveKey.f k a0_2 (([179,t184,a2]:List Int))).bind fun t188 => (some t188))
theorem spec_SitePrivate.mono:∀ a0 a1 a2 a3 a4 a5 k,LeO (spec_SitePrivate.f k a0 a1 a2 a3 a4 a5) (spec_SitePrivate.f (k + 1) a0 a1 a2 a3 a4 a5):=by
 intro a0 a1 a2 a3 a4 a5 k
 unfold spec_SitePrivate.f
 repeat' first
  |(with_reducible exact spec_DeriveKey.mono _ _ _)
  |(with_reducible exact spec_SiteHash.mono _ _)
  |(with_reducible exact LeO.refl _)
  |(with_reducible exact LeO.none _)
  |(with_reducible refine LeO.ite ?_ ?_)
  |(with_reducible refine LeO.bind ?_ (fun _ => ?_))
  |exact spec_DeriveKey.mono _ _ _
  |exact spec_SiteHash.mono _ _
  |exact LeO.none _
  |refine LeO.ite ?_ ?_
  |refine LeO.bind ?_ (fun _ => ?_)
def spec_SitePrivate.T1:Bool × List (List Nat × List Nat):=(true,[([],[]),([0],[0]),([],[]),([2],[2]),([],[]),([3,4],[3,4]),([1,5,3],[1,5]),([6,6,0,1,2,3,4,5,6],[6])])
def spec_SitePrivate.B1:List Nat:=[0,1,0,4,0,28,63,127]
theorem spec_SitePrivate.tab1:rtab .any (opsOf Tryd.f42 1)=spec_SitePrivate.T1:=by kernel_rfl
theorem spec_SitePrivate.bits1:waitsOk spec_SitePrivate.T1.2 spec_SitePrivate.B1=true:=by kernel_rfl
set_option maxHeartbeats 8000000 in
set_option maxRecDepth 100000 in
theorem spec_SitePrivate.calls (k:Nat) (a0_0:Int) (a0_1:Int) (a0_2:Int) (a0_3:Int) (a1:ByteArray) (a2:Int) (r:Int) (w:World) (h:spec_SitePrivate.f k a0_0 a0_1 a0_2 a0_3 a1 a2=some r) :
  Calls Tryd.prog 42 #[.agg #[.int .i64 a0_0,.int .i64 a0_1,.int .i64 a0_2,.int .i64 a0_3],.string a1,.int .i64 a2] w fun e w' => e=.returned (.int .i64 r)∧Below w.heap.size w w':=by
 have hu31:=Tryd.underlying31
 have HB:=Am4_ (Below.refl w.heap.size w)
 have H:((spec_SiteHash.f k a1).bind fun t184 => ((spec_DeriveKey.f k a0_2 (([179,t184,a2]:List Int))).bind fun t188 => (some t188)))=some r:=h
 clear h
 replace H:=Option.bind_eq_some_iff.mp H
 obtain ⟨t184,A40,H⟩:=H
 replace H:((spec_DeriveKey.f k a0_2 (([179,t184,a2]:List Int))).bind fun t188 => (some t188))=some r:=H
 have A4:=Am4_ A40
 clear A40
 obtain ⟨y185,hy185⟩:∃ y_:List Int,y_=(([179,t184,a2]:List Int)):=⟨_,rfl⟩
 replace H:((spec_DeriveKey.f k a0_2 y185).bind fun t188 => (some t188))=some r:=by first|(rw [hy185];with_reducible exact H)|(have H2_:=(Option.bind_some _ _).symm.trans H;rw [hy185];with_reducible exact H2_)|(have H2_:=(Option.bind_some _ _).symm.trans H;with_reducible exact H2_)|with_reducible exact H|(rw [hy185];exact H)|exact H
 have Ny185:=Am4_ hy185
 clear hy185
 replace H:=Option.bind_eq_some_iff.mp H
 obtain ⟨t188,A50,H⟩:=H
 replace H:(some t188)=some r:=H
 have A5:=Am4_ A50
 clear A50
 obtain rfl:=Option.some.inj H
 go_enter Tryd.func42,Tryd.ntmps42
 try go_wp2_with (first|((with_reducible refine gate_dst (N:=3) rfl ?_);refine box_event ?hg (N:=3) ?hd (cs:=#[.int .i64 a0_0,.int .i64 a0_1,.int .i64 a0_2,.int .i64 a0_3]) (t:=31) ?hr ?_;(case hd => rfl);(case hg => rfl);(case hr => first|(go_simp;done)|(go_simp;rfl));intro gb183 hg w6 hbox hb;have n0_:=Am4_ (below_step (by repeat (first|(with_reducible first|exact HB.out|apply below_alloc|apply pw_below_drewN|apply below_drew1)|exact HB.out)) hb);have n1_:=Am4_ (hbox);have n2_:=Am4_ ((by rw [hg];exact (below_size (by repeat (first|(with_reducible first|exact HB.out|apply below_alloc|apply pw_below_drewN|apply below_drew1)|exact HB.out))):w.heap.size ≤ gb183));have n3_:=Am4_ ((by rw [hg];exact (below_size (by repeat (first|(with_reducible first|exact HB.out|apply below_alloc|apply pw_below_drewN|apply below_drew1)|exact HB.out))):w.heap.size ≤ gb183));clear HB;have HB:=n0_;have BK183:=n1_;have GW183:=n2_;have GE183:=n3_;clear n0_ n1_ n2_ n3_;clear hb hbox hg))
 have n0_:=Am4_ (blk_drew BK183.out)
 have n1_:=Am4_ (below_drew1 HB.out)
 clear BK183
 clear HB
 have BK183:=n0_
 have HB:=n1_
 clear n0_ n1_
 refine start_ (n:=8) (S:=fun w' => w'.cell? ⟨gb183,0,none⟩=some (.int .i64 a0_0)∧w'.cell? ⟨gb183,1,none⟩=some (.int .i64 a0_1)∧w'.cell? ⟨gb183,2,none⟩=some (.int .i64 a0_2)∧w'.cell? ⟨gb183,3,none⟩=some (.int .i64 a0_3)) (ds:=[]) #[false,false,false,false,false,false,false,false] (by kernel_rfl) rfl rfl ⟨(blk_cell BK183.out 0).trans rfl,(blk_cell BK183.out 1).trans rfl,(blk_cell BK183.out 2).trans rfl,(blk_cell BK183.out 3).trans rfl⟩ (fun hHeld => ?_);refine with_tabW spec_SitePrivate.tab1 spec_SitePrivate.bits1 (fun HT_ HW_ => ?_)
 generalize w6.drew=w7 at BK183 HB hHeld ⊢
 refine pure_ (i:=0) (N:=some 7) (v:=?_) (a':=?_) #[true,false,false,false,false,false,false,false] rfl rfl (any_of HT_.out (by kernel_rfl)) (fun _ _ _ h => h) (Or.inl ⟨by rfl,?_⟩) ?_ ?_
 rotate_left
 ·intro w'
  go_simp
  with_reducible rfl
 rotate_left
 ·simp only [Act.put,List.setIfInBounds_toArray,List.set_cons_zero,List.set_cons_succ,i64_w,i32_w]
  rfl
 refine pure_ (i:=2) (N:=some 9) (v:=?_) (a':=?_) #[true,false,true,false,false,false,false,false] rfl rfl (any_of HT_.out (by kernel_rfl)) (fun _ _ _ h => h) (Or.inl ⟨by rfl,?_⟩) ?_ ?_
 rotate_left
 ·intro w'
  go_simp
  with_reducible rfl
 rotate_left
 ·simp only [Act.put,List.setIfInBounds_toArray,List.set_cons_zero,List.set_cons_succ,i64_w,i32_w]
  rfl
 refine pure_ (i:=4) (N:=some 11) (v:=?_) (a':=?_) #[true,false,true,false,true,false,false,false] rfl rfl (any_of HT_.out (by kernel_rfl)) (fun _ _ _ h => h) (Or.inl ⟨by rfl,?_⟩) ?_ ?_
 rotate_left
 ·intro w'
  go_simp
  with_reducible rfl
 rotate_left
 ·simp only [Act.put,List.setIfInBounds_toArray,List.set_cons_zero,List.set_cons_succ,i64_w,i32_w]
  rfl
 refine take_ (i:=1) (N:=some 8) (v:=?_) (a':=?_) #[true,true,true,false,true,false,false,false] rfl rfl (take_ofW HT_.out HW_.out (by kernel_rfl)) (fun _ _ _ h => h) (Or.inl ⟨by rfl,?_⟩) hHeld ?_ ?_
 rotate_left
 ·rintro w' ⟨s0,s1,s2,s3⟩
  go_simp
  with_reducible rfl
 rotate_left
 ·simp only [Act.put,List.setIfInBounds_toArray,List.set_cons_zero,List.set_cons_succ,i64_w,i32_w]
  rfl
 refine one_ (i:=3) (N:=some 10) #[true,true,true,true,true,false,false,false] rfl rfl (one_of HT_.out (by kernel_rfl)) (by decide) (fun K hK => ?_)
 refine goes_ Tryd.func43 (by kernel_rfl) rfl #[.string a1] (by rfl) rfl rfl (by (try simp only [List.map_toArray,List.map_cons,List.map_nil]);first|done|rfl|(simp only [List.length_drop,List.length_take];rfl)) ?_
 with_reducible refine (spec_SiteHash.calls k a1 t184 _ A4.out).mono ?_
 rintro e w8 ⟨rfl,hb⟩
 refine ⟨_,rfl,?_⟩
 have n0_:=Am4_ (blk_below (g:=gb183) (o:=.cells #[.int .i64 a0_0,.int .i64 a0_1,.int .i64 a0_2,.int .i64 a0_3] 31 (0,0)) (by (with_reducible repeat (first|refine blk_drewN ?_ _|refine blk_drew ?_|refine blk_alloc ?_ _));exact BK183.out) hb)
 have n1_:=Am4_ (below_step (by repeat (first|(with_reducible first|exact HB.out|apply below_alloc|apply pw_below_drewN|apply below_drew1|refine below_set ?_ GE183.out)|exact HB.out)) hb)
 clear BK183
 clear HB
 have BK183:=n0_
 have HB:=n1_
 clear n0_ n1_
 (try clear hb)
 (try clear hb2)
 (try clear hk)
 (try clear hi)
 refine hK.out _ _ ⟨(blk_cell BK183.out 0).trans rfl,(blk_cell BK183.out 1).trans rfl,(blk_cell BK183.out 2).trans rfl,(blk_cell BK183.out 3).trans rfl⟩ (fun hHeld => ?_)
 clear hK K
 refine norm_ (a':=?_) ?_ ?_
 rotate_left
 ·show Act.put _ (some 10) _=_
  simp only [Act.put,List.setIfInBounds_toArray,List.set_cons_zero,List.set_cons_succ,i64_w,i32_w]
  rfl
 refine one_ (i:=5) (N:=some 12) #[true,true,true,true,true,true,false,false] rfl rfl (one_of HT_.out (by kernel_rfl)) (by decide) (fun K hK => ?_)
 refine Kd.R_lit_step (Kd.int .i64) _ 3 ?hg (N:=12) ?hd (xs:=([179,t184,a2]:List Int)) (inner:=[.int .i64 179,.int .i64 t184,.int .i64 a2]) (ok:=fun _ => True) (okp:=fun _ => True) ?hr ?hp (fun _ hk => hk) trivial (Below.refl _ _) (Nat.le_refl _) (by simp) ?_;(case hd => rfl);(case hg => rfl);(case hr => first|(go_simp;done)|(go_simp;rfl));(case hp => exact (Reps.one (show Kd.M (Kd.int .i64) _ _ _ 179 [.int .i64 179] from rfl) (Reps.one (show Kd.M (Kd.int .i64) _ _ _ t184 [.int .i64 t184] from rfl) (Reps.one (show Kd.M (Kd.int .i64) _ _ _ a2 [.int .i64 a2] from rfl) (Reps.none _ _)))))
 intro v186 w9 ho10 hb hg_ hnew_
 clear hg_ hnew_
 (first|rw [← Ny185.out] at ho10|(simp only [Int.reduceToNat] at ho10;rw [← Ny185.out] at ho10))
 have n0_:=Am4_ (Kd.R_lower ho10 (below_size (by repeat (first|(with_reducible first|exact HB.out|apply below_alloc|apply pw_below_drewN|apply below_drew1|refine below_set ?_ GE183.out)|exact HB.out))))
 have n1_:=Am4_ (blk_below (g:=gb183) (o:=.cells #[.int .i64 a0_0,.int .i64 a0_1,.int .i64 a0_2,.int .i64 a0_3] 31 (0,0)) (by (with_reducible repeat (first|refine blk_drewN ?_ _|refine blk_drew ?_|refine blk_alloc ?_ _));exact BK183.out) hb)
 have n2_:=Am4_ (below_step (by repeat (first|(with_reducible first|exact HB.out|apply below_alloc|apply pw_below_drewN|apply below_drew1|refine below_set ?_ GE183.out)|exact HB.out)) hb)
 clear BK183
 clear HB
 have HO187:=n0_
 have BK183:=n1_
 have HB:=n2_
 clear n0_ n1_ n2_
 clear hb ho10
 obtain ⟨Ao11,co11,eo11⟩:=Kd.R_slice HO187.out
 (first|subst eo11|(injection eo11 with f1_ f2_ f3_;have f4_:=f1_.symm;have f5_:=f3_.symm;clear f1_ f2_ f3_;subst f4_;subst f5_))
 refine hK.out _ _ ⟨(blk_cell BK183.out 0).trans rfl,(blk_cell BK183.out 1).trans rfl,(blk_cell BK183.out 2).trans rfl,(blk_cell BK183.out 3).trans rfl⟩ (fun hHeld => ?_)
 clear hK K
 refine norm_ (a':=?_) ?_ ?_
 rotate_left
 ·show Act.put _ (some 12) _=_
  simp only [Act.put,List.setIfInBounds_toArray,List.set_cons_zero,List.set_cons_succ,i64_w,i32_w]
  rfl
 refine one_ (i:=6) (N:=some 13) #[true,true,true,true,true,true,true,false] rfl rfl (one_of HT_.out (by kernel_rfl)) (by decide) (fun K hK => ?_)
 refine goes_ Tryd.func63 (by kernel_rfl) rfl #[.int .i64 a0_2,.slice Ao11 y185.length co11] (by rfl) rfl rfl (by (try simp only [List.map_toArray,List.map_cons,List.map_nil]);first|done|rfl|(simp only [List.length_drop,List.length_take];rfl)) ?_
 with_reducible refine (spec_DeriveKey.calls k a0_2 _ _ y185 t188 _ ?side1 ?side2 A5.out).mono ?_
 (case side1 => repeat (first|exact (Kd.R_reads' HO187.out).2.2|(with_reducible refine Kd.C_alloc ?_ _)|(with_reducible refine Kd.C_drewN ?_ _)|(with_reducible refine Kd.C_drew ?_)))
 (case side2 => exact (Kd.R_reads' HO187.out).2.1)
 rintro e w12 ⟨rfl,hb⟩
 refine ⟨_,rfl,?_⟩
 have n0_:=Am4_ (Kd.R_below (by (with_reducible repeat (first|apply Kd.R_alloc|apply Kd.R_drewN|apply Kd.R_drew));exact HO187.out) hb)
 have n1_:=Am4_ (blk_below (g:=gb183) (o:=.cells #[.int .i64 a0_0,.int .i64 a0_1,.int .i64 a0_2,.int .i64 a0_3] 31 (0,0)) (by (with_reducible repeat (first|refine blk_drewN ?_ _|refine blk_drew ?_|refine blk_alloc ?_ _));exact BK183.out) hb)
 have n2_:=Am4_ (below_step (by repeat (first|(with_reducible first|exact HB.out|apply below_alloc|apply pw_below_drewN|apply below_drew1|refine below_set ?_ GE183.out)|exact HB.out)) hb)
 clear HO187
 clear BK183
 clear HB
 have HO187:=n0_
 have BK183:=n1_
 have HB:=n2_
 clear n0_ n1_ n2_
 (try clear hb)
 (try clear hb2)
 (try clear hk)
 (try clear hi)
 refine hK.out _ _ ⟨(blk_cell BK183.out 0).trans rfl,(blk_cell BK183.out 1).trans rfl,(blk_cell BK183.out 2).trans rfl,(blk_cell BK183.out 3).trans rfl⟩ (fun hHeld => ?_)
 clear hK K
 refine norm_ (a':=?_) ?_ ?_
 rotate_left
 ·show Act.put _ (some 13) _=_
  simp only [Act.put,List.setIfInBounds_toArray,List.set_cons_zero,List.set_cons_succ,i64_w,i32_w]
  rfl
 refine pure_ (i:=7) (N:=some 6) (v:=?_) (a':=?_) #[true,true,true,true,true,true,true,true] rfl rfl (any_of HT_.out (by kernel_rfl)) (fun _ _ _ h => h) (Or.inl ⟨by rfl,?_⟩) ?_ ?_
 rotate_left
 ·intro w'
  go_simp
  with_reducible rfl
 rotate_left
 ·simp only [Act.put,List.setIfInBounds_toArray,List.set_cons_zero,List.set_cons_succ,i64_w,i32_w]
  rfl
 refine done_ (done_of HT_.out (by kernel_rfl)) ?_
 try go_wp2
 go_ret
 exact ⟨by first|rfl|(simp [errW_none,errW_some] <;> rfl)|(simp [*,errW_none,errW_some] <;> rfl),by repeat (first|(with_reducible first|exact HB.out|apply below_alloc|apply pw_below_drewN|apply below_drew1|refine below_set ?_ GE183.out)|exact HB.out)⟩

end Go.Proofs.YtogcoedmagoogaaDoor.PFnExactRelayAssertion
