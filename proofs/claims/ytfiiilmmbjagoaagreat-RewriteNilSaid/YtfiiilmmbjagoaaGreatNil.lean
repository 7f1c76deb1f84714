/-
  RewriteNil: for every input the law syllogismlaw23.RewriteNil returns true, and its arguments read as before. No conditions beyond the given statement's.
-/
import Derived.Test.YtfiiilmmbjagoaaGreatWk
import Derived.Test.YtfiiilmmbjagoaaGreatPc
import Derived.Test.YtfiiilmmbjagoaaGreatNj
namespace Go.PI
open Go.Proofs
theorem nil_run (id : Int) (p : PV) : runF wdT 400 ⟨9, Tryz.f9.ntmps, 0, [], false, none⟩ (.code (Tryz.f9.body.getD .skip) (regsOf [.lit (.int .i64 id), p] 0 .e)) ⟨[]⟩ (lawK wdT Tryz.f9.results.toList) = true := by kernel_rfl
end Go.PI
namespace Go.Proofs.YtfiiilmmbjagoaaGreat
open Go.ChangeShapes Go.WideShapes Go.ChangeAt Go.RowKit Go.PI
theorem own : ownKnob Tryz.prog.godebug = none := by kernel_rfl
theorem laidOut : laidOutB Tryz.prog = true := by kernel_rfl
set_option maxRecDepth 100000 in
/-- A slice, whatever it holds, is a plain value of which nothing is told. -/
theorem slice_pv {w : World} {e : TypeId} {base : Nat} {t : TypeId} {v : Value} (ht : Tryz.prog.underlying t = some (.slice e)) {H : Type} {enc : TypeId × Value → H} {d : DataW H} {ps : List MemPlace} {sp : Nat → Bool} {held : Bool} (hval : Value.okWide Tryz.prog w .any base t v) (hd : DataW.Trod enc Tryz.prog w 0 sp held t v d ps) : ∃ p, Rel Wd.zero w p v := by
  obtain ⟨a, len, cap, rfl⟩ := okWide_slice ht hval
  obtain ⟨fuel, hf⟩ := hd
  rcases DataW.trod_slice ht hf with ⟨h, _⟩ | ⟨a', len', cap', _, _, _, _, h, _, _, h1, _⟩
  · simp [Value.cells] at h
    obtain ⟨rfl, rfl, rfl⟩ := h
    exact ⟨.lit (.slice none 0 0), by simp [Rel, Value.oneCell']⟩
  · simp [Value.cells] at h
    obtain ⟨rfl, rfl, rfl⟩ := h
    exact ⟨.sl [] len false false, by simp [Rel]; exact ⟨_, _, ⟨rfl, rfl⟩, h1, fun _ => rfl⟩⟩
set_option maxRecDepth 100000 in
theorem nil_calls {H : Type} {enc : TypeId × Value → H} {W : World} {args : Array Value} {ds : List (DataW H)} {p : List MemPlace} {base : Nat}
    (hval : ∀ (j : Nat) t v, Tryz.f9.params[j]? = some t → args[j]? = some v → Value.okWide Tryz.prog W .any base t v)
    (hA : DataW.TrodAll enc Tryz.prog W 0 (fun _ => true) true Tryz.f9.params.toList args.toList ds p) : Calls Tryz.prog 9 args W fun e w' => e = .returned (.bool true) ∧ Below W.heap.size W w' := by
  rw [Tryz.params9] at hA hval
  obtain ⟨v0, v1, d0, d1, p0, p1, hargs, rfl, rfl, h0, h1⟩ := trodAll_two hA
  obtain rfl : args = #[v0, v1] := by cases args; simp_all
  obtain ⟨id, rfl, rfl, rfl, w0⟩ := open_int Tryz.underlying3 (hval 0 3 v0 rfl rfl) h0
  obtain ⟨q, hq⟩ := slice_pv Tryz.underlying30 (hval 1 30 v1 rfl rfl) h1
  have hb : Tryz.f9.body = some (Tryz.f9.body.getD .skip) := by kernel_rfl
  refine law_calls (xs := [.lit (.int .i64 id), q]) (vs := [.int .i64 id, v1]) wd_env tz_mix Tryz.func9 hb ?_ (of_decide_eq_true (by kernel_rfl)) (of_decide_eq_true (by kernel_rfl)) (n := 400) ?_
  · simp [RelL, Rel, Value.oneCell']
    exact ⟨_, _, ⟨rfl, rfl⟩, rfl, _, rfl, hq⟩
  · rw [← runF_eq]; exact nil_run id q
set_option maxRecDepth 100000 in
theorem nil_lifted (os : Os) (started : os.Started) (H : Type) (enc : TypeId × Value → H) :
    ReturnsInHanded {} Tryz.checked os 9 .any (Rows.rewriteNilSpec.pre6 enc Tryz.prog Tryz.f9 Rows.rewriteNilRow.domain false) (Rows.rewriteNilSpec.post enc Tryz.prog Tryz.f9 false true false false) := by
  refine returnsInHanded_of_change (C := Tryz.checked) own started (by kernel_rfl) Tryz.func9
    (ChangeSpec.witness6 (enc := enc) (C := Tryz.checked) false ⟨#[], #[.int .i64 0, .slice none 0 0], []⟩ 8 (by kernel_rfl) (by kernel_rfl) (by kernel_rfl) (by kernel_rfl)) ?_
  intro W base args ds gs before hval hW _ _
  obtain ⟨p, q, hA, hV, _, _, _⟩ := id hW
  obtain ⟨rfl, rfl⟩ := trodVars_none hV
  refine (nil_calls hval hA).mono fun e W' ⟨he, hb⟩ => ⟨_, he, ?_⟩
  have hlen : ds.length = 2 := by
    have hA2 : DataW.TrodAll enc Tryz.prog W 0 (fun _ => true) true Tryz.f9.params.toList args.toList ds p := hA
    rw [Tryz.params9] at hA2
    obtain ⟨v0, v1, d0, d1, p0, p1, _, rfl, _⟩ := trodAll_two hA2
    rfl
  obtain ⟨d0, d1, rfl⟩ : ∃ d0 d1, ds = [d0, d1] := by
    match ds, hlen with
    | [d0, d1], _ => exact ⟨d0, d1, rfl⟩
  exact law_post laidOut (fun t ht => by
    rw [Tryz.params9] at ht
    simp only [List.mem_cons, List.not_mem_nil, or_false] at ht
    rcases ht with rfl | rfl
    · exact ⟨by kernel_rfl, of_decide_eq_true (by kernel_rfl)⟩
    · exact ⟨by kernel_rfl, of_decide_eq_true (by kernel_rfl)⟩) (t := 4) (by kernel_rfl) Tryz.underlying4 rfl rfl hW hb
end Go.Proofs.YtfiiilmmbjagoaaGreat
namespace Go.Proofs.YtfiiilmmbjagoaaGreat
open Go.ChangeShapes Go.WideShapes Go.ChangeAt Go.RowKit Go.PI
theorem nil_named : Tryz.prog.funcNamed Rows.rewriteNilRow.func = some 9 := by kernel_rfl
theorem nil_inst : Func.isInstance Tryz.prog Tryz.f9 Rows.rewriteNilRow.origin Rows.rewriteNilRow.targs := (of_decide_eq_true (by kernel_rfl))
theorem nil_wrap : Func.isWrapper Tryz.prog Tryz.f9 Rows.rewriteNilRow.wrapper Rows.rewriteNilRow.mainSum := (by unfold Func.isWrapper; first | (rw [if_pos (by decide +kernel)]; kernel_rfl) | (rw [if_neg (by decide +kernel)]; exact ⟨rfl, rfl⟩))
theorem rewriteNil_holds : Rows.RewriteNilSaid :=
  OpenClaim.holds_of_wide 9 Tryz.f9 rfl rfl rfl rfl rfl rfl rfl ⟨rfl, rfl, rfl, rfl, rfl⟩ rfl rfl rfl rfl rfl nil_named Tryz.func9 nil_joined nil_inst nil_wrap
    (fun os started H enc _ => nil_lifted os started H enc)
end Go.Proofs.YtfiiilmmbjagoaaGreat
