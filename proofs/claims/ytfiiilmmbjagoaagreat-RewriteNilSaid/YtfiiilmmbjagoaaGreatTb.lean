/-
  The program's own table for the plain machine; three closed calls of order.Lits, told by the kernel's run. No conditions.
-/
import Derived.Test.YtfiiilmmbjagoaaGreatPc
import Derived.Test.YtfiiilmmbjagoaaGreatRows
namespace Go.PI
open Go.Proofs
def impure : Nat := 559936653777413755403912315439960449544699245435074796315077141746748261665808592426756346912954122240
def pairB (c f : Nat) : Bool := (Nat.beq c 105 && Nat.beq f 124) || (Nat.beq c 73 && Nat.beq f 120) || (Nat.beq c 54 && Nat.beq f 106) || (Nat.beq c 68 && Nat.beq f 120)
noncomputable def tz : Pg := { fn := fun f => Tryz.prog.funcs[f]?, ty := tiOf Tryz.prog.types, pure := fun c f => !(impure.testBit f || pairB c f), sum := fun _ => none }
theorem tz_tys : (List.range Tryz.prog.types.size).all (tyB Tryz.prog.types) = true := by kernel_rfl
theorem tz_names : Tryz.prog.funcs.toList.all (fun f => !(f.name == "runtime.NumGoroutine")) = true := by kernel_rfl
theorem tz_mix : Tryz.prog.follows .mixedOrders = true := by kernel_rfl
theorem tz_env : Env Tryz.prog tz := ⟨tiOf_ok tz_tys, fun f fn h => ⟨h, by
  have := List.all_eq_true.1 tz_names fn (by
    obtain ⟨hl, he⟩ := Array.getElem?_eq_some_iff.1 h
    rw [← he]; simp)
  simpa using this⟩, fun f s h => by cases h⟩
/-- A call at the top, that comes to true. -/
noncomputable def topT (T : Pg) (n f : Nat) (xs : List PV) : Bool := runF T n ⟨0, 0, 0, [], false, none⟩ (.call (.fn f [] []) xs) ⟨[]⟩ fun o => match o.v with | .lit (.bool b) => b | _ => false
end Go.PI
namespace Go.PI
open Go.Proofs
/-- Function 62, called by 61. -/
def wa0 : Memo := ⟨62, false, [(.agg [(.lit (.bool false)), (.sl [(.lit (.int .i64 0)), (.lit (.int .i64 1)), (.lit (.int .i64 2)), (.lit (.int .i64 3))] 4 false true), (.sl [(.lit (.int .i64 1)), (.lit (.int .i64 1)), (.lit (.int .i64 1)), (.lit (.int .i64 1))] 4 false true), (.lit (.int .i64 1))]), (.agg [(.lit (.bool false)), (.lit (.int .i64 3)), (.row 5 0 1 2 true), (.lit (.int .i64 0)), (.lit (.slice none 0 0))]), (.agg [(.lit (.bool false)), (.lit (.int .i64 2)), (.sl [(.lit (.int .i64 2)), (.sl [(.lit (.int .i64 1)), (.lit (.slice none 0 0))] 1 true true)] 1 true true), (.lit (.int .i64 2)), (.sl [(.lit (.int .i64 1)), (.lit (.slice none 0 0))] 1 true true)])], ⟨[.dead, .dead, .cells [(.lit (.int .i64 1)), (.lit (.slice none 0 0))], .cells [(.lit (.int .i64 2)), (.row 2 0 1 2 true)], .dead, .cells [(.lit (.int .i64 2)), (.row 3 0 1 2 true)], .dead, .dead, .dead, .dead, .dead, .dead, .dead, .dead, .dead, .dead, .dead, .dead, .dead, .dead, .dead, .dead, .dead, .dead, .dead, .dead, .dead, .dead, .dead, .dead, .dead, .dead, .dead, .dead, .dead, .dead, .dead, .dead, .dead, .dead, .dead, .dead, .dead, .dead, .dead, .dead, .dead, .dead, .dead, .dead, .dead]⟩, (.lit (.int .i64 3))⟩
/-- Function 62, called by 61. -/
def wa1 : Memo := ⟨62, false, [(.agg [(.lit (.bool false)), (.sl [(.lit (.int .i64 0)), (.lit (.int .i64 1)), (.lit (.int .i64 2)), (.lit (.int .i64 3))] 4 false true), (.sl [(.lit (.int .i64 1)), (.lit (.int .i64 1)), (.lit (.int .i64 1)), (.lit (.int .i64 1))] 4 false true), (.lit (.int .i64 1))]), (.agg [(.lit (.bool false)), (.lit (.int .i64 3)), (.row 5 0 1 2 true), (.lit (.int .i64 0)), (.lit (.slice none 0 0))]), (.agg [(.lit (.bool false)), (.lit (.int .i64 2)), (.sl [(.lit (.int .i64 2)), (.sl [(.lit (.int .i64 1)), (.lit (.slice none 0 0))] 1 true true)] 1 true true), (.lit (.int .i64 2)), (.sl [(.lit (.int .i64 1)), (.lit (.slice none 0 0))] 1 true true)])], ⟨[.dead, .dead, .cells [(.lit (.int .i64 1)), (.lit (.slice none 0 0))], .cells [(.lit (.int .i64 2)), (.row 2 0 1 2 true)], .dead, .cells [(.lit (.int .i64 2)), (.row 3 0 1 2 true)], .dead, .dead, .dead, .dead, .dead, .dead, .dead, .dead, .dead, .dead, .dead, .dead, .dead, .dead, .dead, .dead, .dead, .dead, .dead, .dead, .dead, .dead, .dead, .dead, .dead, .dead, .dead, .dead, .dead, .dead, .dead, .dead, .dead, .dead, .dead, .dead, .dead, .dead, .dead, .dead, .dead, .dead, .dead, .dead, .dead, .dead, .dead, .dead, .dead]⟩, (.lit (.int .i64 3))⟩
/-- Function 62, called by 61. -/
def wa2 : Memo := ⟨62, true, [(.agg [(.lit (.bool false)), (.sl [(.lit (.int .i64 0)), (.lit (.int .i64 1)), (.lit (.int .i64 2)), (.lit (.int .i64 3))] 4 false true), (.sl [(.lit (.int .i64 1)), (.lit (.int .i64 1)), (.lit (.int .i64 1)), (.lit (.int .i64 1))] 4 false true), (.lit (.int .i64 1))]), (.agg [(.lit (.bool false)), (.lit (.int .i64 3)), (.sl [(.lit (.int .i64 2)), (.sl [(.lit (.int .i64 1)), (.lit (.slice none 0 0))] 1 true true)] 1 true true), (.lit (.int .i64 0)), (.lit (.slice none 0 0))]), (.agg [(.lit (.bool false)), (.lit (.int .i64 2)), (.sl [(.lit (.int .i64 1)), (.lit (.slice none 0 0))] 1 true true), (.lit (.int .i64 1)), (.lit (.slice none 0 0))])], ⟨[]⟩, (.lit (.int .i64 3))⟩
def waL : List Memo := [wa0, wa1, wa2]
theorem wa0_run : runF (Pg.base tz waL) 5000 ⟨61, 0, 0, [], false, none⟩ (.call (.fn 62 [] []) wa0.xs) wa0.h (fun o => pvB o.v wa0.v) = true := by kernel_rfl
theorem wa1_run : runF (Pg.base tz waL) 5000 ⟨61, 0, 0, [], false, none⟩ (.call (.fn 62 [] []) wa1.xs) wa1.h (fun o => pvB o.v wa1.v) = true := by kernel_rfl
theorem wa2_run : runF (Pg.base tz waL) 5000 ⟨61, 0, 0, [], false, none⟩ (.call (.fn 62 [] []) wa2.xs) wa2.h (fun o => pvB o.v wa2.v) = true := by kernel_rfl
noncomputable def waT : Pg := tz.with (memoF waL) (memoS waL)
theorem wa_env : Env Tryz.prog waT := by
  refine memo_env tz_env tz_mix waL (fun m hm => ?_) fun m hm => ?_
  · simp only [waL, List.mem_cons, List.not_mem_nil, or_false] at hm
    rcases hm with rfl | rfl | rfl
    · exact ⟨_, Tryz.func62, rfl⟩
    · exact ⟨_, Tryz.func62, rfl⟩
    · exact ⟨_, Tryz.func62, rfl⟩
  · simp only [waL, List.mem_cons, List.not_mem_nil, or_false] at hm
    rcases hm with rfl | rfl | rfl
    · exact ⟨fun h => (by cases h), gives_of (by kernel_rfl) wa0_run⟩
    · exact ⟨fun h => (by cases h), gives_of (by kernel_rfl) wa1_run⟩
    · exact ⟨fun _ => ⟨by decide, rfl⟩, gives_of (by kernel_rfl) wa2_run⟩
end Go.PI
