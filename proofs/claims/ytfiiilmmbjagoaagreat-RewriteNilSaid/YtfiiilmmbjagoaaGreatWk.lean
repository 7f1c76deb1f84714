/-
  The closed run syllogismlaw23.wakes comes to true: told by the kernel's run of the plain machine. No conditions.
-/
import Derived.Test.YtfiiilmmbjagoaaGreatTb
namespace Go.PI
open Go.Proofs
/-- Function 21, called by 14. -/
def wc0 : Memo := ⟨21, false, [(.agg [(.lit (.bool false)), (.sl [(.lit (.int .i64 0)), (.lit (.int .i64 1)), (.lit (.int .i64 2)), (.lit (.int .i64 3))] 4 false true), (.sl [(.lit (.int .i64 1)), (.lit (.int .i64 1)), (.lit (.int .i64 1)), (.lit (.int .i64 1))] 4 false true), (.lit (.int .i64 1))]), (.row 7 0 1 1 true), (.row 6 0 1 5 true)], ⟨[.cells [(.lit (.int .i64 (-1))), (.lit (.slice none 0 0))], .cells [(.lit (.bool false)), (.lit (.int .i64 2)), (.row 0 0 1 2 true), (.lit (.int .i64 (-1))), (.lit (.slice none 0 0))], .cells [(.lit (.int .i64 1)), (.lit (.slice none 0 0))], .cells [(.lit (.int .i64 2)), (.row 2 0 1 2 true)], .dead, .cells [(.lit (.int .i64 2)), (.row 3 0 1 2 true)], .cells [(.lit (.bool false)), (.lit (.int .i64 3)), (.row 5 0 1 2 true), (.lit (.int .i64 0)), (.lit (.slice none 0 0))], .cells [(.row 1 0 1 5 true)], .dead]⟩, (.tup [(.agg [(.lit (.int .i64 5)), (.sl [(.lit (.int .i64 0)), (.lit (.int .i64 0))] 2 true true), (.sl [(.lit (.int .i64 0)), (.lit (.int .i64 0))] 2 true true), (.sl [(.lit (.bool false)), (.lit (.bool false))] 2 true true), (.sl [(.lit (.int .i64 0))] 1 false true), (.sl [(.lit (.bool false)), (.lit (.int .i64 3)), (.sl [(.lit (.int .i64 2)), (.sl [(.lit (.int .i64 1)), (.lit (.slice none 0 0))] 1 true true)] 1 true true), (.lit (.int .i64 0)), (.lit (.slice none 0 0))] 1 false true)]), (.lit (.bool true))])⟩
/-- Function 21, called by 14. -/
def wc1 : Memo := ⟨21, false, [(.agg [(.lit (.bool false)), (.sl [(.lit (.int .i64 0)), (.lit (.int .i64 1)), (.lit (.int .i64 2)), (.lit (.int .i64 3))] 4 false true), (.sl [(.lit (.int .i64 1)), (.lit (.int .i64 1)), (.lit (.int .i64 1)), (.lit (.int .i64 1))] 4 false true), (.lit (.int .i64 1))]), (.row 7 0 1 1 true), (.sl [(.lit (.bool false)), (.lit (.int .i64 3)), (.sl [(.lit (.int .i64 2)), (.sl [(.lit (.int .i64 1)), (.lit (.slice none 0 0))] 1 true true)] 1 true true), (.lit (.int .i64 0)), (.lit (.slice none 0 0))] 1 false true)], ⟨[.cells [(.lit (.int .i64 (-1))), (.lit (.slice none 0 0))], .cells [(.lit (.bool false)), (.lit (.int .i64 2)), (.row 0 0 1 2 true), (.lit (.int .i64 (-1))), (.lit (.slice none 0 0))], .dead, .dead, .dead, .dead, .dead, .cells [(.row 1 0 1 5 true)], .dead, .dead, .dead, .dead]⟩, (.tup [(.agg [(.lit (.int .i64 5)), (.sl [(.lit (.int .i64 0)), (.lit (.int .i64 0))] 2 true true), (.sl [(.lit (.int .i64 0)), (.lit (.int .i64 0))] 2 true true), (.sl [(.lit (.bool false)), (.lit (.bool false))] 2 true true), (.sl [(.lit (.int .i64 0))] 1 false true), (.sl [(.lit (.bool false)), (.lit (.int .i64 3)), (.sl [(.lit (.int .i64 1)), (.lit (.slice none 0 0))] 1 true true), (.lit (.int .i64 0)), (.lit (.slice none 0 0))] 1 false true)]), (.lit (.bool true))])⟩
/-- Function 21, called by 14. -/
def wc2 : Memo := ⟨21, false, [(.agg [(.lit (.bool false)), (.sl [(.lit (.int .i64 0)), (.lit (.int .i64 1)), (.lit (.int .i64 2)), (.lit (.int .i64 3))] 4 false true), (.sl [(.lit (.int .i64 1)), (.lit (.int .i64 1)), (.lit (.int .i64 1)), (.lit (.int .i64 1))] 4 false true), (.lit (.int .i64 1))]), (.row 7 0 1 1 true), (.sl [(.lit (.bool false)), (.lit (.int .i64 3)), (.sl [(.lit (.int .i64 1)), (.lit (.slice none 0 0))] 1 true true), (.lit (.int .i64 0)), (.lit (.slice none 0 0))] 1 false true)], ⟨[.cells [(.lit (.int .i64 (-1))), (.lit (.slice none 0 0))], .cells [(.lit (.bool false)), (.lit (.int .i64 2)), (.row 0 0 1 2 true), (.lit (.int .i64 (-1))), (.lit (.slice none 0 0))], .dead, .dead, .dead, .dead, .dead, .cells [(.row 1 0 1 5 true)], .dead, .dead, .dead, .dead, .dead, .dead, .dead]⟩, (.tup [(.agg [(.lit (.int .i64 0)), (.lit (.slice none 0 0)), (.lit (.slice none 0 0)), (.lit (.slice none 0 0)), (.lit (.slice none 0 0)), (.lit (.slice none 0 0))]), (.lit (.bool false))])⟩
def wcL : List Memo := [wc0, wc1, wc2]
theorem wc0_run : runF (Pg.base waT wcL) 5000 ⟨14, 0, 0, [], false, none⟩ (.call (.fn 21 [] []) wc0.xs) wc0.h (fun o => pvB o.v wc0.v) = true := by kernel_rfl
theorem wc1_run : runF (Pg.base waT wcL) 5000 ⟨14, 0, 0, [], false, none⟩ (.call (.fn 21 [] []) wc1.xs) wc1.h (fun o => pvB o.v wc1.v) = true := by kernel_rfl
theorem wc2_run : runF (Pg.base waT wcL) 5000 ⟨14, 0, 0, [], false, none⟩ (.call (.fn 21 [] []) wc2.xs) wc2.h (fun o => pvB o.v wc2.v) = true := by kernel_rfl
noncomputable def wcT : Pg := waT.with (memoF wcL) (memoS wcL)
theorem wc_env : Env Tryz.prog wcT := by
  refine memo_env wa_env tz_mix wcL (fun m hm => ?_) fun m hm => ?_
  · simp only [wcL, List.mem_cons, List.not_mem_nil, or_false] at hm
    rcases hm with rfl | rfl | rfl
    · exact ⟨_, Tryz.func21, rfl⟩
    · exact ⟨_, Tryz.func21, rfl⟩
    · exact ⟨_, Tryz.func21, rfl⟩
  · simp only [wcL, List.mem_cons, List.not_mem_nil, or_false] at hm
    rcases hm with rfl | rfl | rfl
    · exact ⟨fun h => (by cases h), gives_of (by kernel_rfl) wc0_run⟩
    · exact ⟨fun h => (by cases h), gives_of (by kernel_rfl) wc1_run⟩
    · exact ⟨fun h => (by cases h), gives_of (by kernel_rfl) wc2_run⟩
end Go.PI
namespace Go.PI
open Go.Proofs
/-- Function 13, called by 0. -/
def wd0 : Memo := ⟨13, true, [], ⟨[]⟩, (.lit (.bool true))⟩
def wdL : List Memo := [wd0]
theorem wd0_run : runF (Pg.base wcT wdL) 5000 ⟨0, 0, 0, [], false, none⟩ (.call (.fn 13 [] []) wd0.xs) wd0.h (fun o => pvB o.v wd0.v) = true := by kernel_rfl
noncomputable def wdT : Pg := wcT.with (memoF wdL) (memoS wdL)
theorem wd_env : Env Tryz.prog wdT := by
  refine memo_env wc_env tz_mix wdL (fun m hm => ?_) fun m hm => ?_
  · simp only [wdL, List.mem_cons, List.not_mem_nil, or_false] at hm
    subst hm
    · exact ⟨_, Tryz.func13, rfl⟩
  · simp only [wdL, List.mem_cons, List.not_mem_nil, or_false] at hm
    subst hm
    · exact ⟨fun _ => ⟨by decide, rfl⟩, gives_of (by kernel_rfl) wd0_run⟩
end Go.PI
