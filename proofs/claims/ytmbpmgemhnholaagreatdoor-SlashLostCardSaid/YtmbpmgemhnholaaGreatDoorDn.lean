import Derived.Test.YtmbpmgemhnholaaGreatDoorDm
import Derived.Test.YtmbpmgemhnholaaGreatDoorDf
set_option maxRecDepth 1000000
set_option maxHeartbeats 0
namespace Go.Ax
open Go Go.Proofs
noncomputable section
def wW (n : Nat) : Value := .int .u64 (Int.ofNat n)
def wideTr (a b hi lo : Nat) (i : Int) : Tr Value := (((((((Tr.e.set 0 (wW a)).set 1 (wW b)).set 4 (wW 0)).set 5 (wW 0)).set 6 (wW hi)).set 7 (wW lo)).set 8 (.int .i64 i))
abbrev K0 : KP := ⟨1, none, fun _ _ => none, fun _ _ _ _ => none⟩
def kx : XK (Ex × Fr × St) := fun ex fr s => some (ex, fr, s)
def Fn.wideB0 (i : Nat) : Int := wrap IntKind.i64 (subI (Int.ofNat i) 1)
def Fn.wideB1 (a : Nat) (b : Nat) (hi : Nat) (lo : Nat) (i : Nat) : Nat := sel (eqI (Int.ofNat ((a.div (Nat.pow 2 (sel (i.ble 64) i 64))).mod 2)) 1) (sel (ltI (Int.ofNat ((((Nat.mul 2 lo).mod 18446744073709551616).add b).mod 18446744073709551616)) (Int.ofNat ((Nat.mul 2 lo).mod 18446744073709551616))) ((((((Nat.mul 2 hi).mod 18446744073709551616).add (lo.div 9223372036854775808)).mod 18446744073709551616).add 1).mod 18446744073709551616) ((((Nat.mul 2 hi).mod 18446744073709551616).add (lo.div 9223372036854775808)).mod 18446744073709551616)) ((((Nat.mul 2 hi).mod 18446744073709551616).add (lo.div 9223372036854775808)).mod 18446744073709551616)
def Fn.wideB2 (a : Nat) (b : Nat) (lo : Nat) (i : Nat) : Nat := sel (eqI (Int.ofNat ((a.div (Nat.pow 2 (sel (i.ble 64) i 64))).mod 2)) 1) ((((Nat.mul 2 lo).mod 18446744073709551616).add b).mod 18446744073709551616) ((Nat.mul 2 lo).mod 18446744073709551616)
theorem wideB_tree (a b hi lo i : Nat) (loc : List (Nat × Value)) (ds : List (FuncId × List Value)) (s : St) (m : Nat) : execK K0.plain C4 (runK K0 C4 m).1 (runK K0 C4 m).2 9 94 false (Cat ((bodyT 94).getD .skip) [1,1,0,1,0,0]) kx ⟨wideTr a b hi lo (Int.ofNat i), loc, ds⟩ s = sel (eqI (Int.ofNat ((a.div (Nat.pow 2 (sel (i.ble 64) i 64))).mod 2)) 1) (sel (ltI (Int.ofNat ((((Nat.mul 2 lo).mod 18446744073709551616).add b).mod 18446744073709551616)) (Int.ofNat ((Nat.mul 2 lo).mod 18446744073709551616))) (some (Ex.normal, { vars := Tr.n (some (Value.int IntKind.u64 (Int.ofNat a))) (Tr.n none (Tr.n none (Tr.n none Tr.e (Tr.n (some (Value.int IntKind.i64 (wrap IntKind.i64 (subI (Int.ofNat i) 1)))) Tr.e Tr.e)) (Tr.n (some (Value.int IntKind.u64 (Int.ofNat 0))) Tr.e Tr.e)) (Tr.n none Tr.e (Tr.n (some (Value.int IntKind.u64 (Int.ofNat ((((((Nat.mul 2 hi).mod 18446744073709551616).add (lo.div 9223372036854775808)).mod 18446744073709551616).add 1).mod 18446744073709551616)))) Tr.e Tr.e))) (Tr.n (some (Value.int IntKind.u64 (Int.ofNat b))) (Tr.n none Tr.e (Tr.n (some (Value.int IntKind.u64 (Int.ofNat 0))) Tr.e Tr.e)) (Tr.n none Tr.e (Tr.n (some (Value.int IntKind.u64 (Int.ofNat ((((Nat.mul 2 lo).mod 18446744073709551616).add b).mod 18446744073709551616)))) Tr.e Tr.e))), loc := [(12, Value.int IntKind.i64 (wrap IntKind.i64 (subI (Int.ofNat i) 1))), (11, Value.int IntKind.i64 (Int.ofNat i))], defers := ds }, s)) (some (Ex.normal, { vars := Tr.n (some (Value.int IntKind.u64 (Int.ofNat a))) (Tr.n none (Tr.n none (Tr.n none Tr.e (Tr.n (some (Value.int IntKind.i64 (wrap IntKind.i64 (subI (Int.ofNat i) 1)))) Tr.e Tr.e)) (Tr.n (some (Value.int IntKind.u64 (Int.ofNat 0))) Tr.e Tr.e)) (Tr.n none Tr.e (Tr.n (some (Value.int IntKind.u64 (Int.ofNat ((((Nat.mul 2 hi).mod 18446744073709551616).add (lo.div 9223372036854775808)).mod 18446744073709551616)))) Tr.e Tr.e))) (Tr.n (some (Value.int IntKind.u64 (Int.ofNat b))) (Tr.n none Tr.e (Tr.n (some (Value.int IntKind.u64 (Int.ofNat 0))) Tr.e Tr.e)) (Tr.n none Tr.e (Tr.n (some (Value.int IntKind.u64 (Int.ofNat ((((Nat.mul 2 lo).mod 18446744073709551616).add b).mod 18446744073709551616)))) Tr.e Tr.e))), loc := [(12, Value.int IntKind.i64 (wrap IntKind.i64 (subI (Int.ofNat i) 1))), (11, Value.int IntKind.i64 (Int.ofNat i))], defers := ds }, s))) (some (Ex.normal, { vars := Tr.n (some (Value.int IntKind.u64 (Int.ofNat a))) (Tr.n none (Tr.n none (Tr.n none Tr.e (Tr.n (some (Value.int IntKind.i64 (wrap IntKind.i64 (subI (Int.ofNat i) 1)))) Tr.e Tr.e)) (Tr.n (some (Value.int IntKind.u64 (Int.ofNat 0))) Tr.e Tr.e)) (Tr.n none Tr.e (Tr.n (some (Value.int IntKind.u64 (Int.ofNat ((((Nat.mul 2 hi).mod 18446744073709551616).add (lo.div 9223372036854775808)).mod 18446744073709551616)))) Tr.e Tr.e))) (Tr.n (some (Value.int IntKind.u64 (Int.ofNat b))) (Tr.n none Tr.e (Tr.n (some (Value.int IntKind.u64 (Int.ofNat 0))) Tr.e Tr.e)) (Tr.n none Tr.e (Tr.n (some (Value.int IntKind.u64 (Int.ofNat ((Nat.mul 2 lo).mod 18446744073709551616)))) Tr.e Tr.e))), loc := [(12, Value.int IntKind.i64 (wrap IntKind.i64 (subI (Int.ofNat i) 1))), (11, Value.int IntKind.i64 (Int.ofNat i))], defers := ds }, s)) := by kernel_rfl
theorem wideB_val (a b hi lo i : Nat) (loc : List (Nat × Value)) (ds : List (FuncId × List Value)) (s : St) (m : Nat) : execK K0.plain C4 (runK K0 C4 m).1 (runK K0 C4 m).2 9 94 false (Cat ((bodyT 94).getD .skip) [1,1,0,1,0,0]) kx ⟨wideTr a b hi lo (Int.ofNat i), loc, ds⟩ s = some ((Ex.normal, { vars := Tr.n (some (Value.int IntKind.u64 (Int.ofNat a))) (Tr.n none (Tr.n none (Tr.n none Tr.e (Tr.n (some (Value.int IntKind.i64 (Fn.wideB0 i))) Tr.e Tr.e)) (Tr.n (some (Value.int IntKind.u64 (Int.ofNat 0))) Tr.e Tr.e)) (Tr.n none Tr.e (Tr.n (some (Value.int IntKind.u64 (Int.ofNat (Fn.wideB1 a b hi lo i)))) Tr.e Tr.e))) (Tr.n (some (Value.int IntKind.u64 (Int.ofNat b))) (Tr.n none Tr.e (Tr.n (some (Value.int IntKind.u64 (Int.ofNat 0))) Tr.e Tr.e)) (Tr.n none Tr.e (Tr.n (some (Value.int IntKind.u64 (Int.ofNat (Fn.wideB2 a b lo i)))) Tr.e Tr.e))), loc := [(12, Value.int IntKind.i64 (Fn.wideB0 i)), (11, Value.int IntKind.i64 (Int.ofNat i))], defers := ds }, s)) := by
  rw [wideB_tree]
  unfold Fn.wideB0 Fn.wideB1 Fn.wideB2
  cases (eqI (Int.ofNat ((a.div (Nat.pow 2 (sel (i.ble 64) i 64))).mod 2)) 1) with
  | true =>
    cases (ltI (Int.ofNat ((((Nat.mul 2 lo).mod 18446744073709551616).add b).mod 18446744073709551616)) (Int.ofNat ((Nat.mul 2 lo).mod 18446744073709551616))) with
    | true =>
      rfl
    | false =>
      rfl
  | false =>
    rfl

def Fn.wideE0 (i : Nat) : Int := Int.negSucc i
theorem wideE_tree (a b hi lo i : Nat) (loc : List (Nat × Value)) (ds : List (FuncId × List Value)) (s : St) (m : Nat) : execK K0.plain C4 (runK K0 C4 m).1 (runK K0 C4 m).2 9 94 false (Cat ((bodyT 94).getD .skip) [1,1,0,1,0,0]) kx ⟨wideTr a b hi lo (Int.negSucc i), loc, ds⟩ s = some (Ex.exit 0, { vars := Tr.n (some (Value.int IntKind.u64 (Int.ofNat a))) (Tr.n none (Tr.n none (Tr.n none Tr.e (Tr.n (some (Value.int IntKind.i64 (Int.negSucc i))) Tr.e Tr.e)) (Tr.n (some (Value.int IntKind.u64 (Int.ofNat 0))) Tr.e Tr.e)) (Tr.n none Tr.e (Tr.n (some (Value.int IntKind.u64 (Int.ofNat hi))) Tr.e Tr.e))) (Tr.n (some (Value.int IntKind.u64 (Int.ofNat b))) (Tr.n none Tr.e (Tr.n (some (Value.int IntKind.u64 (Int.ofNat 0))) Tr.e Tr.e)) (Tr.n none Tr.e (Tr.n (some (Value.int IntKind.u64 (Int.ofNat lo))) Tr.e Tr.e))), loc := [(10, Value.bool false), (9, Value.int IntKind.i64 (Int.negSucc i))], defers := ds }, s) := by kernel_rfl
theorem wideE_val (a b hi lo i : Nat) (loc : List (Nat × Value)) (ds : List (FuncId × List Value)) (s : St) (m : Nat) : execK K0.plain C4 (runK K0 C4 m).1 (runK K0 C4 m).2 9 94 false (Cat ((bodyT 94).getD .skip) [1,1,0,1,0,0]) kx ⟨wideTr a b hi lo (Int.negSucc i), loc, ds⟩ s = some ((Ex.exit 0, { vars := Tr.n (some (Value.int IntKind.u64 (Int.ofNat a))) (Tr.n none (Tr.n none (Tr.n none Tr.e (Tr.n (some (Value.int IntKind.i64 (Fn.wideE0 i))) Tr.e Tr.e)) (Tr.n (some (Value.int IntKind.u64 (Int.ofNat 0))) Tr.e Tr.e)) (Tr.n none Tr.e (Tr.n (some (Value.int IntKind.u64 (Int.ofNat hi))) Tr.e Tr.e))) (Tr.n (some (Value.int IntKind.u64 (Int.ofNat b))) (Tr.n none Tr.e (Tr.n (some (Value.int IntKind.u64 (Int.ofNat 0))) Tr.e Tr.e)) (Tr.n none Tr.e (Tr.n (some (Value.int IntKind.u64 (Int.ofNat lo))) Tr.e Tr.e))), loc := [(10, Value.bool false), (9, Value.int IntKind.i64 (Fn.wideE0 i))], defers := ds }, s)) := by
  rw [wideE_tree]
  unfold Fn.wideE0
  rfl

/-- the loop's round -/
def wideC : Code := Cat ((bodyT 94).getD .skip) [1,1,0,1,0,0]
def iv : Nat → Int
  | 0 => .negSucc 0
  | j + 1 => .ofNat j
/-- what the rounds come to -/
def wideF (a b : Nat) : Nat → Nat → Nat → Nat × Nat
  | 0, hi, lo => (hi, lo)
  | j + 1, hi, lo => wideF a b j (Fn.wideB1 a b hi lo j) (Fn.wideB2 a b lo j)
def Fn.wideHi (a b hi lo : Nat) : Nat := (wideF a b 64 hi lo).1
def Fn.wideLo (a b hi lo : Nat) : Nat := (wideF a b 64 hi lo).2
theorem iv_next {j : Nat} (h : j ≤ 200) : Fn.wideB0 j = iv j := by
  unfold Fn.wideB0
  rw [wrap_eq, subI_eq]
  cases j with
  | zero => rfl
  | succ j =>
    show IntKind.wrap .i64 (((j + 1 : Nat) : Int) - 1) = Int.ofNat j
    have : ((j + 1 : Nat) : Int) - 1 = Int.ofNat j := by simp
    rw [this]
    exact wrap_ofNat_i64 (by omega)
theorem wide_round (a b hi lo j : Nat) (loc : List (Nat × Value)) (ds : List (FuncId × List Value)) (s : St) (m : Nat) :
    exec C4 (runN C4 m).1 (runN C4 m).2 9 94 false wideC ⟨wideTr a b hi lo (.ofNat j), loc, ds⟩ s = some (.normal, ⟨wideTr a b (Fn.wideB1 a b hi lo j) (Fn.wideB2 a b lo j) (Fn.wideB0 j), [(12, .int .i64 (Fn.wideB0 j)), (11, .int .i64 (.ofNat j))], ds⟩, s) :=
  exec_of_K (K := K0) (by decide) altOk_none loopsOk_none (wideB_val a b hi lo j loc ds s m)
theorem wide_last (a b hi lo : Nat) (loc : List (Nat × Value)) (ds : List (FuncId × List Value)) (s : St) (m : Nat) :
    exec C4 (runN C4 m).1 (runN C4 m).2 9 94 false wideC ⟨wideTr a b hi lo (.negSucc 0), loc, ds⟩ s = some (.exit 0, ⟨wideTr a b hi lo (.negSucc 0), [(10, .bool false), (9, .int .i64 (.negSucc 0))], ds⟩, s) :=
  exec_of_K (K := K0) (by decide) altOk_none loopsOk_none (wideE_val a b hi lo 0 loc ds s m)
theorem wide_iter (a b : Nat) (ds : List (FuncId × List Value)) (s : St) (m : Nat) : ∀ (j : Nat), j ≤ 200 → ∀ (hi lo : Nat) (loc : List (Nat × Value)) (N : Nat), j < N →
    iter (exec C4 (runN C4 m).1 (runN C4 m).2 9 94 false wideC) N ⟨wideTr a b hi lo (iv j), loc, ds⟩ s = some (.exit 0, ⟨wideTr a b (wideF a b j hi lo).1 (wideF a b j hi lo).2 (.negSucc 0), [(10, .bool false), (9, .int .i64 (.negSucc 0))], ds⟩, s)
  | 0, _, hi, lo, loc, N + 1, _ => by
    show obind (exec C4 (runN C4 m).1 (runN C4 m).2 9 94 false wideC ⟨wideTr a b hi lo (.negSucc 0), loc, ds⟩ s) _ = _
    rw [wide_last]
    rfl
  | j + 1, hj, hi, lo, loc, N + 1, h => by
    show obind (exec C4 (runN C4 m).1 (runN C4 m).2 9 94 false wideC ⟨wideTr a b hi lo (.ofNat j), loc, ds⟩ s) _ = _
    rw [wide_round, iv_next (by omega)]
    exact wide_iter a b ds s m j (by omega) _ _ _ N (by omega)
def wideSk : Tr Unit := (((((((Tr.e.set 0 ()).set 1 ()).set 4 ()).set 5 ()).set 6 ()).set 7 ()).set 8 ())
def wideL (fr : Fr) (s : St) : Option (Bool × (Ex × Fr × St)) :=
  obind (unTr wideSk fr.vars) fun l => match l with
    | [.int .u64 (Int.ofNat a), .int .i64 (Int.ofNat 63), .int .u64 (Int.ofNat 0), .int .u64 (Int.ofNat hi), .int .u64 (Int.ofNat b), .int .u64 (Int.ofNat 0), .int .u64 (Int.ofNat lo)] =>
      some (true, (.exit 0, ⟨wideTr a b (Fn.wideHi a b hi lo) (Fn.wideLo a b hi lo) (.negSucc 0), [(10, .bool false), (9, .int .i64 (.negSucc 0))], fr.defers⟩, s))
    | _ => none
theorem wideTr_eq (a b hi lo : Nat) (i : Int) : mkTr wideSk [wW a, .int .i64 i, wW 0, wW hi, wW b, wW 0, wW lo] = wideTr a b hi lo i := rfl
theorem wide_told : ∀ m fr s q, wideL fr s = some (true, q) → exec C4 (runN C4 (m + 1)).1 (runN C4 (m + 1)).2 (C4.vars 94) 94 false (.loop wideC) fr s = some q := by
  intro m fr s q h
  obtain ⟨vars, loc, ds⟩ := fr
  obtain ⟨l, hl, h⟩ := obind_some.1 h
  have ht := unTr_eq hl
  have ht : vars = mkTr wideSk l := ht
  subst ht
  split at h
  · cases h
    exact wide_iter _ _ ds s (m + 1) 64 (by omega) _ _ loc 100000 (by omega)
  · cases h
theorem wide_only : ∀ c, C4.body 94 = some c → ∀ b, b ∈ loopsIn c → firstReg b = 3 → b = wideC := by
  intro c hc b hb _
  have h1 : loopsIn ((bodyT 94).getD .skip) = [wideC] := by kernel_rfl
  have h2 : (bodyT 94).getD .skip = c := by
    have : bodyT 94 = some c := hc
    rw [this]; rfl
  rw [h2] at h1
  rw [h1] at hb
  exact List.mem_singleton.1 hb
def K1 : KP := ⟨1, none, fun _ _ => none, laltCons 94 3 wideL fun _ _ _ _ => none⟩
theorem k1_loops : LoopsOk K1 C4 := LoopsOk.cons (K := K0) wide_only wide_told loopsOk_none
end
end Go.Ax

