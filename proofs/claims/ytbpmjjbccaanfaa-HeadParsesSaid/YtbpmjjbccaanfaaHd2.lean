import Derived.Test.YtbpmjjbccaanfaaHd1
import Derived.RangeFuncNested
import Derived.RangeFuncBound
import Derived.RangeFuncCalls
import Derived.RangeFuncLeaves
import Derived.RangeFuncBox
import Derived.RangeFuncWrites
import Derived.Shelf.Abstract
import Derived.Shelf.RegionOpen
import Derived.WalkKit
import Derived.OwnWalkIn
import Derived.TacticsInMore
import Derived.LoopNIn
import Derived.LoopIn
import Derived.OwnWalkIn
namespace Go.Proofs.Ytbpmjjbccaanfaa.Hd
open Go.RowKit Go.Shelf Go.Proofs.YtbpmjjbccaanfaaW.PrintWords Go.Proofs.YtbpmjjbccaanfaaW.PrintLast Go.Proofs.YtbpmjjbccaanfaaW.PrintMore
set_option linter.unusedVariables false
set_option linter.unusedSimpArgs false
attribute [local go_sem] Oper.semAt_some
/-- what the iterator reads: its two boxes -/
def KeepTwo (Bs Bn : Nat) (W W' : World) : Prop := W'.cell? ⟨Bs, 0, none⟩ = W.cell? ⟨Bs, 0, none⟩ ∧ W'.cell? ⟨Bn, 0, none⟩ = W.cell? ⟨Bn, 0, none⟩
theorem KeepTwo.refl (Bs Bn : Nat) (W : World) : KeepTwo Bs Bn W W := ⟨rfl, rfl⟩
theorem KeepTwo.trans {Bs Bn : Nat} {A B C : World} (h : KeepTwo Bs Bn A B) (k : KeepTwo Bs Bn B C) : KeepTwo Bs Bn A C := ⟨k.1.trans h.1, k.2.trans h.2⟩
theorem KeepTwo.drew {Bs Bn : Nat} {A B : World} (h : KeepTwo Bs Bn A B) : KeepTwo Bs Bn A B.drew := h
set_option maxRecDepth 100000 in
set_option maxHeartbeats 2000000 in
theorem chunk1_in (F : Fence) (n : Nat) (h185 : F.fn 185) (hro : F.round = none) (hn : 1 ≤ n) (l Bs Bn b off m sz L cap : Nat) (hL : L = m * sz) (hsz : 0 < sz) (hcap : L ≤ cap) (hreach : cap ≤ 9223372036854775807) (J Jx : List (Fin m) → World → Prop) (B0 : Nat) (hJ : AbidesFrom B0 J)
    (hY : ∀ pre (x : Fin m) W, J pre W → pre.length < m → YieldAt F (n - 1) Try.prog l #[.slice (some ⟨b, off + x.val * sz, none⟩) sz sz] W fun e W' =>
      (e = .returned (.bool true) ∧ J (pre ++ [x]) W' ∧ KeepTwo Bs Bn W W') ∨ (e = .returned (.bool false) ∧ Jx (pre ++ [x]) W'))
    (W : World) (hBs : W.cell? ⟨Bs, 0, none⟩ = some (.slice (some ⟨b, off, none⟩) L cap)) (hBn : W.cell? ⟨Bn, 0, none⟩ = some (.int .i64 sz)) (h0 : J [] W) :
    CallsIn F n Try.prog 185 #[.func (.yield l) #[] #[], .pointer (some ⟨Bs, 0, none⟩), .pointer (some ⟨Bn, 0, none⟩)] W fun e W' => (∃ v, e = .returned v) ∧
      ((∃ ys : List (Fin m), ys.map Fin.val = List.range m ∧ J ys W') ∨ (∃ pre : List (Fin m), (∃ k, k ≤ m ∧ pre.map Fin.val = List.range k) ∧ Jx pre W')) := by
  refine callsIn_of_wp Try.func185 rfl h185 ?_ hro
  simp only [Try.ntmps185, List.size_toArray, List.length_cons, List.length_nil, Nat.reduceAdd, Nat.reduceSub, Array.replicate_succ, Array.replicate_zero, List.push_toArray, List.append_toArray, List.nil_append, List.cons_append]
  gi_wp2
  gi_loopw [4] (fun i wr => ∃ (k p : Nat) (ks : List (Fin m)), k ≤ m ∧ Aside0 (p = k * sz) ∧ i = .int .i64 p ∧ Aside0 (ks.map Fin.val = List.range k) ∧ J ks wr ∧ KeepTwo Bs Bn W wr)
    (fun i _ => L - (intOf i).toNat)
  case atStart => exact ⟨0, 0, [], Nat.zero_le _, ⟨by simp⟩, rfl, ⟨rfl⟩, h0, KeepTwo.refl _ _ _⟩
  case round =>
    obtain ⟨k, p, ks, hk, hp, rfl, hks, hJs, hnx⟩ := hrel
    have hkl : ks.length = k := by have := congrArg List.length hks.out; simpa using this
    have hcs := hnx.1.trans hBs
    have hcn := hnx.2.trans hBn
    by_cases hlt : k < m
    · have hpl : p + sz ≤ L := by
        rw [hp.out, hL, ← Nat.succ_mul]; exact Nat.mul_le_mul_right _ hlt
      have hL' := Aside0.mk hL
      clear hL
      have hmn : ¬ L - p < sz := by omega
      have hcp : ¬ cap = p := by omega
      have hkl' := Aside0.mk hkl
      clear hkl
      have hJd : J ks wr.drew := hJ _ _ _ none hJs ⟨rfl, rfl, rfl, Nat.le_refl _, fun _ _ _ => rfl⟩ (fun r e => by cases e)
      obtain ⟨fn, tmps, assign, body, hy, hR⟩ := hY _ ⟨k, hlt⟩ wr.drew hJd (by rw [hkl'.out]; exact hlt)
      simp only at hy
      rw [← hp.out] at hy
      have hsn : Aside0 ((ks ++ [(⟨k, hlt⟩ : Fin m)]).map Fin.val = List.range (k + 1)) := ⟨by rw [List.map_append, hks.out, List.range_succ]; rfl⟩
      clear hY
      gi_wp2
      gi_region
      all_goals
        gi_wp2
        refine hR.mono ?_
        rintro e W3 (⟨rfl, hJ3, hk3⟩ | ⟨rfl, hJx3⟩)
        · have hcn3 := hk3.2.trans hcn
          clear hR hy
          gi_wp2
          go_roundw
          case rel => exact ⟨k + 1, p + sz, _, by omega, ⟨by rw [hp.out, Nat.succ_mul]⟩, by go_num, hsn, hJ3, hnx.drew.trans hk3⟩
          case measure => simp [intOf]; omega
        · gi_wp2
          refine bodyPost_ret (results_none rfl _ _ _) rfl ?_
          exact ⟨⟨_, rfl⟩, .inr ⟨_, ⟨k + 1, by omega, hsn.out⟩, hJx3⟩⟩
    · obtain rfl : k = m := by omega
      have hpl : p = L := by rw [hp.out, hL]
      subst hpl
      gi_wp2
      go_end0
      exact ⟨⟨_, rfl⟩, .inl ⟨_, hks.out, hJs⟩⟩

set_option maxHeartbeats 1000000 in
theorem chunk (A : Option Addr) (L c : Nat) (sz : Int) (w : World) (h : 1 ≤ sz) : Calls Try.prog 171 #[.slice A L c, .int .i64 sz] w fun e w' =>
    e = .returned (.func (.func 185) #[] #[.pointer (some ⟨w.heap.size, 0, none⟩), .pointer (some ⟨w.heap.size + 1, 0, none⟩)]) ∧ w' = (w.alloc (.cells #[.slice A L c] 32)).alloc (.cells #[.int .i64 sz] 3) := by
  go_enter Try.func171, Try.ntmps171
  go_wp2
  go_ret
  exact ⟨rfl, rfl⟩
theorem chunk_stops (F : Fence) (n : Nat) (h185 : F.fn 185) (hro : F.round = none) (hn : 1 ≤ n) (Bs Bn b off m sz L cap : Nat) (hL : L = m * sz) (hsz : 0 < sz) (hcap : L ≤ cap) (hreach : cap ≤ 9223372036854775807) (w : World)
    (hBs : Bs < w.heap.size) (hBn : Bn < w.heap.size) (cs : w.cell? ⟨Bs, 0, none⟩ = some (.slice (some ⟨b, off, none⟩) L cap)) (cn : w.cell? ⟨Bn, 0, none⟩ = some (.int .i64 sz)) :
    SeqStopsK F n Try.prog 185 #[.pointer (some ⟨Bs, 0, none⟩), .pointer (some ⟨Bn, 0, none⟩)] (fun x : Fin m => #[.slice (some ⟨b, off + x.val * sz, none⟩) sz sz]) (KeepTwo Bs Bn) (fun ys => ys.map Fin.val = List.range m) (fun pre => ∃ k, k ≤ m ∧ pre.map Fin.val = List.range k) m w :=
  fun l J Jx W hW hJ _ hY h0 => chunk1_in F n h185 hro hn l Bs Bn b off m sz L cap hL hsz hcap hreach J Jx _ hJ hY W ((hW.cell (p := ⟨Bs, 0, none⟩) hBs).trans cs) ((hW.cell (p := ⟨Bn, 0, none⟩) hBn).trans cn) h0
end Go.Proofs.Ytbpmjjbccaanfaa.Hd
