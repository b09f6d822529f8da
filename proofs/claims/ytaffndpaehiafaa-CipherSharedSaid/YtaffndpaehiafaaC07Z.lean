/- Contracts of the program's functions, proved by walking them with the rules of the Gx texts; without conditions beyond those that each contract names. -/
import Derived.Test.YtaffndpaehiafaaC07Y
namespace Go.Proofs
open Go Go.RowKit Gx
set_option linter.unusedVariables false
set_option linter.unusedSimpArgs false
attribute [local irreducible] Go.Calls Gx.S Gx.O Gx.D Gx.OpP Gx.OpQ Gx.OpH



def gapB (fs hd : Fds) : Bool := (fs.map fun p => !hasU hd p.1).any id
def accB (fs hd : Fds) : Bool := (hd.map fun p => !bsB fs p.1).any id
def rkE0 (fs : Fds) (nc : Int) (len : Nat) (hd : Fds) : Int := if fileE fs nc len = 0 then hldsE hd else fileE fs nc len
def rkE (fs : Fds) (nc : Int) (len : Nat) (hd : Fds) (key : List UInt8) : Int :=
  if rkE0 fs nc len hd = 0 then if keyE key = 0 then if gapB fs hd = true then 14 else if accB fs hd = true then 27 else 0 else 10 else rkE0 fs nc len hd
def uw (fs hd : Fds) (k : Nat) : List UInt8 × Int := unwrapT (fd hd k).1 (fd hd k).2 (fd fs k).2
def uwOk (fs hd : Fds) (k : Nat) : Prop := (uw fs hd k).2 = 0 ∧ (k = 0 ∨ (uw fs hd k).1 = (uw fs hd (k - 1)).1)
def rkF (hd : Fds) (key : List UInt8) (k : Nat) : Fds := (List.range k).map fun i => ((fd hd i).1, wrapL (fd hd i).1 (fd hd i).2 key)
theorem rkF_length (hd : Fds) (key : List UInt8) (k : Nat) : (rkF hd key k).length = k := by simp [rkF]
theorem rkF_succ (hd : Fds) (key : List UInt8) (k : Nat) : flatF (rkF hd key (k + 1)) = flatF (rkF hd key k) ++ [.int .i64 (fd hd k).1, .string (bs (wrapL (fd hd k).1 (fd hd k).2 key))] := by
  simp [rkF, List.range_succ, flatF, fldC]
open Classical in
noncomputable def rkT (fs : Fds) (nc : Int) (st : List UInt8) (hd : Fds) (key : List UInt8) : FileD × Int :=
  if rkE fs nc st.length hd key = 0 then
    if ∀ k, k < hd.length → uwOk fs hd k then ((rkF hd key hd.length, nc, cryptL key (wd nc) 0 (cryptL (uw fs hd (hd.length - 1)).1 (wd nc) 0 st)), 0) else (([], 0, []), 19)
  else (([], 0, []), rkE fs nc st.length hd key)
section
variable {fs hd : Fds} {nc : Int} {st : List UInt8} {len : Nat} {key : List UInt8}
theorem rkE0_1 (h : firstV [.int .i64 (fileE fs nc len), .int .i64 (bif decide ((hd.length : Int) ≤ 8) then 0 else 8)] = 0) : (eachL (hdEs hd) 0).2 = rkE0 fs nc len hd := by
  simp only [firstV, cond_eq_ite, decide_eq_true_eq] at h
  unfold rkE0 hldsE
  grind
theorem rkE0_2 (h : ¬ firstV [.int .i64 (fileE fs nc len), .int .i64 (bif decide ((hd.length : Int) ≤ 8) then 0 else 8)] = 0) : firstV [.int .i64 (fileE fs nc len), .int .i64 (bif decide ((hd.length : Int) ≤ 8) then 0 else 8)] = rkE0 fs nc len hd := by
  simp only [firstV, cond_eq_ite, decide_eq_true_eq] at *
  unfold rkE0 hldsE
  grind
theorem rkE_eq : firstV [.int .i64 (rkE0 fs nc len hd), .int .i64 (keyE key), .int .i64 (bif !((fs.map fun p => !hasU hd p.1).any id) then 0 else 14), .int .i64 (bif !((hd.map fun p => !bsB fs p.1).any id) then 0 else 27)] = rkE fs nc len hd key := by
  have := keyE_or key
  simp only [firstV, rkE, gapB, accB, cond_eq_ite]
  rcases Bool.eq_false_or_eq_true ((fs.map fun p => !hasU hd p.1).any id) with g1 | g1 <;> rcases Bool.eq_false_or_eq_true ((hd.map fun p => !bsB fs p.1).any id) with g2 | g2 <;> simp only [g1, g2, Bool.not_true, Bool.not_false, Bool.false_eq_true, if_true, if_false] <;> grind
end

theorem users_same_of {fs hd : Fds} {nc : Int} {len : Nat} {key : List UInt8} (h : rkE fs nc len hd key = 0) : FOk fs ∧ isWd nc ∧ len ≤ 8192 ∧ key.length = 8 ∧ fs.length = hd.length ∧ (∀ k, k < hd.length → (fd fs k).1 = (fd hd k).1 ∧ holdE (fd hd k).1 (fd hd k).2 = 0 ∧ (fd fs k).2.length = 10) := by
  unfold rkE at h
  split at h
  · rename_i h0
    split at h
    · rename_i hk
      split at h
      · cases h
      · rename_i hg
        split at h
        · cases h
        · rename_i ha
          unfold rkE0 at h0
          split at h0
          · rename_i hf
            obtain ⟨ok, hw, hle⟩ := fileE_ok hf
            have hh : hd.length ≤ 8 ∧ ∀ k, k < hd.length → hdE hd k = 0 := by
              unfold hldsE at h0
              split at h0
              · rename_i h8
                exact ⟨h8, fun k hk => eachL_0 h0 _ (by simp only [hdEs, List.mem_map, List.mem_range]; exact ⟨k, hk, rfl⟩)⟩
              · cases h0
            have hho : ∀ k, k < hd.length → holdE (fd hd k).1 (fd hd k).2 = 0 ∧ (k = 0 ∨ (fd hd (k - 1)).1 < (fd hd k).1) := fun k hk => by
              have := hh.2 k hk
              unfold hdE hldE at this
              grind
            have hlt : ∀ i j, i < j → j < hd.length → (fd hd i).1 < (fd hd j).1 := by
              intro i j
              induction j with
              | zero => intro h1; omega
              | succ j ih =>
                intro h1 h2
                have h3 := (hho (j + 1) h2).2
                simp only [Nat.add_sub_cancel] at h3
                rcases Nat.lt_or_ge i j with h4 | h4
                · have := ih h4 (by omega); omega
                · have : i = j := by omega
                  subst this; omega
            have hs := users_same ok.lt hlt
              (fun i hi => by
                have h1 : hasU hd (fd fs i).1 = true := by
                  cases hc : hasU hd (fd fs i).1 with
                  | true => rfl
                  | false =>
                    exfalso; apply hg
                    unfold gapB
                    rw [List.any_eq_true]
                    refine ⟨true, ?_, rfl⟩
                    rw [List.mem_map]
                    exact ⟨fs[i], List.getElem_mem hi, by rw [fd_get hi, hc]; rfl⟩
                unfold hasU at h1
                rw [List.any_eq_true] at h1
                obtain ⟨b, hb, hbt⟩ := h1
                obtain ⟨p, hp, e⟩ := List.mem_map.1 hb
                obtain ⟨j, hj, e2⟩ := List.getElem_of_mem hp
                refine ⟨j, hj, ?_⟩
                rw [← fd_get hj, e2]
                have : b = true := hbt
                rw [this] at e
                simpa using e)
              (fun j hj => by
                have hu := isWd_user (hho j hj).1
                have h1 : hasF fs (fd hd j).1 = true := by
                  rw [← bsF_ok ok ⟨by omega, by omega⟩]
                  cases hc : bsB fs (fd hd j).1 with
                  | true => rfl
                  | false =>
                    exfalso; apply ha
                    unfold accB
                    rw [List.any_eq_true]
                    refine ⟨true, ?_, rfl⟩
                    rw [List.mem_map]
                    exact ⟨hd[j], List.getElem_mem hj, by rw [fd_get hj, hc]; rfl⟩
                simp only [hasF, Bool.and_eq_true, decide_eq_true_eq] at h1
                exact ⟨_, h1.1, h1.2⟩)
            exact ⟨ok, hw, hle, keyE_ok hk, hs.1, fun k hk2 => ⟨hs.2 k (by omega), (hho k hk2).1, ok.len k (by omega)⟩⟩
          · contradiction
    · cases h
  · contradiction

end Go.Proofs
