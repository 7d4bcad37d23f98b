/- An argument of a function that reads as data is of its kind: for whole numbers, bools, strings, slices and structs of these; nothing else is assumed. -/
import Derived.Test.YtcnmdjibogojnaaWWords
import Derived.Deep.Slices
import Derived.Deep.Fields
import Derived.DataReads
import Derived.ChangeArms
import Derived.ChangeSame
namespace Go.Proofs.Ytcnmdjibogojnaa.Opened
open Go.ChangeShapes Go.WideShapes Go.RowKit Go.Proofs.YtcnmdjibogojnaaW.PrintWords
set_option linter.unusedVariables false
set_option linter.unusedSimpArgs false

/-! ### Opens: an argument that reads as data is of a kind, and what is known of its parts -/
section
variable {H : Type} {enc : TypeId × Value → H} {P : Program} {W : World}
def Opens {α : Type} (enc : TypeId × Value → H) (P : Program) (W : World) (t : TypeId) (d : Kd α) (G : α → Prop) : Prop :=
  ∀ (fuel : Nat) (cs : List Value) (x : DataW H × List MemPlace), DataW.trod enc P W 0 (fun _ => true) true fuel t cs = some x → ∃ y, d.K W y cs ∧ G y
theorem opens_int {t : TypeId} {k : IntKind} (ht : P.underlying t = some (.int k)) : Opens enc P W t (Kd.int k) (fun n => (Lit.int k n).wf = true) := by
  intro fuel cs x h
  obtain ⟨n, rfl, _, hw⟩ := DataW.trod_int ht h
  exact ⟨n, rfl, hw⟩
theorem opens_bool {t : TypeId} (ht : P.underlying t = some .bool) : Opens enc P W t Kd.bool (fun _ => True) := by
  intro fuel cs x h
  obtain ⟨n, rfl, _⟩ := DataW.trod_bool ht h
  exact ⟨n, rfl, trivial⟩
theorem opens_string {t : TypeId} (ht : P.underlying t = some .string) : Opens enc P W t Kd.string (fun s => s.size ≤ maxLen) := by
  intro fuel cs x h
  obtain ⟨s, rfl, _, hs⟩ := DataW.trod_string ht h
  exact ⟨s, rfl, hs⟩
theorem choose_list {α : Type} {Q : Nat → α → Prop} (n : Nat) (h : ∀ i, i < n → ∃ y, Q i y) : ∃ xs : List α, xs.length = n ∧ ∀ i p, xs[i]? = some p → Q i p := by
  induction n with
  | zero => exact ⟨[], rfl, fun i p hp => by simp at hp⟩
  | succ n ih =>
    obtain ⟨xs, hl, hq⟩ := ih (fun i hi => h i (by omega))
    obtain ⟨y, hy⟩ := h n (by omega)
    refine ⟨xs ++ [y], by rw [List.length_append, hl, List.length_singleton], fun i p hp => ?_⟩
    rcases Nat.lt_or_ge i xs.length with hi | hi
    · rw [List.getElem?_append_left hi] at hp
      exact hq i p hp
    · rw [List.getElem?_append_right hi] at hp
      have h0 : i - xs.length = 0 := by
        have := (List.getElem?_eq_some_iff.1 hp).1
        rw [List.length_singleton] at this
        omega
      rw [h0] at hp
      have : y = p := by simpa using hp
      subst this
      have : i = n := by omega
      subst this
      exact hy
theorem opens_slice {α : Type} {t e : TypeId} {d : Kd α} {G : α → Prop} (ht : P.underlying t = some (.slice e)) (hc : P.cellsOf e = d.sz) (he : Opens enc P W e d G) :
    Opens enc P W t (Kd.slice e d) (fun l => l.length ≤ maxLen ∧ ∀ x ∈ l, G x) := by
  intro fuel cs x h
  rcases Go.Deep.open_slice ht h with ⟨rfl, _⟩ | ⟨a, len, cap, m, n, D, Pl, rfl, _, hl, hm, hmm, _, hi⟩
  · refine ⟨[], ⟨none, 0, rfl, Nat.le_refl _, rfl, by simp, fun h => by simp at h⟩, by simp, fun x hx => by simp at hx⟩
  · have hlm : len ≤ m := by rw [hmm]; split <;> omega
    obtain ⟨xs, hxl, hq⟩ := choose_list (Q := fun i y => ∃ c, c.length = d.sz ∧ d.K W y c ∧ (∀ j u, c[j]? = some u → W.cell? (a.add (i * d.sz + j)) = some u) ∧ G y) len (fun i hin => by
      obtain ⟨cs', hcs, ht'⟩ := hi i (by omega)
      obtain ⟨y, hy, hg⟩ := he _ _ _ ht'
      obtain ⟨_, hcl, hat⟩ := World.cells?_some hcs
      refine ⟨y, cs', by rw [hcl, hc], hy, fun j u hj => ?_, hg⟩
      have hjl : j < cs'.length := (List.getElem?_eq_some_iff.1 hj).1
      have := hat j (by omega)
      rw [Go.Deep.add_add, hc] at this
      rw [this, hj])
    have hb : maxLen ≤ 9223372036854775807 := by decide
    refine ⟨xs, ⟨some a, cap, by rw [hxl], by omega, hxl ▸ rfl, by omega, fun _ => ⟨a, rfl, fun j p hj => ?_⟩⟩, by omega, fun x hx => ?_⟩
    · obtain ⟨c, h1, h2, h3, _⟩ := hq j p hj
      exact ⟨c, h1, h2, h3⟩
    · obtain ⟨j, hj⟩ := List.getElem?_of_mem hx
      obtain ⟨_, _, _, _, h4⟩ := hq j x hj
      exact h4
/-- The fields from the cell 'off' on. -/
def OpensSeq {β : Type} (enc : TypeId × Value → H) (P : Program) (W : World) (fs : List Field) (off : Nat) (d : Kd β) (G : β → Prop) : Prop :=
  ∀ (n : Nat) (cs : List Value), cs.length = off + d.sz → (∀ f ∈ fs, ∃ x, DataW.trod enc P W 0 (fun _ => true) true n f.type ((cs.drop f.offset).take (P.cellsOf f.type)) = some x) → ∃ y, d.K W y (cs.drop off) ∧ G y
theorem opens_last {β : Type} {f : Field} {d : Kd β} {G : β → Prop} {off : Nat} (ho : f.offset = off) (hc : P.cellsOf f.type = d.sz) (h : Opens enc P W f.type d G) : OpensSeq enc P W [f] off d G := by
  intro n cs hl hf
  obtain ⟨x, hx⟩ := hf f (List.mem_singleton.2 rfl)
  rw [ho, hc, List.take_of_length_le (by rw [List.length_drop]; omega)] at hx
  exact h _ _ _ hx
theorem opens_cons {β γ : Type} {f : Field} {fs : List Field} {a : Kd β} {b : Kd γ} {G : β → Prop} {K : γ → Prop} {off : Nat} (ho : f.offset = off) (hc : P.cellsOf f.type = a.sz) (h : Opens enc P W f.type a G) (hs : OpensSeq enc P W fs (off + a.sz) b K) :
    OpensSeq enc P W (f :: fs) off (Kd.pair a b) (fun p => G p.1 ∧ K p.2) := by
  intro n cs hl hf
  have hl' : cs.length = off + (a.sz + b.sz) := hl
  obtain ⟨x, hx⟩ := hf f (List.mem_cons_self ..)
  rw [ho, hc] at hx
  obtain ⟨y, hy, hg⟩ := h _ _ _ hx
  obtain ⟨z, hz, hk⟩ := hs n cs (by omega) (fun g hg => hf g (List.mem_cons_of_mem _ hg))
  refine ⟨(y, z), ⟨(cs.drop off).take a.sz, cs.drop (off + a.sz), ?_, hy, hz⟩, hg, hk⟩
  rw [← List.drop_drop, List.take_append_drop]
theorem opens_struct {β γ : Type} {t : TypeId} {fs : Array Field} {d : Kd β} {G : β → Prop} {f : γ → β} (g : β → γ) (hfg : ∀ p, f (g p) = p) (ht : P.underlying t = some (.struct fs)) (hc : P.cellsOf t = d.sz) (h : OpensSeq enc P W fs.toList 0 d G) :
    Opens enc P W t (Kd.iso d f) (fun x => G (f x)) := by
  intro fuel cs x hx
  obtain ⟨xs, n, _, _, hl, hxl, hf⟩ := DataW.trod_struct ht hx
  obtain ⟨y, hy, hg⟩ := h n cs (by omega) (fun fd hfd => by
    obtain ⟨i, hi⟩ := List.getElem?_of_mem hfd
    have hi' : fs[i]? = some fd := by rw [← Array.getElem?_toList]; exact hi
    have hlt : i < fs.size := (Array.getElem?_eq_some_iff.1 hi').1
    refine ⟨xs[i]'(by omega), ?_⟩
    rw [hf i fd hi']
    exact List.getElem?_eq_getElem (by omega))
  refine ⟨g y, ?_, by show G (f (g y)); rw [hfg]; exact hg⟩
  show d.K W (f (g y)) cs
  rw [hfg]
  rwa [List.drop_zero] at hy
theorem opens_mono {α : Type} {t : TypeId} {d : Kd α} {G G' : α → Prop} (h : Opens enc P W t d G) (hg : ∀ x, G x → G' x) : Opens enc P W t d G' := by
  intro fuel cs x hx
  obtain ⟨y, hy, hG⟩ := h fuel cs x hx
  exact ⟨y, hy, hg y hG⟩
theorem opens_trod {α : Type} {t : TypeId} {d : Kd α} {G : α → Prop} {v : Value} {D : DataW H} {ps : List MemPlace} (h : Opens enc P W t d G) (hx : DataW.Trod enc P W 0 (fun _ => true) true t v D ps) : ∃ y, d.K W y v.cells.toList ∧ G y := by
  obtain ⟨fuel, hf⟩ := hx
  exact h _ _ _ hf
/-- A struct as the tuple of its fields. -/
theorem opens_tuple {β : Type} {t : TypeId} {fs : Array Field} {d : Kd β} {G : β → Prop} (ht : P.underlying t = some (.struct fs)) (hc : P.cellsOf t = d.sz) (h : OpensSeq enc P W fs.toList 0 d G) : Opens enc P W t d G := by
  intro fuel cs x hx
  obtain ⟨xs, n, _, _, hl, hxl, hf⟩ := DataW.trod_struct ht hx
  obtain ⟨y, hy, hg⟩ := h n cs (by omega) (fun fd hfd => by
    obtain ⟨i, hi⟩ := List.getElem?_of_mem hfd
    have hi' : fs[i]? = some fd := by rw [← Array.getElem?_toList]; exact hi
    have hlt : i < fs.size := (Array.getElem?_eq_some_iff.1 hi').1
    refine ⟨xs[i]'(by omega), ?_⟩
    rw [hf i fd hi']
    exact List.getElem?_eq_getElem (by omega))
  rw [List.drop_zero] at hy
  exact ⟨y, hy, hg⟩
end

end Go.Proofs.Ytcnmdjibogojnaa.Opened
