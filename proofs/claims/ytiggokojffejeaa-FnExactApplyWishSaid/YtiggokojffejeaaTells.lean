/- What a type reads out of memory is a value of a kind: from the form's reading (trod) to the printed kinds (Kd). A text of this session's own; no condition. -/
import Derived.Test.YtiggokojffejeaaWWords
import Derived.ProofKit
import Derived.Deep.Slices
namespace Go.Proofs.Ytiggokojffejeaa.Open
open Go.ChangeShapes Go.WideShapes Go.ChangeAt Go.RowKit Go.Deep Go.Proofs.YtiggokojffejeaaW.PrintWords

def Tells {H α : Type} (enc : TypeId × Value → H) (P : Program) (W : World) (t : TypeId) (d : Kd α) (Q : α → Prop) : Prop :=
  ∀ (fuel : Nat) (cs : List Value) (x : DataW H × List MemPlace), DataW.trod enc P W 0 (fun _ => true) true fuel t cs = some x → ∃ a, d.K W a cs ∧ Q a

/-- The fields from offset o on. -/
def TellsF {H α : Type} (enc : TypeId × Value → H) (P : Program) (W : World) (fs : List Field) (o : Nat) (d : Kd α) (Q : α → Prop) : Prop :=
  ∀ (fuel : Nat) (cs : List Value), cs.length = o + d.sz → (∀ f ∈ fs, ∃ x, DataW.trod enc P W 0 (fun _ => true) true fuel f.type ((cs.drop f.offset).take (P.cellsOf f.type)) = some x) → ∃ a, d.K W a (cs.drop o) ∧ Q a

section
variable {H α β : Type} {enc : TypeId × Value → H} {P : Program} {W : World}

theorem tells_int {t : TypeId} {k : IntKind} (ht : P.underlying t = some (.int k)) : Tells enc P W t (Kd.int k) (fun a => (Lit.int k a).wf = true) := by
  intro fuel cs x h
  obtain ⟨n, rfl, _, hw⟩ := DataW.trod_int ht h
  exact ⟨n, rfl, hw⟩
theorem tells_bool {t : TypeId} (ht : P.underlying t = some .bool) : Tells enc P W t Kd.bool (fun _ => True) := by
  intro fuel cs x h
  obtain ⟨b, rfl, _⟩ := DataW.trod_bool ht h
  exact ⟨b, rfl, trivial⟩
theorem tells_string {t : TypeId} (ht : P.underlying t = some .string) : Tells enc P W t Kd.string (fun s => s.size ≤ maxLen) := by
  intro fuel cs x h
  obtain ⟨s, rfl, _, hw⟩ := DataW.trod_string ht h
  exact ⟨s, rfl, hw⟩

theorem tellsF_one {f : Field} {o : Nat} {d : Kd α} {Q : α → Prop} (hf : Tells enc P W f.type d Q) (ho : f.offset = o) (hs : P.cellsOf f.type = d.sz) : TellsF enc P W [f] o d Q := by
  intro fuel cs hl h
  obtain ⟨x, hx⟩ := h f (by simp)
  rw [ho, hs, List.take_of_length_le (by simp; omega)] at hx
  exact hf _ _ _ hx
theorem tellsF_cons {f : Field} {fs : List Field} {o : Nat} {d : Kd α} {Q : α → Prop} {e : Kd β} {R : β → Prop} (hf : Tells enc P W f.type d Q) (ho : f.offset = o) (hs : P.cellsOf f.type = d.sz)
    (hr : TellsF enc P W fs (o + d.sz) e R) : TellsF enc P W (f :: fs) o (Kd.pair d e) (fun a => Q a.1 ∧ R a.2) := by
  intro fuel cs hl h
  obtain ⟨x, hx⟩ := h f (by simp)
  rw [ho, hs] at hx
  obtain ⟨a, ka, qa⟩ := hf _ _ _ hx
  have hl' : cs.length = o + (d.sz + e.sz) := hl
  obtain ⟨b, kb, rb⟩ := hr fuel cs (by omega) (fun g hg => h g (by simp [hg]))
  refine ⟨(a, b), ⟨_, _, ?_, ka, kb⟩, qa, rb⟩
  rw [← List.drop_drop, List.take_append_drop]

theorem tells_struct {t : TypeId} {fs : Array Field} {d : Kd α} {Q : α → Prop} (ht : P.underlying t = some (.struct fs)) (hc : P.cellsOf t = d.sz) (hf : TellsF enc P W fs.toList 0 d Q) : Tells enc P W t d Q := by
  intro fuel cs x h
  obtain ⟨xs, n, _, _, hl, hxs, hx⟩ := DataW.trod_struct ht h
  obtain ⟨a, ka, qa⟩ := hf n cs (by omega) (fun f hfm => by
    obtain ⟨i, hi⟩ := List.mem_iff_getElem?.1 hfm
    have hi' : fs[i]? = some f := by simpa using hi
    have := hx i f hi'
    have hlt : i < xs.length := by
      have := (List.getElem?_eq_some_iff.1 hi).1
      simpa [hxs] using this
    exact ⟨xs[i], this.trans (List.getElem?_eq_getElem hlt)⟩)
  exact ⟨a, by simpa using ka, qa⟩

theorem tells_iso {t : TypeId} {d : Kd α} {Q : α → Prop} (h : Tells enc P W t d Q) (f : β → α) (g : α → β) (hfg : ∀ a, f (g a) = a) : Tells enc P W t (Kd.iso d f) (fun b => Q (f b)) := by
  intro fuel cs x hx
  obtain ⟨a, ka, qa⟩ := h fuel cs x hx
  exact ⟨g a, by show d.K W (f (g a)) cs; rw [hfg]; exact ka, by show Q (f (g a)); rw [hfg]; exact qa⟩

theorem tells_slice {t e : TypeId} {q : Nat} {d : Kd α} {Q : α → Prop} (ht : P.underlying t = some (.slice e)) (hc : P.cellsOf e = d.sz) (h : Tells enc P W e d Q) :
    Tells enc P W t (Kd.slice q d) (fun l => l.length ≤ maxLen ∧ ∀ x ∈ l, Q x) := by
  intro fuel cs x hx
  rcases open_slice ht hx with ⟨rfl, _⟩ | ⟨ad, len, cap, m, n, D, Pl, rfl, _, hlc, hcm, hm, _, hel⟩
  · refine ⟨[], ⟨none, 0, rfl, Nat.le_refl _, rfl, by simp, fun h0 => absurd h0 (by simp)⟩, Nat.zero_le _, fun x hx => by simp at hx⟩
  · have hm' : m = cap := by simpa using hm
    have each : ∀ i, i < len → ∃ p : α, (∃ c : List Value, c.length = d.sz ∧ d.K W p c ∧ ∀ j u, c[j]? = some u → W.cell? (ad.add (i * d.sz + j)) = some u) ∧ Q p := by
      intro i hi
      obtain ⟨cs', h1, h2⟩ := hel i (by omega)
      obtain ⟨a, ka, qa⟩ := h _ _ _ h2
      obtain ⟨_, hlen, hcell⟩ := World.cells?_some h1
      rw [hc] at hlen hcell
      refine ⟨a, ⟨cs', hlen, ka, fun j u hu => ?_⟩, qa⟩
      have hj := (List.getElem?_eq_some_iff.1 hu).1
      have := hcell j (by omega)
      rw [hu] at this
      rwa [Go.Addr.add_add] at this
    rcases Nat.eq_zero_or_pos len with h0 | hpos
    · subst h0
      refine ⟨[], ⟨some ad, cap, rfl, Nat.zero_le _, rfl, by simp, fun h0 => absurd h0 (by simp)⟩, Nat.zero_le _, fun x hx => by simp at hx⟩
    · obtain ⟨p0, _⟩ := each 0 hpos
      haveI : Inhabited α := ⟨p0⟩
      obtain ⟨F, hF⟩ := choose_lt each
      refine ⟨(List.range len).map F, ⟨some ad, cap, by simp, by simpa using hlc, ?_⟩, ?_, ?_⟩
      · refine ⟨rfl, ?_, fun _ => ⟨ad, rfl, fun j p hj => ?_⟩⟩
        · unfold maxLen at hcm; simp; omega
        · have hjl : j < len := by
            have := (List.getElem?_eq_some_iff.1 hj).1
            simpa using this
          have : p = F j := by
            rw [List.getElem?_map, List.getElem?_range hjl] at hj
            simpa using hj.symm
          subst this
          exact (hF j hjl).1
      · simp; omega
      · intro x hx
        obtain ⟨j, hj, rfl⟩ := List.mem_map.1 hx
        exact (hF j (List.mem_range.1 hj)).2

/-- An argument: its cells. -/
theorem arg_tells {t : TypeId} {v : Value} {x : DataW H} {ps : List MemPlace} {d : Kd α} {Q : α → Prop} (h : DataW.Trod enc P W 0 (fun _ => true) true t v x ps) (hT : Tells enc P W t d Q) : ∃ a, d.K W a v.cells.toList ∧ Q a := by
  obtain ⟨fuel, hf⟩ := h
  exact hT _ _ _ hf
theorem agg_of {t : TypeId} {fs : Array Field} {r : Reach} {b : Nat} {v : Value} (ht : P.underlying t = some (.struct fs)) (hv : Value.okWide P W r b t v) {cs : List Value} (h : v.cells.toList = cs) : v = .agg cs.toArray := by
  obtain ⟨a, rfl, _⟩ := okWide_struct ht hv
  subst h
  simp [Value.cells]
theorem slice_of {t e : TypeId} {r : Reach} {b : Nat} {v : Value} (ht : P.underlying t = some (.slice e)) (hv : Value.okWide P W r b t v) {A : Option Addr} {n c : Nat} (h : v.cells.toList = [.slice A n c]) : v = .slice A n c := by
  obtain ⟨a, l, c', rfl⟩ := okWide_slice ht hv
  simpa [Value.cells] using h
end
end Go.Proofs.Ytiggokojffejeaa.Open
