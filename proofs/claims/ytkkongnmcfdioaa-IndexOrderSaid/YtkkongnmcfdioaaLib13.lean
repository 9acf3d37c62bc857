/- Small laws, the thirteenth part: what arguments are, kind by kind: a value that is read as data has the shape its type says. -/
import Derived.Test.YtkkongnmcfdioaaLib12
import Derived.ChangeArms
import Derived.DataReads
import Derived.WideShapes
namespace Go.Gx
open Go.RowKit Go.WideShapes
section
variable {H : Type} {enc : TypeId × Value → H} {P : Program} {w : World} {base : Nat} {spare : Nat → Bool} {held : Bool} {t e : TypeId}
/-- What is read at type t has cells f u, for some u with R u. -/
def Dec {α : Type} (enc : TypeId × Value → H) (P : Program) (w : World) (base : Nat) (spare : Nat → Bool) (held : Bool) (t : TypeId) (f : α → List Value) (R : α → Prop) : Prop :=
  ∀ fuel cs x, DataW.trod enc P w base spare held fuel t cs = some x → ∃ u, cs = f u ∧ R u
theorem Dec.int {k : IntKind} (ht : P.underlying t = some (.int k)) : Dec enc P w base spare held t (fun n => [.int k n]) (fun n => (Lit.int k n).wf = true) := by
  intro fuel cs x h
  obtain ⟨n, rfl, _, hw⟩ := DataW.trod_int ht h
  exact ⟨n, rfl, hw⟩
theorem Dec.bool (ht : P.underlying t = some .bool) : Dec enc P w base spare held t (fun b => [.bool b]) (fun _ => True) := by
  intro fuel cs x h
  obtain ⟨b, rfl, _⟩ := DataW.trod_bool ht h
  exact ⟨b, rfl, trivial⟩
theorem Dec.str (ht : P.underlying t = some .string) : Dec enc P w base spare held t (fun s => [.string (bs s)]) (fun s => s.length ≤ maxLen) := by
  intro fuel cs x h
  obtain ⟨s, rfl, _, hs⟩ := DataW.trod_string ht h
  refine ⟨s.data.toList, ?_, ?_⟩
  · rfl
  · simpa using hs
theorem Dec.map {α β : Type} {f : α → List Value} {R : α → Prop} {g : β → List Value} {S : β → Prop} (D : Dec enc P w base spare held t f R) (h : ∀ u, R u → ∃ v, f u = g v ∧ S v) : Dec enc P w base spare held t g S := by
  intro fuel cs x hx
  obtain ⟨u, rfl, hu⟩ := D fuel cs x hx
  obtain ⟨v, hv, hs⟩ := h u hu
  exact ⟨v, hv, hs⟩
theorem Dec.u8 (ht : P.underlying t = some (.int .u8)) : Dec enc P w base spare held t (fun c => [u8v c]) (fun _ => True) :=
  (Dec.int ht).map fun n hn => by
    simp only [Lit.wf, Bool.and_eq_true, decide_eq_true_eq] at hn
    have h1 : 0 ≤ n ∧ n ≤ 255 := hn
    refine ⟨UInt8.ofNat n.toNat, ?_, trivial⟩
    have : (UInt8.ofNat n.toNat).toNat = n.toNat := by rw [UInt8.toNat_ofNat']; omega
    simp [u8v, this]; omega
theorem flat_get {α : Type} {f : α → List Value} {sz : Nat} (hp : 0 < sz) : ∀ (us : List α), (∀ u ∈ us, (f u).length = sz) → ∀ j, (us.flatMap f)[j]? = (us[j / sz]?).bind fun u => (f u)[j % sz]?
  | [], _, j => by simp
  | u :: us, h, j => by
    rw [List.flatMap_cons]
    have hu := h u (by simp)
    by_cases hj : j < sz
    · rw [List.getElem?_append_left (by omega), Nat.div_eq_of_lt hj, Nat.mod_eq_of_lt hj]; simp
    · rw [List.getElem?_append_right (by omega), hu, flat_get hp us (fun v hv => h v (by simp [hv]))]
      have e1 : j / sz = (j - sz) / sz + 1 := by rw [Nat.div_eq_sub_div hp (by omega)]
      have e2 : j % sz = (j - sz) % sz := by rw [Nat.mod_eq_sub_mod (by omega)]
      rw [e1, e2]; simp
theorem flat_len {α : Type} {f : α → List Value} {sz : Nat} : ∀ (us : List α), (∀ u ∈ us, (f u).length = sz) → (us.flatMap f).length = us.length * sz
  | [], _ => by simp
  | u :: us, h => by rw [List.flatMap_cons, List.length_append, h u (by simp), flat_len us (fun v hv => h v (by simp [hv])), List.length_cons, Nat.add_mul]; omega
theorem Dec.slice {α : Type} {f : α → List Value} {R : α → Prop} (ht : P.underlying t = some (.slice e)) (hp : 0 < P.cellsOf e) (D : Dec enc P w base spare held e f R) (hlen : ∀ u, R u → (f u).length = P.cellsOf e) :
    Dec enc P w base spare held t (fun p : Value × List α => [p.1]) (fun p => RdC w 0 w.heap.size (P.cellsOf e) p.1 p.2.length (p.2.flatMap f) ∧ ∀ u ∈ p.2, R u) := by
  intro fuel cs x hx
  rcases DataW.trod_slice ht hx with ⟨rfl, _⟩ | ⟨a, len, cap, elems, rest, n, _, rfl, _, hb, hl, hm, hel, hat, _, _⟩
  · exact ⟨(.slice none 0 0, []), rfl, RdC.nil _ _ _ _, by simp⟩
  · have key : ∀ k, k ≤ len → ∃ us : List α, us.length = k ∧ (∀ u ∈ us, R u) ∧ ∀ i u, us[i]? = some u → w.cells? base (a.add (i * P.cellsOf e)) (P.cellsOf e) = some (f u) := by
      intro k
      induction k with
      | zero => intro _; exact ⟨[], rfl, by simp, by simp⟩
      | succ k ih =>
        intro hk
        obtain ⟨us, h1, h2, h3⟩ := ih (by omega)
        have h4 := hat k (by omega)
        rw [List.getElem?_eq_getElem (by omega)] at h4
        obtain ⟨cs, hcs, ht'⟩ := Option.bind_eq_some_iff.1 h4
        obtain ⟨u, rfl, hu⟩ := D _ _ _ ht'
        refine ⟨us ++ [u], by simp [h1], ?_, fun i v hv => ?_⟩
        · intro v hv
          rcases List.mem_append.1 hv with hv | hv
          · exact h2 v hv
          · simp at hv; subst hv; exact hu
        · rw [List.getElem?_append] at hv
          split at hv
          · exact h3 i v hv
          · have : i = k := by
              have := (List.getElem?_eq_some_iff.1 hv).1
              simp at this; omega
            subst this
            simp [h1] at hv; subst hv; exact hcs
    obtain ⟨us, h1, h2, h3⟩ := key len (Nat.le_refl _)
    refine ⟨(.slice (some a) len cap, us), rfl, ⟨flat_len us fun u hu => hlen u (h2 u hu), some a, cap, by rw [h1], (show us.length ≤ cap by omega), hm, ?_⟩, h2⟩
    by_cases hz : us = []
    · subst hz; exact .inl (by simp)
    · right
      have hcell : ∀ j u, (us.flatMap f)[j]? = some u → w.cell? (a.add j) = some u := by
        intro j u hu
        rw [flat_get hp us (fun v hv => hlen v (h2 v hv))] at hu
        obtain ⟨v, hv, hq⟩ := Option.bind_eq_some_iff.1 hu
        have h5 := (World.cells?_some (h3 _ v hv)).2.2 (j % P.cellsOf e) (Nat.mod_lt _ hp)
        rw [hq] at h5
        rw [← h5]
        congr 1
        have : j / P.cellsOf e * P.cellsOf e + j % P.cellsOf e = j := by rw [Nat.mul_comm]; exact Nat.div_add_mod _ _
        obtain ⟨b, off, spot⟩ := a
        cases spot with
        | none => simp only [Addr.add_lit]; congr 1; omega
        | some q =>
          simp only [Addr.add]
          simp only [Addr.add] at *
          split <;> split <;> split <;> simp_all <;> omega
      obtain ⟨u0, us', rfl⟩ : ∃ u0 us', us = u0 :: us' := by cases us with | nil => exact absurd rfl hz | cons u us => exact ⟨u, us, rfl⟩
      have h0 : 0 < ((u0 :: us').flatMap f).length := by rw [flat_len _ fun u hu => hlen u (h2 u hu)]; simp; exact hp
      have hc0 := hcell 0 ((u0 :: us').flatMap f)[0] (List.getElem?_eq_getElem h0)
      have hspot := World.cell?_spot hc0
      obtain ⟨b, off, spot⟩ := a
      have hspot : spot = none := by simpa [Addr.add] using hspot
      subst hspot
      refine ⟨b, off, rfl, Nat.zero_le _, ?_, fun j u hu => by have := hcell j u hu; rwa [Addr.add_lit] at this⟩
      have h6 := hc0
      rw [Addr.add_lit] at h6
      cases hh : w.heap[b]? with
      | none => simp [World.cell?, hh] at h6
      | some o => exact (Array.getElem?_eq_some_iff.1 hh).1
end
section
variable {P : Program} {Q : Exit → Act → World → Prop} {a : Act} {w w' : World} {l : List (Nat × Value)} {ops : Array Oper} {rest : List Oper}
variable {d ty t t' : Nat} {p : String} {af : Array Edge} {x y : Operand} {k : IntKind} {m n r : Int}
theorem op_min (hx : (putsL a l).eval x = .int k m) (hy : (putsL a l).eval y = .int k n) (hr : (if n < m then n else m) = r) (h : wpList P ops Q rest (putsL a ((d, .int k r) :: l)) w) :
    wpList P ops Q (⟨some d, .call ⟨.builtin .min, #[x, y], #[t, t']⟩, ty, p, af, none⟩ :: rest) (putsL a l) w :=
  op_gen rfl (by subst hr; simp [execOp, hx, hy, resolve, invoke, builtin, Builtin.min_, Builtin.min2]) h
theorem op_max (hx : (putsL a l).eval x = .int k m) (hy : (putsL a l).eval y = .int k n) (hr : (if m < n then n else m) = r) (h : wpList P ops Q rest (putsL a ((d, .int k r) :: l)) w) :
    wpList P ops Q (⟨some d, .call ⟨.builtin .max, #[x, y], #[t, t']⟩, ty, p, af, none⟩ :: rest) (putsL a l) w :=
  op_gen rfl (by subst hr; simp [execOp, hx, hy, resolve, invoke, builtin, Builtin.max_, Builtin.max2]) h
end
end Go.Gx
