import PyProof.Rows.All
import Wide.All
import OpenK.AllK
import Wide.FinOn
import HandS.ForMost
import HandS.Deep
import HandS.SortInts
import HandS.Zip
import HandS.TupAny
import HandS.TupMul
import HandS.Style
import HandS.Head0
import HandS.Head1
import HandS.Head2
import HandS.HeadEnd
import HandS.HeadHook1
import HandS.HeadHook2
import PySem.Challenge.RW_weekendsoff_k03_whole_rings_of_weekends
set_option Elab.async false
set_option linter.all false
set_option maxRecDepth 100000
set_option autoImplicit false
set_option maxHeartbeats 4000000
/-! Value semantics: data, how they lie in the heap, what a frame owns. -/
namespace PV
open PySem PySem.Spec PyProof.Rows L2


/-- scr: the script, which is read alone -/
inductive D where
  | non | bl (b : Bool) | int (i : Int) | str (x : Str) | tup (xs : List D) | lst (xs : List D) | scr (xs : List D)
abbrev Env := List (Option D)

/-- what is owned -/
inductive Ow where
  | top | no | lst (e : Ow)
  deriving DecidableEq

/-- the written part holds a tuple, a list -/
def KT (K : PySem.W.Frag) (a : Addr) (xs : List V) : Prop :=
  ∃ (o : Obj) (its : Array Value) (n : Nat), K.lookup a = some o ∧ o.cls = .type "tuple" ∧ o.data = .seq its n ∧ its.size ≤ sizeLine ∧ Vals xs its.toList
def KL (K : PySem.W.Frag) (a : Addr) (xs : List V) : Prop :=
  ∃ (o : Obj) (its : Array Value) (n : Nat), K.lookup a = some o ∧ o.cls = .type "list" ∧ o.dict = none ∧ o.data = .seq its n ∧ its.size ≤ sizeLine ∧ Vals xs its.toList
def TW (K : PySem.W.Frag) (H : Hp) (W : Addr → Prop) (a : Addr) (xs : List V) : Prop := (H a = some (.tup xs) ∧ ¬ W a) ∨ KT K a xs
def LW (H : Hp) (W : Addr → Prop) (a : Addr) (xs : List V) : Prop := H a = some (.lst xs) ∧ ¬ W a
def SW (K : PySem.W.Frag) (H : Hp) (W : Addr → Prop) (a : Addr) (xs : List V) : Prop := ((∃ o, H a = some (.frz o (.lst xs))) ∧ ¬ W a) ∨ KL K a xs
theorem TW.sq {K : PySem.W.Frag} {H : Hp} {W : Addr → Prop} {a : Addr} {xs : List V} (h : TW K H W a xs) : SqT K H a xs := h.elim (fun h => .inl (.inl h.1)) .inr
theorem LW.sq {K : PySem.W.Frag} {H : Hp} {W : Addr → Prop} {a : Addr} {xs : List V} (h : LW H W a xs) : SqL K H a xs := .inl (.inl h.1)
theorem SW.sq {K : PySem.W.Frag} {H : Hp} {W : Addr → Prop} {a : Addr} {xs : List V} (h : SW K H W a xs) : SqL K H a xs := h.elim (fun h => .inl (.inr h.1)) .inr

mutual
/-- the value stands for the data; no part of it lies at W -/
inductive Rp (K : PySem.W.Frag) (H : Hp) (W : Addr → Prop) : V → D → Prop
  | non : Rp K H W .non .non
  | bl (b : Bool) : Rp K H W (.bl b) (.bl b)
  | int (i : Int) : Rp K H W (.int i) (.int i)
  | str (x : Str) : PyData.strOk x = true → Rp K H W (.str x) (.str x)
  | tup {a : Addr} {vs : List V} {ds : List D} : TW K H W a vs → RpL K H W vs ds → Rp K H W (.ref a) (.tup ds)
  | lst {a : Addr} {vs : List V} {ds : List D} : LW H W a vs → RpL K H W vs ds → Rp K H W (.ref a) (.lst ds)
  | scr {a : Addr} {vs : List V} {ds : List D} : SW K H W a vs → RpL K H W vs ds → Rp K H W (.ref a) (.scr ds)
inductive RpL (K : PySem.W.Frag) (H : Hp) (W : Addr → Prop) : List V → List D → Prop
  | nil : RpL K H W [] []
  | cons {v : V} {d : D} {vs : List V} {ds : List D} : Rp K H W v d → RpL K H W vs ds → RpL K H W (v :: vs) (d :: ds)
end

section
variable {K : PySem.W.Frag} {H H' : Hp} {W W' : Addr → Prop}
theorem keep1 {a : Addr} {u : HO} (e : H a = some u) (n : ¬ W a) (hk : ∀ a o, H a = some o → ¬ W a → H' a = some o) (hw : ∀ a, W' a → W a ∨ H a = none) : H' a = some u ∧ ¬ W' a :=
  ⟨hk _ _ e n, fun z => (hw _ z).elim n fun z => by rw [z] at e; cases e⟩
theorem TW.mono {a : Addr} {xs : List V} (h : TW K H W a xs) (hk : ∀ a o, H a = some o → ¬ W a → H' a = some o) (hw : ∀ a, W' a → W a ∨ H a = none) : TW K H' W' a xs :=
  h.imp (fun ⟨e, n⟩ => keep1 e n hk hw) id
theorem LW.mono {a : Addr} {xs : List V} (h : LW H W a xs) (hk : ∀ a o, H a = some o → ¬ W a → H' a = some o) (hw : ∀ a, W' a → W a ∨ H a = none) : LW H' W' a xs :=
  keep1 h.1 h.2 hk hw
theorem SW.mono {a : Addr} {xs : List V} (h : SW K H W a xs) (hk : ∀ a o, H a = some o → ¬ W a → H' a = some o) (hw : ∀ a, W' a → W a ∨ H a = none) : SW K H' W' a xs :=
  h.imp (fun ⟨⟨o, e⟩, n⟩ => ⟨⟨o, (keep1 e n hk hw).1⟩, (keep1 e n hk hw).2⟩) id
mutual
theorem Rp.mono (hk : ∀ a o, H a = some o → ¬ W a → H' a = some o) (hw : ∀ a, W' a → W a ∨ H a = none) : ∀ {v : V} {d : D}, Rp K H W v d → Rp K H' W' v d
  | _, _, .non => .non
  | _, _, .bl b => .bl b
  | _, _, .int i => .int i
  | _, _, .str x h => .str x h
  | _, _, .tup h r => .tup (h.mono hk hw) (RpL.mono hk hw r)
  | _, _, .lst h r => .lst (h.mono hk hw) (RpL.mono hk hw r)
  | _, _, .scr h r => .scr (h.mono hk hw) (RpL.mono hk hw r)
theorem RpL.mono (hk : ∀ a o, H a = some o → ¬ W a → H' a = some o) (hw : ∀ a, W' a → W a ∨ H a = none) : ∀ {vs : List V} {ds : List D}, RpL K H W vs ds → RpL K H' W' vs ds
  | _, _, .nil => .nil
  | _, _, .cons a r => .cons (Rp.mono hk hw a) (RpL.mono hk hw r)
end
/-- the heap has grown alone -/
theorem Rp.same {v : V} {d : D} (r : Rp K H W v d) (s : Same H H') (hw : ∀ a, W' a → W a ∨ H a = none) : Rp K H' W' v d := r.mono (fun a o e _ => s a o e) hw
theorem RpL.same {v : List V} {d : List D} (r : RpL K H W v d) (s : Same H H') (hw : ∀ a, W' a → W a ∨ H a = none) : RpL K H' W' v d := r.mono (fun a o e _ => s a o e) hw
theorem Rp.less {v : V} {d : D} (r : Rp K H W v d) (hw : ∀ a, W' a → W a) : Rp K H W' v d := r.mono (fun a o e _ => e) fun a z => .inl (hw a z)
theorem RpL.less {v : List V} {d : List D} (r : RpL K H W v d) (hw : ∀ a, W' a → W a) : RpL K H W' v d := r.mono (fun a o e _ => e) fun a z => .inl (hw a z)
theorem RpL.length : ∀ {vs : List V} {ds : List D}, RpL K H W vs ds → vs.length = ds.length
  | _, _, .nil => rfl
  | _, _, .cons _ r => by rw [List.length_cons, List.length_cons, RpL.length r]
theorem RpL.get : ∀ {vs : List V} {ds : List D} {i : Nat} {d : D}, RpL K H W vs ds → ds[i]? = some d → ∃ v, vs[i]? = some v ∧ Rp K H W v d
  | _, _, _, _, .nil, e => by simp at e
  | _, _, 0, _, .cons a _, e => by simp at e; subst e; exact ⟨_, rfl, a⟩
  | _, _, i + 1, d, .cons _ r, e => by
    obtain ⟨v, h1, h2⟩ := RpL.get (i := i) (d := d) r (by simpa using e)
    exact ⟨v, by simpa using h1, h2⟩
theorem RpL.get' : ∀ {vs : List V} {ds : List D} {i : Nat} {v : V}, RpL K H W vs ds → vs[i]? = some v → ∃ d, ds[i]? = some d ∧ Rp K H W v d
  | _, _, _, _, .nil, e => by simp at e
  | _, _, 0, _, .cons a _, e => by simp at e; subst e; exact ⟨_, rfl, a⟩
  | _, _, i + 1, d, .cons _ r, e => by
    obtain ⟨v, h1, h2⟩ := RpL.get' (i := i) (v := d) r (by simpa using e)
    exact ⟨v, by simpa using h1, h2⟩
theorem RpL.append : ∀ {vs ws : List V} {ds es : List D}, RpL K H W vs ds → RpL K H W ws es → RpL K H W (vs ++ ws) (ds ++ es)
  | _, _, _, _, .nil, s => s
  | _, _, _, _, .cons a r, s => .cons a (RpL.append r s)
theorem RpL.take : ∀ (n : Nat) {vs : List V} {ds : List D}, RpL K H W vs ds → RpL K H W (vs.take n) (ds.take n)
  | 0, _, _, _ => by simp only [List.take_zero]; exact .nil
  | _ + 1, _, _, .nil => .nil
  | n + 1, _, _, .cons a r => .cons a (RpL.take n r)
theorem RpL.drop : ∀ (n : Nat) {vs : List V} {ds : List D}, RpL K H W vs ds → RpL K H W (vs.drop n) (ds.drop n)
  | 0, _, _, r => r
  | _ + 1, _, _, .nil => .nil
  | n + 1, _, _, .cons _ r => RpL.drop n r
theorem RpL.set {v : V} {d : D} (a : Rp K H W v d) : ∀ (n : Nat) {vs : List V} {ds : List D}, RpL K H W vs ds → RpL K H W (vs.set n v) (ds.set n d)
  | _, _, _, .nil => .nil
  | 0, _, _, .cons _ r => .cons a r
  | n + 1, _, _, .cons b r => .cons b (RpL.set a n r)
theorem RpL.rep {vs : List V} {ds : List D} (h : RpL K H W vs ds) : ∀ k : Nat, RpL K H W (List.replicate k vs).flatten (List.replicate k ds).flatten
  | 0 => .nil
  | k + 1 => by
    rw [List.replicate_succ, List.replicate_succ, List.flatten_cons, List.flatten_cons]
    exact h.append (RpL.rep h k)
theorem RpL.dropLast {vs : List V} {ds : List D} (h : RpL K H W vs ds) : RpL K H W vs.dropLast ds.dropLast := by
  rw [List.dropLast_eq_take, List.dropLast_eq_take, h.length]
  exact h.take _
theorem RpL.int_inv : ∀ {vs : List V} {ns : List Int}, RpL K H W vs (ns.map D.int) → vs = ns.map V.int
  | _, [], h => by cases h; rfl
  | _, n :: ns, h => by
    cases h with
    | cons a r =>
      cases a
      rw [RpL.int_inv r]; rfl
theorem RpL.ints : ∀ (ns : List Int), RpL K H W (ns.map V.int) (ns.map D.int)
  | [] => .nil
  | n :: ns => .cons (.int n) (RpL.ints ns)
end

/-! ### what is owned -/
mutual
/-- the value stands for the data; f: the addresses that it owns -/
inductive RpO (K : PySem.W.Frag) (H : Hp) (W : Addr → Prop) : V → D → Ow → List Addr → Prop
  | no {v : V} {d : D} : Rp K H W v d → RpO K H W v d .no []
  | at {v : V} {d : D} {e : Ow} : Rp K H W v d → (∀ ds, d ≠ .lst ds) → RpO K H W v d (.lst e) []
  | lst {a : Addr} {vs : List V} {ds : List D} {e : Ow} {f : List Addr} : H a = some (.lst vs) → RpOL K H W vs ds e f → RpO K H W (.ref a) (.lst ds) (.lst e) (a :: f)
inductive RpOL (K : PySem.W.Frag) (H : Hp) (W : Addr → Prop) : List V → List D → Ow → List Addr → Prop
  | nil {e : Ow} : RpOL K H W [] [] e []
  | cons {v : V} {d : D} {vs : List V} {ds : List D} {e : Ow} {f g : List Addr} : RpO K H W v d e f → RpOL K H W vs ds e g → RpOL K H W (v :: vs) (d :: ds) e (f ++ g)
end
section
variable {K : PySem.W.Frag} {H H' : Hp} {W W' : Addr → Prop}
mutual
theorem RpO.mono (hw : ∀ a, W' a → W a ∨ H a = none) : ∀ {v : V} {d : D} {e : Ow} {f : List Addr}, RpO K H W v d e f → (∀ a o, H a = some o → ¬ W a ∨ a ∈ f → H' a = some o) → RpO K H' W' v d e f
  | _, _, _, _, .no r, hk => .no (r.mono (fun a o h n => hk a o h (.inl n)) hw)
  | _, _, _, _, .at r n, hk => .at (r.mono (fun a o h n => hk a o h (.inl n)) hw) n
  | _, _, _, _, .lst h r, hk => .lst (hk _ _ h (.inr (by simp))) (RpOL.mono hw r fun a o e z => hk a o e (z.imp id fun z => List.mem_cons_of_mem _ z))
theorem RpOL.mono (hw : ∀ a, W' a → W a ∨ H a = none) : ∀ {vs : List V} {ds : List D} {e : Ow} {f : List Addr}, RpOL K H W vs ds e f → (∀ a o, H a = some o → ¬ W a ∨ a ∈ f → H' a = some o) → RpOL K H' W' vs ds e f
  | _, _, _, _, .nil, _ => .nil
  | _, _, _, _, .cons r s, hk => .cons (RpO.mono hw r fun a o e z => hk a o e (z.imp id fun z => List.mem_append_left _ z)) (RpOL.mono hw s fun a o e z => hk a o e (z.imp id fun z => List.mem_append_right _ z))
end
theorem RpO.same {v : V} {d : D} {e : Ow} {f : List Addr} (r : RpO K H W v d e f) (s : Same H H') (hw : ∀ a, W' a → W a ∨ H a = none) : RpO K H' W' v d e f := r.mono hw fun a o e _ => s a o e
theorem RpO.less {v : V} {d : D} {e : Ow} {f : List Addr} (r : RpO K H W v d e f) (hw : ∀ a, W' a → W a) : RpO K H W' v d e f := r.mono (fun a z => .inl (hw a z)) fun a o e _ => e
theorem RpOL.less {v : List V} {d : List D} {e : Ow} {f : List Addr} (r : RpOL K H W v d e f) (hw : ∀ a, W' a → W a) : RpOL K H W' v d e f := r.mono (fun a z => .inl (hw a z)) fun a o e _ => e
mutual
theorem RpO.freeze (hw : ∀ a, W' a → W a) : ∀ {v : V} {d : D} {e : Ow} {f : List Addr}, RpO K H W v d e f → (∀ a ∈ f, ¬ W' a) → Rp K H W' v d
  | _, _, _, _, .no r, _ => r.less hw
  | _, _, _, _, .at r _, _ => r.less hw
  | _, _, _, _, .lst h r, n => .lst ⟨h, n _ (by simp)⟩ (RpOL.freeze hw r fun a ha => n a (List.mem_cons_of_mem _ ha))
theorem RpOL.freeze (hw : ∀ a, W' a → W a) : ∀ {vs : List V} {ds : List D} {e : Ow} {f : List Addr}, RpOL K H W vs ds e f → (∀ a ∈ f, ¬ W' a) → RpL K H W' vs ds
  | _, _, _, _, .nil, _ => .nil
  | _, _, _, _, .cons r s, n => .cons (RpO.freeze hw r fun a ha => n a (List.mem_append_left _ ha)) (RpOL.freeze hw s fun a ha => n a (List.mem_append_right _ ha))
end
mutual
theorem RpO.tracked : ∀ {v : V} {d : D} {e : Ow} {f : List Addr}, RpO K H W v d e f → ∀ a ∈ f, ∃ xs, H a = some (.lst xs)
  | _, _, _, _, .no _, _, h => by cases h
  | _, _, _, _, .at _ _, _, h => by cases h
  | _, _, _, _, .lst h r, a, ha => by
    rcases List.mem_cons.mp ha with e | ha
    · subst e; exact ⟨_, h⟩
    · exact RpOL.tracked r a ha
theorem RpOL.tracked : ∀ {vs : List V} {ds : List D} {e : Ow} {f : List Addr}, RpOL K H W vs ds e f → ∀ a ∈ f, ∃ xs, H a = some (.lst xs)
  | _, _, _, _, .nil, _, h => by cases h
  | _, _, _, _, .cons r s, a, ha => by
    rcases List.mem_append.mp ha with ha | ha
    · exact RpO.tracked r a ha
    · exact RpOL.tracked s a ha
end
theorem RpOL.no_of : ∀ {vs : List V} {ds : List D}, RpL K H W vs ds → RpOL K H W vs ds .no []
  | _, _, .nil => .nil
  | _, _, .cons a r => .cons (f := []) (g := []) (.no a) (RpOL.no_of r)
theorem RpOL.length : ∀ {vs : List V} {ds : List D} {e : Ow} {f : List Addr}, RpOL K H W vs ds e f → vs.length = ds.length
  | _, _, _, _, .nil => rfl
  | _, _, _, _, .cons _ r => by rw [List.length_cons, List.length_cons, RpOL.length r]
theorem RpO.no_inv {v : V} {d : D} {f : List Addr} (h : RpO K H W v d .no f) : Rp K H W v d ∧ f = [] := by
  cases h with
  | no r => exact ⟨r, rfl⟩
theorem RpOL.no_inv : ∀ {vs : List V} {ds : List D} {f : List Addr}, RpOL K H W vs ds .no f → RpL K H W vs ds ∧ f = []
  | _, _, _, .nil => ⟨.nil, rfl⟩
  | _, _, _, .cons r s => by
    obtain ⟨r1, rfl⟩ := r.no_inv
    obtain ⟨r2, rfl⟩ := s.no_inv
    exact ⟨.cons r1 r2, rfl⟩
end
end PV

set_option Elab.async false
set_option linter.all false
set_option maxRecDepth 100000
set_option autoImplicit false
set_option maxHeartbeats 4000000
/-! Value semantics: slots, expressions. -/
namespace PV
open PySem PySem.Spec PyProof.Rows L2

/-- all that must not lie in data: W0, and what the slots but those of L own -/
def Wl (W0 : Addr → Prop) (fs : Nat → List Addr) (L : List Nat) : Addr → Prop := fun a => W0 a ∨ ∃ i, i ∉ L ∧ a ∈ fs i
abbrev Wa (W0 : Addr → Prop) (fs : Nat → List Addr) : Addr → Prop := Wl W0 fs []
theorem Wl.mono {W0 : Addr → Prop} {fs : Nat → List Addr} {L L' : List Nat} (h : ∀ i ∈ L', i ∈ L) {a : Addr} (z : Wl W0 fs L a) : Wl W0 fs L' a :=
  z.imp id fun ⟨i, n, z⟩ => ⟨i, fun q => n (h i q), z⟩

/-- what may change: no tuple, nothing locked -/
def MutO : HO → Prop
  | .lst _ => True
  | .ins _ _ _ => True
  | .dK _ => True
  | .dT _ => True
  | _ => False
/-- W holds what may change alone -/
abbrev Tk (H : Hp) (W : Addr → Prop) : Prop := ∀ a, W a → ∃ o, H a = some o ∧ MutO o
theorem tk_same {H H1 : Hp} {W : Addr → Prop} (t : Tk H W) (s : Same H H1) : Tk H1 W := fun a z => let ⟨o, e, m⟩ := t a z; ⟨o, s a o e, m⟩
theorem tk_free {H : Hp} {W : Addr → Prop} {p : Addr} (t : Tk H W) (h : H p = none) : ¬ W p := fun z => by
  obtain ⟨o, e, _⟩ := t p z
  rw [h] at e; cases e

/-- the slots: values and data; ω what of them is owned, fs the addresses -/
structure EnvR (K : PySem.W.Frag) (H : Hp) (W0 : Addr → Prop) (σ : L2.St) (ρ : Env) (ω : List Ow) (fs : Nat → List Addr) : Prop where
  len : σ.length = ρ.length
  sl : ∀ i d, ρ[i]? = some (some d) → ∃ v, σ[i]? = some (some v) ∧ RpO K H (Wa W0 fs) v d (ω.getD i .no) (fs i)
  nil : ∀ i, (∀ d, ρ[i]? ≠ some (some d)) → fs i = []
  w0 : Tk H W0
  dis0 : ∀ i a, a ∈ fs i → ¬ W0 a
  dis : ∀ i j a, a ∈ fs i → a ∈ fs j → i = j
  nd : ∀ i, (fs i).Nodup
section
variable {K : PySem.W.Frag} {H H' : Hp} {W0 W0' : Addr → Prop} {σ : L2.St} {ρ : Env} {ω : List Ow} {fs : Nat → List Addr}
theorem EnvR.tr (E : EnvR K H W0 σ ρ ω fs) {i : Nat} {a : Addr} (h : a ∈ fs i) : ∃ xs, H a = some (.lst xs) := by
  by_cases q : ∃ d, ρ[i]? = some (some d)
  · obtain ⟨d, e⟩ := q
    obtain ⟨v, _, r⟩ := E.sl i d e
    exact r.tracked a h
  · rw [E.nil i fun d e => q ⟨d, e⟩] at h
    cases h
theorem EnvR.wl (E : EnvR K H W0 σ ρ ω fs) {L : List Nat} : Tk H (Wl W0 fs L) := by
  intro a h
  rcases h with h | ⟨i, _, h⟩
  · exact E.w0 a h
  · obtain ⟨xs, e⟩ := E.tr h
    exact ⟨_, e, trivial⟩
/-- the heap has grown, or what lies outside has changed -/
theorem EnvR.mono (E : EnvR K H W0 σ ρ ω fs) (hk : ∀ a o, H a = some o → ¬ W0 a → H' a = some o) (hw : ∀ a, W0' a → (∃ o, H' a = some o ∧ MutO o) ∧ (W0 a ∨ H a = none)) : EnvR K H' W0' σ ρ ω fs where
  len := E.len
  sl := fun i d e => by
    obtain ⟨v, h1, r⟩ := E.sl i d e
    refine ⟨v, h1, r.mono (fun a z => ?_) fun a o h z => ?_⟩
    · rcases z with z | z
      · rcases (hw a z).2 with z | z
        · exact .inl (.inl z)
        · exact .inr z
      · exact .inl (.inr z)
    · refine hk a o h ?_
      rcases z with z | z
      · exact fun q => z (.inl q)
      · exact E.dis0 i a z
  nil := E.nil
  w0 := fun a z => (hw a z).1
  dis0 := fun i a h z => by
    rcases (hw a z).2 with z | z
    · exact E.dis0 i a h z
    · obtain ⟨xs, e⟩ := E.tr h
      rw [z] at e; cases e
  dis := E.dis
  nd := E.nd
theorem EnvR.same (E : EnvR K H W0 σ ρ ω fs) (s : Same H H') : EnvR K H' W0 σ ρ ω fs :=
  E.mono (fun a o e _ => s a o e) fun a z => ⟨tk_same E.w0 s a z, .inl z⟩
/-- more is kept off -/
theorem EnvR.more (E : EnvR K H W0 σ ρ ω fs) (s : Same H H') {fe : List Addr} (hf : ∀ a ∈ fe, H a = none) (ht : ∀ a ∈ fe, ∃ o, H' a = some o ∧ MutO o) : EnvR K H' (fun a => W0 a ∨ a ∈ fe) σ ρ ω fs :=
  E.mono (fun a o e _ => s a o e) fun a z => by
    rcases z with z | z
    · exact ⟨tk_same E.w0 s a z, .inl z⟩
    · exact ⟨ht a z, .inr (hf a z)⟩
end

/-- how an expression's value lies: frozen; new and owned; a view -/
inductive RK where
  | fz | own (e : Ow) | vw
  deriving DecidableEq

/-- a view: the value, or a list whose items alone keep off W -/
def RpE (K : PySem.W.Frag) (H : Hp) (W : Addr → Prop) (v : V) (d : D) : Prop :=
  Rp K H W v d ∨ ∃ a vs ds, v = .ref a ∧ d = .lst ds ∧ H a = some (.lst vs) ∧ RpL K H W vs ds
section
variable {K : PySem.W.Frag} {H H' : Hp} {W W' : Addr → Prop} {v : V}
theorem RpE.mono {d : D} (r : RpE K H W v d) (s : Same H H') (hw : ∀ a, W' a → W a ∨ H a = none) : RpE K H' W' v d := by
  rcases r with r | ⟨a, vs, ds, e1, e2, h, r⟩
  · exact .inl (r.same s hw)
  · exact .inr ⟨a, vs, ds, e1, e2, s _ _ h, r.same s hw⟩
theorem RpE.non (r : RpE K H W v .non) : v = .non := by
  rcases r with r | ⟨_, _, _, _, e, _⟩
  · cases r; rfl
  · cases e
theorem RpE.bl {b : Bool} (r : RpE K H W v (.bl b)) : v = .bl b := by
  rcases r with r | ⟨_, _, _, _, e, _⟩
  · cases r; rfl
  · cases e
theorem RpE.int {i : Int} (r : RpE K H W v (.int i)) : v = .int i := by
  rcases r with r | ⟨_, _, _, _, e, _⟩
  · cases r; rfl
  · cases e
theorem RpE.str {x : Str} (r : RpE K H W v (.str x)) : v = .str x ∧ PyData.strOk x = true := by
  rcases r with r | ⟨_, _, _, _, e, _⟩
  · cases r with
    | str _ h => exact ⟨rfl, h⟩
  · cases e
theorem RpE.tup {ds : List D} (r : RpE K H W v (.tup ds)) : ∃ a vs, v = .ref a ∧ TW K H W a vs ∧ RpL K H W vs ds := by
  rcases r with r | ⟨_, _, _, _, e, _⟩
  · cases r with
    | tup h r => exact ⟨_, _, rfl, h, r⟩
  · cases e
theorem RpE.lst {ds : List D} (r : RpE K H W v (.lst ds)) : ∃ a vs, v = .ref a ∧ H a = some (.lst vs) ∧ RpL K H W vs ds := by
  rcases r with r | ⟨a, vs, ds', e1, e2, h, r⟩
  · cases r with
    | lst h r => exact ⟨_, _, rfl, h.1, r⟩
  · cases e2
    exact ⟨a, vs, e1, h, r⟩
theorem RpE.scr {ds : List D} (r : RpE K H W v (.scr ds)) : ∃ a vs, v = .ref a ∧ SqL K H a vs ∧ RpL K H W vs ds := by
  rcases r with r | ⟨_, _, _, _, e, _⟩
  · cases r with
    | scr h r => exact ⟨_, _, rfl, h.sq, r⟩
  · cases e
end

theorem nn {P : Addr → Prop} : ∀ a ∈ ([] : List Addr), P a := fun _ h => by cases h
/-- what an expression leaves -/
structure EPost (K : PySem.W.Frag) (H : Hp) (W : Addr → Prop) (κ : RK) (d : D) (v : V) (H' : Hp) (fe : List Addr) : Prop where
  same : Same H H'
  new : ∀ a ∈ fe, H a = none
  nd : fe.Nodup
  rp : match κ with
    | .fz => fe = [] ∧ Rp K H' W v d
    | .own e => RpO K H' (fun a => W a ∨ a ∈ fe) v d (.lst e) fe
    | .vw => fe = [] ∧ RpE K H' W v d
section
variable {K : PySem.W.Frag} {H H' : Hp} {W W' : Addr → Prop} {v : V} {d : D} {fe : List Addr} {κ : RK}
theorem EPost.view (P : EPost K H W κ d v H' fe) (hW : Tk H W) : RpE K H' W v d := by
  have q := P.rp
  have nW : ∀ a ∈ fe, ¬ W a := fun a ha => tk_free hW (P.new a ha)
  cases κ with
  | fz => exact .inl q.2
  | vw => exact q.2
  | own e =>
    have q : RpO K H' (fun a => W a ∨ a ∈ fe) v d (.lst e) fe := q
    exact .inl (q.freeze (fun a z => .inl z) nW)
theorem EPost.fz (P : EPost K H W κ d v H' fe) (hW : Tk H W) (hκ : κ ≠ .vw) : Rp K H' W v d := by
  have q := P.rp
  have nW : ∀ a ∈ fe, ¬ W a := fun a ha => tk_free hW (P.new a ha)
  cases κ with
  | fz => exact q.2
  | vw => exact absurd rfl hκ
  | own e =>
    have q : RpO K H' (fun a => W a ∨ a ∈ fe) v d (.lst e) fe := q
    exact q.freeze (fun a z => .inl z) nW
theorem EPost.tracked (P : EPost K H W κ d v H' fe) : ∀ a ∈ fe, ∃ o, H' a = some o ∧ MutO o := fun a ha => by
  have q := P.rp
  cases κ with
  | fz => rw [q.1] at ha; cases ha
  | vw => rw [q.1] at ha; cases ha
  | own e =>
    have q : RpO K H' (fun a => W a ∨ a ∈ fe) v d (.lst e) fe := q
    obtain ⟨xs, e⟩ := q.tracked a ha
    exact ⟨_, e, trivial⟩
/-- a plain value: nothing new -/
theorem EPost.rpv (r : Rp K H W v d) : EPost K H W .fz d v H [] := ⟨Same.refl H, nn, List.nodup_nil, rfl, r⟩
theorem same_upd {p : Addr} {o : HO} (h : H p = none) : Same H (upd H p o) := fun b x e => by
  rw [upd_ne (ne_of_none e h)]; exact e
/-- a new tuple -/
theorem EPost.tupN {vs : List V} {ds : List D} {p : Addr} (hW : Tk H W) (r : RpL K H W vs ds) (hp : H p = none) : EPost K H W .fz (.tup ds) (.ref p) (upd H p (.tup vs)) [] :=
  ⟨same_upd hp, nn, List.nodup_nil, rfl, .tup (.inl ⟨upd_same, tk_free hW hp⟩) (r.same (same_upd hp) fun a z => .inl z)⟩
/-- a new list of frozen items -/
theorem EPost.lstN {vs : List V} {ds : List D} {p : Addr} (r : RpL K H W vs ds) (hp : H p = none) : EPost K H W (.own .no) (.lst ds) (.ref p) (upd H p (.lst vs)) [p] :=
  ⟨same_upd hp, fun a h => by rw [List.mem_singleton.mp h]; exact hp, by simp, .lst upd_same (RpOL.no_of (r.same (same_upd hp) fun a z => by
    rcases z with z | z
    · exact .inl z
    · rw [List.mem_singleton.mp z]; exact .inr hp))⟩
end


/-- AN EXPRESSION: m is its value by the slots' data; κ how it lies; L the slots that it hands on -/
structure EP (X : Cx) (ω : List Ow) (e : Expr) (m : Env → Option D) (κ : RK) (L : List Nat) : Prop where
  ex : ∃ t : TE, PE X e t ∧ ∀ (σ : L2.St) (H : Hp) (ρ : Env) (fs : Nat → List Addr) (W0 : Addr → Prop) (d : D) (Q : VK), EnvR X.K H W0 σ ρ ω fs → m ρ = some d →
    (∀ v H' fe, EPost X.K H (Wl W0 fs L) κ d v H' fe → Q v H') → t σ H Q

section
variable {X : Cx} {ω : List Ow} {pos : Pos}

/-! names, constants -/
theorem ep_cst {c : Const} {j : Nat} {d : D} {v : V} (h : PE X (.Constant c j pos) (tC v)) (r : ∀ H W, Rp X.K H W v d) : EP X ω (.Constant c j pos) (fun _ => some d) .fz [] :=
  ⟨_, h, fun σ H ρ fs W0 d' Q E e k => by cases e; exact k v H [] (.rpv (r _ _))⟩
theorem ep_glob {x : Str} {d : D} {v : V} {u : Value} (hg : Gl X x) (hm : X.mg x = some u) (rv : RelV v u) (r : ∀ H W, Rp X.K H W v d) (hd : (x == ("__debug__" : Str)) = false) : EP X ω (.Name x pos) (fun _ => some d) .fz [] :=
  ⟨_, pe_glob hg hm rv hd, fun σ H ρ fs W0 d' Q E e k => by cases e; exact k v H [] (.rpv (r _ _))⟩
/-- a name that owns nothing -/
theorem ep_var {i : Nat} {x : Str} (h : PE X (.Name x pos) (tVar i)) (ho : ω.getD i .no = .no) : EP X ω (.Name x pos) (fun ρ => (ρ[i]?).join) .fz [] :=
  ⟨_, h, fun σ H ρ fs W0 d Q E e k => by
    have e1 : ρ[i]? = some (some d) := by
      cases q : ρ[i]? with
      | none => rw [q] at e; cases e
      | some o => rw [q] at e; cases o with
        | none => cases e
        | some d' => cases e; rfl
    obtain ⟨v, h1, r⟩ := E.sl i d e1
    rw [ho] at r
    exact ⟨v, h1, k v H [] (.rpv r.no_inv.1)⟩⟩
theorem join_some {ρ : Env} {i : Nat} {d : D} (e : (ρ[i]?).join = some d) : ρ[i]? = some (some d) := by
  cases q : ρ[i]? with
  | none => rw [q] at e; cases e
  | some o => rw [q] at e; cases o with
    | none => cases e
    | some d' => cases e; rfl
/-- a view of a name that owns a list of frozen items -/
theorem ep_varV {i : Nat} {x : Str} (h : PE X (.Name x pos) (tVar i)) (ho : ω.getD i .no = .lst .no ∨ ω.getD i .no = .lst .top) : EP X ω (.Name x pos) (fun ρ => (ρ[i]?).join) .vw [] :=
  ⟨_, h, fun σ H ρ fs W0 d Q E e k => by
    obtain ⟨v, h1, r⟩ := E.sl i d (join_some e)
    refine ⟨v, h1, k v H [] ⟨Same.refl H, nn, List.nodup_nil, rfl, ?_⟩⟩
    rcases ho with ho | ho
    · rw [ho] at r
      generalize fs i = f at r
      cases r with
      | «at» r _ => exact .inl r
      | lst h r => exact .inr ⟨_, _, _, rfl, rfl, h, r.no_inv.1⟩
    · rw [ho] at r
      generalize fs i = f at r
      cases r with
      | «at» r _ => exact .inl r
      | lst h r =>
        cases r with
        | nil => exact .inr ⟨_, _, _, rfl, rfl, h, .nil⟩
        | cons r _ => cases r⟩
/-- a name handed on: what it owns is frozen -/
theorem ep_varC {i : Nat} {x : Str} (h : PE X (.Name x pos) (tVar i)) : EP X ω (.Name x pos) (fun ρ => (ρ[i]?).join) .fz [i] :=
  ⟨_, h, fun σ H ρ fs W0 d Q E e k => by
    obtain ⟨v, h1, r⟩ := E.sl i d (join_some e)
    refine ⟨v, h1, k v H [] (.rpv (r.freeze (fun a z => z.imp id fun ⟨j, _, z⟩ => ⟨j, by simp, z⟩) fun a ha z => ?_))⟩
    rcases z with z | ⟨j, n, z⟩
    · exact E.dis0 i a ha z
    · exact n (by rw [E.dis i j a ha z]; simp)⟩
/-- weaker ends -/
theorem EP.vw {e : Expr} {m : Env → Option D} {κ : RK} {L : List Nat} (h : EP X ω e m κ L) : EP X ω e m .vw L :=
  let ⟨t, p, q⟩ := h.ex
  ⟨t, p, fun σ H ρ fs W0 d Q E e k => q σ H ρ fs W0 d Q E e fun v H' fe P => k v H' [] ⟨P.same, nn, List.nodup_nil, rfl, P.view E.wl⟩⟩
theorem EP.fz {e : Expr} {m : Env → Option D} {κ : RK} {L : List Nat} (h : EP X ω e m κ L) (hκ : κ ≠ .vw) : EP X ω e m .fz L :=
  let ⟨t, p, q⟩ := h.ex
  ⟨t, p, fun σ H ρ fs W0 d Q E e k => q σ H ρ fs W0 d Q E e fun v H' fe P => k v H' [] ⟨P.same, nn, List.nodup_nil, rfl, P.fz (E.wl) hκ⟩⟩

/-! ### operators on views -/
def OpV (X : Cx) (r : R2) (φ : D → D → Option D) (κ : RK) : Prop :=
  ∀ (H : Hp) (W : Addr → Prop) (x y : V) (a b d : D) (Q : VK), Tk H W → RpE X.K H W x a → RpE X.K H W y b → φ a b = some d → (∀ v H' fe, EPost X.K H W κ d v H' fe → Q v H') → r x y H Q
theorem EPost.trans {K : PySem.W.Frag} {H H1 H2 : Hp} {W : Addr → Prop} {κ : RK} {d : D} {v : V} {fe : List Addr} (s : Same H H1) (P : EPost K H1 W κ d v H2 fe) : EPost K H W κ d v H2 fe :=
  ⟨s.trans P.same, fun a h => s.free (P.new a h), P.nd, P.rp⟩
theorem ep_op2 {a b : Expr} {ma mb : Env → Option D} {κ κa κb : RK} {La Lb : List Nat} {e : Expr} {r : R2} {φ : D → D → Option D}
    (hp : ∀ ta tb, PE X a ta → PE X b tb → PE X e (tOp r ta tb)) (hv : OpV X r φ κ) (ha : EP X ω a ma κa La) (hb : EP X ω b mb κb Lb) :
    EP X ω e (fun ρ => (ma ρ).bind fun x => (mb ρ).bind fun y => φ x y) κ (La ++ Lb) := by
  obtain ⟨ta, pa, qa⟩ := ha.ex
  obtain ⟨tb, pb, qb⟩ := hb.ex
  refine ⟨_, hp ta tb pa pb, fun σ H ρ fs W0 d Q E em k => ?_⟩
  obtain ⟨x, ex, em⟩ := Option.bind_eq_some_iff.mp em
  obtain ⟨y, ey, em⟩ := Option.bind_eq_some_iff.mp em
  refine qa σ H ρ fs W0 x _ E ex fun v H1 fe P1 => ?_
  have E1 := E.same P1.same
  refine qb σ H1 ρ fs W0 y _ E1 ey fun u H2 fe2 P2 => ?_
  have hW : Tk H2 (Wl W0 fs (La ++ Lb)) := tk_same (E1.wl) P2.same
  refine hv H2 (Wl W0 fs (La ++ Lb)) v u x y d Q hW ?_ ?_ em fun v H' fe P => k v H' fe (.trans (P1.same.trans P2.same) P)
  · exact ((P1.view E.wl).mono P2.same fun a z => .inl z).mono (Same.refl _) fun a z => .inl (z.mono fun i hi => List.mem_append_left _ hi)
  · exact (P2.view E1.wl).mono (Same.refl _) fun a z => .inl (z.mono fun i hi => List.mem_append_right _ hi)
def OpV1 (X : Cx) (r : V → Hp → VK → Prop) (φ : D → Option D) (κ : RK) : Prop :=
  ∀ (H : Hp) (W : Addr → Prop) (x : V) (a d : D) (Q : VK), Tk H W → RpE X.K H W x a → φ a = some d → (∀ v H' fe, EPost X.K H W κ d v H' fe → Q v H') → r x H Q
theorem ep_op1 {a : Expr} {ma : Env → Option D} {κ κa : RK} {La : List Nat} {e : Expr} {r : V → Hp → VK → Prop} {φ : D → Option D}
    (hp : ∀ ta, PE X a ta → PE X e (tUn r ta)) (hv : OpV1 X r φ κ) (ha : EP X ω a ma κa La) :
    EP X ω e (fun ρ => (ma ρ).bind φ) κ La := by
  obtain ⟨ta, pa, qa⟩ := ha.ex
  refine ⟨_, hp ta pa, fun σ H ρ fs W0 d Q E em k => ?_⟩
  obtain ⟨x, ex, em⟩ := Option.bind_eq_some_iff.mp em
  refine qa σ H ρ fs W0 x _ E ex fun v H1 fe P1 => ?_
  exact hv H1 (Wl W0 fs La) v x d Q (tk_same (E.wl) P1.same) (P1.view E.wl) em fun v H' fe P => k v H' fe (.trans P1.same P)

/-! ### argument lists, views and frozen -/
inductive REL (K : PySem.W.Frag) (H : Hp) (W : Addr → Prop) : List V → List D → Prop
  | nil : REL K H W [] []
  | cons {v : V} {d : D} {vs : List V} {ds : List D} : RpE K H W v d → REL K H W vs ds → REL K H W (v :: vs) (d :: ds)
theorem REL.mono {K : PySem.W.Frag} {H H' : Hp} {W W' : Addr → Prop} (s : Same H H') (hw : ∀ a, W' a → W a ∨ H a = none) : ∀ {vs : List V} {ds : List D}, REL K H W vs ds → REL K H' W' vs ds
  | _, _, .nil => .nil
  | _, _, .cons a r => .cons (a.mono s hw) (REL.mono s hw r)
/-- arguments as views -/
structure EVs (X : Cx) (ω : List Ow) (es : List Expr) (m : Env → Option (List D)) (L : List Nat) : Prop where
  ex : ∃ t : TA, PA X es t ∧ ∀ (σ : L2.St) (H : Hp) (ρ : Env) (fs : Nat → List Addr) (W0 : Addr → Prop) (ds : List D) (Q : List V → Hp → Prop), EnvR X.K H W0 σ ρ ω fs → m ρ = some ds →
    (∀ vs H', Same H H' → REL X.K H' (Wl W0 fs L) vs ds → Q vs H') → t σ H Q
/-- arguments frozen -/
structure EFs (X : Cx) (ω : List Ow) (es : List Expr) (m : Env → Option (List D)) (L : List Nat) : Prop where
  ex : ∃ t : TA, PA X es t ∧ ∀ (σ : L2.St) (H : Hp) (ρ : Env) (fs : Nat → List Addr) (W0 : Addr → Prop) (ds : List D) (Q : List V → Hp → Prop), EnvR X.K H W0 σ ρ ω fs → m ρ = some ds →
    (∀ vs H', Same H H' → RpL X.K H' (Wl W0 fs L) vs ds → Q vs H') → t σ H Q
def consM (ma : Env → Option D) (mr : Env → Option (List D)) : Env → Option (List D) := fun ρ => (ma ρ).bind fun x => (mr ρ).bind fun r => some (x :: r)
theorem evs_nil : EVs X ω [] (fun _ => some []) [] := ⟨_, pa_nil, fun σ H ρ fs W0 ds Q E e k => by cases e; exact k [] H (Same.refl H) .nil⟩
theorem efs_nil : EFs X ω [] (fun _ => some []) [] := ⟨_, pa_nil, fun σ H ρ fs W0 ds Q E e k => by cases e; exact k [] H (Same.refl H) .nil⟩
theorem star_ok {e : Expr} {es : List Expr} {env : PySem.Env} (h : ∀ v p, e ≠ .Starred v p) : starEach (e :: es) env = (false, eval e env) :: starEach es env := by
  cases e <;> first | rfl | exact absurd rfl (h _ _)
theorem evs_cons {e : Expr} {es : List Expr} {ma : Env → Option D} {mr : Env → Option (List D)} {κ : RK} {La Lr : List Nat} (hs : ∀ v p, e ≠ .Starred v p) (ha : EP X ω e ma κ La) (hr : EVs X ω es mr Lr) : EVs X ω (e :: es) (consM ma mr) (La ++ Lr) := by
  obtain ⟨ta, pa, qa⟩ := ha.ex
  obtain ⟨tr, pr, qr⟩ := hr.ex
  refine ⟨_, pa_cons pa pr (star_ok hs), fun σ H ρ fs W0 ds Q E em k => ?_⟩
  obtain ⟨x, ex, em⟩ := Option.bind_eq_some_iff.mp em
  obtain ⟨r, er, em⟩ := Option.bind_eq_some_iff.mp em
  cases em
  refine qa σ H ρ fs W0 x _ E ex fun v H1 fe P1 => ?_
  have E1 := E.same P1.same
  refine qr σ H1 ρ fs W0 r _ E1 er fun vs H2 s2 R2 => k _ H2 (P1.same.trans s2) (.cons ?_ ?_)
  · exact ((P1.view E.wl).mono s2 fun a z => .inl z).mono (Same.refl _) fun a z => .inl (z.mono fun i hi => List.mem_append_left _ hi)
  · exact R2.mono (Same.refl _) fun a z => .inl (z.mono fun i hi => List.mem_append_right _ hi)
theorem efs_cons {e : Expr} {es : List Expr} {ma : Env → Option D} {mr : Env → Option (List D)} {κ : RK} {La Lr : List Nat} (hκ : κ ≠ .vw) (hs : ∀ v p, e ≠ .Starred v p) (ha : EP X ω e ma κ La) (hr : EFs X ω es mr Lr) : EFs X ω (e :: es) (consM ma mr) (La ++ Lr) := by
  obtain ⟨ta, pa, qa⟩ := ha.ex
  obtain ⟨tr, pr, qr⟩ := hr.ex
  refine ⟨_, pa_cons pa pr (star_ok hs), fun σ H ρ fs W0 ds Q E em k => ?_⟩
  obtain ⟨x, ex, em⟩ := Option.bind_eq_some_iff.mp em
  obtain ⟨r, er, em⟩ := Option.bind_eq_some_iff.mp em
  cases em
  refine qa σ H ρ fs W0 x _ E ex fun v H1 fe P1 => ?_
  have E1 := E.same P1.same
  refine qr σ H1 ρ fs W0 r _ E1 er fun vs H2 s2 R2 => k _ H2 (P1.same.trans s2) (.cons ?_ ?_)
  · exact ((P1.fz (E.wl) hκ).same s2 fun a z => .inl z).less fun a z => z.mono fun i hi => List.mem_append_left _ hi
  · exact R2.less fun a z => z.mono fun i hi => List.mem_append_right _ hi
/-- a tuple, a list of written items -/
def szOk (n : Nat) : Bool := decide (n ≤ sizeLine)
theorem ep_tup {es : List Expr} {k1 : Nat} {m : Env → Option (List D)} {L : List Nat} (h : EFs X ω es m L) : EP X ω (.Tuple es k1 pos) (fun ρ => (m ρ).bind fun ds => if szOk ds.length then some (.tup ds) else none) .fz L := by
  obtain ⟨t, p, q⟩ := h.ex
  refine ⟨_, pe_tup p, fun σ H ρ fs W0 d Q E em k => ?_⟩
  obtain ⟨ds, es, em⟩ := Option.bind_eq_some_iff.mp em
  by_cases hz : szOk ds.length = true
  · rw [if_pos hz] at em
    cases em
    refine q σ H ρ fs W0 ds _ E es fun vs H' s r => ⟨by rw [r.length]; exact of_decide_eq_true hz, fun p hp => k _ _ [] (.trans s (.tupN (tk_same (E.wl) s) r hp))⟩
  · rw [if_neg hz] at em; cases em
theorem ep_lst {es : List Expr} {m : Env → Option (List D)} {L : List Nat} (h : EFs X ω es m L) : EP X ω (.List es pos) (fun ρ => (m ρ).bind fun ds => if szOk ds.length then some (.lst ds) else none) (.own .no) L := by
  obtain ⟨t, p, q⟩ := h.ex
  refine ⟨_, pe_lst p, fun σ H ρ fs W0 d Q E em k => ?_⟩
  obtain ⟨ds, es, em⟩ := Option.bind_eq_some_iff.mp em
  by_cases hz : szOk ds.length = true
  · rw [if_pos hz] at em
    cases em
    refine q σ H ρ fs W0 ds _ E es fun vs H' s r => ⟨by rw [r.length]; exact of_decide_eq_true hz, fun p hp => k _ _ [p] (.trans s (.lstN r hp))⟩
  · rw [if_neg hz] at em; cases em
/-- [] -/
theorem ep_nil : EP X ω (.List [] pos) (fun _ => some (.lst [])) (.own .top) [] :=
  ⟨_, pe_lst pa_nil, fun σ H ρ fs W0 d Q E em k => by
    cases em
    exact ⟨Nat.zero_le _, fun p hp => k _ _ [p] ⟨same_upd hp, fun a h => by rw [List.mem_singleton.mp h]; exact hp, by simp, .lst upd_same .nil⟩⟩⟩
end
end PV

set_option Elab.async false
set_option linter.all false
set_option maxRecDepth 100000
set_option autoImplicit false
set_option maxHeartbeats 4000000
/-! Value semantics: operators, built-in functions. -/
namespace PV
open PySem PySem.Spec PyProof.Rows L2
variable {X : Cx}

/-! ### numbers out of data -/
def asInts : List D → Option (List Int)
  | [] => some []
  | .int i :: r => (asInts r).map (i :: ·)
  | _ :: _ => none
theorem asInts_eq : ∀ {ds : List D} {ns : List Int}, asInts ds = some ns → ds = ns.map D.int
  | [], ns, h => by cases h; rfl
  | .int i :: r, ns, h => by
    obtain ⟨m, h1, rfl⟩ := Option.map_eq_some_iff.mp (show (asInts r).map (i :: ·) = some ns from h)
    rw [asInts_eq h1]; rfl
  | .non :: _, _, h => nomatch h
  | .bl _ :: _, _, h => nomatch h
  | .str _ :: _, _, h => nomatch h
  | .tup _ :: _, _, h => nomatch h
  | .lst _ :: _, _, h => nomatch h
  | .scr _ :: _, _, h => nomatch h
theorem asInts_map : ∀ ns : List Int, asInts (ns.map D.int) = some ns
  | [] => rfl
  | n :: ns => by show (asInts (ns.map D.int)).map (n :: ·) = _; rw [asInts_map ns]; rfl
def asBls : List D → Option (List Bool)
  | [] => some []
  | .bl i :: r => (asBls r).map (i :: ·)
  | _ :: _ => none
theorem asBls_eq : ∀ {ds : List D} {ns : List Bool}, asBls ds = some ns → ds = ns.map D.bl
  | [], ns, h => by cases h; rfl
  | .bl i :: r, ns, h => by
    obtain ⟨m, h1, rfl⟩ := Option.map_eq_some_iff.mp (show (asBls r).map (i :: ·) = some ns from h)
    rw [asBls_eq h1]; rfl
  | .non :: _, _, h => nomatch h
  | .int _ :: _, _, h => nomatch h
  | .str _ :: _, _, h => nomatch h
  | .tup _ :: _, _, h => nomatch h
  | .lst _ :: _, _, h => nomatch h
  | .scr _ :: _, _, h => nomatch h
theorem asBls_map : ∀ ns : List Bool, asBls (ns.map D.bl) = some ns
  | [] => rfl
  | n :: ns => by show (asBls (ns.map D.bl)).map (n :: ·) = _; rw [asBls_map ns]; rfl
theorem RpL.bl_inv {K : PySem.W.Frag} {H : Hp} {W : Addr → Prop} : ∀ {vs : List V} {ns : List Bool}, RpL K H W vs (ns.map D.bl) → vs = ns.map V.bl
  | _, [], h => by cases h; rfl
  | _, n :: ns, h => by
    cases h with
    | cons a r =>
      cases a
      rw [RpL.bl_inv r]; rfl

theorem szOk_le {n : Nat} (h : szOk n = true) : n ≤ sizeLine := of_decide_eq_true h
theorem strOk_app {x y : Str} (hx : PyData.strOk x = true) (hy : PyData.strOk y = true) : PyData.strOk (x ++ y) = true := by
  have e : (x ++ y).cps = x.cps ++ y.cps := rfl
  unfold PyData.strOk at *
  rw [e, Array.all_append, hx, hy]; rfl

/-! ### +, -, * and so on -/
def addD : D → D → Option D
  | .int i, .int j => some (.int (i + j))
  | .str x, .str y => if szOk (x.length + y.length) then some (.str (x ++ y)) else none
  | .tup xs, .tup ys => if szOk (xs.length + ys.length) then some (.tup (xs ++ ys)) else none
  | .lst xs, .lst ys => if szOk (xs.length + ys.length) then some (.lst (xs ++ ys)) else none
  | _, _ => none
abbrev rAddI : R2 := rI0 fun i j => .int (i + j)
abbrev rAddS : R2 := fun x y H Q => ∃ i j, x = .str i ∧ y = .str j ∧ i.length + j.length ≤ sizeLine ∧ Q (.str (i ++ j)) H
def rAddA (K : PySem.W.Frag) : R2 := fun x y H Q => rAddI x y H Q ∨ rAddS x y H Q ∨ rCatA K x y H Q ∨ rCat x y H Q
theorem op_addA : OpR X (binaryOp .Add) (rAddA X.K) := op_add.or (op_add_str.or (op_catA.or op_cat))
theorem ownA {K : PySem.W.Frag} {H : Hp} {W : Addr → Prop} {d : D} {v : V} (r : Rp K H W v d) (h : ∀ ds, d ≠ .lst ds) : EPost K H W (.own .no) d v H [] :=
  ⟨Same.refl H, nn, List.nodup_nil, .at (r.less fun a z => z.elim id fun z => by cases z) h⟩
theorem EPost.toOwn {K : PySem.W.Frag} {H H' : Hp} {W : Addr → Prop} {d : D} {v : V} {fe : List Addr} (P : EPost K H W .fz d v H' fe) (h : ∀ ds, d ≠ .lst ds) : EPost K H W (.own .no) d v H' fe := by
  obtain ⟨h1, h2, h3, h4, r⟩ := P
  subst h4
  exact ⟨h1, nn, List.nodup_nil, .at (r.less fun a z => z.elim id fun z => by cases z) h⟩
theorem addD_inv {a b d : D} (h : addD a b = some d) : (∃ i j, a = .int i ∧ b = .int j ∧ d = .int (i + j)) ∨ (∃ x y, a = .str x ∧ b = .str y ∧ x.length + y.length ≤ sizeLine ∧ d = .str (x ++ y)) ∨
    (∃ xs ys, a = .tup xs ∧ b = .tup ys ∧ xs.length + ys.length ≤ sizeLine ∧ d = .tup (xs ++ ys)) ∨ (∃ xs ys, a = .lst xs ∧ b = .lst ys ∧ xs.length + ys.length ≤ sizeLine ∧ d = .lst (xs ++ ys)) := by
  unfold addD at h
  split at h
  · cases h; exact .inl ⟨_, _, rfl, rfl, rfl⟩
  · split at h
    · rename_i z; cases h; exact .inr (.inl ⟨_, _, rfl, rfl, szOk_le z, rfl⟩)
    · cases h
  · split at h
    · rename_i z; cases h; exact .inr (.inr (.inl ⟨_, _, rfl, rfl, szOk_le z, rfl⟩))
    · cases h
  · split at h
    · rename_i z; cases h; exact .inr (.inr (.inr ⟨_, _, rfl, rfl, szOk_le z, rfl⟩))
    · cases h
  · cases h
theorem opv_add : OpV X (rAddA X.K) addD (.own .no) := by
  intro H W x y a b d Q hW ra rb e k
  rcases addD_inv e with ⟨i, j, rfl, rfl, rfl⟩ | ⟨z1, z2, rfl, rfl, hz, rfl⟩ | ⟨xs, ys, rfl, rfl, hz, rfl⟩ | ⟨xs, ys, rfl, rfl, hz, rfl⟩
  · rw [ra.int, rb.int]
    exact .inl ⟨i, j, rfl, rfl, k _ _ _ (ownA (.int _) fun _ h => nomatch h)⟩
  · obtain ⟨rfl, o1⟩ := ra.str
    obtain ⟨rfl, o2⟩ := rb.str
    exact .inr (.inl ⟨_, _, rfl, rfl, hz, k _ _ _ (ownA (.str _ (strOk_app o1 o2)) fun _ h => nomatch h)⟩)
  · obtain ⟨p, vs, rfl, t1, r1⟩ := ra.tup
    obtain ⟨q, ws, rfl, t2, r2⟩ := rb.tup
    refine .inr (.inr (.inl ⟨p, q, vs, ws, rfl, rfl, t1.sq, t2.sq, by rw [r1.length, r2.length]; exact hz, fun h => ?_, fun _ h => ?_, fun _ _ l hl => ?_⟩))
    · subst h
      have : xs = [] := by have := r1.length; simpa using this.symm
      subst this
      exact k _ _ _ (ownA (.tup t2 r2) fun _ h => nomatch h)
    · subst h
      have : ys = [] := by have := r2.length; simpa using this.symm
      subst this
      rw [List.append_nil] at k
      exact k _ _ _ (ownA (.tup t1 r1) fun _ h => nomatch h)
    · exact k _ _ _ (EPost.toOwn (.tupN hW (r1.append r2) hl) fun _ h => nomatch h)
  · obtain ⟨p, vs, rfl, t1, r1⟩ := ra.lst
    obtain ⟨q, ws, rfl, t2, r2⟩ := rb.lst
    exact .inr (.inr (.inr ⟨p, q, vs, ws, rfl, rfl, t1, t2, by rw [r1.length, r2.length]; exact hz, fun l hl => k _ _ _ (.lstN (r1.append r2) hl)⟩))

def subD : D → D → Option D
  | .int i, .int j => some (.int (i - j))
  | _, _ => none
def intOp (c : Int → Int → Bool) (f : Int → Int → Int) : D → D → Option D
  | .int i, .int j => if c i j then some (.int (f i j)) else none
  | _, _ => none
theorem opv_int {r : R2} {c : Int → Int → Bool} {f : Int → Int → Int} (hr : ∀ i j H Q, c i j = true → Q (.int (f i j)) H → r (.int i) (.int j) H Q) : OpV X r (intOp c f) .fz := by
  intro H W x y a b d Q hW ra rb e k
  unfold intOp at e
  split at e
  · split at e
    · rename_i i j z
      cases e
      rw [ra.int, rb.int]
      exact hr i j H Q z (k _ _ _ (.rpv (.int _)))
    · cases e
  · cases e
abbrev cYes : Int → Int → Bool := fun _ _ => true
def cMulB (i j : Int) : Bool := decide ((-(2 ^ 64) < i ∧ i < 2 ^ 64) ∨ (-(2 ^ 64) < j ∧ j < 2 ^ 64))
def cDivB (i j : Int) : Bool := decide (0 < j ∧ j < 1073741824)
def cModB (_ j : Int) : Bool := decide (0 < j)
def cPowB (i j : Int) : Bool := decide (0 ≤ j ∧ j ≤ 1000000 ∧ i.natAbs < 2 ^ 64)
theorem opv_sub : OpV X (rI0 fun i j => .int (i - j)) (intOp cYes fun i j => i - j) .fz := opv_int fun i j H Q _ q => ⟨i, j, rfl, rfl, q⟩
theorem opv_fdiv : OpV X (rI CDiv fun i j => .int (i / j)) (intOp cDivB fun i j => i / j) .fz := opv_int fun i j H Q c q => ⟨i, j, rfl, rfl, (of_decide_eq_true c : 0 < j ∧ j < 1073741824), q⟩
theorem opv_mod : OpV X (rI (fun _ j => 0 < j) fun i j => .int (i % j)) (intOp cModB fun i j => i % j) .fz := opv_int fun i j H Q c q => ⟨i, j, rfl, rfl, of_decide_eq_true c, q⟩
theorem opv_pow : OpV X (rI CPow fun i j => .int (i ^ j.toNat)) (intOp cPowB fun i j => i ^ j.toNat) .fz := opv_int fun i j H Q c q => ⟨i, j, rfl, rfl, (of_decide_eq_true c : 0 ≤ j ∧ j ≤ 1000000 ∧ i.natAbs < 2 ^ 64), q⟩
/-- n * m, xs * n -/
def mulD : D → D → Option D
  | .int i, .int j => if cMulB i j then some (.int (i * j)) else none
  | .lst xs, .int k => if decide (-(2 ^ 63) ≤ k ∧ k < 2 ^ 63 ∧ xs.length * k.toNat ≤ sizeLine) then some (.lst (List.replicate k.toNat xs).flatten) else none
  | .tup xs, .int k => if decide (xs ≠ [] ∧ 2 ≤ k ∧ k ≤ 1000 ∧ xs.length ≤ 1000) then some (.tup (List.replicate k.toNat xs).flatten) else none
  | _, _ => none
def rMulA (K : PySem.W.Frag) : R2 := fun x y H Q => rI CMul (fun i j => .int (i * j)) x y H Q ∨ rRep x y H Q ∨ rRepT K x y H Q
theorem op_mulA : OpR X (binaryOp .Mult) (rMulA X.K) := op_mul.or (op_rep.or op_repT)
theorem opv_mul : OpV X (rMulA X.K) mulD (.own .no) := by
  intro H W x y a b d Q hW ra rb e k
  unfold mulD at e
  split at e
  · split at e
    · rename_i i j z
      cases e
      rw [ra.int, rb.int]
      exact .inl ⟨i, j, rfl, rfl, (of_decide_eq_true z : (-(2 ^ 64) < i ∧ i < 2 ^ 64) ∨ (-(2 ^ 64) < j ∧ j < 2 ^ 64)), k _ _ _ (ownA (.int _) fun _ h => nomatch h)⟩
    · cases e
  · split at e
    · rename_i xs j z
      cases e
      obtain ⟨h1, h2, h3⟩ := of_decide_eq_true z
      obtain ⟨p, vs, rfl, t1, r1⟩ := ra.lst
      rw [rb.int]
      exact .inr (.inl ⟨p, j, vs, rfl, rfl, t1, h1, h2, by rw [r1.length]; exact h3, fun l hl => k _ _ _ (.lstN (r1.rep _) hl)⟩)
    · cases e
  · split at e
    · rename_i xs j z
      cases e
      obtain ⟨h0, h1, h2, h3⟩ := of_decide_eq_true z
      obtain ⟨p, vs, rfl, t1, r1⟩ := ra.tup
      rw [rb.int]
      refine .inr (.inr ⟨p, j, vs, rfl, rfl, t1.sq, fun q => h0 ?_, h1, h2, by rw [r1.length]; exact h3, fun l hl => k _ _ _ (EPost.toOwn (.tupN hW (r1.rep _) hl) fun _ h => nomatch h)⟩)
      subst q
      simpa using r1.length.symm
    · cases e
  · cases e
def negD : D → Option D
  | .int i => some (.int (-i))
  | _ => none
theorem opv_neg : OpV1 X (rU fun i => .int (-i)) negD .fz := by
  intro H W x a d Q hW ra e k
  unfold negD at e
  split at e
  · cases e
    rw [ra.int]
    exact ⟨_, rfl, k _ _ _ (.rpv (.int _))⟩
  · cases e

/-! ### comparisons -/
def cmpD (p : Int → Int → Bool) : D → D → Option D
  | .int i, .int j => some (.bl (p i j))
  | _, _ => none
theorem opv_cmp {p : Int → Int → Bool} : OpV X (rI0 fun i j => .bl (p i j)) (cmpD p) .fz := by
  intro H W x y a b d Q hW ra rb e k
  unfold cmpD at e
  split at e
  · cases e
    rw [ra.int, rb.int]
    exact ⟨_, _, rfl, rfl, k _ _ _ (.rpv (.bl _))⟩
  · cases e
mutual
/-- data as the model has it -/
def D.py : D → PyData
  | .non => .none
  | .bl b => .bool b
  | .int i => .int i
  | .str x => .str x
  | .tup xs => .tuple (D.pys xs)
  | .lst xs => .list (D.pys xs)
  | .scr xs => .list (D.pys xs)
def D.pys : List D → List PyData
  | [] => []
  | d :: ds => D.py d :: D.pys ds
end
mutual
/-- no script in it -/
def D.plain : D → Bool
  | .tup xs => D.plains xs
  | .lst xs => D.plains xs
  | .scr _ => false
  | _ => true
def D.plains : List D → Bool
  | [] => true
  | d :: ds => D.plain d && D.plains ds
end
mutual
/-- how deep data are nested -/
def D.dep : D → Nat
  | .tup xs => D.deps xs + 1
  | .lst xs => D.deps xs + 1
  | .scr xs => D.deps xs + 1
  | _ => 0
def D.deps : List D → Nat
  | [] => 0
  | d :: ds => max (D.dep d) (D.deps ds)
end
section
variable {K : PySem.W.Frag} {H : Hp} {W : Addr → Prop}
mutual
theorem Rp.dp : ∀ {v : V} {d : D}, Rp K H W v d → d.plain = true → Dp K H v d.py ∧ d.py.canLay0 = true
  | _, _, .non, _ => ⟨.non, rfl⟩
  | _, _, .bl b, _ => ⟨.bl b, rfl⟩
  | _, _, .int i, _ => ⟨.int i, rfl⟩
  | _, _, .str x h, _ => ⟨.str x, by simpa [D.py, PyData.canLay0] using h⟩
  | _, _, .tup h r, p => by
    have q := RpL.dp r (by simpa [D.plain] using p)
    exact ⟨by simpa only [D.py] using Dp.tup h.sq q.1, by simpa [D.py, PyData.canLay0] using q.2⟩
  | _, _, .lst h r, p => by
    have q := RpL.dp r (by simpa [D.plain] using p)
    exact ⟨by simpa only [D.py] using Dp.lst h.sq q.1, by simpa [D.py, PyData.canLay0] using q.2⟩
  | _, _, .scr h r, p => by simp [D.plain] at p
theorem RpL.dp : ∀ {vs : List V} {ds : List D}, RpL K H W vs ds → D.plains ds = true → DpAll K H vs (D.pys ds) ∧ PyData.canLayAll0 (D.pys ds) = true
  | _, _, .nil, _ => ⟨.nil, rfl⟩
  | _, _, .cons a r, p => by
    have p' := Bool.and_eq_true_iff.mp (show (D.plain _ && D.plains _) = true from p)
    have q1 := Rp.dp a p'.1
    have q2 := RpL.dp r p'.2
    exact ⟨by simpa only [D.pys] using DpAll.cons q1.1 q2.1, by simp [D.pys, PyData.canLayAll0, q1.2, q2.2]⟩
end
theorem RpE.dp {v : V} {d : D} (r : RpE K H W v d) (p : d.plain = true) : Dp K H v d.py ∧ d.py.canLay0 = true := by
  rcases r with r | ⟨a, vs, ds, rfl, rfl, h, r⟩
  · exact r.dp p
  · have q := r.dp (by simpa [D.plain] using p)
    exact ⟨by simpa only [D.py] using Dp.lst (.inl (.inl h)) q.1, by simpa [D.py, PyData.canLay0] using q.2⟩
end
mutual
theorem py_depth : ∀ d : D, d.py.depth = d.dep
  | .non => rfl
  | .bl _ => rfl
  | .int _ => rfl
  | .str _ => rfl
  | .tup xs => by simp [D.py, PyData.depth, D.dep, pys_depth xs]
  | .lst xs => by simp [D.py, PyData.depth, D.dep, pys_depth xs]
  | .scr xs => by simp [D.py, PyData.depth, D.dep, pys_depth xs]
theorem pys_depth : ∀ ds : List D, PyData.depthAll (D.pys ds) = D.deps ds
  | [] => rfl
  | d :: ds => by simp [D.pys, PyData.depthAll, D.deps, py_depth d, pys_depth ds]
end
/-- Python's == -/
def eqD (a b : D) : Bool := PyData.eqv a.py b.py
def okEq (a b : D) : Bool := a.plain && b.plain && decide (min a.dep b.dep ≤ 100)
def eqM (a b : D) : Option D := if okEq a b then some (.bl (eqD a b)) else none
def neM (a b : D) : Option D := if okEq a b then some (.bl (!eqD a b)) else none
def rEqA (K : PySem.W.Frag) : R2 := fun x y H Q => ∃ d e, Dp K H x d ∧ Dp K H y e ∧ d.canLay0 = true ∧ e.canLay0 = true ∧ min d.depth e.depth ≤ 100 ∧ Q (.bl (PyData.eqv d e)) H
def rNeA (K : PySem.W.Frag) : R2 := fun x y H Q => ∃ d e, Dp K H x d ∧ Dp K H y e ∧ d.canLay0 = true ∧ e.canLay0 = true ∧ min d.depth e.depth ≤ 100 ∧ Q (.bl (!PyData.eqv d e)) H
theorem op_eqA (hu : X.A.units + 110 < cLine) : OpR X (compareOp .Eq) (rEqA X.K) := by
  intro pins s σ H x y v u Q I rx ry h
  obtain ⟨d, e, hd, he, sd, se, hm, q⟩ := h
  obtain ⟨as, r1⟩ := Dp.reads I d x v hd rx
  obtain ⟨bs, r2⟩ := Dp.reads I e y u he ry
  exact SeqAt.compareEq_reads r1 r2 sd se (by omega) ⟨.bl _, H, I, rfl, q⟩
theorem op_neA (hu : X.A.units + 110 < cLine) : OpR X (compareOp .NotEq) (rNeA X.K) := by
  intro pins s σ H x y v u Q I rx ry h
  obtain ⟨d, e, hd, he, sd, se, hm, q⟩ := h
  obtain ⟨as, r1⟩ := Dp.reads I d x v hd rx
  obtain ⟨bs, r2⟩ := Dp.reads I e y u he ry
  exact SeqAt.compareNe_reads r1 r2 sd se (by omega) ⟨.bl _, H, I, rfl, q⟩
theorem okEq_inv {a b : D} (h : okEq a b = true) : a.plain = true ∧ b.plain = true ∧ min a.dep b.dep ≤ 100 := by
  unfold okEq at h
  rw [Bool.and_eq_true, Bool.and_eq_true] at h
  exact ⟨h.1.1, h.1.2, of_decide_eq_true h.2⟩
theorem opv_eq : OpV X (rEqA X.K) eqM .fz := by
  intro H W x y a b d Q hW ra rb e k
  unfold eqM at e
  split at e
  · rename_i z
    cases e
    obtain ⟨h1, h2, h3⟩ := okEq_inv z
    obtain ⟨d1, c1⟩ := ra.dp h1
    obtain ⟨d2, c2⟩ := rb.dp h2
    exact ⟨_, _, d1, d2, c1, c2, by rw [py_depth, py_depth]; exact h3, k _ _ _ (.rpv (.bl _))⟩
  · cases e
theorem opv_ne : OpV X (rNeA X.K) neM .fz := by
  intro H W x y a b d Q hW ra rb e k
  unfold neM at e
  split at e
  · rename_i z
    cases e
    obtain ⟨h1, h2, h3⟩ := okEq_inv z
    obtain ⟨d1, c1⟩ := ra.dp h1
    obtain ⟨d2, c2⟩ := rb.dp h2
    exact ⟨_, _, d1, d2, c1, c2, by rw [py_depth, py_depth]; exact h3, k _ _ _ (.rpv (.bl _))⟩
  · cases e

/-! ### in: flat items; a list of any -/
def D.flat : D → Bool
  | .non => true
  | .bl _ => true
  | .int _ => true
  | .str _ => true
  | _ => false
def inL (x : D) (xs : List D) : Bool := xs.any fun y => eqD y x
def inM (neg : Bool) (x : D) : D → Option D
  | .tup ys => if x.flat && ys.all D.flat then some (.bl (if neg then !inL x ys else inL x ys)) else none
  | .lst ys => if x.flat && ys.all D.flat then some (.bl (if neg then !inL x ys else inL x ys)) else none
  | .str y => (match x with
    | .str z => some (.bl (if neg then !(!(Builtin.Str.occurrences y z 0 y.length 1).isEmpty) else !(Builtin.Str.occurrences y z 0 y.length 1).isEmpty))
    | _ => none)
  | _ => none
section
variable {K : PySem.W.Frag} {H : Hp} {W : Addr → Prop}
theorem Rp.flat {v : V} {d : D} (r : Rp K H W v d) (h : d.flat = true) : flatV v = true := by
  cases r <;> first | rfl | (simp [D.flat] at h)
theorem RpL.flat : ∀ {vs : List V} {ds : List D}, RpL K H W vs ds → ds.all D.flat = true → vs.all flatV = true
  | _, _, .nil, _ => rfl
  | _, _, .cons a r, h => by
    rw [List.all_cons, Bool.and_eq_true] at h
    rw [List.all_cons, a.flat h.1, RpL.flat r h.2]; rfl
theorem Rp.eqV {v w : V} {d e : D} (r : Rp K H W v d) (s : Rp K H W w e) (hd : d.flat = true) (he : e.flat = true) : L2.eqV v w = eqD d e := by
  cases r <;> cases s <;> first | rfl | (simp [D.flat] at hd; done) | (simp [D.flat] at he; done)
theorem RpL.inV {w : V} {e : D} (s : Rp K H W w e) (he : e.flat = true) : ∀ {vs : List V} {ds : List D}, RpL K H W vs ds → ds.all D.flat = true → L2.inV w vs = inL e ds
  | _, _, .nil, _ => rfl
  | _, _, .cons a r, h => by
    rw [List.all_cons, Bool.and_eq_true] at h
    have := RpL.inV s he r h.2
    unfold L2.inV inL at *
    rw [List.any_cons, List.any_cons, a.eqV s h.1 he, this]
end
def rInA (K : PySem.W.Frag) (neg : Bool) : R2 := fun x y H Q => rIn K neg x y H Q ∨ (∃ i j, x = .str i ∧ y = .str j ∧ Q (.bl (if neg then !(!(Builtin.Str.occurrences j i 0 j.length 1).isEmpty) else !(Builtin.Str.occurrences j i 0 j.length 1).isEmpty)) H)
theorem op_inA : OpR X (compareOp .In) (rInA X.K false) := op_in_seq.or (by
  intro pins s σ H x y v u Q I rx ry h
  obtain ⟨i, j, rfl, rfl, q⟩ := h
  exact op_in_str pins s σ H _ _ v u Q I rx ry ⟨i, j, rfl, rfl, q⟩)
theorem op_notInA : OpR X (compareOp .NotIn) (rInA X.K true) := op_notIn_seq.or (by
  intro pins s σ H x y v u Q I rx ry h
  obtain ⟨i, j, rfl, rfl, q⟩ := h
  exact op_notIn_str pins s σ H _ _ v u Q I rx ry ⟨i, j, rfl, rfl, q⟩)
theorem RpE.rp_flat {K : PySem.W.Frag} {H : Hp} {W : Addr → Prop} {v : V} {d : D} (r : RpE K H W v d) (h : d.flat = true) : Rp K H W v d := by
  rcases r with r | ⟨_, _, _, _, rfl, _⟩
  · exact r
  · simp [D.flat] at h
theorem opv_in (neg : Bool) : OpV X (rInA X.K neg) (inM neg) .fz := by
  intro H W x y a b d Q hW ra rb e k
  unfold inM at e
  split at e
  · split at e
    · rename_i ys z
      cases e
      rw [Bool.and_eq_true] at z
      obtain ⟨p, vs, rfl, t, r⟩ := rb.tup
      have r0 := ra.rp_flat z.1
      refine .inl ⟨p, vs, rfl, .inr t.sq, r0.flat z.1, r.flat z.2, ?_⟩
      rw [r.inV r0 z.1 z.2]
      exact k _ _ _ (.rpv (.bl _))
    · cases e
  · split at e
    · rename_i ys z
      cases e
      rw [Bool.and_eq_true] at z
      obtain ⟨p, vs, rfl, t, r⟩ := rb.lst
      have r0 := ra.rp_flat z.1
      refine .inl ⟨p, vs, rfl, .inl (.inl (.inl t)), r0.flat z.1, r.flat z.2, ?_⟩
      rw [r.inV r0 z.1 z.2]
      exact k _ _ _ (.rpv (.bl _))
    · cases e
  · split at e
    · cases e
      obtain ⟨rfl, _⟩ := ra.str
      obtain ⟨rfl, _⟩ := rb.str
      exact .inr ⟨_, _, rfl, rfl, k _ _ _ (.rpv (.bl _))⟩
    · cases e
  · cases e
/-! ### is None -/
def isNM (neg : Bool) (a : D) : Option D := some (.bl (if neg then (match a with | .non => false | _ => true) else (match a with | .non => true | _ => false)))
theorem RpE.isN {K : PySem.W.Frag} {H : Hp} {W : Addr → Prop} {v : V} {d : D} (r : RpE K H W v d) : decide (v = .non) = (match d with | .non => true | _ => false) := by
  rcases r with r | ⟨_, _, _, rfl, rfl, _⟩
  · cases r <;> simp
  · simp
theorem opv_isN : OpV1 X (fun x H Q => Q (.bl (decide (x = .non))) H) (isNM false) .fz := by
  intro H W x a d Q hW ra e k
  cases e
  show Q _ H
  rw [ra.isN]
  cases a <;> exact k _ _ _ (.rpv (.bl _))
theorem opv_notN : OpV1 X (fun x H Q => Q (.bl (!decide (x = .non))) H) (isNM true) .fz := by
  intro H W x a d Q hW ra e k
  cases e
  show Q _ H
  rw [ra.isN]
  cases a <;> exact k _ _ _ (.rpv (.bl _))

/-! ### subscripts, slices -/
def ixM : D → D → Option D
  | .tup xs, .int i => atI xs i
  | .lst xs, .int i => atI xs i
  | .scr xs, .int i => atI xs i
  | .str x, .int i => if szOk x.length then (atI x.cps.toList i).map fun c => .str ⟨#[c]⟩ else none
  | _, _ => none
theorem RpL.atI {K : PySem.W.Frag} {H : Hp} {W : Addr → Prop} {vs : List V} {ds : List D} {i : Int} {d : D} (r : RpL K H W vs ds) (h : L2.atI ds i = some d) : ∃ v, L2.atI vs i = some v ∧ Rp K H W v d := by
  unfold L2.atI at *
  rw [r.length]
  obtain ⟨j, h1, h2⟩ := Option.bind_eq_some_iff.mp h
  obtain ⟨v, h3, h4⟩ := r.get h2
  exact ⟨v, by rw [h1]; exact h3, h4⟩
theorem strOk_at {x : Str} {c i : Nat} (h : PyData.strOk x = true) (hc : x.cps.toList[i]? = some c) : PyData.strOk ⟨#[c]⟩ = true := by
  unfold PyData.strOk at *
  have hm : c ∈ x.cps.toList := List.mem_of_getElem? hc
  rw [Array.all_eq_true'] at h
  have := h c (by simpa using hm)
  simpa using this
theorem opv_ix : OpV X (rIx X.K) ixM .fz := by
  intro H W x y a b d Q hW ra rb e k
  unfold ixM at e
  split at e
  · obtain ⟨p, vs, rfl, t, r⟩ := ra.tup
    rw [rb.int]
    obtain ⟨v, h1, h2⟩ := r.atI e
    exact .inr (.inl ⟨p, vs, _, v, rfl, rfl, t.sq, h1, k _ _ _ (.rpv h2)⟩)
  · obtain ⟨p, vs, rfl, t, r⟩ := ra.lst
    rw [rb.int]
    obtain ⟨v, h1, h2⟩ := r.atI e
    exact .inl ⟨p, vs, _, v, rfl, rfl, .inl (.inl t), h1, k _ _ _ (.rpv h2)⟩
  · obtain ⟨p, vs, rfl, t, r⟩ := ra.scr
    rw [rb.int]
    obtain ⟨v, h1, h2⟩ := r.atI e
    exact .inl ⟨p, vs, _, v, rfl, rfl, t, h1, k _ _ _ (.rpv h2)⟩
  · split at e
    · rename_i x' i z
      obtain ⟨rfl, o⟩ := ra.str
      rw [rb.int]
      obtain ⟨c, h1, rfl⟩ := Option.map_eq_some_iff.mp e
      have h1' := h1
      unfold L2.atI at h1'
      obtain ⟨j, h2, h3⟩ := Option.bind_eq_some_iff.mp h1'
      exact .inr (.inr ⟨_, _, c, rfl, rfl, szOk_le z, h1, k _ _ _ (.rpv (.str _ (strOk_at o h3)))⟩)
    · cases e
  · cases e
def cutL {α : Type} (xs : List α) (lo hi : Option Int) : List α := (xs.drop (HT.sIx xs.length 0 lo)).take (HT.sIx xs.length xs.length hi - HT.sIx xs.length 0 lo)
theorem RpL.cut {K : PySem.W.Frag} {H : Hp} {W : Addr → Prop} {vs : List V} {ds : List D} (r : RpL K H W vs ds) (lo hi : Option Int) : RpL K H W (cutV vs lo hi) (cutL ds lo hi) := by
  unfold cutV cutL
  rw [r.length]
  exact (r.drop _).take _
end PV

set_option Elab.async false
set_option linter.all false
set_option maxRecDepth 100000
set_option autoImplicit false
set_option maxHeartbeats 4000000
/-! Value semantics: slices, calls of built-in functions, what is walked, comprehensions. -/
namespace PV
open PySem PySem.Spec PyProof.Rows L2
variable {X : Cx} {ω : List Ow}

theorem PE.or {e : Expr} {t t' : TE} (h : PE X e t) (h' : PE X e t') : PE X e (fun σ H Q => t σ H Q ∨ t' σ H Q) :=
  ⟨fun pins s σ H Q I q => q.elim (h.run pins s σ H Q I) (h'.run pins s σ H Q I)⟩
theorem PI.or {tg e : Expr} {t t' : TI} (h : PI X tg e t) (h' : PI X tg e t') : PI X tg e (fun σ H Q => t σ H Q ∨ t' σ H Q) :=
  ⟨fun pins s σ H Q I q => q.elim (h.run pins s σ H Q I) (h'.run pins s σ H Q I)⟩

/-! ### slices -/
/-- a part of a slice -/
structure EO (X : Cx) (ω : List Ow) (e : Option Expr) (m : Env → Option (Option Int)) : Prop where
  ex : ∃ t : TO, PO X e t ∧ ∀ (σ : L2.St) (H : Hp) (ρ : Env) (fs : Nat → List Addr) (W0 : Addr → Prop) (i : Option Int) (Q : Option Int → Hp → Prop), EnvR X.K H W0 σ ρ ω fs → m ρ = some i → (∀ H', Same H H' → Q i H') → t σ H Q
def asInt : D → Option (Option Int)
  | .int i => some (some i)
  | _ => none
theorem eo_none : EO X ω none (fun _ => some none) := ⟨_, po_none, fun σ H ρ fs W0 i Q E e k => by cases e; exact k H (Same.refl H)⟩
theorem eo_some {e : Expr} {m : Env → Option D} {κ : RK} {L : List Nat} (h : EP X ω e m κ L) : EO X ω (some e) (fun ρ => (m ρ).bind asInt) := by
  obtain ⟨t, p, q⟩ := h.ex
  refine ⟨_, po_some p, fun σ H ρ fs W0 i Q E em k => ?_⟩
  obtain ⟨d, e1, e2⟩ := Option.bind_eq_some_iff.mp em
  unfold asInt at e2
  split at e2
  · cases e2
    exact q σ H ρ fs W0 _ _ E e1 fun v H' fe P => ⟨_, (P.view E.wl).int, k H' P.same⟩
  · cases e2
def slM (d : D) (lo hi : Option Int) : Option D := match d with
  | .lst xs => some (.lst (cutL xs lo hi))
  | .tup xs => some (.tup (cutL xs lo hi))
  | .str z => if szOk z.length then some (.str (cutS z lo hi)) else none
  | _ => none
def rSlAll (K : PySem.W.Frag) : V → Option Int → Option Int → Hp → VK → Prop := fun x lo hi H Q => rSlL K x lo hi H Q ∨ rSlA K x lo hi H Q ∨ rSlS x lo hi H Q
theorem sl_all : SlR X (rSlAll X.K) := sl_list.or (sl_tupA.or sl_str)
theorem strOk_cut {z : Str} {lo hi : Option Int} (h : PyData.strOk z = true) : PyData.strOk (cutS z lo hi) = true := by
  unfold PyData.strOk at *
  have e : (cutS z lo hi).cps.toList = ((z.cps.toList.drop (HT.sIx z.cps.toList.length 0 lo)).take (HT.sIx z.cps.toList.length z.cps.toList.length hi - HT.sIx z.cps.toList.length 0 lo)) := by
    first | rfl | simp [cutS]
  rw [Array.all_eq_true'] at h ⊢
  intro c hc
  have hc' : c ∈ (cutS z lo hi).cps.toList := by simpa using hc
  rw [e] at hc'
  exact h c (by simpa using List.mem_of_mem_drop (List.mem_of_mem_take hc'))
theorem ep_slice {e : Expr} {lo hi : Option Expr} {m : Env → Option D} {ml mh : Env → Option (Option Int)} {κ : RK} {L : List Nat} {p2 pos : Pos} (h : EP X ω e m κ L) (hl : EO X ω lo ml) (hh : EO X ω hi mh) :
    EP X ω (.Subscript e (.Slice lo hi none p2) pos) (fun ρ => (m ρ).bind fun d => (ml ρ).bind fun l => (mh ρ).bind fun u => slM d l u) (.own .no) L := by
  obtain ⟨t, p, q⟩ := h.ex
  obtain ⟨tl, pl, ql⟩ := hl.ex
  obtain ⟨th, ph, qh⟩ := hh.ex
  refine ⟨_, pe_slice sl_all p pl ph, fun σ H ρ fs W0 d Q E em k => ?_⟩
  obtain ⟨x, e1, em⟩ := Option.bind_eq_some_iff.mp em
  obtain ⟨l, e2, em⟩ := Option.bind_eq_some_iff.mp em
  obtain ⟨u, e3, em⟩ := Option.bind_eq_some_iff.mp em
  refine q σ H ρ fs W0 x _ E e1 fun v H1 fe P => ?_
  have E1 := E.same P.same
  refine ql σ H1 ρ fs W0 l _ E1 e2 fun H2 s2 => ?_
  refine qh σ H2 ρ fs W0 u _ (E1.same s2) e3 fun H3 s3 => ?_
  have s13 := s2.trans s3
  have r : RpE X.K H3 (Wl W0 fs L) v x := (P.view E.wl).mono s13 fun a z => .inl z
  have hW : Tk H3 (Wl W0 fs L) := tk_same E1.wl s13
  have s03 := P.same.trans s13
  unfold slM at em
  split at em
  · cases em
    obtain ⟨a, vs, rfl, h1, r1⟩ := r.lst
    exact .inl ⟨a, vs, rfl, .inl (.inl h1), fun l hl => k _ _ _ (.trans s03 (.lstN (r1.cut _ _) hl))⟩
  · cases em
    obtain ⟨a, vs, rfl, h1, r1⟩ := r.tup
    refine .inr (.inl ⟨a, vs, rfl, h1.sq, fun ⟨w1, w2⟩ => ?_, fun _ l hl => k _ _ _ (.trans s03 (EPost.toOwn (.tupN hW (r1.cut _ _) hl) fun _ h => nomatch h))⟩)
    have e : ∀ xs : List D, vs.length = xs.length → cutL xs l u = xs := fun xs q => by
      unfold cutL
      rw [← q, w1, w2, List.drop_zero, Nat.sub_zero, q, List.take_length]
    rw [e _ r1.length] at k
    exact k _ _ _ (.trans s03 (ownA (.tup h1 r1) fun _ h => nomatch h))
  · split at em
    · rename_i z hz
      cases em
      obtain ⟨rfl, o⟩ := r.str
      exact .inr (.inr ⟨_, rfl, szOk_le hz, k _ _ _ (.trans s03 (ownA (.str _ (strOk_cut o)) fun _ h => nomatch h))⟩)
    · cases em
  · cases em

/-! ### built-in functions -/
def OpVs (X : Cx) (r : List V → Hp → VK → Prop) (φ : List D → Option D) (κ : RK) : Prop :=
  ∀ (H : Hp) (W : Addr → Prop) (vs : List V) (ds : List D) (d : D) (Q : VK), Tk H W → REL X.K H W vs ds → φ ds = some d → (∀ v H' fe, EPost X.K H W κ d v H' fe → Q v H') → r vs H Q
theorem ep_fun {es : List Expr} {ms : Env → Option (List D)} {L : List Nat} {e : Expr} {r : List V → Hp → VK → Prop} {φ : List D → Option D} {κ : RK}
    (hp : ∀ t, PA X es t → PE X e (tCB r t)) (hv : OpVs X r φ κ) (h : EVs X ω es ms L) : EP X ω e (fun ρ => (ms ρ).bind φ) κ L := by
  obtain ⟨t, p, q⟩ := h.ex
  refine ⟨_, hp t p, fun σ H ρ fs W0 d Q E em k => ?_⟩
  obtain ⟨ds, e1, em⟩ := Option.bind_eq_some_iff.mp em
  refine q σ H ρ fs W0 ds _ E e1 fun vs H1 s R => ?_
  exact hv H1 _ vs ds d Q (tk_same E.wl s) R em fun v H' fe P => k v H' fe (.trans s P)
theorem REL.one {K : PySem.W.Frag} {H : Hp} {W : Addr → Prop} {vs : List V} {a : D} (h : REL K H W vs [a]) : ∃ v, vs = [v] ∧ RpE K H W v a := by
  cases h with
  | cons r s => cases s; exact ⟨_, rfl, r⟩
theorem REL.two {K : PySem.W.Frag} {H : Hp} {W : Addr → Prop} {vs : List V} {a b : D} (h : REL K H W vs [a, b]) : ∃ v u, vs = [v, u] ∧ RpE K H W v a ∧ RpE K H W u b := by
  cases h with
  | cons r s =>
    obtain ⟨u, rfl, q⟩ := s.one
    exact ⟨_, _, rfl, r, q⟩
def lenF : List D → Option D
  | [.tup xs] => some (.int xs.length)
  | [.lst xs] => some (.int xs.length)
  | [.scr xs] => some (.int xs.length)
  | [.str x] => if szOk x.length then some (.int x.length) else none
  | _ => none
theorem opv_len : OpVs X (fun xs H Q => ∃ x n, xs = [x] ∧ LenV X.K x H n ∧ Q (.int n) H) lenF .fz := by
  intro H W vs ds d Q hW R e k
  unfold lenF at e
  split at e
  · cases e
    obtain ⟨v, rfl, r⟩ := R.one
    obtain ⟨a, ws, rfl, h1, r1⟩ := r.tup
    refine ⟨_, ws.length, rfl, .inr ⟨ws, h1.sq, rfl⟩, ?_⟩
    rw [r1.length]
    exact k _ _ _ (.rpv (.int _))
  · cases e
    obtain ⟨v, rfl, r⟩ := R.one
    obtain ⟨a, ws, rfl, h1, r1⟩ := r.lst
    refine ⟨_, ws.length, rfl, .inl ⟨ws, .inl (.inl h1), rfl⟩, ?_⟩
    rw [r1.length]
    exact k _ _ _ (.rpv (.int _))
  · cases e
    obtain ⟨v, rfl, r⟩ := R.one
    obtain ⟨a, ws, rfl, h1, r1⟩ := r.scr
    refine ⟨_, ws.length, rfl, .inl ⟨ws, h1, rfl⟩, ?_⟩
    rw [r1.length]
    exact k _ _ _ (.rpv (.int _))
  · split at e
    · rename_i z
      cases e
      obtain ⟨v, rfl, r⟩ := R.one
      obtain ⟨rfl, o⟩ := r.str
      exact ⟨_, _, rfl, ⟨szOk_le z, rfl⟩, k _ _ _ (.rpv (.int _))⟩
    · cases e
  · cases e
def intF : List D → Option D
  | [.int i] => some (.int i)
  | [.bl b] => some (.int (if b then 1 else 0))
  | _ => none
theorem opv_intF : OpVs X (fun xs H Q => (∃ i, xs = [.int i] ∧ Q (.int i) H) ∨ ∃ k, xs = [.bl k] ∧ Q (.int (if k then 1 else 0)) H) intF .fz := by
  intro H W vs ds d Q hW R e k
  unfold intF at e
  split at e
  · cases e
    obtain ⟨v, rfl, r⟩ := R.one
    rw [r.int]
    exact .inl ⟨_, rfl, k _ _ _ (.rpv (.int _))⟩
  · cases e
    obtain ⟨v, rfl, r⟩ := R.one
    rw [r.bl]
    exact .inr ⟨_, rfl, k _ _ _ (.rpv (.int _))⟩
  · cases e
def absF : List D → Option D
  | [.int i] => some (.int (if i < 0 then -i else i))
  | _ => none
theorem opv_abs : OpVs X (fun xs H Q => ∃ i, xs = [.int i] ∧ Q (.int (if i < 0 then -i else i)) H) absF .fz := by
  intro H W vs ds d Q hW R e k
  unfold absF at e
  split at e
  · cases e
    obtain ⟨v, rfl, r⟩ := R.one
    rw [r.int]
    exact ⟨_, rfl, k _ _ _ (.rpv (.int _))⟩
  · cases e
def maxI : List Int → Int
  | [] => 0
  | [a] => a
  | a :: r => max a (maxI r)
def minI : List Int → Int
  | [] => 0
  | [a] => a
  | a :: r => min a (minI r)
theorem maxI_cons (a b : Int) (r : List Int) : maxI (a :: b :: r) = max a (maxI (b :: r)) := rfl
theorem minI_cons (a b : Int) (r : List Int) : minI (a :: b :: r) = min a (minI (b :: r)) := rfl
theorem maxI_mem : ∀ {ns : List Int}, ns ≠ [] → maxI ns ∈ ns ∧ ∀ y ∈ ns, y ≤ maxI ns
  | [], h => absurd rfl h
  | [a], _ => ⟨List.mem_singleton.mpr rfl, fun y hy => by rw [List.mem_singleton.mp hy]; exact Int.le_refl _⟩
  | a :: b :: r, _ => by
    obtain ⟨h1, h2⟩ := maxI_mem (ns := b :: r) (List.cons_ne_nil _ _)
    rw [maxI_cons]
    refine ⟨?_, fun y hy => ?_⟩
    · rw [Int.max_def]; split
      · exact List.mem_cons_of_mem _ h1
      · exact List.mem_cons_self
    · rcases List.mem_cons.mp hy with rfl | hy
      · exact Int.le_max_left _ _
      · exact Int.le_trans (h2 y hy) (Int.le_max_right _ _)
theorem minI_mem : ∀ {ns : List Int}, ns ≠ [] → minI ns ∈ ns ∧ ∀ y ∈ ns, minI ns ≤ y
  | [], h => absurd rfl h
  | [a], _ => ⟨List.mem_singleton.mpr rfl, fun y hy => by rw [List.mem_singleton.mp hy]; exact Int.le_refl _⟩
  | a :: b :: r, _ => by
    obtain ⟨h1, h2⟩ := minI_mem (ns := b :: r) (List.cons_ne_nil _ _)
    rw [minI_cons]
    refine ⟨?_, fun y hy => ?_⟩
    · rw [Int.min_def]; split
      · exact List.mem_cons_self
      · exact List.mem_cons_of_mem _ h1
    · rcases List.mem_cons.mp hy with rfl | hy
      · exact Int.min_le_left _ _
      · exact Int.le_trans (Int.min_le_right _ _) (h2 y hy)
theorem max_unique {ns : List Int} {m : Int} (h1 : m ∈ ns) (h2 : ∀ y ∈ ns, y ≤ m) : m = maxI ns := by
  obtain ⟨h3, h4⟩ := maxI_mem (List.ne_nil_of_mem h1)
  exact Int.le_antisymm (h4 m h1) (h2 _ h3)
theorem min_unique {ns : List Int} {m : Int} (h1 : m ∈ ns) (h2 : ∀ y ∈ ns, m ≤ y) : m = minI ns := by
  obtain ⟨h3, h4⟩ := minI_mem (List.ne_nil_of_mem h1)
  exact Int.le_antisymm (h2 _ h3) (h4 m h1)
def maxF : List D → Option D
  | [.int i, .int j] => some (.int (max i j))
  | [.lst xs] => (asInts xs).bind fun ns => if ns.isEmpty then none else some (.int (maxI ns))
  | _ => none
def minF : List D → Option D
  | [.int i, .int j] => some (.int (min i j))
  | [.lst xs] => (asInts xs).bind fun ns => if ns.isEmpty then none else some (.int (minI ns))
  | _ => none
theorem callr_or {f : Value} {r r' : List V → Hp → VK → Prop} (h : CallR X f r) (h' : CallR X f r') : CallR X f (fun xs H Q => r xs H Q ∨ r' xs H Q) := h.or h'
abbrev rMaxA (K : PySem.W.Frag) : List V → Hp → VK → Prop := fun xs H Q => (∃ i j, xs = [.int i, .int j] ∧ Q (.int (if j > i then j else i)) H) ∨ rMax K xs H Q
abbrev rMinA (K : PySem.W.Frag) : List V → Hp → VK → Prop := fun xs H Q => (∃ i j, xs = [.int i, .int j] ∧ Q (.int (if j < i then j else i)) H) ∨ rMin K xs H Q
theorem opv_max : OpVs X (rMaxA X.K) maxF .fz := by
  intro H W vs ds d Q hW R e k
  unfold maxF at e
  split at e
  · rename_i i j
    cases e
    obtain ⟨v, u, rfl, r, s⟩ := R.two
    rw [r.int, s.int]
    refine .inl ⟨i, j, rfl, ?_⟩
    have : (if j > i then j else i) = max i j := by rw [Int.max_def]; split <;> split <;> omega
    rw [this]
    exact k _ _ _ (.rpv (.int _))
  · obtain ⟨ns, e1, e⟩ := Option.bind_eq_some_iff.mp e
    split at e
    · cases e
    · rename_i hne
      cases e
      rw [asInts_eq e1] at R
      obtain ⟨v, rfl, r⟩ := R.one
      obtain ⟨a, ws, rfl, h1, r1⟩ := r.lst
      rw [r1.int_inv] at h1
      refine .inr ⟨a, ns, rfl, .inl (.inl h1), ?_, fun m hm hle => ?_⟩
      · cases ns with
        | nil => exact absurd rfl hne
        | cons => exact Nat.succ_pos _
      · rw [max_unique hm hle]
        exact k _ _ _ (.rpv (.int _))
  · cases e
theorem opv_min : OpVs X (rMinA X.K) minF .fz := by
  intro H W vs ds d Q hW R e k
  unfold minF at e
  split at e
  · rename_i i j
    cases e
    obtain ⟨v, u, rfl, r, s⟩ := R.two
    rw [r.int, s.int]
    refine .inl ⟨i, j, rfl, ?_⟩
    have : (if j < i then j else i) = min i j := by rw [Int.min_def]; split <;> split <;> omega
    rw [this]
    exact k _ _ _ (.rpv (.int _))
  · obtain ⟨ns, e1, e⟩ := Option.bind_eq_some_iff.mp e
    split at e
    · cases e
    · rename_i hne
      cases e
      rw [asInts_eq e1] at R
      obtain ⟨v, rfl, r⟩ := R.one
      obtain ⟨a, ws, rfl, h1, r1⟩ := r.lst
      rw [r1.int_inv] at h1
      refine .inr ⟨a, ns, rfl, .inl (.inl h1), ?_, fun m hm hle => ?_⟩
      · cases ns with
        | nil => exact absurd rfl hne
        | cons => exact Nat.succ_pos _
      · rw [min_unique hm hle]
        exact k _ _ _ (.rpv (.int _))
  · cases e
def sumF : List D → Option D
  | [.lst xs] => (asInts xs).map fun ns => .int ns.sum
  | _ => none
theorem opv_sum : OpVs X (rSum X.K) sumF .fz := by
  intro H W vs ds d Q hW R e k
  unfold sumF at e
  split at e
  · obtain ⟨ns, e1, rfl⟩ := Option.map_eq_some_iff.mp e
    rw [asInts_eq e1] at R
    obtain ⟨v, rfl, r⟩ := R.one
    obtain ⟨a, ws, rfl, h1, r1⟩ := r.lst
    rw [r1.int_inv] at h1
    exact ⟨a, ns, rfl, .inl (.inl h1), k _ _ _ (.rpv (.int _))⟩
  · cases e
/-- any, all of a list of truth values -/
def anyF : List D → Option D
  | [.lst xs] => (asBls xs).map fun ns => .bl (ns.any id)
  | _ => none
def allF : List D → Option D
  | [.lst xs] => (asBls xs).map fun ns => .bl (ns.all id)
  | _ => none
theorem opv_any : OpVs X (rAny X.K) anyF .fz := by
  intro H W vs ds d Q hW R e k
  unfold anyF at e
  split at e
  · obtain ⟨ns, e1, rfl⟩ := Option.map_eq_some_iff.mp e
    rw [asBls_eq e1] at R
    obtain ⟨v, rfl, r⟩ := R.one
    obtain ⟨a, ws, rfl, h1, r1⟩ := r.lst
    rw [r1.bl_inv] at h1
    exact ⟨a, ns, rfl, .inl (.inl h1), k _ _ _ (.rpv (.bl _))⟩
  · cases e
theorem opv_all : OpVs X (rAll X.K) allF .fz := by
  intro H W vs ds d Q hW R e k
  unfold allF at e
  split at e
  · obtain ⟨ns, e1, rfl⟩ := Option.map_eq_some_iff.mp e
    rw [asBls_eq e1] at R
    obtain ⟨v, rfl, r⟩ := R.one
    obtain ⟨a, ws, rfl, h1, r1⟩ := r.lst
    rw [r1.bl_inv] at h1
    exact ⟨a, ns, rfl, .inl (.inl h1), k _ _ _ (.rpv (.bl _))⟩
  · cases e
/-- tuple(xs), list(xs) -/
def tupF : List D → Option D
  | [.lst xs] => some (.tup xs)
  | [.tup xs] => some (.tup xs)
  | _ => none
def lstF : List D → Option D
  | [.lst xs] => some (.lst xs)
  | [.tup xs] => some (.lst xs)
  | _ => none
abbrev rTupOf (K : PySem.W.Frag) : List V → Hp → VK → Prop := fun xs H Q => ∃ p ys, xs = [.ref p] ∧ ((SqL K H p ys ∧ ∀ l, H l = none → Q (.ref l) (upd H l (.tup ys))) ∨ (SqT K H p ys ∧ Q (.ref p) H))
abbrev rLstOf (K : PySem.W.Frag) : List V → Hp → VK → Prop := fun xs H Q => ∃ p ys, xs = [.ref p] ∧ (SqL K H p ys ∨ SqT K H p ys) ∧ ∀ l, H l = none → Q (.ref l) (upd H l (.lst ys))
theorem opv_tupF : OpVs X (rTupOf X.K) tupF .fz := by
  intro H W vs ds d Q hW R e k
  unfold tupF at e
  split at e
  · cases e
    obtain ⟨v, rfl, r⟩ := R.one
    obtain ⟨a, ws, rfl, h1, r1⟩ := r.lst
    exact ⟨a, ws, rfl, .inl ⟨.inl (.inl h1), fun l hl => k _ _ _ (.tupN hW r1 hl)⟩⟩
  · cases e
    obtain ⟨v, rfl, r⟩ := R.one
    obtain ⟨a, ws, rfl, h1, r1⟩ := r.tup
    exact ⟨a, ws, rfl, .inr ⟨h1.sq, k _ _ _ (.rpv (.tup h1 r1))⟩⟩
  · cases e
theorem opv_lstF : OpVs X (rLstOf X.K) lstF (.own .no) := by
  intro H W vs ds d Q hW R e k
  unfold lstF at e
  split at e
  · cases e
    obtain ⟨v, rfl, r⟩ := R.one
    obtain ⟨a, ws, rfl, h1, r1⟩ := r.lst
    exact ⟨a, ws, rfl, .inl (.inl (.inl h1)), fun l hl => k _ _ _ (.lstN r1 hl)⟩
  · cases e
    obtain ⟨v, rfl, r⟩ := R.one
    obtain ⟨a, ws, rfl, h1, r1⟩ := r.tup
    exact ⟨a, ws, rfl, .inr h1.sq, fun l hl => k _ _ _ (.lstN r1 hl)⟩
  · cases e
def sortI (ns : List Int) : List Int := ns.mergeSort (fun a b => decide (a ≤ b))
theorem sortI_perm (ns : List Int) : (sortI ns).Perm ns := List.mergeSort_perm ..
theorem sortI_le (ns : List Int) : (sortI ns).Pairwise (· ≤ ·) := by
  have := List.pairwise_mergeSort (le := fun a b : Int => decide (a ≤ b)) (fun a b c h1 h2 => by simp at *; omega) (fun a b => by simp; omega) ns
  exact this.imp fun h => of_decide_eq_true h
theorem sort_unique {ns ms : List Int} (p : ms.Perm ns) (h : ms.Pairwise (· ≤ ·)) : ms = sortI ns :=
  List.Perm.eq_of_pairwise (fun _ _ _ _ a b => Int.le_antisymm a b) h (sortI_le ns) (p.trans (sortI_perm ns).symm)
def sortF : List D → Option D
  | [.lst xs] => (asInts xs).map fun ns => .lst ((sortI ns).map .int)
  | _ => none
theorem opv_sort : OpVs X (rSortedI X.K) sortF (.own .no) := by
  intro H W vs ds d Q hW R e k
  unfold sortF at e
  split at e
  · obtain ⟨ns, e1, rfl⟩ := Option.map_eq_some_iff.mp e
    rw [asInts_eq e1] at R
    obtain ⟨v, rfl, r⟩ := R.one
    obtain ⟨a, ws, rfl, h1, r1⟩ := r.lst
    rw [r1.int_inv] at h1
    refine ⟨a, ns, rfl, .inl (.inl h1), fun ms p h2 h3 hp => ?_⟩
    rw [sort_unique h2 h3]
    exact k _ _ _ (.lstN (RpL.ints _) hp)
  · cases e
end PV

set_option Elab.async false
set_option linter.all false
set_option maxRecDepth 100000
set_option autoImplicit false
set_option maxHeartbeats 4000000
/-! Value semantics: tests, targets, what is walked, comprehensions, calls of defs. -/
namespace PV
open PySem PySem.Spec PyProof.Rows L2
variable {X : Cx} {ω : List Ow}

/-! ### tests -/
structure ET (X : Cx) (ω : List Ow) (e : Expr) (m : Env → Option Bool) : Prop where
  ex : ∃ t : TT, PT X e t ∧ ∀ (σ : L2.St) (H : Hp) (ρ : Env) (fs : Nat → List Addr) (W0 : Addr → Prop) (b : Bool) (Q : Bool → Hp → Prop), EnvR X.K H W0 σ ρ ω fs → m ρ = some b → (∀ H', Same H H' → Q b H') → t σ H Q
/-- for and, or -/
structure EW (X : Cx) (ω : List Ow) (e : Expr) (m : Env → Option Bool) : Prop where
  ex : ∃ t : TT, PW X e t ∧ ∀ (σ : L2.St) (H : Hp) (ρ : Env) (fs : Nat → List Addr) (W0 : Addr → Prop) (b : Bool) (Q : Bool → Hp → Prop), EnvR X.K H W0 σ ρ ω fs → m ρ = some b → (∀ H', Same H H' → Q b H') → t σ H Q
def asBl : D → Option Bool
  | .bl b => some b
  | _ => none
theorem EW.et {e : Expr} {m : Env → Option Bool} (h : EW X ω e m) : ET X ω e m := let ⟨t, p, q⟩ := h.ex; ⟨t, p.pt, q⟩
theorem EP.et {e : Expr} {m : Env → Option D} {κ : RK} {L : List Nat} (h : EP X ω e m κ L) (hp : ∀ t, PE X e t → PT X e (tTest t)) : ET X ω e (fun ρ => (m ρ).bind asBl) := by
  obtain ⟨t, p, q⟩ := h.ex
  refine ⟨_, hp t p, fun σ H ρ fs W0 b Q E em k => ?_⟩
  obtain ⟨d, e1, e2⟩ := Option.bind_eq_some_iff.mp em
  unfold asBl at e2
  split at e2
  · cases e2
    exact q σ H ρ fs W0 _ _ E e1 fun v H' fe P => ⟨b, (P.view E.wl).bl, k H' P.same⟩
  · cases e2
theorem et_not {a : Expr} {m : Env → Option Bool} {pos : Pos} (h : ET X ω a m) : ET X ω (.UnaryOp .Not a pos) (fun ρ => (m ρ).map (!·)) := by
  obtain ⟨t, p, q⟩ := h.ex
  refine ⟨_, pt_not p, fun σ H ρ fs W0 b Q E em k => ?_⟩
  obtain ⟨c, e1, rfl⟩ := Option.map_eq_some_iff.mp em
  exact q σ H ρ fs W0 c _ E e1 fun H' s => k H' s
theorem ew_and1 {a : Expr} {m : Env → Option Bool} {pos : Pos} (h : ET X ω a m) : EW X ω (.BoolOp .And [a] pos) m := let ⟨t, p, q⟩ := h.ex; ⟨t, pw_and1 p, q⟩
theorem ew_or1 {a : Expr} {m : Env → Option Bool} {pos : Pos} (h : ET X ω a m) : EW X ω (.BoolOp .Or [a] pos) m := let ⟨t, p, q⟩ := h.ex; ⟨t, pw_or1 p, q⟩
def andM (a b : Env → Option Bool) : Env → Option Bool := fun ρ => (a ρ).bind fun c => if c = true then b ρ else some false
def orM (a b : Env → Option Bool) : Env → Option Bool := fun ρ => (a ρ).bind fun c => if c = true then some true else b ρ
theorem ew_and {a b : Expr} {r : List Expr} {ma mb : Env → Option Bool} {pos : Pos} (ha : ET X ω a ma) (hb : EW X ω (.BoolOp .And (b :: r) pos) mb) : EW X ω (.BoolOp .And (a :: b :: r) pos) (andM ma mb) := by
  obtain ⟨t, p, q⟩ := ha.ex
  obtain ⟨u, p2, q2⟩ := hb.ex
  refine ⟨_, pw_and p p2, fun σ H ρ fs W0 b Q E em k => ?_⟩
  obtain ⟨c, e1, e2⟩ := Option.bind_eq_some_iff.mp em
  refine q σ H ρ fs W0 c _ E e1 fun H1 s1 => ?_
  cases c with
  | true => exact q2 σ H1 ρ fs W0 b Q (E.same s1) (by simpa using e2) fun H2 s2 => k H2 (s1.trans s2)
  | false =>
    have : b = false := by simpa using e2.symm
    subst this
    exact k H1 s1
theorem ew_or {a b : Expr} {r : List Expr} {ma mb : Env → Option Bool} {pos : Pos} (ha : ET X ω a ma) (hb : EW X ω (.BoolOp .Or (b :: r) pos) mb) : EW X ω (.BoolOp .Or (a :: b :: r) pos) (orM ma mb) := by
  obtain ⟨t, p, q⟩ := ha.ex
  obtain ⟨u, p2, q2⟩ := hb.ex
  refine ⟨_, pw_or p p2, fun σ H ρ fs W0 b Q E em k => ?_⟩
  obtain ⟨c, e1, e2⟩ := Option.bind_eq_some_iff.mp em
  refine q σ H ρ fs W0 c _ E e1 fun H1 s1 => ?_
  cases c with
  | false => exact q2 σ H1 ρ fs W0 b Q (E.same s1) (by simpa using e2) fun H2 s2 => k H2 (s1.trans s2)
  | true =>
    have : b = true := by simpa using e2.symm
    subst this
    exact k H1 s1
/-- chains -/
theorem et_chain {a b c : Expr} {r r' : R2} {φ φ' : D → D → Option D} {ma mb mc : Env → Option D} {κa κb κc : RK} {La Lb Lc : List Nat} {e : Expr}
    (hp : ∀ ta tb tc, PE X a ta → PE X b tb → PE X c tc → PT X e (tTest (tChain r r' ta tb tc)))
    (h1 : OpV X r φ .fz) (h2 : OpV X r' φ' .fz) (ha : EP X ω a ma κa La) (hb : EP X ω b mb κb Lb) (hc : EP X ω c mc κc Lc) :
    ET X ω e (fun ρ => (ma ρ).bind fun x => (mb ρ).bind fun y => ((φ x y).bind asBl).bind fun k => if k = true then (mc ρ).bind fun z => (φ' y z).bind asBl else some false) := by
  obtain ⟨ta, pa, qa⟩ := ha.ex
  obtain ⟨tb, pb, qb⟩ := hb.ex
  obtain ⟨tc, pc, qc⟩ := hc.ex
  refine ⟨_, hp ta tb tc pa pb pc, fun σ H ρ fs W0 b Q E em k => ?_⟩
  obtain ⟨x, e1, em⟩ := Option.bind_eq_some_iff.mp em
  obtain ⟨y, e2, em⟩ := Option.bind_eq_some_iff.mp em
  obtain ⟨c1, e3, em⟩ := Option.bind_eq_some_iff.mp em
  obtain ⟨d1, e4, e5⟩ := Option.bind_eq_some_iff.mp e3
  have g1 : d1 = .bl c1 := by
    unfold asBl at e5
    split at e5
    · cases e5; rfl
    · cases e5
  subst g1
  refine qa σ H ρ fs W0 x _ E e1 fun v H1 fe1 P1 => ?_
  have E1 := E.same P1.same
  refine qb σ H1 ρ fs W0 y _ E1 e2 fun u H2 fe2 P2 => ?_
  have E2 := E1.same P2.same
  have rx : RpE X.K H2 (Wl W0 fs (La ++ Lb)) v x := ((P1.view E.wl).mono P2.same fun a z => .inl z).mono (Same.refl _) fun a z => .inl (z.mono fun i hi => List.mem_append_left _ hi)
  have ry : RpE X.K H2 (Wl W0 fs (La ++ Lb)) u y := (P2.view E1.wl).mono (Same.refl _) fun a z => .inl (z.mono fun i hi => List.mem_append_right _ hi)
  refine h1 H2 (Wl W0 fs (La ++ Lb)) v u x y (.bl c1) _ E2.wl rx ry e4 fun z H3 fe3 P3 => ⟨c1, (P3.view E2.wl).bl, ?_⟩
  have E3 := E2.same P3.same
  cases c1 with
  | false =>
    have : b = false := by simpa using em.symm
    subst this
    exact ⟨false, rfl, k H3 ((P1.same.trans P2.same).trans P3.same)⟩
  | true =>
    obtain ⟨z3, e6, e7⟩ := Option.bind_eq_some_iff.mp (show (mc ρ).bind (fun z => (φ' y z).bind asBl) = some b by simpa using em)
    obtain ⟨d2, e8, e9⟩ := Option.bind_eq_some_iff.mp e7
    have g2 : d2 = .bl b := by
      unfold asBl at e9
      split at e9
      · cases e9; rfl
      · cases e9
    subst g2
    refine qc σ H3 ρ fs W0 z3 _ E3 e6 fun w H4 fe4 P4 => ?_
    have E4 := E3.same P4.same
    have ry4 : RpE X.K H4 (Wl W0 fs ((La ++ Lb) ++ Lc)) u y := (ry.mono (P3.same.trans P4.same) fun a z => .inl z).mono (Same.refl _) fun a z => .inl (z.mono fun i hi => List.mem_append_left _ hi)
    have rw4 : RpE X.K H4 (Wl W0 fs ((La ++ Lb) ++ Lc)) w z3 := (P4.view E3.wl).mono (Same.refl _) fun a z => .inl (z.mono fun i hi => List.mem_append_right _ hi)
    exact h2 H4 (Wl W0 fs ((La ++ Lb) ++ Lc)) u w y z3 (.bl b) _ E4.wl ry4 rw4 e8 fun z H5 fe5 P5 => ⟨b, (P5.view E4.wl).bl, k H5 ((((P1.same.trans P2.same).trans P3.same).trans P4.same).trans P5.same)⟩
/-- a test's answer as a value -/
theorem ET.ep {e : Expr} {m : Env → Option Bool} (h : ET X ω e m) (hp : ∀ t, PT X e t → ∃ t', PE X e t' ∧ ∀ σ H Q, t σ H (fun b H' => Q (.bl b) H') → t' σ H Q) : EP X ω e (fun ρ => (m ρ).map D.bl) .fz [] := by
  obtain ⟨t, p, q⟩ := h.ex
  obtain ⟨t', p', q'⟩ := hp t p
  refine ⟨_, p', fun σ H ρ fs W0 d Q E em k => ?_⟩
  obtain ⟨b, e1, rfl⟩ := Option.map_eq_some_iff.mp em
  exact q' σ H Q (q σ H ρ fs W0 b _ E e1 fun H' s => k _ _ _ (.trans s (.rpv (.bl b))))
theorem ep_if {c a b : Expr} {mc : Env → Option Bool} {ma mb : Env → Option D} {κ : RK} {La Lb : List Nat} {pos : Pos} (hc : ET X ω c mc) (ha : EP X ω a ma κ La) (hb : EP X ω b mb κ Lb) :
    EP X ω (.IfExp c a b pos) (fun ρ => (mc ρ).bind fun k => if k = true then ma ρ else mb ρ) κ (La ++ Lb) := by
  obtain ⟨t, p, q⟩ := hc.ex
  obtain ⟨ta, pa, qa⟩ := ha.ex
  obtain ⟨tb, pb, qb⟩ := hb.ex
  refine ⟨_, pe_ifExp p pa pb, fun σ H ρ fs W0 d Q E em k => ?_⟩
  obtain ⟨c, e1, em⟩ := Option.bind_eq_some_iff.mp em
  refine q σ H ρ fs W0 c _ E e1 fun H1 s1 => ?_
  have wk : ∀ {L : List Nat} {v : V} {H' : Hp} {fe : List Addr}, (∀ i ∈ L, i ∈ La ++ Lb) → EPost X.K H1 (Wl W0 fs L) κ d v H' fe → EPost X.K H (Wl W0 fs (La ++ Lb)) κ d v H' fe := fun {L v H' fe} hL P => by
    refine .trans s1 ⟨P.same, P.new, P.nd, ?_⟩
    have r := P.rp
    cases κ with
    | fz => exact ⟨r.1, r.2.less fun a z => z.mono hL⟩
    | vw => exact ⟨r.1, r.2.mono (Same.refl _) fun a z => .inl (z.mono hL)⟩
    | own e =>
      have r : RpO X.K H' (fun a => Wl W0 fs L a ∨ a ∈ fe) v d (.lst e) fe := r
      exact r.less fun a z => z.imp (fun z => z.mono hL) id
  cases c with
  | true => exact qa σ H1 ρ fs W0 d Q (E.same s1) (by simpa using em) fun v H' fe P => k v H' fe (wk (fun i hi => List.mem_append_left _ hi) P)
  | false => exact qb σ H1 ρ fs W0 d Q (E.same s1) (by simpa using em) fun v H' fe P => k v H' fe (wk (fun i hi => List.mem_append_right _ hi) P)

/-! ### targets: a name, a tuple of targets -/
inductive Tgt where
  | nm (i : Nat) | tp (ts : List Tgt)
mutual
def bindT : Tgt → D → Env → Option Env
  | .nm i, d, ρ => some (ρ.set i (some d))
  | .tp ts, d, ρ => match d with
    | .tup ds => bindTs ts ds ρ
    | _ => none
def bindTs : List Tgt → List D → Env → Option Env
  | [], [], ρ => some ρ
  | t :: ts, d :: ds, ρ => (bindT t d ρ).bind fun ρ' => bindTs ts ds ρ'
  | _, _, _ => none
end
mutual
def Tgt.sl : Tgt → List Nat
  | .nm i => [i]
  | .tp ts => Tgt.sls ts
def Tgt.sls : List Tgt → List Nat
  | [] => []
  | t :: ts => Tgt.sl t ++ Tgt.sls ts
end
/-- what is owned in the slots of L is frozen -/
def frz (L : List Nat) (ω : List Ow) : List Ow := ω.mapIdx fun j o => if j ∈ L then .no else o
theorem frz_get (L : List Nat) (ω : List Ow) (j : Nat) : (frz L ω).getD j .no = if j ∈ L then .no else ω.getD j .no := by
  unfold frz
  simp only [List.getD_eq_getElem?_getD, List.getElem?_mapIdx]
  cases ω[j]? with
  | none => simp
  | some o => simp only [Option.map_some, Option.getD_some]
theorem frz_len (L : List Nat) (ω : List Ow) : (frz L ω).length = ω.length := by unfold frz; simp
section
variable {K : PySem.W.Frag} {H : Hp} {W0 : Addr → Prop} {σ : L2.St} {ρ : Env} {fs : Nat → List Addr}
def frF (L : List Nat) (fs : Nat → List Addr) : Nat → List Addr := fun j => if j ∈ L then [] else fs j
def puF (i : Nat) (fe : List Addr) (fs : Nat → List Addr) : Nat → List Addr := fun j => if j = i then fe else fs j
theorem mem_frF {L : List Nat} {j : Nat} {a : Addr} : a ∈ frF L fs j ↔ j ∉ L ∧ a ∈ fs j := by
  unfold frF
  by_cases h : j ∈ L
  · simp [h]
  · simp [h]
theorem mem_puF {i j : Nat} {fe : List Addr} {a : Addr} : a ∈ puF i fe fs j ↔ (j = i ∧ a ∈ fe) ∨ (j ≠ i ∧ a ∈ fs j) := by
  unfold puF
  by_cases h : j = i
  · simp [h]
  · simp [h]
theorem wa_frF {L : List Nat} {a : Addr} (z : Wa W0 (frF L fs) a) : Wa W0 fs a := z.imp id fun ⟨j, n, z⟩ => ⟨j, n, (mem_frF.mp z).2⟩
theorem wa_puF {i : Nat} {fe : List Addr} {a : Addr} (z : Wa W0 (puF i fe fs) a) : Wa W0 fs a ∨ a ∈ fe := by
  rcases z with z | ⟨j, n, z⟩
  · exact .inl (.inl z)
  · rcases mem_puF.mp z with z | z
    · exact .inr z.2
    · exact .inl (.inr ⟨j, n, z.2⟩)
/-- slots frozen -/
theorem EnvR.frz (E : EnvR K H W0 σ ρ ω fs) (L : List Nat) : EnvR K H W0 σ ρ (PV.frz L ω) (frF L fs) where
  len := E.len
  sl := fun i d e => by
    obtain ⟨v, h1, r⟩ := E.sl i d e
    refine ⟨v, h1, ?_⟩
    rw [frz_get]
    unfold frF
    by_cases hi : i ∈ L
    · simp only [if_pos hi]
      refine .no (r.freeze (fun a z => wa_frF z) fun a ha z => ?_)
      rcases z with z | ⟨j, _, z⟩
      · exact E.dis0 i a ha z
      · obtain ⟨n, z⟩ := mem_frF.mp z
        have := E.dis i j a ha z
        subst this
        exact n hi
    · simp only [if_neg hi]
      exact r.less fun a z => wa_frF z
  nil := fun i h => by
    unfold frF
    rw [E.nil i h]; split <;> rfl
  w0 := E.w0
  dis0 := fun i a h => E.dis0 i a (mem_frF.mp h).2
  dis := fun i j a h h' => E.dis i j a (mem_frF.mp h).2 (mem_frF.mp h').2
  nd := fun i => by
    unfold frF
    split
    · exact List.nodup_nil
    · exact E.nd i
theorem getD_set_ne {ω : List Ow} {i j : Nat} {o : Ow} (h : j ≠ i) : (ω.set i o).getD j .no = ω.getD j .no := by
  simp [List.getD_eq_getElem?_getD, List.getElem?_set_ne (Ne.symm h)]
theorem getD_set_self {ω : List Ow} {i : Nat} {o : Ow} (h : i < ω.length ∨ o = .no) : (ω.set i o).getD i .no = o := by
  rcases h with h | rfl
  · simp [List.getD_eq_getElem?_getD, List.getElem?_set_self h]
  · by_cases h : i < ω.length
    · simp [List.getD_eq_getElem?_getD, List.getElem?_set_self h]
    · rw [List.getD_eq_getElem?_getD, List.getElem?_eq_none (by simpa using h)]; rfl
/-- a slot is stored -/
theorem EnvR.put {i : Nat} {v : V} {d : D} {o : Ow} {fe : List Addr} (E : EnvR K H (fun a => W0 a ∨ a ∈ fe) σ ρ ω fs) (hi : i < ω.length ∨ o = .no) (r : RpO K H (fun a => Wa W0 fs a ∨ a ∈ fe) v d o fe) (nd : fe.Nodup) (hW : Tk H W0) (hn : ∀ a ∈ fe, ¬ W0 a) (hiρ : i < ρ.length) :
    EnvR K H W0 (σ.set i (some v)) (ρ.set i (some d)) (ω.set i o) (puF i fe fs) := by
  have hσ : i < σ.length := by rw [E.len]; exact hiρ
  refine ⟨by simp [E.len], fun j d' e => ?_, fun j h => ?_, hW, fun j a h => ?_, fun j k a h h' => ?_, fun j => ?_⟩
  · by_cases hj : j = i
    · subst hj
      rw [List.getElem?_set_self hiρ] at e
      cases e
      have ef : puF j fe fs j = fe := if_pos rfl
      exact ⟨v, List.getElem?_set_self hσ, by rw [getD_set_self hi, ef]; exact r.less fun a z => wa_puF z⟩
    · rw [List.getElem?_set_ne (Ne.symm hj)] at e
      obtain ⟨u, h1, r1⟩ := E.sl j d' e
      have ef : puF i fe fs j = fs j := if_neg hj
      refine ⟨u, by rw [List.getElem?_set_ne (Ne.symm hj)]; exact h1, ?_⟩
      rw [ef, getD_set_ne hj]
      refine r1.less fun a z => ?_
      rcases wa_puF z with (z | z) | z
      · exact .inl (.inl z)
      · exact .inr z
      · exact .inl (.inr z)
  · by_cases hj : j = i
    · subst hj
      exact absurd (List.getElem?_set_self hiρ) (h d)
    · have ef : puF i fe fs j = fs j := if_neg hj
      rw [ef]
      exact E.nil j fun d' e => h d' (by rw [List.getElem?_set_ne (Ne.symm hj)]; exact e)
  · rcases mem_puF.mp h with h | h
    · exact hn a h.2
    · exact fun z => E.dis0 j a h.2 (.inl z)
  · rcases mem_puF.mp h with h | h
    · rcases mem_puF.mp h' with h' | h'
      · rw [h.1, h'.1]
      · exact absurd (.inr h.2) (E.dis0 k a h'.2)
    · rcases mem_puF.mp h' with h' | h'
      · exact absurd (.inr h'.2) (E.dis0 j a h.2)
      · exact E.dis j k a h.2 h'.2
  · unfold puF
    split
    · exact nd
    · exact E.nd j
/-- a frozen value is stored -/
theorem EnvR.putF {i : Nat} {v : V} {d : D} (E : EnvR K H W0 σ ρ ω fs) (r : Rp K H (Wa W0 fs) v d) (hiρ : i < ρ.length) : EnvR K H W0 (σ.set i (some v)) (ρ.set i (some d)) (ω.set i .no) (puF i [] fs) :=
  EnvR.put (fe := []) (E.mono (fun a o e _ => e) fun a z => by
    rcases z with z | z
    · exact ⟨E.w0 a z, .inl z⟩
    · cases z) (.inr rfl) (.no (r.less fun a z => z.elim id fun z => by cases z)) List.nodup_nil E.w0 nn hiρ
end
mutual
def Tgt.om : Tgt → List Ow → List Ow
  | .nm i, ω => ω.set i .no
  | .tp ts, ω => Tgt.oms ts ω
def Tgt.oms : List Tgt → List Ow → List Ow
  | [], ω => ω
  | t :: ts, ω => Tgt.oms ts (Tgt.om t ω)
end
/-- σ' is σ but for the slots of L -/
def But (L : List Nat) (σ σ' : L2.St) : Prop := σ'.length = σ.length ∧ ∀ i, i ∉ L → σ'[i]? = σ[i]?
theorem But.refl (L : List Nat) (σ : L2.St) : But L σ σ := ⟨rfl, fun _ _ => rfl⟩
theorem But.trans {L L' : List Nat} {σ σ1 σ2 : L2.St} (a : But L σ σ1) (b : But L' σ1 σ2) : But (L ++ L') σ σ2 :=
  ⟨b.1.trans a.1, fun i h => (b.2 i fun z => h (List.mem_append_right _ z)).trans (a.2 i fun z => h (List.mem_append_left _ z))⟩
theorem pg_len {tg : Expr} {g : TG} (h : PG X tg g) : PG X tg (fun v σ H Q => σ.length = X.N.length → g v σ H Q) := ⟨fun pins s σ H v u Q I r q => h.run pins s σ H v u Q I r (q I.len)⟩
structure EG (X : Cx) (tg : Expr) (T : Tgt) : Prop where
  ex : ∃ g : TG, PG X tg g ∧ ∀ (σ : L2.St) (H : Hp) (ρ ρ' : Env) (ω : List Ow) (fs : Nat → List Addr) (W0 : Addr → Prop) (v : V) (d : D) (Q : L2.St → Hp → Prop), EnvR X.K H W0 σ ρ ω fs → Rp X.K H (Wa W0 fs) v d → bindT T d ρ = some ρ' →
    (∀ σ' fs', EnvR X.K H W0 σ' ρ' (T.om ω) fs' → (∀ i a, a ∈ fs' i → a ∈ fs i) → (∀ i, i ∉ T.sl → fs' i = fs i) → But T.sl σ σ' → Q σ' H) → g v σ H Q
structure EGs (X : Cx) (tgs : List Expr) (Ts : List Tgt) : Prop where
  ex : ∃ g : TGs, PGs X tgs g ∧ ∀ (σ : L2.St) (H : Hp) (ρ ρ' : Env) (ω : List Ow) (fs : Nat → List Addr) (W0 : Addr → Prop) (vs : List V) (ds : List D) (Q : L2.St → Hp → Prop), EnvR X.K H W0 σ ρ ω fs → RpL X.K H (Wa W0 fs) vs ds → bindTs Ts ds ρ = some ρ' →
    (∀ σ' fs', EnvR X.K H W0 σ' ρ' (Tgt.oms Ts ω) fs' → (∀ i a, a ∈ fs' i → a ∈ fs i) → (∀ i, i ∉ Tgt.sls Ts → fs' i = fs i) → But (Tgt.sls Ts) σ σ' → Q σ' H) → g vs σ H Q
theorem eg_nm {i : Nat} {x : Str} {pos : Pos} (h : PG X (.Name x pos) (gName i)) (hi : i < X.N.length) : EG X (.Name x pos) (.nm i) := by
  refine ⟨_, pg_len h, fun σ H ρ ρ' ω fs W0 v d Q E r e k hN => ?_⟩
  have e1 : ρ' = ρ.set i (some d) := by
    unfold bindT at e
    exact (Option.some.inj e).symm
  subst e1
  refine k _ _ (by unfold Tgt.om; exact E.putF r (by rw [← E.len]; omega)) (fun j a h => ?_) (fun j hj => if_neg (by simpa [Tgt.sl] using hj)) ⟨by simp, fun j hj => ?_⟩
  · rcases mem_puF.mp h with h | h
    · cases h.2
    · exact h.2
  · have : j ≠ i := by simpa [Tgt.sl] using hj
    exact List.getElem?_set_ne (Ne.symm this)
theorem egs_nil : EGs X [] [] := ⟨_, pgs_nil, fun σ H ρ ρ' ω fs W0 vs ds Q E r e k => by
  cases r with
  | nil =>
    have e1 : ρ' = ρ := by unfold bindTs at e; exact (Option.some.inj e).symm
    subst e1
    exact ⟨rfl, k σ fs (by unfold Tgt.oms; exact E) (fun _ _ h => h) (fun _ _ => rfl) (But.refl _ _)⟩
  | cons _ _ => unfold bindTs at e; cases e⟩
theorem assign_ok {e : Expr} {es : List Expr} {env : PySem.Env} (h : ∀ v p, e ≠ .Starred v p) : (assignEach (e :: es) env).map (·.2) = assign e env :: (assignEach es env).map (·.2) := by
  cases e <;> first | rfl | exact absurd rfl (h _ _)
theorem egs_cons {e : Expr} {es : List Expr} {T : Tgt} {Ts : List Tgt} (hs : ∀ v p, e ≠ .Starred v p) (h1 : EG X e T) (h2 : EGs X es Ts) : EGs X (e :: es) (T :: Ts) := by
  obtain ⟨g, p, q⟩ := h1.ex
  obtain ⟨g2, p2, q2⟩ := h2.ex
  refine ⟨_, pgs_cons p p2 (assign_ok hs), fun σ H ρ ρ' ω fs W0 vs ds Q E r e k => ?_⟩
  cases r with
  | nil => unfold bindTs at e; cases e
  | cons a r =>
    unfold bindTs at e
    obtain ⟨ρ1, e1, e2⟩ := Option.bind_eq_some_iff.mp e
    refine ⟨_, _, rfl, q σ H ρ ρ1 ω fs W0 _ _ _ E a e1 fun σ1 fs1 E1 hf1 ho1 b1 => ?_⟩
    refine q2 σ1 H ρ1 ρ' _ fs1 W0 _ _ _ E1 (r.less fun a z => z.imp id fun ⟨i, n, z⟩ => ⟨i, n, hf1 i a z⟩) e2 fun σ2 fs2 E2 hf2 ho2 b2 => ?_
    exact k σ2 fs2 (by unfold Tgt.oms; exact E2) (fun i a h => hf1 i a (hf2 i a h)) (fun i hi => by
      have hi' : i ∉ T.sl ∧ i ∉ Tgt.sls Ts := by simpa [Tgt.sls] using hi
      rw [ho2 i hi'.2, ho1 i hi'.1]) (by unfold Tgt.sls; exact b1.trans b2)
theorem assignEach_len (env : PySem.Env) : ∀ es : List Expr, (assignEach es env).length = es.length
  | [] => rfl
  | e :: es => by
    cases e <;> (show (assignEach es env).length + 1 = _; rw [assignEach_len env es]; rfl)
theorem assignEach_star (env : PySem.Env) : ∀ es : List Expr, (∀ e ∈ es, ∀ v p, e ≠ .Starred v p) → (assignEach es env).findIdx? (·.1) = none
  | [], _ => rfl
  | e :: es, h => by
    have ih := assignEach_star env es fun e he => h e (List.mem_cons_of_mem _ he)
    have h0 := h e List.mem_cons_self
    cases e <;> first
      | exact absurd rfl (h0 _ _)
      | (show (((false, _) :: assignEach es env).findIdx? (·.1)) = none
         rw [List.findIdx?_cons]
         simp [ih])
theorem eg_tp {es : List Expr} {Ts : List Tgt} {k : Nat} {pos : Pos} (hc : X.calm = true) (hs : ∀ e ∈ es, ∀ v p, e ≠ .Starred v p) (hl : es.length = Ts.length) (h : EGs X es Ts) : EG X (.Tuple es k pos) (.tp Ts) := by
  obtain ⟨g, p, q⟩ := h.ex
  refine ⟨_, pg_tup (n := es.length) hc p (assignEach_len _ _) (assignEach_star _ _ hs), fun σ H ρ ρ' ω fs W0 v d Q E r e k => ?_⟩
  have key : ∀ (ds : List D) (Ts : List Tgt) (ρ ρ' : Env), bindTs Ts ds ρ = some ρ' → ds.length = Ts.length := by
    intro ds
    induction ds with
    | nil => intro Ts ρ ρ' h; cases Ts with
      | nil => rfl
      | cons _ _ => unfold bindTs at h; cases h
    | cons d ds ih => intro Ts ρ ρ' h; cases Ts with
      | nil => unfold bindTs at h; cases h
      | cons T Ts =>
        unfold bindTs at h
        obtain ⟨ρ1, _, h2⟩ := Option.bind_eq_some_iff.mp h
        rw [List.length_cons, List.length_cons, ih Ts _ _ h2]
  unfold bindT at e
  cases r with
  | tup hT r =>
    have e' : bindTs Ts _ ρ = some ρ' := e
    refine ⟨_, _, rfl, hT.sq, ?_, q σ H ρ ρ' ω fs W0 _ _ _ E r e' fun σ' fs' E' hf ho b => k σ' fs' (by unfold Tgt.om; exact E') hf (by unfold Tgt.sl; exact ho) (by unfold Tgt.sl; exact b)⟩
    rw [r.length, hl]
    exact key _ _ _ _ e'
  | non => cases e
  | bl => cases e
  | int => cases e
  | str => cases e
  | lst => cases e
  | scr => cases e
end PV

set_option Elab.async false
set_option linter.all false
set_option maxRecDepth 100000
set_option autoImplicit false
set_option maxHeartbeats 4000000
/-! Value semantics: what is walked, comprehensions, calls of defs. -/
namespace PV
open PySem PySem.Spec PyProof.Rows L2
variable {X : Cx} {ω : List Ow}

/-! ### what is walked -/
/-- the sizes of what is held -/
def Sz (H : Hp) : Prop := ∀ a o, H a = some o → match o with
  | .lst xs => xs.length ≤ sizeLine
  | .tup xs => xs.length ≤ sizeLine
  | _ => True
theorem Inv.sz' {pins : List (Addr × Obj)} {σ : L2.St} {H : Hp} {s : Shared} (I : Inv X pins σ H s) : Sz H := fun a o h => by
  have q := I.hok a o h
  cases o with
  | lst xs => exact q.1
  | tup xs => exact q.1
  | _ => trivial
theorem pi_sz {tg e : Expr} {t : TI} (h : PI X tg e t) : PI X tg e (fun σ H R => t σ H fun J H1 => Sz H1 → R J H1) :=
  ⟨fun pins s σ H R I q => thn (h.run pins s σ H _ I q) fun v s1 h1 => thn h1 fun itv s2 ⟨it, fp, tn, J, H', e, I2, T, st, f, r⟩ => ⟨it, fp, tn, J, H', e, I2, T, st, f, r (Inv.sz' I2)⟩⟩
/-- J walks the data ds, as long as what lies outside W stays -/
structure ItR (K : PySem.W.Frag) (H1 : Hp) (W : Addr → Prop) (J : It) (ds : List D) : Prop where
  len : ds.length ≤ sizeLine
  go : ∀ H, (∀ a o, H1 a = some o → ¬ W a → H a = some o) → ∀ i d, ds[i]? = some d → J.go i H ∧ ∀ x H', J.yld i H x H' → Same H H' ∧ ∀ W', (∀ a, W' a → W a ∨ H1 a = none) → Tk H' W' → Rp K H' W' x d
  stop : ∀ H, (∀ a o, H1 a = some o → ¬ W a → H a = some o) → ∀ i, ds.length ≤ i → J.stop i H
structure EI (X : Cx) (ω : List Ow) (tg iter : Expr) (m : Env → Option (List D)) (L : List Nat) : Prop where
  ex : ∃ t : TI, PI X tg iter t ∧ ∀ (σ : L2.St) (H : Hp) (ρ : Env) (fs : Nat → List Addr) (W0 : Addr → Prop) (ds : List D) (R : It → Hp → Prop), EnvR X.K H W0 σ ρ ω fs → m ρ = some ds →
    (∀ J H', Same H H' → ItR X.K H' (Wl W0 fs L) J ds → R J H') → t σ H R
theorem TW.len {K : PySem.W.Frag} {H : Hp} {W : Addr → Prop} {a : Addr} {vs : List V} (h : TW K H W a vs) (s : Sz H) : vs.length ≤ sizeLine := by
  rcases h with ⟨h, _⟩ | ⟨o, its, n, _, _, _, hz, r⟩
  · exact s _ _ h
  · have := r.length
    simp only [Array.length_toList] at this
    omega
theorem itr_lst {K : PySem.W.Frag} {H : Hp} {W : Addr → Prop} {a : Addr} {vs : List V} {ds : List D} (h : LW H W a vs) (r : RpL K H W vs ds) (hz : Sz H) : ItR K H W (Itl K a) ds where
  len := by rw [← r.length]; exact hz _ _ h.1
  go := fun H2 hk i d e => by
    obtain ⟨v, hv, rv⟩ := r.get e
    have q : SqL K H2 a vs := .inl (.inl (hk _ _ h.1 h.2))
    refine ⟨⟨vs, v, q, hv⟩, fun x H' ⟨e1, y⟩ => ?_⟩
    subst e1
    have := y vs q
    rw [hv] at this
    cases this
    exact ⟨Same.refl _, fun W' hw _ => rv.mono hk hw⟩
  stop := fun H2 hk i hi => ⟨vs, .inl (.inl (hk _ _ h.1 h.2)), by rw [r.length]; exact hi⟩
theorem itr_tup {K : PySem.W.Frag} {H : Hp} {W : Addr → Prop} {a : Addr} {vs : List V} {ds : List D} (h : TW K H W a vs) (r : RpL K H W vs ds) (hz : Sz H) : ItR K H W (Itt K a) ds where
  len := by rw [← r.length]; exact h.len hz
  go := fun H2 hk i d e => by
    obtain ⟨v, hv, rv⟩ := r.get e
    have q : SqT K H2 a vs := (h.mono hk fun a z => .inl z).sq
    refine ⟨⟨vs, v, q, hv⟩, fun x H' ⟨e1, y⟩ => ?_⟩
    subst e1
    have := y vs q
    rw [hv] at this
    cases this
    exact ⟨Same.refl _, fun W' hw _ => rv.mono hk hw⟩
  stop := fun H2 hk i hi => ⟨vs, (h.mono hk fun a z => .inl z).sq, by rw [r.length]; exact hi⟩
def asSeq : D → Option (List D)
  | .tup xs => some xs
  | .lst xs => some xs
  | _ => none
theorem ei_seq {tg e : Expr} {m : Env → Option D} {κ : RK} {L : List Nat} (h : EP X ω e m κ L) (hκ : κ ≠ .vw) : EI X ω tg e (fun ρ => (m ρ).bind asSeq) L := by
  obtain ⟨t, p, q⟩ := h.ex
  refine ⟨_, PI.or (pi_sz (pi_list p)) (pi_sz (pi_tup p)), fun σ H ρ fs W0 ds R E em k => ?_⟩
  obtain ⟨d, e1, e2⟩ := Option.bind_eq_some_iff.mp em
  unfold asSeq at e2
  split at e2
  · cases e2
    refine .inr (q σ H ρ fs W0 _ _ E e1 fun v H' fe P => ?_)
    have r := P.fz E.wl hκ
    cases r with
    | tup hT r => exact ⟨_, rfl, ⟨_, hT.sq⟩, fun hz => k _ _ P.same (itr_tup hT r hz)⟩
  · cases e2
    refine .inl (q σ H ρ fs W0 _ _ E e1 fun v H' fe P => ?_)
    have r := P.fz E.wl hκ
    cases r with
    | lst hT r => exact ⟨_, rfl, ⟨_, hT.sq⟩, fun hz => k _ _ P.same (itr_lst hT r hz)⟩
  · cases e2
/-- ranges -/
def rngL (lo : Int) (n : Nat) : List D := (List.range n).map fun (i : Nat) => .int (lo + (i : Int))
theorem itr_rng {K : PySem.W.Frag} {H : Hp} {W : Addr → Prop} {lo : Int} {n : Nat} (hn : n ≤ sizeLine) : ItR K H W (Itr lo n) (rngL lo n) where
  len := by simpa [rngL] using hn
  go := fun H2 hk i d e => by
    unfold rngL at e
    rw [List.getElem?_map] at e
    obtain ⟨j, h1, rfl⟩ := Option.map_eq_some_iff.mp e
    obtain ⟨h2, h3⟩ := List.getElem?_eq_some_iff.mp h1
    rw [List.getElem_range] at h3
    subst h3
    rw [List.length_range] at h2
    refine ⟨h2, fun x H' ⟨e1, e2⟩ => ?_⟩
    subst e1 e2
    exact ⟨Same.refl _, fun W' _ _ => .int _⟩
  stop := fun H2 hk i hi => by
    have h : n ≤ i := by simpa [rngL] using hi
    exact h
def rng1 : List D → Option (List D)
  | [.int n] => if decide (n ≤ 16777216 ∧ -(2 ^ 62) ≤ n) then some (rngL 0 n.toNat) else none
  | _ => none
def rng2 : List D → Option (List D)
  | [.int a, .int b] => if decide (b - a ≤ 16777216 ∧ -(2 ^ 62) ≤ a ∧ a < 2 ^ 62 ∧ -(2 ^ 62) ≤ b ∧ b < 2 ^ 62) then some (rngL a (b - a).toNat) else none
  | _ => none
theorem ei_rng1 {tg a : Expr} {ms : Env → Option (List D)} {L : List Nat} {p pos : Pos} (hg : Gl X "range") (hm : X.mg "range" = none) (ha : EVs X ω [a] ms L) (hs : ∀ v p, a ≠ .Starred v p) : EI X ω tg (.Call (.Name "range" p) [a] [] pos) (fun ρ => (ms ρ).bind rng1) L := by
  obtain ⟨t, p, q⟩ := ha.ex
  refine ⟨_, pi_range1 hg hm p (star_ok hs), fun σ H ρ fs W0 ds R E em k => ?_⟩
  obtain ⟨d, e1, e2⟩ := Option.bind_eq_some_iff.mp em
  unfold rng1 at e2
  split at e2
  · split at e2
    · rename_i n hz
      cases e2
      obtain ⟨h1, h2⟩ := of_decide_eq_true hz
      refine q σ H ρ fs W0 _ _ E e1 fun vs H' s r => ?_
      obtain ⟨v, rfl, r'⟩ := REL.one r
      rw [r'.int]
      exact ⟨n, rfl, h2, by omega, k _ _ s (itr_rng (by rw [sizeLine_eq]; omega))⟩
    · cases e2
  · cases e2
theorem ei_rng2 {tg a b : Expr} {ms : Env → Option (List D)} {L : List Nat} {p pos : Pos} (hg : Gl X "range") (hm : X.mg "range" = none) (ha : EVs X ω [a, b] ms L) (hs : ∀ v p, a ≠ .Starred v p) (hs2 : ∀ v p, b ≠ .Starred v p) : EI X ω tg (.Call (.Name "range" p) [a, b] [] pos) (fun ρ => (ms ρ).bind rng2) L := by
  obtain ⟨t, p, q⟩ := ha.ex
  refine ⟨_, pi_range2 hg hm p (by rw [star_ok hs, star_ok hs2]; rfl) (by rw [star_ok hs2]; rfl), fun σ H ρ fs W0 ds R E em k => ?_⟩
  obtain ⟨d, e1, e2⟩ := Option.bind_eq_some_iff.mp em
  unfold rng2 at e2
  split at e2
  · split at e2
    · rename_i a b hz
      cases e2
      obtain ⟨h1, h2⟩ := of_decide_eq_true hz
      refine q σ H ρ fs W0 _ _ E e1 fun vs H' s r => ?_
      obtain ⟨v, u, rfl, r1, r2⟩ := REL.two r
      rw [r1.int, r2.int]
      exact ⟨a, b, rfl, h2, k _ _ s (itr_rng (by rw [sizeLine_eq]; omega))⟩
    · cases e2
  · cases e2

/-! ### comprehensions -/
/-- the data of a comprehension -/
def compM (T : Tgt) (c : Env → Option Bool) (e : Env → Option D) (ρ : Env) : List D → Option (List D)
  | [] => some []
  | x :: xs => (bindT T x ρ).bind fun ρ' => (c ρ').bind fun b => if b = true then (e ρ').bind fun y => (compM T c e ρ xs).bind fun r => some (y :: r) else compM T c e ρ xs
def wipeE (ρ : Env) : List Nat → Env
  | [] => ρ
  | v :: vs => (wipeE ρ vs).set v none
theorem wipeE_len (ρ : Env) : ∀ vs, (wipeE ρ vs).length = ρ.length
  | [] => rfl
  | v :: vs => by unfold wipeE; rw [List.length_set, wipeE_len ρ vs]
theorem wipeE_some {ρ : Env} {i : Nat} {d : D} : ∀ {vs : List Nat}, (wipeE ρ vs)[i]? = some (some d) → ρ[i]? = some (some d) ∧ i ∉ vs
  | [], h => ⟨h, by simp⟩
  | v :: vs, h => by
    unfold wipeE at h
    by_cases hi : v = i
    · subst hi
      by_cases hv : v < (wipeE ρ vs).length
      · rw [List.getElem?_set_self hv] at h; cases h
      · rw [List.getElem?_eq_none (by simpa using hv)] at h; cases h
    · rw [List.getElem?_set_ne hi] at h
      obtain ⟨h1, h2⟩ := wipeE_some h
      exact ⟨h1, by simp only [List.mem_cons, not_or]; exact ⟨fun e => hi e.symm, h2⟩⟩
theorem wipe_keep {σ : L2.St} {i : Nat} : ∀ {vs : List Nat}, i ∉ vs → (wipe σ vs)[i]? = σ[i]?
  | [], _ => rfl
  | v :: vs, h => by
    have h' : i ≠ v ∧ i ∉ vs := by simpa using h
    unfold wipe
    rw [List.getElem?_set_ne (Ne.symm h'.1)]
    exact wipe_keep h'.2
theorem wipe_in {σ : L2.St} {i : Nat} : ∀ {vs : List Nat}, i ∈ vs → i < σ.length → (wipe σ vs)[i]? = some none
  | [], h, _ => by cases h
  | v :: vs, h, hl => by
    unfold wipe
    by_cases e : v = i
    · subst e
      exact List.getElem?_set_self (by rw [wipe_length]; exact hl)
    · rw [List.getElem?_set_ne e]
      exact wipe_in ((List.mem_cons.mp h).resolve_left (Ne.symm e)) hl
theorem wipe_but {σ σ' : L2.St} {L vs : List Nat} (b : But L (wipe σ vs) σ') (h : ∀ i ∈ L, i ∈ vs) : wipe σ' vs = wipe σ vs := by
  have hl : σ'.length = σ.length := by rw [b.1, wipe_length]
  refine List.ext_getElem? fun i => ?_
  by_cases hi : i ∈ vs
  · by_cases hz : i < σ.length
    · rw [wipe_in hi hz, wipe_in hi (by omega)]
    · rw [List.getElem?_eq_none (by rw [wipe_length]; omega), List.getElem?_eq_none (by rw [wipe_length]; omega)]
  · rw [wipe_keep hi, wipe_keep hi, b.2 i fun z => hi (h i z), wipe_keep hi]
section
variable {K : PySem.W.Frag} {H : Hp} {W0 : Addr → Prop} {σ : L2.St} {ρ : Env} {fs : Nat → List Addr}
/-- a block's own slots forgotten; what they owned is kept off -/
theorem EnvR.wipe (E : EnvR K H W0 σ ρ ω fs) (vs : List Nat) : EnvR K H (fun a => W0 a ∨ ∃ i ∈ vs, a ∈ fs i) (wipe σ vs) (wipeE ρ vs) (PV.frz vs ω) (frF vs fs) where
  len := by rw [wipe_length, wipeE_len, E.len]
  sl := fun i d e => by
    obtain ⟨e1, hi⟩ := wipeE_some e
    obtain ⟨v, h1, r⟩ := E.sl i d e1
    refine ⟨v, by rw [wipe_keep hi]; exact h1, ?_⟩
    have ef : frF vs fs i = fs i := if_neg hi
    rw [frz_get, if_neg hi, ef]
    refine r.less fun a z => ?_
    rcases z with (z | ⟨j, _, z⟩) | ⟨j, _, z⟩
    · exact .inl z
    · exact .inr ⟨j, by simp, z⟩
    · exact .inr ⟨j, by simp, (mem_frF.mp z).2⟩
  nil := fun i h => by
    by_cases hi : i ∈ vs
    · exact if_pos hi
    · have ef : frF vs fs i = fs i := if_neg hi
      rw [ef]
      refine E.nil i fun d e => h d ?_
      have keep : ∀ vs : List Nat, i ∉ vs → (wipeE ρ vs)[i]? = ρ[i]? := by
        intro vs
        induction vs with
        | nil => intro _; rfl
        | cons v vs ih =>
          intro h
          have h' : i ≠ v ∧ i ∉ vs := by simpa using h
          unfold wipeE
          rw [List.getElem?_set_ne (Ne.symm h'.1)]
          exact ih h'.2
      rw [keep vs hi]
      exact e
  w0 := fun a z => by
    rcases z with z | ⟨i, _, z⟩
    · exact E.w0 a z
    · obtain ⟨xs, e⟩ := E.tr z
      exact ⟨_, e, trivial⟩
  dis0 := fun i a h z => by
    obtain ⟨n, h⟩ := mem_frF.mp h
    rcases z with z | ⟨j, hj, z⟩
    · exact E.dis0 i a h z
    · have := E.dis i j a h z
      subst this
      exact n hj
  dis := fun i j a h h' => E.dis i j a (mem_frF.mp h).2 (mem_frF.mp h').2
  nd := fun i => by
    unfold frF
    split
    · exact List.nodup_nil
    · exact E.nd i
end
/-- how a comprehension's list lies -/
def compK : RK → RK
  | .own e => .own (.lst e)
  | _ => .own .no
def eltO : RK → Ow
  | .own e => .lst e
  | _ => .no
theorem compK_eq (κ : RK) : compK κ = .own (eltO κ) := by cases κ <;> rfl
theorem RpOL.append {K : PySem.W.Frag} {H : Hp} {W : Addr → Prop} {o : Ow} : ∀ {vs ws : List V} {ds es : List D} {f g : List Addr}, RpOL K H W vs ds o f → RpOL K H W ws es o g → RpOL K H W (vs ++ ws) (ds ++ es) o (f ++ g)
  | _, _, _, _, _, _, .nil, s => s
  | _, _, _, _, _, _, .cons a r, s => by rw [List.append_assoc]; exact .cons a (RpOL.append r s)
structure PTsD (X : Cx) (ω : List Ow) (ifs : List Expr) (m : Env → Option Bool) : Prop where
  ex : ∃ t : TT, PTs X ifs t ∧ ∀ (σ : L2.St) (H : Hp) (ρ : Env) (fs : Nat → List Addr) (W0 : Addr → Prop) (b : Bool) (Q : Bool → Hp → Prop), EnvR X.K H W0 σ ρ ω fs → m ρ = some b → (∀ H', Same H H' → Q b H') → t σ H Q
theorem ptsd_nil : PTsD X ω [] (fun _ => some true) := ⟨_, pts_nil, fun σ H ρ fs W0 b Q E e k => by cases e; exact k H (Same.refl H)⟩
theorem ptsd_one {c : Expr} {m : Env → Option Bool} (h : ET X ω c m) : PTsD X ω [c] m := let ⟨t, p, q⟩ := h.ex; ⟨t, pts_one p, q⟩
/-- the reading of a comprehension, by its parts' readings -/
theorem comp_read {K : PySem.W.Frag} {wi : TI} {g : TG} {tt : TT} {te : TE} {vs : List Nat} {mi : Env → Option (List D)} {L0 Le : List Nat} {T : Tgt} {mc : Env → Option Bool} {me : Env → Option D} {κ : RK}
    (hκ : κ ≠ .vw) (hT : ∀ i ∈ T.sl, i ∈ vs)
    (qi : ∀ (σ : L2.St) (H : Hp) (ρ : Env) (fs : Nat → List Addr) (W0 : Addr → Prop) (ds : List D) (R : It → Hp → Prop), EnvR K H W0 σ ρ ω fs → mi ρ = some ds → (∀ J H', Same H H' → ItR K H' (Wl W0 fs L0) J ds → R J H') → wi σ H R)
    (qg : ∀ (σ : L2.St) (H : Hp) (ρ ρ' : Env) (ω : List Ow) (fs : Nat → List Addr) (W0 : Addr → Prop) (v : V) (d : D) (Q : L2.St → Hp → Prop), EnvR K H W0 σ ρ ω fs → Rp K H (Wa W0 fs) v d → bindT T d ρ = some ρ' →
      (∀ σ' fs', EnvR K H W0 σ' ρ' (T.om ω) fs' → (∀ i a, a ∈ fs' i → a ∈ fs i) → (∀ i, i ∉ T.sl → fs' i = fs i) → But T.sl σ σ' → Q σ' H) → g v σ H Q)
    (qt : ∀ (σ : L2.St) (H : Hp) (ρ : Env) (fs : Nat → List Addr) (W0 : Addr → Prop) (b : Bool) (Q : Bool → Hp → Prop), EnvR K H W0 σ ρ (T.om (PV.frz vs (PV.frz L0 ω))) fs → mc ρ = some b → (∀ H', Same H H' → Q b H') → tt σ H Q)
    (qe : ∀ (σ : L2.St) (H : Hp) (ρ : Env) (fs : Nat → List Addr) (W0 : Addr → Prop) (d : D) (Q : VK), EnvR K H W0 σ ρ (T.om (PV.frz vs (PV.frz L0 ω))) fs → me ρ = some d → (∀ v H' fe, EPost K H (Wl W0 fs Le) κ d v H' fe → Q v H') → te σ H Q)
    {σ : L2.St} {H : Hp} {ρ : Env} {fs : Nat → List Addr} {W0 : Addr → Prop} {ds ys : List D} {Q : VK} (E : EnvR K H W0 σ ρ ω fs) (em : mi ρ = some ds) (ec : compM T mc me (wipeE ρ vs) ds = some ys)
    (k : ∀ v H' fe, EPost K H (Wl W0 fs (L0 ++ Le)) (compK κ) (.lst ys) v H' fe → Q v H') : tLc wi g tt te vs σ H Q := by
  refine qi σ H ρ fs W0 ds _ E em fun J H1 s1 IR => ?_
  intro P hP
  have E1 := (E.same s1).frz L0
  have wl : ∀ a, Wl W0 fs (L0 ++ Le) a → Wl W0 (frF L0 fs) Le a := fun a z => z.imp id fun ⟨i, n, z⟩ => by
    have n' : i ∉ L0 ∧ i ∉ Le := by simpa using n
    exact ⟨i, n'.2, mem_frF.mpr ⟨n'.1, z⟩⟩
  have wl0 : ∀ a i, a ∈ frF L0 fs i → Wl W0 fs L0 a := fun a i z => .inr ⟨i, (mem_frF.mp z).1, (mem_frF.mp z).2⟩
  generalize hfs : frF L0 fs = fs' at *
  -- what holds at a turn
  let Wv : Nat → Hp → Prop := fun i H2 => ∃ (acc : List V) (f : List Addr) (zs rs : List D), H2 P = some (.lst acc) ∧ RpOL K H2 (fun a => (Wl W0 fs (L0 ++ Le) a ∨ a = P) ∨ a ∈ f) acc zs (eltO κ) f ∧ (∀ a ∈ f, H1 a = none ∧ a ≠ P) ∧ f.Nodup ∧
    acc.length ≤ i ∧ (∀ a o, H1 a = some o → H2 a = some o) ∧ compM T mc me (wipeE ρ vs) (ds.drop i) = some rs ∧ zs ++ rs = ys
  refine ⟨fun i m H2 => m = ds.length - i ∧ i ≤ ds.length ∧ Wv i H2, ⟨ds.length, by simp, Nat.zero_le _, [], [], [], ys, upd_same, .nil, nn, List.nodup_nil, Nat.zero_le _, fun a o e => same_upd hP a o e, ec, rfl⟩, ?_⟩
  rintro i m H2 ⟨rfl, hi, acc, f, zs, rs, hD, hO, hf, nd, hlen, hs, hr, hy⟩
  have E2 := E1.same hs
  by_cases hlt : i < ds.length
  · have hd : ds[i]? = some ds[i] := List.getElem?_eq_getElem hlt
    obtain ⟨hgo, hy2⟩ := IR.go H2 (fun a o e _ => hs a o e) i _ hd
    refine .inr ⟨hgo, Wv (i + 1), fun H' w => ⟨ds.length - (i + 1), by omega, rfl, hlt, w⟩, fun x H3 y => ?_⟩
    obtain ⟨s23, rx⟩ := hy2 x H3 y
    have hD3 : H3 P = some (.lst acc) := s23 _ _ hD
    have hO3 : RpOL K H3 (fun a => (Wl W0 fs (L0 ++ Le) a ∨ a = P) ∨ a ∈ f) acc zs (eltO κ) f := hO.mono (fun a z => .inl z) fun a o e _ => s23 a o e
    have tf : ∀ a ∈ f, ∃ xs, H3 a = some (.lst xs) := fun a ha => hO3.tracked a ha
    have h13 : ∀ a o, H1 a = some o → H3 a = some o := fun a o e => s23 a o (hs a o e)
    let Wb : Addr → Prop := fun a => ((W0 a ∨ ∃ i ∈ vs, a ∈ fs' i) ∨ a = P) ∨ a ∈ f
    have Ew := E1.wipe vs
    have Eb : EnvR K H3 Wb (wipe σ vs) (wipeE ρ vs) (PV.frz vs (PV.frz L0 ω)) (frF vs fs') := Ew.mono (fun a o e _ => h13 a o e) fun a z => by
      rcases z with (z | z) | z
      · exact ⟨tk_same Ew.w0 (fun a o e => h13 a o e) a z, .inl z⟩
      · subst z
        exact ⟨⟨_, hD3, trivial⟩, .inr hP⟩
      · obtain ⟨xs, e⟩ := tf a z
        exact ⟨⟨_, e, trivial⟩, .inr (hf a z).1⟩
    have hrec : compM T mc me (wipeE ρ vs) (ds[i] :: ds.drop (i + 1)) = some rs := by rw [← List.drop_eq_getElem_cons hlt]; exact hr
    unfold compM at hrec
    obtain ⟨ρ', e1, hrec⟩ := Option.bind_eq_some_iff.mp hrec
    obtain ⟨b, e2, hrec⟩ := Option.bind_eq_some_iff.mp hrec
    have rx' : Rp K H3 (Wa Wb (frF vs fs')) x ds[i] := rx _ (fun a z => by
      rcases z with ((( z | ⟨j, _, z⟩) | z) | z) | ⟨j, _, z⟩
      · exact .inl (.inl z)
      · exact .inl (wl0 a j z)
      · subst z; exact .inr hP
      · exact .inr (hf a z).1
      · exact .inl (wl0 a j (mem_frF.mp z).2)) Eb.wl
    refine qg _ H3 _ ρ' _ _ Wb x _ _ Eb rx' e1 fun σ4 fs4 E4 hf4 ho4 b4 => ⟨wipe_but b4 hT, ?_⟩
    refine qt σ4 H3 ρ' fs4 Wb b _ E4 e2 fun H5 s35 => ?_
    have E5 := E4.same s35
    have h15 : ∀ a o, H1 a = some o → H5 a = some o := fun a o e => s35 a o (h13 a o e)
    have hO5 : RpOL K H5 (fun a => (Wl W0 fs (L0 ++ Le) a ∨ a = P) ∨ a ∈ f) acc zs (eltO κ) f := hO3.mono (fun a z => .inl z) fun a o e _ => s35 a o e
    cases b with
    | false =>
      rw [if_neg Bool.false_ne_true] at hrec ⊢
      exact ⟨acc, f, zs, rs, s35 _ _ hD3, hO5, hf, nd, by omega, h15, hrec, hy⟩
    | true =>
      rw [if_pos rfl] at hrec ⊢
      obtain ⟨y2, e3, hrec⟩ := Option.bind_eq_some_iff.mp hrec
      obtain ⟨r2, e4, hrec⟩ := Option.bind_eq_some_iff.mp hrec
      cases hrec
      refine qe σ4 H5 ρ' fs4 Wb y2 _ E5 e3 fun u H6 fe P6 => ?_
      have hD6 : H6 P = some (.lst acc) := P6.same _ _ (s35 _ _ hD3)
      have nPfe : ∀ a ∈ fe, a ≠ P := fun a ha z => by
        have := P6.new a ha
        rw [z, s35 _ _ hD3] at this; cases this
      have nffe : ∀ a ∈ fe, a ∉ f := fun a ha z => by
        obtain ⟨xs, e⟩ := hO5.tracked a z
        rw [P6.new a ha] at e; cases e
      have nf1 : ∀ a ∈ fe, H1 a = none := fun a ha => by
        cases q : H1 a with
        | none => rfl
        | some o => have := P6.new a ha; rw [h15 a o q] at this; cases this
      refine ⟨acc, hD6, by have := IR.len; omega, acc ++ [u], f ++ fe, zs ++ [y2], r2, upd_same, ?_, ?_, ?_, ?_, ?_, e4, by rw [List.append_assoc]; exact hy⟩
      · have hup : ∀ (H : Hp) a o, H a = some o → a ≠ P → upd H P (.lst (acc ++ [u])) a = some o := fun H a o e n => by rw [upd_ne n]; exact e
        have old : RpOL K (upd H6 P (.lst (acc ++ [u]))) (fun a => (Wl W0 fs (L0 ++ Le) a ∨ a = P) ∨ a ∈ f ++ fe) acc zs (eltO κ) f := hO5.mono (fun a z => by
            rcases z with z | z
            · exact .inl (.inl z)
            · rcases List.mem_append.mp z with z | z
              · exact .inl (.inr z)
              · exact .inr (P6.new a z)) fun a o e z => hup _ a o (P6.same a o e) (by
            rcases z with z | z
            · exact fun q => z (.inl (.inr q))
            · exact (hf a z).2)
        have new : RpO K (upd H6 P (.lst (acc ++ [u]))) (fun a => (Wl W0 fs (L0 ++ Le) a ∨ a = P) ∨ a ∈ f ++ fe) u y2 (eltO κ) fe := by
          have r := P6.rp
          have wsub : ∀ a, ((Wl W0 fs (L0 ++ Le) a ∨ a = P) ∨ a ∈ f ++ fe) → Wl Wb fs4 Le a ∨ a ∈ fe := fun a z => by
            rcases z with (z | z) | z
            · rcases wl a z with z | ⟨j, n, z⟩
              · exact .inl (.inl (.inl (.inl (.inl z))))
              · by_cases hv : j ∈ vs
                · exact .inl (.inl (.inl (.inl (.inr ⟨j, hv, z⟩))))
                · refine .inl (.inr ⟨j, n, ?_⟩)
                  rw [ho4 j fun q => hv (hT j q)]
                  exact mem_frF.mpr ⟨hv, z⟩
            · exact .inl (.inl (.inl (.inr z)))
            · rcases List.mem_append.mp z with z | z
              · exact .inl (.inl (.inr z))
              · exact .inr z
          have wP : ∀ a o, H6 a = some o → ¬ (Wl Wb fs4 Le a ∨ a ∈ fe) ∨ a ∈ fe → upd H6 P (.lst (acc ++ [u])) a = some o := fun a o e z => hup _ a o e (by
            rcases z with z | z
            · exact fun q => z (.inl (.inl (.inl (.inr q))))
            · exact nPfe a z)
          cases κ with
          | vw => exact absurd rfl hκ
          | fz =>
            have r : fe = [] ∧ Rp K H6 (Wl Wb fs4 Le) u y2 := r
            obtain ⟨e0, r'⟩ := r
            subst e0
            exact .no (r'.mono (fun a o e n => wP a o e (.inl fun z => z.elim n fun z => by cases z)) fun a z => (wsub a z).elim .inl fun z => by cases z)
          | own e =>
            have r : RpO K H6 (fun a => Wl Wb fs4 Le a ∨ a ∈ fe) u y2 (.lst e) fe := r
            exact r.mono (fun a z => .inl (wsub a z)) wP
        exact old.append (by simpa using RpOL.cons (g := []) new .nil)
      · intro a ha
        rcases List.mem_append.mp ha with ha | ha
        · exact hf a ha
        · exact ⟨nf1 a ha, nPfe a ha⟩
      · exact List.nodup_append.mpr ⟨nd, P6.nd, fun a ha b hb e => nffe b hb (e ▸ ha)⟩
      · rw [List.length_append]; simp; omega
      · exact fun a o e => by rw [upd_ne (fun z => by rw [z, hP] at e; cases e)]; exact P6.same a o (h15 a o e)
  · have ei : i = ds.length := by omega
    subst ei
    rw [List.drop_length] at hr
    unfold compM at hr
    cases hr
    rw [List.append_nil] at hy
    subst hy
    have hPn : H P = none := s1.free hP
    refine .inl ⟨IR.stop H2 (fun a o e _ => hs a o e) _ (Nat.le_refl _), k _ _ (P :: f) ?_⟩
    rw [compK_eq]
    refine ⟨fun a o e => hs a o (s1 a o e), fun a ha => ?_, List.nodup_cons.mpr ⟨fun z => (hf P z).2 rfl, nd⟩, .lst hD (hO.less fun a z => ?_)⟩
    · rcases List.mem_cons.mp ha with z | z
      · rw [z]; exact hPn
      · exact s1.free (hf a z).1
    · rcases z with z | z
      · exact .inl (.inl z)
      · rcases List.mem_cons.mp z with z | z
        · exact .inl (.inr z)
        · exact .inr z

abbrev BX (X : Cx) (scope : Scope) (s : Shared) (H : Hp) (C : Addr) (cl : List (Str × Addr)) (fp : List Addr) : Cx := X.blk s H scope (compEnvC scope cl C X.env) fp
theorem all_pe {scope : Scope} {e : Expr} {P : TE → Prop} (h : ∀ s H C cl fp, ∃ t, PE (BX X scope s H C cl fp) e t ∧ P t) (hP : ∀ (I : Type) (f : I → TE), (∀ i, P (f i)) → P fun σ H Q => ∀ i, f i σ H Q) :
    ∃ t, (∀ s H C cl fp, PE (BX X scope s H C cl fp) e t) ∧ P t :=
  ⟨fun σ H Q => ∀ i : Shared × Hp × Addr × List (Str × Addr) × List Addr, (h i.1 i.2.1 i.2.2.1 i.2.2.2.1 i.2.2.2.2).choose σ H Q,
    fun s H C cl fp => ⟨fun pins s' σ H' Q I q => (h s H C cl fp).choose_spec.1.run pins s' σ H' Q I (q (s, H, C, cl, fp))⟩,
    hP _ _ fun i => (h i.1 i.2.1 i.2.2.1 i.2.2.2.1 i.2.2.2.2).choose_spec.2⟩
theorem all_pt {scope : Scope} {e : List Expr} {P : TT → Prop} (h : ∀ s H C cl fp, ∃ t, PTs (BX X scope s H C cl fp) e t ∧ P t) (hP : ∀ (I : Type) (f : I → TT), (∀ i, P (f i)) → P fun σ H Q => ∀ i, f i σ H Q) :
    ∃ t, (∀ s H C cl fp, PTs (BX X scope s H C cl fp) e t) ∧ P t :=
  ⟨fun σ H Q => ∀ i : Shared × Hp × Addr × List (Str × Addr) × List Addr, (h i.1 i.2.1 i.2.2.1 i.2.2.2.1 i.2.2.2.2).choose σ H Q,
    fun s H C cl fp => ⟨fun pins s' σ H' Q I q => (h s H C cl fp).choose_spec.1.run pins s' σ H' Q I (q (s, H, C, cl, fp))⟩,
    hP _ _ fun i => (h i.1 i.2.1 i.2.2.1 i.2.2.2.1 i.2.2.2.2).choose_spec.2⟩
theorem all_pg {scope : Scope} {e : Expr} {P : TG → Prop} (h : ∀ s H C cl fp, ∃ t, PG (BX X scope s H C cl fp) e t ∧ P t) (hP : ∀ (I : Type) (f : I → TG), (∀ i, P (f i)) → P fun v σ H Q => ∀ i, f i v σ H Q) :
    ∃ t, (∀ s H C cl fp, PG (BX X scope s H C cl fp) e t) ∧ P t :=
  ⟨fun v σ H Q => ∀ i : Shared × Hp × Addr × List (Str × Addr) × List Addr, (h i.1 i.2.1 i.2.2.1 i.2.2.2.1 i.2.2.2.2).choose v σ H Q,
    fun s H C cl fp => ⟨fun pins s' σ H' v u Q I r q => (h s H C cl fp).choose_spec.1.run pins s' σ H' v u Q I r (q (s, H, C, cl, fp))⟩,
    hP _ _ fun i => (h i.1 i.2.1 i.2.2.1 i.2.2.2.1 i.2.2.2.2).choose_spec.2⟩
abbrev GSem (K : PySem.W.Frag) (T : Tgt) (g : TG) : Prop := ∀ (σ : L2.St) (H : Hp) (ρ ρ' : Env) (ω : List Ow) (fs : Nat → List Addr) (W0 : Addr → Prop) (v : V) (d : D) (Q : L2.St → Hp → Prop), EnvR K H W0 σ ρ ω fs → Rp K H (Wa W0 fs) v d → bindT T d ρ = some ρ' →
  (∀ σ' fs', EnvR K H W0 σ' ρ' (T.om ω) fs' → (∀ i a, a ∈ fs' i → a ∈ fs i) → (∀ i, i ∉ T.sl → fs' i = fs i) → But T.sl σ σ' → Q σ' H) → g v σ H Q
abbrev TSem (K : PySem.W.Frag) (ω : List Ow) (mc : Env → Option Bool) (tt : TT) : Prop := ∀ (σ : L2.St) (H : Hp) (ρ : Env) (fs : Nat → List Addr) (W0 : Addr → Prop) (b : Bool) (Q : Bool → Hp → Prop), EnvR K H W0 σ ρ ω fs → mc ρ = some b → (∀ H', Same H H' → Q b H') → tt σ H Q
abbrev ESem (K : PySem.W.Frag) (ω : List Ow) (me : Env → Option D) (κ : RK) (L : List Nat) (te : TE) : Prop := ∀ (σ : L2.St) (H : Hp) (ρ : Env) (fs : Nat → List Addr) (W0 : Addr → Prop) (d : D) (Q : VK), EnvR K H W0 σ ρ ω fs → me ρ = some d → (∀ v H' fe, EPost K H (Wl W0 fs L) κ d v H' fe → Q v H') → te σ H Q
/-- what a comprehension's parts are to be -/
structure CompOk (X : Cx) (ω : List Ow) (elt tg iter : Expr) (ifs : List Expr) (scope : Scope) (own : List (Str × Nat)) (T : Tgt) (mi : Env → Option (List D)) (L0 : List Nat) (mc : Env → Option Bool) (me : Env → Option D) (κ : RK) (Le : List Nat) : Prop where
  hκ : κ ≠ .vw
  hT : ∀ i ∈ T.sl, i ∈ own.map (·.2)
  calm : X.calm = true
  nd : X.N.Nodup
  blk : BlkOk X.N X.env.scope scope own
  it : EI X ω tg iter mi L0
  tgt : ∀ s H C cl fp, EG (BX X scope s H C cl fp) tg T
  tst : ∀ s H C cl fp, PTsD (BX X scope s H C cl fp) (T.om (frz (own.map (·.2)) (frz L0 ω))) ifs mc
  el : ∀ s H C cl fp, EP (BX X scope s H C cl fp) (T.om (frz (own.map (·.2)) (frz L0 ω))) elt me κ Le
  hs : ∀ x, foldedSetIterable iter X.env x = pure x
def compD (vs : List Nat) (T : Tgt) (mi : Env → Option (List D)) (mc : Env → Option Bool) (me : Env → Option D) : Env → Option D := fun ρ => (mi ρ).bind fun ds => (compM T mc me (wipeE ρ vs) ds).map D.lst
theorem CompOk.read {elt tg iter : Expr} {ifs : List Expr} {scope : Scope} {own : List (Str × Nat)} {T : Tgt} {mi : Env → Option (List D)} {L0 : List Nat} {mc : Env → Option Bool} {me : Env → Option D} {κ : RK} {Le : List Nat} (C : CompOk X ω elt tg iter ifs scope own T mi L0 mc me κ Le) :
    ∃ wi g tt te, PI X tg iter wi ∧ (∀ s H C cl fp, PG (BX X scope s H C cl fp) tg g) ∧ (∀ s H C cl fp, PTs (BX X scope s H C cl fp) ifs tt) ∧ (∀ s H C cl fp, PE (BX X scope s H C cl fp) elt te) ∧
      ∀ (σ : L2.St) (H : Hp) (ρ : Env) (fs : Nat → List Addr) (W0 : Addr → Prop) (d : D) (Q : VK), EnvR X.K H W0 σ ρ ω fs → compD (own.map (·.2)) T mi mc me ρ = some d →
        (∀ v H' fe, EPost X.K H (Wl W0 fs (L0 ++ Le)) (compK κ) d v H' fe → Q v H') → tLc wi g tt te (own.map (·.2)) σ H Q := by
  obtain ⟨wi, pi, qi⟩ := C.it.ex
  obtain ⟨g, pg, qg⟩ := all_pg (P := GSem X.K T) (fun s H c cl fp => (C.tgt s H c cl fp).ex) (fun I f h σ H ρ ρ' ω fs W0 v d Q E r e k i => h i σ H ρ ρ' ω fs W0 v d Q E r e k)
  obtain ⟨tt, pt, qt⟩ := all_pt (P := TSem X.K (T.om (frz (own.map (·.2)) (frz L0 ω))) mc) (fun s H c cl fp => (C.tst s H c cl fp).ex) (fun I f h σ H ρ fs W0 b Q E e k i => h i σ H ρ fs W0 b Q E e k)
  obtain ⟨te, pe, qe⟩ := all_pe (P := ESem X.K (T.om (frz (own.map (·.2)) (frz L0 ω))) me κ Le) (fun s H c cl fp => (C.el s H c cl fp).ex) (fun I f h σ H ρ fs W0 d Q E e k i => h i σ H ρ fs W0 d Q E e k)
  refine ⟨wi, g, tt, te, pi, pg, pt, pe, fun σ H ρ fs W0 d Q E em k => ?_⟩
  obtain ⟨ds, e1, e2⟩ := Option.bind_eq_some_iff.mp em
  obtain ⟨ys, e3, rfl⟩ := Option.map_eq_some_iff.mp e2
  exact comp_read C.hκ C.hT qi qg qt qe E e1 e3 k
/-! ### calls of defs -/
def roK : Ow → RK
  | .lst e => .own e
  | _ => .fz
/-- a def's promise, by its data -/
def spF (K : PySem.W.Frag) (φ : List D → Option D) (ro : Ow) (n : Nat) : Sp := fun vs H Q _ => vs.length = n ∧ ∃ (ds : List D) (d : D) (W : Addr → Prop), Tk H W ∧ RpL K H W vs ds ∧ φ ds = some d ∧
  ∀ v H' fe, EPost K H W (roK ro) d v H' fe → Q v H'
structure FnAv (X : Cx) (x : Str) (n : Nat) (φ : List D → Option D) (ro : Ow) : Prop where
  ex : ∃ (fa : Addr) (fd : FuncData) (ps : List Str) (k : Nat), X.mg x = some (.ref fa) ∧ PySem.W.keepIn X.K (.ref fa) = true ∧ Binds X.K fd ps [] ∧ FnOk X.prog X.w X.K X.mg X.base CX0 k fa fd ps (spF X.K φ ro n) ∧ Room k X.A
theorem star_no (pos : Pos) (env : PySem.Env) : ∀ es : List Expr, (∀ e ∈ es, ∀ v p, e ≠ .Starred v p) → (backTo pos (starEach es env)).any (·.1) = false
  | [], _ => rfl
  | e :: es, h => by
    rw [star_ok (h e List.mem_cons_self)]
    have := star_no pos env es fun e he => h e (List.mem_cons_of_mem _ he)
    unfold backTo at *
    rw [List.map_cons, List.any_cons, this]; rfl
theorem ep_call {x : Str} {p pos : Pos} {es : List Expr} {ms : Env → Option (List D)} {L : List Nat} {n : Nat} {φ : List D → Option D} {ro : Ow} (F : FnAv X x n φ ro) (hg : Gl X x) (hdb : (x == ("__debug__" : Str)) = false) (hs : ∀ e ∈ es, ∀ v p, e ≠ .Starred v p) (hl : es.length = n)
    (hml : ∀ ρ ds, ms ρ = some ds → ds.length = es.length) (h : EFs X ω es ms L) : EP X ω (.Call (.Name x p) es [] pos) (fun ρ => (ms ρ).bind φ) (roK ro) L := by
  obtain ⟨fa, fd, ps, k, h1, h2, h3, h4, h5⟩ := F.ex
  obtain ⟨t, pt, qt⟩ := h.ex
  cases es with
  | nil =>
    refine ⟨_, pe_call0 h4 h5 hg h1 h2 h3 .nil pass0 hdb, fun σ H ρ fs W0 d Q E em k => ?_⟩
    obtain ⟨ds, e1, e2⟩ := Option.bind_eq_some_iff.mp em
    have : ds = [] := List.eq_nil_of_length_eq_zero (hml ρ ds e1)
    subst this
    exact ⟨hl, [], d, Wl W0 fs L, E.wl, .nil, e2, k⟩
  | cons e es =>
    refine ⟨_, pe_call h4 h5 hg h1 h2 h3 .nil pass0 pt hdb (star_ok (hs e (by simp))) (star_no _ _ _ fun e he => hs e (List.mem_cons_of_mem _ he)), fun σ H ρ fs W0 d Q E em k => ?_⟩
    obtain ⟨ds, e1, e2⟩ := Option.bind_eq_some_iff.mp em
    refine qt σ H ρ fs W0 ds _ E e1 fun vs H' s R => ?_
    show spF X.K φ ro n (vs ++ []) H' Q E0
    rw [List.append_nil]
    exact ⟨by rw [R.length, hml ρ ds e1, hl], ds, d, _, tk_same E.wl s, R, e2, fun v H2 fe P => k v H2 fe (.trans s P)⟩
end PV

set_option Elab.async false
set_option linter.all false
set_option maxRecDepth 100000
set_option autoImplicit false
set_option maxHeartbeats 4000000
/-! Value semantics: statements. -/
namespace PV
open PySem PySem.Spec PyProof.Rows L2
variable {X : Cx} {ω : List Ow}

/-! ### less is owned -/
def Ow.le : Ow → Ow → Bool
  | _, .no => true
  | .top, _ => true
  | .lst e, .lst e' => Ow.le e e'
  | _, _ => false
def Ow.meet : Ow → Ow → Ow
  | .no, _ => .no
  | _, .no => .no
  | .top, x => x
  | x, .top => x
  | .lst e, .lst e' => .lst (Ow.meet e e')
theorem Ow.le_refl : ∀ o : Ow, Ow.le o o = true
  | .no => rfl
  | .top => rfl
  | .lst e => by show Ow.le e e = true; exact Ow.le_refl e
theorem Ow.le_meet1 : ∀ o p : Ow, Ow.le o (Ow.meet o p) = true
  | .no, p => by cases p <;> rfl
  | .top, p => by cases p <;> rfl
  | .lst e, .no => rfl
  | .lst e, .top => Ow.le_refl (.lst e)
  | .lst e, .lst e' => by show Ow.le e (Ow.meet e e') = true; exact Ow.le_meet1 e e'
theorem Ow.le_meet2 : ∀ o p : Ow, Ow.le p (Ow.meet o p) = true
  | .no, p => by cases p <;> rfl
  | .top, .no => rfl
  | .top, .top => rfl
  | .top, .lst e => Ow.le_refl (.lst e)
  | .lst e, .no => rfl
  | .lst e, .top => rfl
  | .lst e, .lst e' => by show Ow.le e' (Ow.meet e e') = true; exact Ow.le_meet2 e e'
section
variable {K : PySem.W.Frag} {H : Hp} {W : Addr → Prop}
mutual
theorem RpO.weak : ∀ {v : V} {d : D} {o o' : Ow} {f : List Addr}, RpO K H W v d o f → f.Nodup → Ow.le o o' = true → ∃ f', f'.Sublist f ∧ ∀ W' : Addr → Prop, (∀ a, W' a → W a) → (∀ a ∈ f, a ∉ f' → ¬ W' a) → RpO K H W' v d o' f'
  | v, d, o, .no, f, r, _, _ => ⟨[], List.nil_sublist _, fun W' hw hn => .no (r.freeze hw fun a ha => hn a ha (by simp))⟩
  | _, _, .no, .top, _, _, _, h => by cases h
  | _, _, .no, .lst _, _, _, _, h => by cases h
  | _, _, .top, .top, _, r, _, _ => by cases r
  | _, _, .top, .lst _, _, r, _, _ => by cases r
  | _, _, .lst _, .top, _, _, _, h => by cases h
  | _, _, .lst e, .lst e', _, .at r n, _, h => ⟨[], List.nil_sublist _, fun W' hw hn => .at (r.less hw) n⟩
  | _, _, .lst e, .lst e', _, .lst (a := p) h0 r, nd, h => by
    obtain ⟨n1, n2⟩ := List.nodup_cons.mp nd
    obtain ⟨f', hf, q⟩ := RpOL.weak r n2 (show Ow.le e e' = true from h)
    refine ⟨_ :: f', hf.cons_cons _, fun W' hw hn => .lst h0 (q W' hw fun a ha hn' => hn a (List.mem_cons_of_mem _ ha) fun q => (List.mem_cons.mp q).elim (fun e => n1 (e ▸ ha)) hn')⟩
theorem RpOL.weak : ∀ {vs : List V} {ds : List D} {o o' : Ow} {f : List Addr}, RpOL K H W vs ds o f → f.Nodup → Ow.le o o' = true → ∃ f', f'.Sublist f ∧ ∀ W' : Addr → Prop, (∀ a, W' a → W a) → (∀ a ∈ f, a ∉ f' → ¬ W' a) → RpOL K H W' vs ds o' f'
  | _, _, _, _, _, .nil, _, _ => ⟨[], List.Sublist.refl _, fun _ _ _ => .nil⟩
  | _, _, _, _, _, .cons r s, nd, h => by
    obtain ⟨n1, n2, n3⟩ := List.nodup_append.mp nd
    obtain ⟨f', hf, q⟩ := RpO.weak r n1 h
    obtain ⟨g', hg, q2⟩ := RpOL.weak s n2 h
    refine ⟨f' ++ g', hf.append hg, fun W' hw hn => .cons (q W' hw fun a ha hn' => ?_) (q2 W' hw fun a ha hn' => ?_)⟩
    · refine hn a (List.mem_append_left _ ha) fun z => ?_
      rcases List.mem_append.mp z with z | z
      · exact hn' z
      · exact n3 a ha a (hg.subset z) rfl
    · refine hn a (List.mem_append_right _ ha) fun z => ?_
      rcases List.mem_append.mp z with z | z
      · exact n3 a (hf.subset z) a ha rfl
      · exact hn' z
end
/-- slots by less owned -/
def omLe (ω ω' : List Ow) : Prop := ∀ i, Ow.le (ω.getD i .no) (ω'.getD i .no) = true
theorem EnvR.weak {W0 : Addr → Prop} {σ : L2.St} {ρ : Env} {ω' : List Ow} {fs : Nat → List Addr} (E : EnvR K H W0 σ ρ ω fs) (h : omLe ω ω') : ∃ fs' : Nat → List Addr, (∀ i a, a ∈ fs' i → a ∈ fs i) ∧ EnvR K H W0 σ ρ ω' fs' := by
  have sel : ∀ i, ∃ f' : List Addr, f'.Sublist (fs i) ∧ ∀ d, ρ[i]? = some (some d) → ∃ v, σ[i]? = some (some v) ∧ ∀ W' : Addr → Prop, (∀ a, W' a → Wa W0 fs a) → (∀ a ∈ fs i, a ∉ f' → ¬ W' a) → RpO K H W' v d (ω'.getD i .no) f' := fun i => by
    by_cases q : ∃ d, ρ[i]? = some (some d)
    · obtain ⟨d, e⟩ := q
      obtain ⟨v, h1, r⟩ := E.sl i d e
      obtain ⟨f', hf, w⟩ := r.weak (E.nd i) (h i)
      refine ⟨f', hf, fun d' e' => ?_⟩
      rw [e] at e'; cases e'
      exact ⟨v, h1, w⟩
    · exact ⟨[], List.nil_sublist _, fun d e => absurd ⟨d, e⟩ q⟩
  refine ⟨fun i => (sel i).choose, fun i a z => (sel i).choose_spec.1.subset z, E.len, fun i d e => ?_, fun i hn => ?_, E.w0, fun i a z => E.dis0 i a ((sel i).choose_spec.1.subset z), fun i j a z z' => E.dis i j a ((sel i).choose_spec.1.subset z) ((sel j).choose_spec.1.subset z'), fun i => (E.nd i).sublist (sel i).choose_spec.1⟩
  · obtain ⟨v, h1, w⟩ := (sel i).choose_spec.2 d e
    refine ⟨v, h1, w _ (fun a z => z.imp id fun ⟨j, n, z⟩ => ⟨j, n, (sel j).choose_spec.1.subset z⟩) fun a ha hn z => ?_⟩
    rcases z with z | ⟨j, _, z⟩
    · exact E.dis0 i a ha z
    · have := E.dis i j a ha ((sel j).choose_spec.1.subset z)
      subst this
      exact hn z
  · have := (sel i).choose_spec.1
    have q : ∀ l : List Addr, l.Sublist (fs i) → l = [] := fun l s => by
      rw [E.nil i hn] at s
      exact List.sublist_nil.mp s
    exact q _ this
end
def meets : List Ow → List Ow → List Ow
  | a :: r, b :: s => Ow.meet a b :: meets r s
  | _, _ => []
theorem le_meets1 : ∀ ω ω' : List Ow, omLe ω (meets ω ω')
  | [], _, i => by cases i <;> rfl
  | a :: r, [], i => by show Ow.le _ .no = true; cases ((a :: r).getD i .no) <;> rfl
  | a :: r, b :: s, 0 => Ow.le_meet1 a b
  | a :: r, b :: s, i + 1 => le_meets1 r s i
theorem le_meets2 : ∀ ω ω' : List Ow, omLe ω' (meets ω ω')
  | [], ω', i => by show Ow.le _ .no = true; cases (ω'.getD i .no) <;> rfl
  | a :: r, [], i => by show Ow.le _ .no = true; cases (([] : List Ow).getD i .no) <;> rfl
  | a :: r, b :: s, 0 => Ow.le_meet2 a b
  | a :: r, b :: s, i + 1 => le_meets2 r s i
def omLeB : List Ow → List Ow → Bool
  | a :: r, b :: s => Ow.le a b && omLeB r s
  | [], [] => true
  | _, _ => false
theorem omLe_of : ∀ {ω ω' : List Ow}, omLeB ω ω' = true → omLe ω ω'
  | [], [], _ => fun i => rfl
  | a :: r, b :: s, h => by
    have h' : (Ow.le a b && omLeB r s) = true := h
    rw [Bool.and_eq_true] at h'
    intro i
    cases i with
    | zero => exact h'.1
    | succ i => exact omLe_of h'.2 i
  | [], _ :: _, h => by cases h
  | _ :: _, [], h => by cases h

/-! ### statements -/
inductive Out where
  | nx (ρ : Env) | rt (d : D) | bk (ρ : Env) | ct (ρ : Env)
/-- where one goes on, by what is owned there -/
structure Fl where
  nx : Option (List Ow)
  bk : Option (List Ow) := none
  ct : Option (List Ow) := none
structure Ch (H : Hp) (fs : Nat → List Addr) (H' : Hp) (fs' : Nat → List Addr) : Prop where
  keep : ∀ a o, H a = some o → (∀ i, a ∉ fs i) → H' a = some o
  new : ∀ i a, a ∈ fs' i → (∃ j, a ∈ fs j) ∨ H a = none
theorem Ch.refl (H : Hp) (fs : Nat → List Addr) : Ch H fs H fs := ⟨fun _ _ e _ => e, fun i a z => .inl ⟨i, z⟩⟩
theorem Ch.trans {H H1 H2 : Hp} {fs fs1 fs2 : Nat → List Addr} (a : Ch H fs H1 fs1) (b : Ch H1 fs1 H2 fs2) : Ch H fs H2 fs2 where
  keep := fun p o e n => b.keep p o (a.keep p o e n) fun i z => by
    rcases a.new i p z with ⟨j, z⟩ | z
    · exact n j z
    · rw [e] at z; cases z
  new := fun i p z => by
    rcases b.new i p z with ⟨j, z⟩ | z
    · exact a.new j p z
    · by_cases q : ∃ j, p ∈ fs j
      · exact .inl q
      · refine .inr ?_
        cases e : H p with
        | none => rfl
        | some o => rw [a.keep p o e fun i z => q ⟨i, z⟩] at z; cases z
theorem Ch.sub {H : Hp} {fs fs' : Nat → List Addr} (h : ∀ i a, a ∈ fs' i → a ∈ fs i) : Ch H fs H fs' := ⟨fun _ _ e _ => e, fun i a z => .inl ⟨i, h i a z⟩⟩
theorem Ch.of_same {H H' : Hp} {fs : Nat → List Addr} (s : Same H H') : Ch H fs H' fs := ⟨fun a o e _ => s a o e, fun i a z => .inl ⟨i, z⟩⟩
/-- what a return leaves -/
structure RPost (K : PySem.W.Frag) (H : Hp) (fs : Nat → List Addr) (W0 : Addr → Prop) (ro : Ow) (d : D) (v : V) (H' : Hp) (fe : List Addr) : Prop where
  keep : ∀ a o, H a = some o → (∀ i, a ∉ fs i) → H' a = some o
  new : ∀ a ∈ fe, (∃ j, a ∈ fs j) ∨ H a = none
  nd : fe.Nodup
  rp : RpO K H' (fun a => W0 a ∨ a ∈ fe) v d ro fe
theorem RPost.after {K : PySem.W.Frag} {H H1 H2 : Hp} {fs fs1 : Nat → List Addr} {W0 : Addr → Prop} {ro : Ow} {d : D} {v : V} {fe : List Addr} (c : Ch H fs H1 fs1) (r : RPost K H1 fs1 W0 ro d v H2 fe) : RPost K H fs W0 ro d v H2 fe where
  keep := (c.trans (fs2 := fun _ => []) ⟨r.keep, fun _ _ z => by cases z⟩).keep
  new := fun a ha => (c.trans (H2 := H2) (fs2 := fun _ => fe) ⟨r.keep, fun _ a z => r.new a z⟩).new 0 a ha
  nd := r.nd
  rp := r.rp
abbrev SSem (K : PySem.W.Frag) (ω : List Ow) (m : Env → Option Out) (F : Fl) (ro : Ow) (t : TS) : Prop := ∀ (σ : L2.St) (H : Hp) (ρ : Env) (fs : Nat → List Addr) (W0 : Addr → Prop) (out : Out) (D : Ends), EnvR K H W0 σ ρ ω fs → m ρ = some out →
  (∀ ρ' ω' σ' H' fs', out = .nx ρ' → F.nx = some ω' → Ch H fs H' fs' → EnvR K H' W0 σ' ρ' ω' fs' → D.nx σ' H') →
  (∀ ρ' ω' σ' H' fs', out = .bk ρ' → F.bk = some ω' → Ch H fs H' fs' → EnvR K H' W0 σ' ρ' ω' fs' → D.bk σ' H') →
  (∀ ρ' ω' σ' H' fs', out = .ct ρ' → F.ct = some ω' → Ch H fs H' fs' → EnvR K H' W0 σ' ρ' ω' fs' → D.ct σ' H') →
  (∀ d v H' fe, out = .rt d → RPost K H fs W0 ro d v H' fe → D.rt v H') → t D σ H
structure S1 (X : Cx) (ω : List Ow) (s : Stmt) (m : Env → Option Out) (F : Fl) (ro : Ow) : Prop where
  ex : ∃ t : TS, PS X s t ∧ SSem X.K ω m F ro t
structure SB (X : Cx) (ω : List Ow) (ss : List Stmt) (m : Env → Option Out) (F : Fl) (ro : Ow) : Prop where
  ex : ∃ t : TS, PSs X ss t ∧ SSem X.K ω m F ro t
section
variable {ro : Ow}
theorem ps_len {s : Stmt} {t : TS} (h : PS X s t) : PS X s (fun D σ H => σ.length = X.N.length → t D σ H) := ⟨fun pins s σ H D I q => h.run pins s σ H D I (q I.len)⟩
theorem pe_len {e : Expr} {t : TE} (h : PE X e t) : PE X e (fun σ H Q => σ.length = X.N.length → t σ H Q) := ⟨fun pins s σ H D I q => h.run pins s σ H D I (q I.len)⟩
theorem ep_comp {elt tg iter : Expr} {ifs : List Expr} {scope : Scope} {own : List (Str × Nat)} {pos : Pos} {T : Tgt} {mi : Env → Option (List D)} {L0 : List Nat} {mc : Env → Option Bool} {me : Env → Option D} {κ : RK} {Le : List Nat} (C : CompOk X ω elt tg iter ifs scope own T mi L0 mc me κ Le) :
    EP X ω (.ListComp elt [⟨tg, iter, ifs, 0⟩] scope pos) (compD (own.map (·.2)) T mi mc me) (compK κ) (L0 ++ Le) := by
  obtain ⟨wi, g, tt, te, pi, pg, pt, pe, q⟩ := C.read
  exact ⟨_, pe_lc C.calm C.nd pi C.blk pg pt pe C.hs, fun σ H ρ fs W0 d Q E em k => q σ H ρ fs W0 d Q E em k⟩
theorem sb_nil : SB X ω [] (fun ρ => some (.nx ρ)) ⟨some ω, none, none⟩ ro :=
  ⟨_, pss_nil, fun σ H ρ fs W0 out D E em k1 k2 k3 k4 => by cases em; exact k1 ρ ω σ H fs rfl rfl (Ch.refl H fs) E⟩
def seqM (m1 m2 : Env → Option Out) : Env → Option Out := fun ρ => (m1 ρ).bind fun o => match o with
  | .nx ρ' => m2 ρ'
  | o => some o
def joinO : Option (List Ow) → Option (List Ow) → Option (List Ow)
  | some a, some b => some (meets a b)
  | some a, none => some a
  | none, b => b
theorem joinO1 {a b : Option (List Ow)} {x : List Ow} (h : a = some x) : ∃ y, joinO a b = some y ∧ omLe x y := by
  subst h
  cases b with
  | none => exact ⟨x, rfl, fun i => Ow.le_refl _⟩
  | some b => exact ⟨_, rfl, le_meets1 x b⟩
theorem joinO2 {a b : Option (List Ow)} {x : List Ow} (h : b = some x) : ∃ y, joinO a b = some y ∧ omLe x y := by
  subst h
  cases a with
  | none => exact ⟨x, rfl, fun i => Ow.le_refl _⟩
  | some a => exact ⟨_, rfl, le_meets2 a x⟩
theorem sb_cons {s : Stmt} {rest : List Stmt} {m1 m2 : Env → Option Out} {F1 F2 : Fl} {ω1 : List Ow} (h1 : S1 X ω s m1 F1 ro) (hn : F1.nx = some ω1) (h2 : SB X ω1 rest m2 F2 ro) : SB X ω (s :: rest) (seqM m1 m2) ⟨F2.nx, joinO F1.bk F2.bk, joinO F1.ct F2.ct⟩ ro := by
  obtain ⟨t, p, q⟩ := h1.ex
  obtain ⟨t2, p2, q2⟩ := h2.ex
  refine ⟨_, pss_cons p p2, fun σ H ρ fs W0 out D E em k1 k2 k3 k4 => ?_⟩
  obtain ⟨o1, e1, e2⟩ := Option.bind_eq_some_iff.mp em
  refine q σ H ρ fs W0 o1 _ E e1 (fun ρ' ω' σ' H' fs' ho hF c E' => ?_) (fun ρ' ω' σ' H' fs' ho hF c E' => ?_) (fun ρ' ω' σ' H' fs' ho hF c E' => ?_) (fun d v H' fe ho r => ?_)
  · subst ho
    rw [hn] at hF; cases hF
    refine q2 σ' H' ρ' fs' W0 out D E' e2 (fun ρ2 ω2 σ2 H2 fs2 h f c2 E2 => k1 ρ2 ω2 σ2 H2 fs2 h f (c.trans c2) E2) (fun ρ2 ω2 σ2 H2 fs2 h f c2 E2 => ?_) (fun ρ2 ω2 σ2 H2 fs2 h f c2 E2 => ?_) fun d v H2 fe h r => k4 d v H2 fe h (r.after c)
    · obtain ⟨y, hy, hle⟩ := joinO2 (a := F1.bk) f
      obtain ⟨fs3, hs, E3⟩ := E2.weak hle
      exact k2 ρ2 y σ2 H2 fs3 h hy ((c.trans c2).trans (Ch.sub hs)) E3
    · obtain ⟨y, hy, hle⟩ := joinO2 (a := F1.ct) f
      obtain ⟨fs3, hs, E3⟩ := E2.weak hle
      exact k3 ρ2 y σ2 H2 fs3 h hy ((c.trans c2).trans (Ch.sub hs)) E3
  · subst ho
    have : out = .bk ρ' := by cases e2; rfl
    obtain ⟨y, hy, hle⟩ := joinO1 (b := F2.bk) hF
    obtain ⟨fs3, hs, E3⟩ := E'.weak hle
    exact k2 ρ' y σ' H' fs3 this hy (c.trans (Ch.sub hs)) E3
  · subst ho
    have : out = .ct ρ' := by cases e2; rfl
    obtain ⟨y, hy, hle⟩ := joinO1 (b := F2.ct) hF
    obtain ⟨fs3, hs, E3⟩ := E'.weak hle
    exact k3 ρ' y σ' H' fs3 this hy (c.trans (Ch.sub hs)) E3
  · subst ho
    have : out = .rt d := by cases e2; rfl
    exact k4 d v H' fe this r
/-- behind a statement that never goes on -/
theorem sb_end {s : Stmt} {rest : List Stmt} {m1 m2 : Env → Option Out} {F1 : Fl} (h1 : S1 X ω s m1 F1 ro) (hn : F1.nx = none) : SB X ω (s :: rest) (seqM m1 m2) ⟨none, F1.bk, F1.ct⟩ ro := by
  obtain ⟨t, p, q⟩ := h1.ex
  refine ⟨_, pss_cons p pss_never, fun σ H ρ fs W0 out D E em k1 k2 k3 k4 => ?_⟩
  obtain ⟨o1, e1, e2⟩ := Option.bind_eq_some_iff.mp em
  refine q σ H ρ fs W0 o1 _ E e1 (fun ρ' ω' σ' H' fs' ho hF c E' => ?_) (fun ρ' ω' σ' H' fs' ho hF c E' => ?_) (fun ρ' ω' σ' H' fs' ho hF c E' => ?_) (fun d v H' fe ho r => ?_)
  · rw [hn] at hF; cases hF
  · subst ho
    exact k2 ρ' ω' σ' H' fs' (by cases e2; rfl) hF c E'
  · subst ho
    exact k3 ρ' ω' σ' H' fs' (by cases e2; rfl) hF c E'
  · subst ho
    exact k4 d v H' fe (by cases e2; rfl) r
theorem s_pass {pos : Pos} : S1 X ω (.Pass pos) (fun ρ => some (.nx ρ)) ⟨some ω, none, none⟩ ro :=
  ⟨_, ps_pass, fun σ H ρ fs W0 out D E em k1 k2 k3 k4 => by cases em; exact k1 ρ ω σ H fs rfl rfl (Ch.refl H fs) E⟩
theorem s_break {pos : Pos} : S1 X ω (.Break pos) (fun ρ => some (.bk ρ)) ⟨none, some ω, none⟩ ro :=
  ⟨_, ps_break, fun σ H ρ fs W0 out D E em k1 k2 k3 k4 => by cases em; exact k2 ρ ω σ H fs rfl rfl (Ch.refl H fs) E⟩
theorem s_continue {pos : Pos} : S1 X ω (.Continue pos) (fun ρ => some (.ct ρ)) ⟨none, none, some ω⟩ ro :=
  ⟨_, ps_continue, fun σ H ρ fs W0 out D E em k1 k2 k3 k4 => by cases em; exact k3 ρ ω σ H fs rfl rfl (Ch.refl H fs) E⟩
/-- what a value that was reckoned owns, beside the slots -/
def koO : RK → Ow
  | .own e => .lst e
  | _ => .no
theorem EPost.own {K : PySem.W.Frag} {H H' : Hp} {W : Addr → Prop} {κ : RK} {d : D} {v : V} {fe : List Addr} (P : EPost K H W κ d v H' fe) (hκ : κ ≠ .vw) : RpO K H' (fun a => W a ∨ a ∈ fe) v d (koO κ) fe := by
  have r := P.rp
  cases κ with
  | vw => exact absurd rfl hκ
  | fz =>
    have r' : fe = [] ∧ Rp K H' W v d := r
    obtain ⟨e, r1⟩ := r'
    subst e
    exact .no (r1.less fun a z => z.elim id fun z => by cases z)
  | own e => exact r
theorem EPost.w {K : PySem.W.Frag} {H H' : Hp} {W : Addr → Prop} {κ : RK} {d : D} {v : V} {fe : List Addr} (P : EPost K H W κ d v H' fe) {W0 : Addr → Prop} (hW : Tk H W0) : ∀ a ∈ fe, ¬ W0 a := fun a ha => tk_free hW (P.new a ha)
/-- return e -/
theorem s_ret {e : Expr} {m : Env → Option D} {κ : RK} {L : List Nat} {pos : Pos} (h : EP X ω e m κ L) (hκ : κ ≠ .vw) (hr : Ow.le (koO κ) ro = true) : S1 X ω (.Return (some e) pos) (fun ρ => (m ρ).map Out.rt) ⟨none, none, none⟩ ro := by
  obtain ⟨t, p, q⟩ := h.ex
  refine ⟨_, ps_ret p, fun σ H ρ fs W0 out D E em k1 k2 k3 k4 => ?_⟩
  obtain ⟨d, e1, rfl⟩ := Option.map_eq_some_iff.mp em
  refine q σ H ρ fs W0 d _ E e1 fun v H' fe P => ?_
  obtain ⟨f', hf, w⟩ := (P.own hκ).weak P.nd hr
  refine k4 d v H' f' rfl ⟨fun a o e _ => P.same a o e, fun a ha => .inr (P.new a (hf.subset ha)), P.nd.sublist hf, w _ (fun a z => ?_) fun a ha hn z => ?_⟩
  · rcases z with z | z
    · exact .inl (.inl z)
    · exact .inr (hf.subset z)
  · rcases z with z | z
    · exact P.w E.w0 a ha z
    · exact hn z
/-- return x, with what it owns -/
theorem s_retO {i : Nat} {x : Str} {p1 pos : Pos} (h : PE X (.Name x p1) (tVar i)) (hr : Ow.le (ω.getD i .no) ro = true) : S1 X ω (.Return (some (.Name x p1)) pos) (fun ρ => ((ρ[i]?).join).map Out.rt) ⟨none, none, none⟩ ro := by
  refine ⟨_, ps_ret h, fun σ H ρ fs W0 out D E em k1 k2 k3 k4 => ?_⟩
  obtain ⟨d, e1, rfl⟩ := Option.map_eq_some_iff.mp em
  obtain ⟨v, h1, r⟩ := E.sl i d (join_some e1)
  obtain ⟨f', hf, w⟩ := r.weak (E.nd i) hr
  refine ⟨v, h1, k4 d v H f' rfl ⟨fun a o e _ => e, fun a ha => .inl ⟨i, hf.subset ha⟩, (E.nd i).sublist hf, w _ (fun a z => ?_) fun a ha hn z => ?_⟩⟩
  · rcases z with z | z
    · exact .inl z
    · exact .inr ⟨i, by simp, hf.subset z⟩
  · rcases z with z | z
    · exact E.dis0 i a ha z
    · exact hn z
theorem s_retN {pos : Pos} (hr : ro = .no) : S1 X ω (.Return none pos) (fun _ => some (.rt .non)) ⟨none, none, none⟩ ro := by
  subst hr
  exact ⟨_, ps_retN, fun σ H ρ fs W0 out D E em k1 k2 k3 k4 => by
    cases em
    exact k4 .non .non H [] rfl ⟨fun a o e _ => e, nn, List.nodup_nil, .no .non⟩⟩
/-- an expression whose value is dropped -/
theorem s_expr {e : Expr} {m : Env → Option D} {κ : RK} {L : List Nat} {pos : Pos} (h : EP X ω e m κ L) (hs : swapsWith e none pos.line X.env = pure false) : S1 X ω (.Expr e pos) (fun ρ => (m ρ).map fun _ => .nx ρ) ⟨some ω, none, none⟩ ro := by
  obtain ⟨t, p, q⟩ := h.ex
  refine ⟨_, ps_expr p hs, fun σ H ρ fs W0 out D E em k1 k2 k3 k4 => ?_⟩
  obtain ⟨d, e1, rfl⟩ := Option.map_eq_some_iff.mp em
  exact q σ H ρ fs W0 d _ E e1 fun v H' fe P => k1 ρ ω σ H' fs rfl rfl (Ch.of_same P.same) (E.same P.same)
/-- x = e -/
theorem EnvR.assign {K : PySem.W.Frag} {H H' : Hp} {W0 : Addr → Prop} {σ : L2.St} {ρ : Env} {fs : Nat → List Addr} {L : List Nat} {κ : RK} {d : D} {v : V} {fe : List Addr} {i : Nat} (E : EnvR K H W0 σ ρ ω fs) (P : EPost K H (Wl W0 fs L) κ d v H' fe) (hκ : κ ≠ .vw) (hi : i < ω.length) (hiρ : i < ρ.length) :
    EnvR K H' W0 (σ.set i (some v)) (ρ.set i (some d)) ((PV.frz L ω).set i (koO κ)) (puF i fe (frF L fs)) := by
  have E1 := (E.frz L).more P.same P.new P.tracked
  refine EnvR.put E1 (.inl (by rw [frz_len]; exact hi)) ((P.own hκ).less fun a z => ?_) P.nd (tk_same E.w0 P.same) (fun a ha => P.w E.w0 a ha) hiρ
  rcases z with (z | ⟨j, _, z⟩) | z
  · exact .inl (.inl z)
  · exact .inl (.inr ⟨j, (mem_frF.mp z).1, (mem_frF.mp z).2⟩)
  · exact .inr z
theorem Ch.assign {K : PySem.W.Frag} {H H' : Hp} {W : Addr → Prop} {fs : Nat → List Addr} {L : List Nat} {κ : RK} {d : D} {v : V} {fe : List Addr} {i : Nat} (P : EPost K H W κ d v H' fe) : Ch H fs H' (puF i fe (frF L fs)) :=
  ⟨fun a o e _ => P.same a o e, fun j a z => (mem_puF.mp z).elim (fun z => .inr (P.new a z.2)) fun z => .inl ⟨j, (mem_frF.mp z.2).2⟩⟩
theorem s_set {i : Nat} {x : Str} {e : Expr} {m : Env → Option D} {κ : RK} {L : List Nat} {pos pos' : Pos} (hp : ∀ te, PE X e te → PS X (.Assign [.Name x pos'] e pos) (tAsg te (gName i))) (h : EP X ω e m κ L) (hκ : κ ≠ .vw) (hi : i < ω.length) (hiN : i < X.N.length) :
    S1 X ω (.Assign [.Name x pos'] e pos) (fun ρ => (m ρ).map fun d => .nx (ρ.set i (some d))) ⟨some ((frz L ω).set i (koO κ)), none, none⟩ ro := by
  obtain ⟨t, p, q⟩ := h.ex
  refine ⟨_, ps_len (hp t p), fun σ H ρ fs W0 out D E em k1 k2 k3 k4 hl => ?_⟩
  obtain ⟨d, e1, rfl⟩ := Option.map_eq_some_iff.mp em
  exact q σ H ρ fs W0 d _ E e1 fun v H' fe P => k1 _ _ _ H' _ rfl rfl (Ch.assign (i := i) (L := L) P) (E.assign P hκ hi (by rw [← E.len]; omega))
/-- x = [.. for ..] on one line -/
theorem s_setC {i : Nat} {y : Str} {py pos spos : Pos} {elt tg iter : Expr} {ifs : List Expr} {scope : Scope} {own : List (Str × Nat)} {T : Tgt} {mi : Env → Option (List D)} {L0 : List Nat} {mc : Env → Option Bool} {me : Env → Option D} {κ : RK} {Le : List Nat} (C : CompOk X ω elt tg iter ifs scope own T mi L0 mc me κ Le)
    (hy : X.N[i]? = some y) (hyl : X.env.scope.names.lookup y = some .local) (hsw : swapsWith (.ListComp elt [⟨tg, iter, ifs, 0⟩] scope pos) (some (.Name y py)) spos.line X.env = pure true) (hi : i < ω.length) (hiN : i < X.N.length) :
    S1 X ω (.Assign [.Name y py] (.ListComp elt [⟨tg, iter, ifs, 0⟩] scope pos) spos) (fun ρ => (compD (own.map (·.2)) T mi mc me ρ).map fun d => .nx (ρ.set i (some d))) ⟨some ((frz (L0 ++ Le) ω).set i (koO (compK κ))), none, none⟩ ro := by
  obtain ⟨wi, g, tt, te, pi, pg, pt, pe, q⟩ := C.read
  refine ⟨_, ps_len (ps_setLc C.calm C.nd hy hyl hsw pi C.blk pg pt pe C.hs), fun σ H ρ fs W0 out D E em k1 k2 k3 k4 hl => ?_⟩
  obtain ⟨d, e1, rfl⟩ := Option.map_eq_some_iff.mp em
  exact q σ H ρ fs W0 d _ E e1 fun v H' fe P => k1 _ _ _ H' _ rfl rfl (Ch.assign (i := i) (L := L0 ++ Le) P) (E.assign P (by rw [compK_eq]; exact fun h => nomatch h) hi (by rw [← E.len]; omega))
end
end PV

set_option Elab.async false
set_option linter.all false
set_option maxRecDepth 100000
set_option autoImplicit false
set_option maxHeartbeats 4000000
/-! Value semantics: branches, loops, stores into lists, several targets. -/
namespace PV
open PySem PySem.Spec PyProof.Rows L2
variable {X : Cx} {ω : List Ow} {ro : Ow}

/-! ### if -/
def ifM (c : Env → Option Bool) (a b : Env → Option Out) : Env → Option Out := fun ρ => (c ρ).bind fun k => if k = true then a ρ else b ρ
theorem s_if {c : Expr} {a b : List Stmt} {mc : Env → Option Bool} {ma mb : Env → Option Out} {Fa Fb : Fl} {pos : Pos} (hc : ET X ω c mc) (ha : SB X ω a ma Fa ro) (hb : SB X ω b mb Fb ro) :
    S1 X ω (.If c a b pos) (ifM mc ma mb) ⟨joinO Fa.nx Fb.nx, joinO Fa.bk Fb.bk, joinO Fa.ct Fb.ct⟩ ro := by
  obtain ⟨t, p, q⟩ := hc.ex
  obtain ⟨ta, pa, qa⟩ := ha.ex
  obtain ⟨tb, pb, qb⟩ := hb.ex
  refine ⟨_, ps_if p pa pb, fun σ H ρ fs W0 out D E em k1 k2 k3 k4 => ?_⟩
  obtain ⟨c, e1, em⟩ := Option.bind_eq_some_iff.mp em
  refine q σ H ρ fs W0 c _ E e1 fun H1 s1 => ?_
  have C1 := Ch.of_same (fs := fs) s1
  cases c with
  | true =>
    rw [if_pos rfl] at em ⊢
    refine qa σ H1 ρ fs W0 out D (E.same s1) em (fun ρ' ω' σ' H' fs' h f c E' => ?_) (fun ρ' ω' σ' H' fs' h f c E' => ?_) (fun ρ' ω' σ' H' fs' h f c E' => ?_) fun d v H' fe h r => k4 d v H' fe h (r.after C1)
    · obtain ⟨y, hy, hle⟩ := joinO1 (b := Fb.nx) f
      obtain ⟨fs3, hs, E3⟩ := E'.weak hle
      exact k1 ρ' y σ' H' fs3 h hy ((C1.trans c).trans (Ch.sub hs)) E3
    · obtain ⟨y, hy, hle⟩ := joinO1 (b := Fb.bk) f
      obtain ⟨fs3, hs, E3⟩ := E'.weak hle
      exact k2 ρ' y σ' H' fs3 h hy ((C1.trans c).trans (Ch.sub hs)) E3
    · obtain ⟨y, hy, hle⟩ := joinO1 (b := Fb.ct) f
      obtain ⟨fs3, hs, E3⟩ := E'.weak hle
      exact k3 ρ' y σ' H' fs3 h hy ((C1.trans c).trans (Ch.sub hs)) E3
  | false =>
    rw [if_neg Bool.false_ne_true] at em ⊢
    refine qb σ H1 ρ fs W0 out D (E.same s1) em (fun ρ' ω' σ' H' fs' h f c E' => ?_) (fun ρ' ω' σ' H' fs' h f c E' => ?_) (fun ρ' ω' σ' H' fs' h f c E' => ?_) fun d v H' fe h r => k4 d v H' fe h (r.after C1)
    · obtain ⟨y, hy, hle⟩ := joinO2 (a := Fa.nx) f
      obtain ⟨fs3, hs, E3⟩ := E'.weak hle
      exact k1 ρ' y σ' H' fs3 h hy ((C1.trans c).trans (Ch.sub hs)) E3
    · obtain ⟨y, hy, hle⟩ := joinO2 (a := Fa.bk) f
      obtain ⟨fs3, hs, E3⟩ := E'.weak hle
      exact k2 ρ' y σ' H' fs3 h hy ((C1.trans c).trans (Ch.sub hs)) E3
    · obtain ⟨y, hy, hle⟩ := joinO2 (a := Fa.ct) f
      obtain ⟨fs3, hs, E3⟩ := E'.weak hle
      exact k3 ρ' y σ' H' fs3 h hy ((C1.trans c).trans (Ch.sub hs)) E3

/-! ### for -/
def forM (T : Tgt) (b : Env → Option Out) : List D → Env → Option Out
  | [], ρ => some (.nx ρ)
  | x :: xs, ρ => (bindT T x ρ).bind fun ρ1 => (b ρ1).bind fun o => match o with
    | .nx ρ2 => forM T b xs ρ2
    | .ct ρ2 => forM T b xs ρ2
    | .bk ρ2 => some (.nx ρ2)
    | .rt d => some (.rt d)
def okO (a : Option (List Ow)) (ω : List Ow) : Prop := ∀ x, a = some x → omLe x ω
theorem s_for {tg iter : Expr} {body : List Stmt} {mi : Env → Option (List D)} {L : List Nat} {T : Tgt} {mb : Env → Option Out} {Fb : Fl} {pos : Pos} {ωl : List Ow} (hp : PassesOwn (model X.prog X.w) X.A X.env X.xe) (hc : X.calm = true)
    (hi : EI X ω tg iter mi L) (hg : EG X tg T) (hl : omLe (frz L ω) ωl) (hb : SB X (T.om ωl) body mb Fb ro) (h1 : okO Fb.nx ωl) (h2 : okO Fb.ct ωl) (hs : ∀ x, foldedSetIterable iter X.env x = pure x) :
    S1 X ω (.For tg iter body [] pos) (fun ρ => (mi ρ).bind fun ds => forM T mb ds ρ) ⟨joinO (some ωl) Fb.bk, none, none⟩ ro := by
  obtain ⟨wi, pi, qi⟩ := hi.ex
  obtain ⟨g, pg, qg⟩ := hg.ex
  obtain ⟨tb, pb, qb⟩ := hb.ex
  refine ⟨_, ps_for hp hc pi pg pb hs, fun σ H ρ fs W0 out D E em k1 k2 k3 k4 => ?_⟩
  obtain ⟨ds, e1, em⟩ := Option.bind_eq_some_iff.mp em
  refine qi σ H ρ fs W0 ds _ E e1 fun J H1 s1 IR => ?_
  obtain ⟨fs1, hs1, E1⟩ := ((E.same s1).frz L).weak hl
  have C1 : Ch H fs H1 fs1 := (Ch.of_same s1).trans (Ch.sub fun i a z => (mem_frF.mp (hs1 i a z)).2)
  let Iv : Nat → L2.St → Hp → Prop := fun i σ2 H2 => ∃ ρ2 fs2, i ≤ ds.length ∧ Ch H1 fs1 H2 fs2 ∧ EnvR X.K H2 W0 σ2 ρ2 ωl fs2 ∧ forM T mb (ds.drop i) ρ2 = some out
  refine ⟨fun i m σ2 H2 => m = ds.length - i ∧ Iv i σ2 H2, ⟨ds.length, by simp, ρ, fs1, Nat.zero_le _, Ch.refl _ _, E1, em⟩, ?_⟩
  rintro i m σ2 H2 ⟨rfl, ρ2, fs2, hle, C2, E2, e2⟩
  have keep : ∀ a o, H1 a = some o → ¬ Wl W0 fs L a → H2 a = some o := fun a o e n => C2.keep a o e fun i z => n (.inr ⟨i, (mem_frF.mp (hs1 i a z)).1, (mem_frF.mp (hs1 i a z)).2⟩)
  by_cases hlt : i < ds.length
  · obtain ⟨hgo, hy⟩ := IR.go H2 keep i _ (List.getElem?_eq_getElem hlt)
    refine .inr ⟨hgo, Iv (i + 1), fun σ' H' w => ⟨ds.length - (i + 1), by omega, rfl, w⟩, fun x H3 y => ?_⟩
    obtain ⟨s23, rx⟩ := hy x H3 y
    rw [List.drop_eq_getElem_cons hlt] at e2
    unfold forM at e2
    obtain ⟨ρ3, e3, e2⟩ := Option.bind_eq_some_iff.mp e2
    obtain ⟨o, e4, e2⟩ := Option.bind_eq_some_iff.mp e2
    have E3 := E2.same s23
    have C3 : Ch H1 fs1 H3 fs2 := C2.trans (Ch.of_same s23)
    refine qg σ2 H3 ρ2 ρ3 ωl fs2 W0 x _ _ E3 (rx _ (fun a z => ?_) E3.wl) e3 fun σ4 fs4 E4 hf4 _ _ => ?_
    · rcases z with z | ⟨j, _, z⟩
      · exact .inl (.inl z)
      · rcases C2.new j a z with ⟨j2, z⟩ | z
        · exact .inl (.inr ⟨j2, (mem_frF.mp (hs1 j2 a z)).1, (mem_frF.mp (hs1 j2 a z)).2⟩)
        · exact .inr z
    · have C4 : Ch H1 fs1 H3 fs4 := C3.trans (Ch.sub hf4)
      refine qb σ4 H3 ρ3 fs4 W0 o _ E4 e4 (fun ρ' ω' σ' H' fs' ho f c E' => ?_) (fun ρ' ω' σ' H' fs' ho f c E' => ?_) (fun ρ' ω' σ' H' fs' ho f c E' => ?_) fun d v H' fe ho r => ?_
      · subst ho
        obtain ⟨fs5, hs5, E5⟩ := E'.weak (h1 ω' f)
        exact ⟨ρ', fs5, hlt, (C4.trans c).trans (Ch.sub hs5), E5, e2⟩
      · subst ho
        cases e2
        obtain ⟨y, hy, hle⟩ := joinO2 (a := some ωl) f
        obtain ⟨fs5, hs5, E5⟩ := E'.weak hle
        exact k1 ρ' y σ' H' fs5 rfl hy (((C1.trans C4).trans c).trans (Ch.sub hs5)) E5
      · subst ho
        obtain ⟨fs5, hs5, E5⟩ := E'.weak (h2 ω' f)
        exact ⟨ρ', fs5, hlt, (C4.trans c).trans (Ch.sub hs5), E5, e2⟩
      · subst ho
        cases e2
        exact k4 d v H' fe rfl ((r.after C4).after C1)
  · have ei : i = ds.length := by omega
    subst ei
    rw [List.drop_length] at e2
    unfold forM at e2
    cases e2
    obtain ⟨y, hy, hle⟩ := joinO1 (b := Fb.bk) (rfl : some ωl = some ωl)
    obtain ⟨fs5, hs5, E5⟩ := E2.weak hle
    exact .inl ⟨IR.stop H2 keep _ (Nat.le_refl _), k1 ρ2 y σ2 H2 fs5 rfl hy ((C1.trans C2).trans (Ch.sub hs5)) E5⟩

/-! ### while -/
def whileM (c : Env → Option Bool) (b : Env → Option Out) : Nat → Env → Option Out
  | 0, _ => none
  | n + 1, ρ => (c ρ).bind fun k => if k = true then (b ρ).bind fun o => match o with
      | .nx ρ2 => whileM c b n ρ2
      | .ct ρ2 => whileM c b n ρ2
      | .bk ρ2 => some (.nx ρ2)
      | .rt d => some (.rt d)
    else some (.nx ρ)
theorem s_while {c : Expr} {body : List Stmt} {mc : Env → Option Bool} {mb : Env → Option Out} {Fb : Fl} {pos : Pos} {ωl : List Ow} {n : Nat} (hp : PassesOwn (model X.prog X.w) X.A X.env X.xe) (hl : omLe ω ωl) (hc : ET X ωl c mc) (hb : SB X ωl body mb Fb ro) (h1 : okO Fb.nx ωl) (h2 : okO Fb.ct ωl) :
    S1 X ω (.While c body [] pos) (whileM mc mb n) ⟨joinO (some ωl) Fb.bk, none, none⟩ ro := by
  obtain ⟨tc, pc, qc⟩ := hc.ex
  obtain ⟨tb, pb, qb⟩ := hb.ex
  refine ⟨_, ps_while hp pc pb, fun σ H ρ fs W0 out D E em k1 k2 k3 k4 => ?_⟩
  obtain ⟨fs1, hs1, E1⟩ := E.weak hl
  have C1 : Ch H fs H fs1 := Ch.sub hs1
  let Iv : Nat → L2.St → Hp → Prop := fun m σ2 H2 => ∃ ρ2 fs2, Ch H fs H2 fs2 ∧ EnvR X.K H2 W0 σ2 ρ2 ωl fs2 ∧ whileM mc mb m ρ2 = some out
  refine ⟨Iv, ⟨n, ρ, fs1, C1, E1, em⟩, ?_⟩
  rintro m σ2 H2 ⟨ρ2, fs2, C2, E2, e2⟩
  cases m with
  | zero => unfold whileM at e2; cases e2
  | succ m =>
    unfold whileM at e2
    obtain ⟨k, e3, e2⟩ := Option.bind_eq_some_iff.mp e2
    refine qc σ2 H2 ρ2 fs2 W0 k _ E2 e3 fun H3 s3 => ?_
    have E3 := E2.same s3
    have C3 : Ch H fs H3 fs2 := C2.trans (Ch.of_same s3)
    cases k with
    | true =>
      rw [if_pos rfl] at e2 ⊢
      obtain ⟨o, e4, e2⟩ := Option.bind_eq_some_iff.mp e2
      refine ⟨Iv m, fun σ' H' w => ⟨m, Nat.lt_succ_self m, w⟩, ?_⟩
      refine qb σ2 H3 ρ2 fs2 W0 o _ E3 e4 (fun ρ' ω' σ' H' fs' ho f c E' => ?_) (fun ρ' ω' σ' H' fs' ho f c E' => ?_) (fun ρ' ω' σ' H' fs' ho f c E' => ?_) fun d v H' fe ho r => ?_
      · subst ho
        obtain ⟨fs5, hs5, E5⟩ := E'.weak (h1 ω' f)
        exact ⟨ρ', fs5, (C3.trans c).trans (Ch.sub hs5), E5, e2⟩
      · subst ho
        cases e2
        obtain ⟨y, hy, hle⟩ := joinO2 (a := some ωl) f
        obtain ⟨fs5, hs5, E5⟩ := E'.weak hle
        exact k1 ρ' y σ' H' fs5 rfl hy ((C3.trans c).trans (Ch.sub hs5)) E5
      · subst ho
        obtain ⟨fs5, hs5, E5⟩ := E'.weak (h2 ω' f)
        exact ⟨ρ', fs5, (C3.trans c).trans (Ch.sub hs5), E5, e2⟩
      · subst ho
        cases e2
        exact k4 d v H' fe rfl (r.after C3)
    | false =>
      rw [if_neg Bool.false_ne_true] at e2 ⊢
      cases e2
      obtain ⟨y, hy, hle⟩ := joinO1 (b := Fb.bk) (rfl : some ωl = some ωl)
      obtain ⟨fs5, hs5, E5⟩ := E3.weak hle
      exact k1 ρ2 y σ2 H3 fs5 rfl hy (C3.trans (Ch.sub hs5)) E5

/-! ### x += e: numbers, texts -/
def iaddD : D → D → Option D
  | .int i, .int j => some (.int (i + j))
  | .str x, .str y => if szOk (x.length + y.length) then some (.str (x ++ y)) else none
  | _, _ => none
def rIAdd : R2 := fun x y H Q => rI0 (fun i j => .int (i + j)) x y H Q ∨ ∃ i j, x = .str i ∧ y = .str j ∧ i.length + j.length ≤ sizeLine ∧ Q (.str (i ++ j)) H
theorem iop_addA : OpR X (inplaceOp .Add) rIAdd := iop_add.or iop_add_str
theorem opv_iadd : OpV X rIAdd iaddD .fz := by
  intro H W x y a b d Q hW ra rb e k
  unfold iaddD at e
  split at e
  · cases e
    rw [ra.int, rb.int]
    exact .inl ⟨_, _, rfl, rfl, k _ _ _ (.rpv (.int _))⟩
  · split at e
    · rename_i z
      cases e
      obtain ⟨rfl, o1⟩ := ra.str
      obtain ⟨rfl, o2⟩ := rb.str
      exact .inr ⟨_, _, rfl, rfl, szOk_le z, k _ _ _ (.rpv (.str _ (strOk_app o1 o2)))⟩
    · cases e
  · cases e
theorem s_aug {i : Nat} {x : Str} {e : Expr} {op : Operator} {m : Env → Option D} {κ : RK} {L : List Nat} {r : R2} {φ : D → D → Option D} {pos' pos : Pos} (hN : X.N.Nodup) (hx : X.N[i]? = some x) (hl : Loc X.env.scope x) (hf : X.fn x = true ∨ X.env.scope.names.lookup x = some .local) (ho : OpR X (inplaceOp op) r) (hv : OpV X r φ .fz)
    (h : EP X ω e m κ L) (hi : i < ω.length) (hL : L = []) :
    S1 X ω (.AugAssign (.Name x pos') op e pos) (fun ρ => ((ρ[i]?).join).bind fun a => (m ρ).bind fun b => (φ a b).map fun d => .nx (ρ.set i (some d))) ⟨some (ω.set i .no), none, none⟩ ro := by
  subst hL
  obtain ⟨t, p, q⟩ := h.ex
  refine ⟨_, ps_len (ps_aug hN hx hl p (fun pins s σ H x y v u Q I rx ry h => ho pins s σ H x y v u Q I rx ry h) hf), fun σ H ρ fs W0 out D E em k1 k2 k3 k4 hlen => ?_⟩
  obtain ⟨a, e1, em⟩ := Option.bind_eq_some_iff.mp em
  obtain ⟨b, e2, em⟩ := Option.bind_eq_some_iff.mp em
  obtain ⟨d, e3, rfl⟩ := Option.map_eq_some_iff.mp em
  obtain ⟨v, h1, rv⟩ := E.sl i a (join_some e1)
  refine ⟨v, h1, q σ H ρ fs W0 b _ E e2 fun u H1 fe P => ?_⟩
  have E1 := E.same P.same
  have rb := P.view E.wl
  obtain ⟨v2, h2, rv2⟩ := E1.sl i a (join_some e1)
  rw [h1] at h2
  cases h2
  have hiN : i < X.N.length := (List.getElem?_eq_some_iff.mp hx).1
  -- the old value, kept off what it owns itself
  have ra : RpE X.K H1 (Wl W0 fs [i]) v a := .inl (rv2.freeze (fun a z => z.mono (by simp)) fun p hp z => by
    rcases z with z | ⟨j, n, z⟩
    · exact E1.dis0 i p hp z
    · exact n (by rw [E1.dis i j p hp z]; simp))
  refine hv H1 (Wl W0 fs [i]) v u a b d _ E1.wl ra (rb.mono (Same.refl _) fun a z => .inl (z.mono (by simp))) e3 fun z H2 fe2 P2 => ?_
  have E2 := E1.assign (i := i) P2 (fun h => nomatch h) hi (by rw [← E1.len]; omega)
  have e : frz [i] ω = ω.set i .no := by
    refine List.ext_getElem? fun j => ?_
    unfold frz
    rw [List.getElem?_mapIdx, List.getElem?_set]
    by_cases hj : i = j
    · subst hj
      rw [if_pos rfl, if_pos hi, List.getElem?_eq_getElem hi]
      simp
    · rw [if_neg hj]
      cases ω[j]? with
      | none => rfl
      | some o => simp [Ne.symm hj]
  rw [e] at E2
  have : (ω.set i Ow.no).set i (koO RK.fz) = ω.set i Ow.no := by simp [koO]
  rw [this] at E2
  exact k1 _ _ _ H2 _ rfl rfl ((Ch.of_same P.same).trans (Ch.assign (i := i) (L := [i]) P2)) E2

/-! ### a list changes where it stands -/
theorem EnvR.write {K : PySem.W.Frag} {H H' : Hp} {W0 : Addr → Prop} {σ : L2.St} {ρ : Env} {fs : Nat → List Addr} {i : Nat} {v : V} {d' : D} {o' : Ow} {fe f' : List Addr} (E : EnvR K H (fun a => W0 a ∨ a ∈ fe) σ ρ ω fs) (hv : σ[i]? = some (some v)) (hi : i < ω.length) (hiρ : i < ρ.length) (hfe : ∀ a ∈ fe, ¬ W0 a)
    (keep : ∀ a o, H a = some o → a ∉ fs i → H' a = some o) (r : RpO K H' (Wa W0 (puF i f' fs)) v d' o' f') (hf : ∀ a ∈ f', a ∈ fs i ∨ a ∈ fe) (nd : f'.Nodup) : EnvR K H' W0 σ (ρ.set i (some d')) (ω.set i o') (puF i f' fs) := by
  refine ⟨by simp [E.len], fun j d e => ?_, fun j h => ?_, fun a z => ?_, fun j a h => ?_, fun j k a h h' => ?_, fun j => ?_⟩
  · by_cases hj : j = i
    · subst hj
      rw [List.getElem?_set_self hiρ] at e
      cases e
      have ef : puF j f' fs j = f' := if_pos rfl
      exact ⟨v, hv, by rw [getD_set_self (.inl hi), ef]; exact r⟩
    · rw [List.getElem?_set_ne (Ne.symm hj)] at e
      obtain ⟨u, h1, r1⟩ := E.sl j d e
      have ef : puF i f' fs j = fs j := if_neg hj
      refine ⟨u, h1, ?_⟩
      rw [ef, getD_set_ne hj]
      refine r1.mono (fun a z => ?_) fun a o e z => keep a o e fun q => ?_
      · rcases wa_puF z with (z | z) | z
        · exact .inl (.inl (.inl z))
        · exact .inl (.inr z)
        · rcases hf a z with z | z
          · exact .inl (.inr ⟨i, by simp, z⟩)
          · exact .inl (.inl (.inr z))
      · rcases z with z | z
        · exact z (.inr ⟨i, by simp, q⟩)
        · exact hj (E.dis j i a z q)
  · by_cases hj : j = i
    · subst hj
      exact absurd (List.getElem?_set_self hiρ) (h d')
    · have ef : puF i f' fs j = fs j := if_neg hj
      rw [ef]
      exact E.nil j fun d e => h d (by rw [List.getElem?_set_ne (Ne.symm hj)]; exact e)
  · obtain ⟨o, e, m⟩ := E.w0 a (.inl z)
    exact ⟨o, keep a o e fun q => E.dis0 i a q (.inl z), m⟩
  · rcases mem_puF.mp h with ⟨_, h⟩ | ⟨_, h⟩
    · rcases hf a h with h | h
      · exact fun z => E.dis0 i a h (.inl z)
      · exact hfe a h
    · exact fun z => E.dis0 j a h (.inl z)
  · rcases mem_puF.mp h with ⟨h0, h⟩ | ⟨h0, h⟩
    · rcases mem_puF.mp h' with ⟨h1, h'⟩ | ⟨h1, h'⟩
      · rw [h0, h1]
      · rcases hf a h with h | h
        · exact absurd (E.dis i k a h h').symm h1
        · exact absurd (.inr h) (E.dis0 k a h')
    · rcases mem_puF.mp h' with ⟨h1, h'⟩ | ⟨h1, h'⟩
      · rcases hf a h' with h' | h'
        · exact absurd (E.dis i j a h' h).symm h0
        · exact absurd (.inr h') (E.dis0 j a h)
      · exact E.dis j k a h h'
  · unfold puF
    split
    · exact nd
    · exact E.nd j
/-- x.append(e) -/
def appM (a b : D) : Option D := match a with
  | .lst xs => if szOk (xs.length + 1) then some (.lst (xs ++ [b])) else none
  | _ => none
theorem s_append {i : Nat} {x : Str} {e : Expr} {m : Env → Option D} {κ : RK} {L : List Nat} {eo : Ow} {p1 p2 p3 p4 : Pos} (hx : PE X (.Name x p1) (tVar i)) (h : EP X ω e m κ L) (hs : ∀ v p, e ≠ .Starred v p) (hln : (p2.endLine == p3.line) = true) (hκ : κ ≠ .vw) (ho : ω.getD i .no = .lst eo) (hi : i < ω.length) (hL : i ∉ L) :
    S1 X ω (.Expr (.Call (.Attribute (.Name x p1) "append" p2) [e] [] p3) p4) (fun ρ => ((ρ[i]?).join).bind fun a => (m ρ).bind fun b => (appM a b).map fun d => .nx (ρ.set i (some d))) ⟨some ((frz L ω).set i (.lst (Ow.meet eo (koO κ)))), none, none⟩ ro := by
  obtain ⟨t, p, q⟩ := h.ex
  refine ⟨_, ps_expr (pe_bm PySem.F.plainAttrs_list PySem.F.slot_list_append PySem.F.type_list_append mt_append hx (pa_cons p pa_nil (star_ok hs)) rfl (by rw [star_ok hs]; rfl) hln (star_ok hs) rfl), fun σ H ρ fs W0 out D E em k1 k2 k3 k4 => ?_⟩
  obtain ⟨a, e1, em⟩ := Option.bind_eq_some_iff.mp em
  obtain ⟨b, e2, em⟩ := Option.bind_eq_some_iff.mp em
  obtain ⟨d, e3, rfl⟩ := Option.map_eq_some_iff.mp em
  obtain ⟨v, h1, rv⟩ := E.sl i a (join_some e1)
  cases a with
  | lst xs =>
    have e3 : (if szOk (xs.length + 1) = true then some (PV.D.lst (xs ++ [b])) else none) = some d := e3
    split at e3
    · rename_i hz
      cases e3
      rw [ho] at rv
      generalize hfi : fs i = fi at rv
      cases rv with
      | «at» _ n => exact absurd rfl (n _)
      | lst hp rl =>
        rename_i p0 vs f
        refine ⟨_, h1, .inl ⟨rfl, vs, .inl (.inl hp)⟩, q σ H ρ fs W0 b _ E e2 fun u H1 fe P => ?_⟩
        have E1 := (E.frz L).more P.same P.new P.tracked
        have hp1 := P.same _ _ hp
        have hfi1 : frF L fs i = p0 :: f := by unfold frF; rw [if_neg hL]; exact hfi
        refine ⟨p0, vs, u, rfl, rfl, hp1, by rw [rl.length]; have := szOk_le hz; omega, ?_⟩
        have nd := E.nd i
        rw [hfi] at nd
        obtain ⟨n1, n2⟩ := List.nodup_cons.mp nd
        obtain ⟨f', hf', w1⟩ := rl.weak n2 (Ow.le_meet1 eo (koO κ))
        obtain ⟨fe', hfe', w2⟩ := (P.own hκ).weak P.nd (Ow.le_meet2 eo (koO κ))
        have nfe : ∀ a ∈ fe, ∀ j, a ∉ fs j := fun a ha j z => by
          obtain ⟨ys, e⟩ := E.tr z
          rw [P.new a ha] at e; cases e
        have inf : ∀ a, a ∈ p0 :: f → a ∈ fs i := fun a z => by rw [hfi]; exact z
        have wsub : ∀ a, Wa W0 (puF i (p0 :: (f' ++ fe')) (frF L fs)) a → (Wa W0 fs a ∨ a ∈ fe) ∧ (a ∈ f → a ∈ f') ∧ (a ∈ fe → a ∈ fe') ∧ (Wl W0 fs L a ∨ a ∈ fe) := fun a z => by
          have lf : a ∈ f → a ∈ fs i := fun z => inf a (List.mem_cons_of_mem _ z)
          rcases z with z | ⟨j, _, z⟩
          · exact ⟨.inl (.inl z), fun q => absurd z (E.dis0 i a (lf q)), fun q => absurd z (P.w E.w0 a q), .inl (.inl z)⟩
          · rcases mem_puF.mp z with ⟨_, z⟩ | ⟨hj, z⟩
            · rcases List.mem_cons.mp z with z | z
              · subst z
                exact ⟨.inl (.inr ⟨i, by simp, inf _ (by simp)⟩), fun q => absurd q n1, fun q => absurd (inf _ (by simp)) (nfe _ q i), .inl (.inr ⟨i, hL, inf _ (by simp)⟩)⟩
              · rcases List.mem_append.mp z with z | z
                · have zf := hf'.subset z
                  exact ⟨.inl (.inr ⟨i, by simp, lf zf⟩), fun _ => z, fun q => absurd (lf zf) (nfe a q i), .inl (.inr ⟨i, hL, lf zf⟩)⟩
                · have zf := hfe'.subset z
                  exact ⟨.inr zf, fun q => absurd (lf q) (nfe a zf i), fun _ => z, .inr zf⟩
            · obtain ⟨nj, z⟩ := mem_frF.mp z
              exact ⟨.inl (.inr ⟨j, by simp, z⟩), fun q => absurd (E.dis i j a (lf q) z).symm hj, fun q => absurd z (nfe a q j), .inl (.inr ⟨j, nj, z⟩)⟩
        have up : ∀ a o, H1 a = some o → a ≠ p0 → upd H1 p0 (.lst (vs ++ [u])) a = some o := fun a o e n => by rw [upd_ne n]; exact e
        have E2 := EnvR.write (i := i) (o' := .lst (Ow.meet eo (koO κ))) (d' := .lst (xs ++ [b])) (f' := p0 :: (f' ++ fe')) (H' := upd H1 p0 (.lst (vs ++ [u]))) E1 h1 (by rw [frz_len]; exact hi) (List.getElem?_eq_some_iff.mp (join_some e1)).1 (fun a ha => P.w E.w0 a ha) (fun a o e n => up a o e fun z => n (by rw [hfi1, z]; simp)) (.lst upd_same ?_) (fun a z => ?_) ?_
        · exact k1 _ _ _ _ _ rfl rfl ⟨fun a o e n => up a o (P.same a o e) fun z => n i (inf a (by rw [z]; simp)), fun j a z => (mem_puF.mp z).elim (fun z => (List.mem_cons.mp z.2).elim (fun e => .inl ⟨i, inf a (by rw [e]; simp)⟩) fun z => (List.mem_append.mp z).elim (fun z => .inl ⟨i, inf a (List.mem_cons_of_mem _ (hf'.subset z))⟩) fun z => .inr (P.new a (hfe'.subset z))) fun z => .inl ⟨j, (mem_frF.mp z.2).2⟩⟩ E2
        · -- the items
          have old : RpOL X.K (upd H1 p0 (.lst (vs ++ [u]))) (Wa W0 (puF i (p0 :: (f' ++ fe')) (frF L fs))) vs xs (Ow.meet eo (koO κ)) f' := by
            have w0 := w1 (fun a => Wa W0 (puF i (p0 :: (f' ++ fe')) (frF L fs)) a ∧ Wa W0 fs a) (fun a z => z.2) fun a ha hn z => hn ((wsub a z.1).2.1 ha)
            refine w0.mono (fun a z => ?_) fun a o e z => up a o (P.same a o e) fun q => ?_
            · rcases (wsub a z).1 with y | y
              · exact .inl ⟨z, y⟩
              · exact .inr (P.new a y)
            · subst q
              rcases z with z | z
              · exact z ⟨.inr ⟨i, by simp, mem_puF.mpr (.inl ⟨rfl, by simp⟩)⟩, .inr ⟨i, by simp, inf _ (by simp)⟩⟩
              · exact n1 (hf'.subset z)
          have new : RpO X.K (upd H1 p0 (.lst (vs ++ [u]))) (Wa W0 (puF i (p0 :: (f' ++ fe')) (frF L fs))) u b (Ow.meet eo (koO κ)) fe' := by
            have w0 := w2 (Wa W0 (puF i (p0 :: (f' ++ fe')) (frF L fs))) (fun a z => (wsub a z).2.2.2) fun a ha hn z => hn ((wsub a z).2.2.1 ha)
            refine w0.mono (fun a z => .inl z) fun a o e z => up a o e fun q => ?_
            subst q
            rcases z with z | z
            · exact z (.inr ⟨i, by simp, mem_puF.mpr (.inl ⟨rfl, by simp⟩)⟩)
            · exact nfe _ (hfe'.subset z) i (inf _ (by simp))
          exact old.append (by simpa using RpOL.cons (g := []) new .nil)
        · rw [hfi1]
          rcases List.mem_cons.mp z with z | z
          · exact .inl (by rw [z]; simp)
          · rcases List.mem_append.mp z with z | z
            · exact .inl (List.mem_cons_of_mem _ (hf'.subset z))
            · exact .inr (hfe'.subset z)
        · refine List.nodup_cons.mpr ⟨fun z => ?_, List.nodup_append.mpr ⟨n2.sublist hf', P.nd.sublist hfe', fun a ha b hb e => ?_⟩⟩
          · rcases List.mem_append.mp z with z | z
            · exact n1 (hf'.subset z)
            · exact nfe _ (hfe'.subset z) i (inf _ (by simp))
          · subst e
            exact nfe a (hfe'.subset hb) i (inf a (List.mem_cons_of_mem _ (hf'.subset ha)))
    · cases e3
  | non => cases e3
  | bl _ => cases e3
  | int _ => cases e3
  | str _ => cases e3
  | tup _ => cases e3
  | scr _ => cases e3
end PV

set_option Elab.async false
set_option linter.all false
set_option maxRecDepth 100000
set_option autoImplicit false
set_option maxHeartbeats 4000000
/-! Value semantics: several names at once. -/
namespace PV
open PySem PySem.Spec PyProof.Rows L2
variable {X : Cx} {ω : List Ow} {ro : Ow}

theorem PS.imp {s : Stmt} {t t' : TS} (h : PS X s t) (hi : ∀ D σ H, t' D σ H → t D σ H) : PS X s t' := ⟨fun pins s σ H D I q => h.run pins s σ H D I (hi D σ H q)⟩
/-! ### arguments, each with what it owns -/
inductive ROs (K : PySem.W.Frag) (H : Hp) (W : Addr → Prop) : List RK → List D → List V → List (List Addr) → Prop
  | nil : ROs K H W [] [] [] []
  | cons {κ : RK} {d : D} {v : V} {f : List Addr} {κs : List RK} {ds : List D} {vs : List V} {fes : List (List Addr)} : RpO K H W v d (koO κ) f → ROs K H W κs ds vs fes → ROs K H W (κ :: κs) (d :: ds) (v :: vs) (f :: fes)
theorem ROs.mono {K : PySem.W.Frag} {H H' : Hp} {W W' : Addr → Prop} (s : Same H H') (hw : ∀ a, W' a → W a ∨ H a = none) : ∀ {κs : List RK} {ds : List D} {vs : List V} {fes : List (List Addr)}, ROs K H W κs ds vs fes → ROs K H' W' κs ds vs fes
  | _, _, _, _, .nil => .nil
  | _, _, _, _, .cons r q => .cons (r.same s hw) (ROs.mono s hw q)
theorem ROs.tracked {K : PySem.W.Frag} {H : Hp} {W : Addr → Prop} : ∀ {κs : List RK} {ds : List D} {vs : List V} {fes : List (List Addr)}, ROs K H W κs ds vs fes → ∀ a ∈ fes.flatten, ∃ xs, H a = some (.lst xs)
  | _, _, _, _, .nil, _, h => by cases h
  | _, _, _, _, .cons r q, a, h => by
    rw [List.flatten_cons] at h
    rcases List.mem_append.mp h with h | h
    · exact r.tracked a h
    · exact q.tracked a h
structure EOs (X : Cx) (ω : List Ow) (es : List Expr) (m : Env → Option (List D)) (κs : List RK) (L : List Nat) : Prop where
  ex : ∃ t : TA, PA X es t ∧ ∀ (σ : L2.St) (H : Hp) (ρ : Env) (fs : Nat → List Addr) (W0 : Addr → Prop) (ds : List D) (Q : List V → Hp → Prop), EnvR X.K H W0 σ ρ ω fs → m ρ = some ds →
    (∀ vs H' fes, Same H H' → (∀ a ∈ fes.flatten, H a = none) → fes.flatten.Nodup → ROs X.K H' (fun a => Wl W0 fs L a ∨ a ∈ fes.flatten) κs ds vs fes → Q vs H') → t σ H Q
theorem eos_nil : EOs X ω [] (fun _ => some []) [] [] := ⟨_, pa_nil, fun σ H ρ fs W0 ds Q E e k => by cases e; exact k [] H [] (Same.refl H) nn List.nodup_nil .nil⟩
theorem eos_cons {e : Expr} {es : List Expr} {ma : Env → Option D} {mr : Env → Option (List D)} {κ : RK} {κs : List RK} {La Lr : List Nat} (hκ : κ ≠ .vw) (hs : ∀ v p, e ≠ .Starred v p) (ha : EP X ω e ma κ La) (hr : EOs X ω es mr κs Lr) : EOs X ω (e :: es) (consM ma mr) (κ :: κs) (La ++ Lr) := by
  obtain ⟨ta, pa, qa⟩ := ha.ex
  obtain ⟨tr, pr, qr⟩ := hr.ex
  refine ⟨_, pa_cons pa pr (star_ok hs), fun σ H ρ fs W0 ds Q E em k => ?_⟩
  obtain ⟨x, ex, em⟩ := Option.bind_eq_some_iff.mp em
  obtain ⟨r, er, em⟩ := Option.bind_eq_some_iff.mp em
  cases em
  refine qa σ H ρ fs W0 x _ E ex fun v H1 fe P1 => ?_
  have E1 := E.more P1.same P1.new P1.tracked
  refine qr σ H1 ρ fs _ r _ E1 er fun vs H2 fes s2 hn nd R2 => ?_
  have dis : ∀ a ∈ fe, a ∉ fes.flatten := fun a ha z => by
    obtain ⟨o, e, _⟩ := P1.tracked a ha
    rw [hn a z] at e; cases e
  refine k (v :: vs) H2 (fe :: fes) (P1.same.trans s2) (fun a z => ?_) ?_ (.cons ?_ ?_)
  · rw [List.flatten_cons] at z
    rcases List.mem_append.mp z with z | z
    · exact P1.new a z
    · exact P1.same.free (hn a z)
  · rw [List.flatten_cons]
    exact List.nodup_append.mpr ⟨P1.nd, nd, fun a ha b hb e => dis a ha (e ▸ hb)⟩
  · refine (P1.own hκ).same s2 fun a z => ?_
    rw [List.flatten_cons] at z
    rcases z with z | z
    · exact .inl (.inl (z.mono fun i hi => List.mem_append_left _ hi))
    · rcases List.mem_append.mp z with z | z
      · exact .inl (.inr z)
      · exact .inr (hn a z)
  · refine R2.mono (Same.refl _) fun a z => ?_
    rw [List.flatten_cons] at z
    rcases z with z | z
    · refine .inl (.inl ?_)
      rcases z with z | ⟨j, n, z⟩
      · exact .inl (.inl z)
      · exact .inr ⟨j, fun q => n (List.mem_append_right _ q), z⟩
    · rcases List.mem_append.mp z with z | z
      · exact .inl (.inl (.inl (.inr z)))
      · exact .inl (.inr z)
/-- names stored one after another -/
def setsV : List Nat → List V → L2.St → L2.St
  | i :: is, v :: vs, σ => setsV is vs (σ.set i (some v))
  | _, _, σ => σ
def setsE : List Nat → List D → Env → Env
  | i :: is, d :: ds, ρ => setsE is ds (ρ.set i (some d))
  | _, _, ρ => ρ
def setsO : List Nat → List RK → List Ow → List Ow
  | i :: is, κ :: κs, ω => setsO is κs (ω.set i (koO κ))
  | _, _, ω => ω
theorem EnvR.puts {K : PySem.W.Frag} {H : Hp} {W0 : Addr → Prop} : ∀ {is : List Nat} {κs : List RK} {ds : List D} {vs : List V} {fes : List (List Addr)} {σ : L2.St} {ρ : Env} {ω : List Ow} {fs : Nat → List Addr}, ROs K H (fun a => Wa W0 fs a ∨ a ∈ fes.flatten) κs ds vs fes → EnvR K H (fun a => W0 a ∨ a ∈ fes.flatten) σ ρ ω fs → is.length = vs.length → (∀ i ∈ is, i < ω.length ∧ i < ρ.length) → fes.flatten.Nodup → Tk H W0 → (∀ a ∈ fes.flatten, ¬ W0 a) → (∀ a ∈ fes.flatten, ∀ j, a ∉ fs j) →
    ∃ fs', EnvR K H W0 (setsV is vs σ) (setsE is ds ρ) (setsO is κs ω) fs' ∧ ∀ i a, a ∈ fs' i → (∃ j, a ∈ fs j) ∨ a ∈ fes.flatten
  | [], _, _, _, _, σ, ρ, ω, fs, .nil, E, _, _, _, _, _, _ => ⟨fs, E.mono (fun a o e _ => e) fun a z => ⟨E.w0 a (.inl z), .inl (.inl z)⟩, fun i a z => .inl ⟨i, z⟩⟩
  | i :: is, _, _, _, _, σ, ρ, ω, fs, .cons (f := f) (fes := fes) r q, E, hl, hi, nd, tW, hn, hd => by
    rw [List.flatten_cons] at nd
    obtain ⟨n1, n2, n3⟩ := List.nodup_append.mp nd
    have mf : ∀ a, a ∈ f → a ∈ (f :: fes).flatten := fun a z => by rw [List.flatten_cons]; exact List.mem_append_left _ z
    have mr : ∀ a, a ∈ fes.flatten → a ∈ (f :: fes).flatten := fun a z => by rw [List.flatten_cons]; exact List.mem_append_right _ z
    have tk2 : Tk H (fun a => W0 a ∨ a ∈ fes.flatten) := fun a z => by
      rcases z with z | z
      · exact tW a z
      · obtain ⟨xs, e⟩ := q.tracked a z
        exact ⟨_, e, trivial⟩
    have E1 : EnvR K H (fun a => (W0 a ∨ a ∈ fes.flatten) ∨ a ∈ f) σ ρ ω fs := E.mono (fun a o e _ => e) fun a z => by
      have z' : W0 a ∨ a ∈ (f :: fes).flatten := by
        rcases z with (z | z) | z
        · exact .inl z
        · exact .inr (mr a z)
        · exact .inr (mf a z)
      exact ⟨E.w0 a z', .inl z'⟩
    have r1 : RpO K H (fun a => Wa (fun a => W0 a ∨ a ∈ fes.flatten) fs a ∨ a ∈ f) _ _ _ f := r.less fun a z => by
      rcases z with ((z | z) | ⟨j, n, z⟩) | z
      · exact .inl (.inl z)
      · exact .inr (mr a z)
      · exact .inl (.inr ⟨j, n, z⟩)
      · exact .inr (mf a z)
    have E2 := EnvR.put (i := i) E1 (.inl (hi i (by simp)).1) r1 n1 tk2 (fun a ha z => z.elim (hn a (mf a ha)) fun z => n3 a ha a z rfl) (hi i (by simp)).2
    have q2 : ROs K H (fun a => Wa W0 (puF i f fs) a ∨ a ∈ fes.flatten) _ _ _ fes := q.mono (Same.refl _) fun a z => .inl (by
      rcases z with z | z
      · rcases wa_puF z with z | z
        · exact .inl z
        · exact .inr (mf a z)
      · exact .inr (mr a z))
    obtain ⟨fs', E3, h3⟩ := EnvR.puts (is := is) q2 E2 (by simpa using hl) (fun j hj => by simpa using hi j (List.mem_cons_of_mem _ hj)) n2 tW (fun a ha => hn a (mr a ha)) (fun a ha j z => (mem_puF.mp z).elim (fun z => n3 a z.2 a ha rfl) fun z => hd a (mr a ha) j z.2)
    refine ⟨fs', E3, fun j a z => ?_⟩
    rcases h3 j a z with ⟨k, z⟩ | z
    · rcases mem_puF.mp z with z | z
      · exact .inr (mf a z.2)
      · exact .inl ⟨k, z.2⟩
    · exact .inr (mr a z)
/-- several names at once: the values, then the names -/
def tMul (is : List Nat) (ta : TA) : TS := fun D σ H => ta σ H fun vs H1 => vs.length = is.length ∧ ∀ H2, Same H1 H2 → D.nx (setsV is vs σ) H2
theorem s_multi {s : Stmt} {es : List Expr} {is : List Nat} {m : Env → Option (List D)} {κs : List RK} {L : List Nat} (hp : ∀ ta, PA X es ta → PS X s (tMul is ta)) (h : EOs X ω es m κs L) (hm : ∀ ρ ds, m ρ = some ds → ds.length = is.length) (hi : ∀ i ∈ is, i < ω.length) (hiN : ∀ i ∈ is, i < X.N.length) :
    S1 X ω s (fun ρ => (m ρ).map fun ds => .nx (setsE is ds ρ)) ⟨some (setsO is κs (frz L ω)), none, none⟩ ro := by
  obtain ⟨t, p, q⟩ := h.ex
  refine ⟨_, ps_len (hp t p), fun σ H ρ fs W0 out D E em k1 k2 k3 k4 hl => ?_⟩
  obtain ⟨ds, e1, rfl⟩ := Option.map_eq_some_iff.mp em
  refine q σ H ρ fs W0 ds _ E e1 fun vs H1 fes s1 hn nd R => ?_
  have hlen : ∀ {κs : List RK} {ds : List PV.D} {vs : List V} {fes : List (List Addr)} {W : Addr → Prop}, ROs X.K H1 W κs ds vs fes → vs.length = ds.length := by
    intro κs ds vs fes W r
    induction r with
    | nil => rfl
    | cons _ _ ih => rw [List.length_cons, List.length_cons, ih]
  have l1 : vs.length = is.length := by rw [hlen R, hm ρ ds e1]
  refine ⟨l1, fun H2 s2 => ?_⟩
  have s12 := s1.trans s2
  have E2 : EnvR X.K H2 (fun a => W0 a ∨ a ∈ fes.flatten) σ ρ (frz L ω) (frF L fs) := (E.frz L).more s12 (fun a ha => hn a ha) fun a ha => by
    obtain ⟨xs, e⟩ := R.tracked a ha
    exact ⟨_, s2 _ _ e, trivial⟩
  have R2 : ROs X.K H2 (fun a => Wa W0 (frF L fs) a ∨ a ∈ fes.flatten) κs ds vs fes := R.mono s2 fun a z => .inl (by
    rcases z with (z | ⟨j, _, z⟩) | z
    · exact .inl (.inl z)
    · exact .inl (.inr ⟨j, (mem_frF.mp z).1, (mem_frF.mp z).2⟩)
    · exact .inr z)
  have tW := tk_same E.w0 s12
  have nf : ∀ a ∈ fes.flatten, ∀ j, a ∉ frF L fs j := fun a ha j z => by
    obtain ⟨xs, e⟩ := E.tr (mem_frF.mp z).2
    rw [hn a ha] at e; cases e
  obtain ⟨fs', E3, h3⟩ := EnvR.puts R2 E2 l1.symm (fun i hi' => ⟨by rw [frz_len]; exact hi i hi', by rw [← E.len]; have := hiN i hi'; omega⟩) nd tW (fun a ha => tk_free E.w0 (hn a ha)) nf
  exact k1 _ _ _ H2 fs' rfl rfl ⟨fun a o e _ => s12 a o e, fun i a z => (h3 i a z).elim (fun ⟨j, z⟩ => .inl ⟨j, (mem_frF.mp z).2⟩) fun z => .inr (hn a z)⟩ E3
/-- a reading, upwards closed -/
def upA (t : TA) : TA := fun σ H Q => ∃ P, t σ H P ∧ ∀ vs H1, P vs H1 → Q vs H1
theorem pa_up {es : List Expr} {t : TA} (h : PA X es t) : PA X es (upA t) :=
  ⟨fun pos pins s σ H Q I ⟨P, q, k⟩ => thn (h.run pos pins s σ H P I q) fun us s1 ⟨vs, H1, I1, r1, q1⟩ => ⟨vs, H1, I1, r1, k vs H1 q1⟩⟩
/-- the pair is stored at once -/
theorem ps_mul2 {i j : Nat} {x y : Str} {a b : Expr} {px py pt pos : Pos} {kt k2 pt2} (hc : X.calm = true) (hN : X.N.Nodup) (hi : X.N[i]? = some x) (hj : X.N[j]? = some y) (hij : i ≠ j)
    (hx : X.env.scope.names.lookup x = some .local) (hy : X.env.scope.names.lookup y = some .local) (hw : swappedStores [.Tuple [.Name x px, .Name y py] kt pt] (.Tuple [a, b] k2 pt2) X.env = pure (some [x, y])) (ta : TA) (ha : PA X [a, b] ta) :
    PS X (.Assign [.Tuple [.Name x px, .Name y py] kt pt] (.Tuple [a, b] k2 pt2) pos) (tMul [i, j] ta) :=
  PS.imp (ps_par hc hN hi hj hij hx hy (pa_up ha) hw rfl) fun D σ H q => ⟨_, q, fun vs H1 ⟨l, k⟩ => by
    match vs, l with
    | [v, w], _ => exact ⟨v, w, rfl, k H1 (Same.refl H1)⟩⟩
theorem ps_mul3 {i j l : Nat} {x y z : Str} {a b c : Expr} {px py pz pt pos : Pos} {kt k2 pt2} (hc : X.calm = true) (hN : X.N.Nodup) (hi : X.N[i]? = some x) (hj : X.N[j]? = some y) (hl : X.N[l]? = some z) (hij : i ≠ j) (hil : i ≠ l) (hjl : j ≠ l)
    (hx : X.env.scope.names.lookup x = some .local) (hy : X.env.scope.names.lookup y = some .local) (hz : X.env.scope.names.lookup z = some .local) (hw : swappedStores [.Tuple [.Name x px, .Name y py, .Name z pz] kt pt] (.Tuple [a, b, c] k2 pt2) X.env = pure (some [x, y, z])) (ta : TA) (ha : PA X [a, b, c] ta) :
    PS X (.Assign [.Tuple [.Name x px, .Name y py, .Name z pz] kt pt] (.Tuple [a, b, c] k2 pt2) pos) (tMul [i, j, l] ta) :=
  PS.imp (ps_par3 hc hN hi hj hl hij hil hjl hx hy hz (pa_up ha) hw rfl) fun D σ H q => ⟨_, q, fun vs H1 ⟨e, k⟩ => by
    match vs, e with
    | [u, v, w], _ => exact ⟨u, v, w, rfl, k H1 (Same.refl H1)⟩⟩
/-- a tuple is made, then unpacked -/
def gNames : List Nat → TGs
  | [] => gNil
  | i :: is => gCons (gName i) (gNames is)
theorem gNames_ok : ∀ (is : List Nat) (vs : List V) (σ : L2.St) (H : Hp) (Q : L2.St → Hp → Prop), vs.length = is.length → Q (setsV is vs σ) H → gNames is vs σ H Q
  | [], [], _, _, _, _, q => ⟨rfl, q⟩
  | i :: is, v :: vs, σ, H, Q, h, q => ⟨v, vs, rfl, gNames_ok is vs _ H Q (by simpa using h) q⟩
  | [], _ :: _, _, _, _, h, _ => by cases h
  | _ :: _, [], _, _, _, h, _ => by cases h
theorem ps_mulT {ts es : List Expr} {is : List Nat} {kt k2 : Nat} {pt pt2 pos : Pos} (hg : PG X (.Tuple ts kt pt) (gTup X.K is.length (gNames is))) (hw : swappedStores [.Tuple ts kt pt] (.Tuple es k2 pt2) X.env = pure none) (hz : is.length ≤ sizeLine) (ta : TA) (ha : PA X es ta) :
    PS X (.Assign [.Tuple ts kt pt] (.Tuple es k2 pt2) pos) (tMul is ta) :=
  PS.imp (ps_asg (pe_tup (pa_up ha)) hg rfl hw rfl) fun D σ H q => ⟨_, q, fun vs H1 ⟨e, k⟩ => ⟨by rw [e]; exact hz, fun p hp => ⟨p, vs, rfl, .inl (.inl upd_same), e, gNames_ok is vs σ _ _ e (k _ (same_upd hp))⟩⟩⟩
end PV

set_option Elab.async false
set_option linter.all false
set_option maxRecDepth 100000
set_option autoImplicit false
set_option maxHeartbeats 4000000
/-! Value semantics: the small language, its meaning, and the look that a text is an instance of it. -/
namespace PV
open PySem PySem.Spec PyProof.Rows L2

/-! ### the small language: expressions -/
inductive BO where
  | add | sub | mul | fdiv | mod | pow
  deriving DecidableEq
inductive CO where
  | eq | ne | lt | le | gt | ge | isin | notin
  deriving DecidableEq
inductive FN where
  | len | int | abs | max | min | sum | any | all | tuple | list | sorted
  deriving DecidableEq
mutual
inductive IE where
  | var (i : Nat) | cst (d : D) | glob (j : Nat)
  | bin (op : BO) (a b : IE) | neg (a : IE) | cmp (op : CO) (a b : IE) | isN (neg : Bool) (a : IE)
  | chain (op op' : CO) (a b c : IE)
  | not_ (a : IE) | and_ (a b : IE) | or_ (a b : IE) | ifx (c a b : IE)
  | tup (es : List IE) | lst (es : List IE) | ix (a b : IE) | sl (a : IE) (lo hi : Option IE)
  | fn (f : FN) (es : List IE) | call (j : Nat) (es : List IE)
  | comp (elt : IE) (T : Tgt) (it : II) (c : Option IE) (own : List Nat)
  | atom (a : IE)
inductive II where
  | seq (e : IE) | rng (es : List IE)
end
/-! ### its meaning -/
def BO.f : BO → D → D → Option D
  | .add => addD
  | .sub => intOp cYes fun i j => i - j
  | .mul => mulD
  | .fdiv => intOp cDivB fun i j => i / j
  | .mod => intOp cModB fun i j => i % j
  | .pow => intOp cPowB fun i j => i ^ j.toNat
def CO.f : CO → D → D → Option D
  | .eq => eqM
  | .ne => neM
  | .lt => cmpD fun i j => decide (i < j)
  | .le => cmpD fun i j => decide (i ≤ j)
  | .gt => cmpD fun i j => decide (j < i)
  | .ge => cmpD fun i j => decide (j ≤ i)
  | .isin => inM false
  | .notin => inM true
def FN.f : FN → List D → Option D
  | .len => lenF
  | .int => intF
  | .abs => absF
  | .max => maxF
  | .min => minF
  | .sum => sumF
  | .any => anyF
  | .all => allF
  | .tuple => tupF
  | .list => lstF
  | .sorted => sortF
def rngF (ds : List D) : Option (List D) := match ds with
  | [_] => rng1 ds
  | _ => rng2 ds
def atomM (d : D) : Option D := if d.flat then some d else none
/-- what the names of other defs and of the module's constants stand for -/
structure Mn where
  φ : Nat → List D → Option D
  γ : Nat → Option D
section
variable (M : Mn)
mutual
def denE : IE → Env → Option D
  | .var i => fun ρ => (ρ[i]?).join
  | .cst d => fun _ => some d
  | .glob j => fun _ => M.γ j
  | .bin op a b => fun ρ => (denE a ρ).bind fun x => (denE b ρ).bind fun y => op.f x y
  | .neg a => fun ρ => (denE a ρ).bind negD
  | .cmp op a b => fun ρ => (denE a ρ).bind fun x => (denE b ρ).bind fun y => op.f x y
  | .isN n a => fun ρ => (denE a ρ).bind (isNM n)
  | .chain op op' a b c => fun ρ => ((denE a ρ).bind fun x => (denE b ρ).bind fun y => ((op.f x y).bind asBl).bind fun k => if k = true then (denE c ρ).bind fun z => (op'.f y z).bind asBl else some false).map D.bl
  | .not_ a => fun ρ => ((denE a ρ).bind asBl).map fun k => D.bl (!k)
  | .and_ a b => fun ρ => ((denE a ρ).bind asBl).bind fun k => if k = true then denE b ρ else some (.bl false)
  | .or_ a b => fun ρ => ((denE a ρ).bind asBl).bind fun k => if k = true then some (.bl true) else denE b ρ
  | .ifx c a b => fun ρ => ((denE c ρ).bind asBl).bind fun k => if k = true then denE a ρ else denE b ρ
  | .tup es => fun ρ => (denEs es ρ).bind fun ds => if szOk ds.length then some (.tup ds) else none
  | .lst es => fun ρ => (denEs es ρ).bind fun ds => if szOk ds.length then some (.lst ds) else none
  | .ix a b => fun ρ => (denE a ρ).bind fun x => (denE b ρ).bind fun y => ixM x y
  | .sl a lo hi => fun ρ => (denE a ρ).bind fun d => (denO lo ρ).bind fun l => (denO hi ρ).bind fun u => slM d l u
  | .fn f es => fun ρ => (denEs es ρ).bind f.f
  | .call j es => fun ρ => (denEs es ρ).bind (M.φ j)
  | .comp elt T it c own => compD own T (denI it) (denC c) (denE elt)
  | .atom a => fun ρ => (denE a ρ).bind atomM
def denEs : List IE → Env → Option (List D)
  | [] => fun _ => some []
  | e :: es => fun ρ => (denE e ρ).bind fun x => (denEs es ρ).bind fun r => some (x :: r)
def denO : Option IE → Env → Option (Option Int)
  | none => fun _ => some none
  | some e => fun ρ => (denE e ρ).bind asInt
def denC : Option IE → Env → Option Bool
  | none => fun _ => some true
  | some e => fun ρ => (denE e ρ).bind asBl
def denI : II → Env → Option (List D)
  | .seq e => fun ρ => (denE e ρ).bind asSeq
  | .rng es => fun ρ => (denEs es ρ).bind rngF
end
end
/-! ### statements -/
inductive IS where
  | pass | brk | cont | retN
  | ret (e : IE) | retv (i : Nat) | expr (e : IE) | set (i : Nat) (e : IE) | setT (T : Tgt) (e : IE) | mul (is : List Nat) (es : List IE) | aug (i : Nat) (add : Bool) (e : IE) | app (i : Nat) (e : IE)
  | ite (c : IE) (a b : List IS) | for_ (T : Tgt) (it : II) (b : List IS) | whl (c : IE) (b : List IS)
def WF : Nat := 1000000
section
variable (M : Mn)
mutual
def exe : IS → Env → Option Out
  | .pass => fun ρ => some (.nx ρ)
  | .brk => fun ρ => some (.bk ρ)
  | .cont => fun ρ => some (.ct ρ)
  | .retN => fun _ => some (.rt .non)
  | .ret e => fun ρ => (denE M e ρ).map Out.rt
  | .retv i => fun ρ => ((ρ[i]?).join).map Out.rt
  | .expr e => fun ρ => (denE M e ρ).map fun _ => .nx ρ
  | .set i e => fun ρ => (denE M e ρ).map fun d => .nx (ρ.set i (some d))
  | .setT T e => fun ρ => (denE M e ρ).bind fun d => (bindT T d ρ).map Out.nx
  | .mul is es => fun ρ => (denEs M es ρ).map fun ds => .nx (setsE is ds ρ)
  | .aug i add e => fun ρ => ((ρ[i]?).join).bind fun a => (denE M e ρ).bind fun b => ((if add then iaddD else intOp cYes fun i j => i - j) a b).map fun d => .nx (ρ.set i (some d))
  | .app i e => fun ρ => ((ρ[i]?).join).bind fun a => (denE M e ρ).bind fun b => (appM a b).map fun d => .nx (ρ.set i (some d))
  | .ite c a b => ifM (fun ρ => (denE M c ρ).bind asBl) (exes a) (exes b)
  | .for_ T it b => fun ρ => (denI M it ρ).bind fun ds => forM T (exes b) ds ρ
  | .whl c b => whileM (fun ρ => (denE M c ρ).bind asBl) (exes b) WF
def exes : List IS → Env → Option Out
  | [] => fun ρ => some (.nx ρ)
  | s :: ss => seqM (exe s) (exes ss)
end
end
/-- a def: how many parameters, how many names, its body -/
structure IFn where
  np : Nat
  nn : Nat
  body : List IS
def startE (n : Nat) (ds : List D) : Env := ds.map some ++ List.replicate (n - ds.length) none
def outD : Out → Option D
  | .rt d => some d
  | .nx _ => some .non
  | _ => none
def IFn.run (M : Mn) (f : IFn) (ds : List D) : Option D := if ds.length = f.np then (exes M f.body (startE f.nn ds)).bind outD else none
/-- the defs of a text, by how deep calls may go -/
def run (T : List IFn) (γ : Nat → Option D) : Nat → Nat → List D → Option D
  | 0, _, _ => none
  | n + 1, j, ds => match T[j]? with
    | none => none
    | some f => f.run ⟨run T γ n, γ⟩ ds
end PV

set_option Elab.async false
set_option linter.all false
set_option maxRecDepth 100000
set_option autoImplicit false
set_option maxHeartbeats 4000000
/-! Value semantics: the look at expressions, and that what it takes keeps its meaning. -/
namespace PV
open PySem PySem.Spec PyProof.Rows L2

/-- what a look knows of the place: names by slot, the running scope, which of its cells are its own (none: all), names that the module does not bind, the module's constants, its defs (name, parameters, what a result owns) -/
structure SC where
  N : List Str
  sc : Scope
  own : Option Scope
  fr : List Str
  G : List Str
  F : List (Str × Nat × Ow)
def SC.kind (S : SC) (x : Str) : Option NameKind := S.sc.names.lookup x
def SC.vis (S : SC) (x : Str) : Bool := match S.kind x with
  | some .local => true
  | some .cell => true
  | some .free => true
  | _ => false
def SC.gl (S : SC) (x : Str) : Bool := S.kind x == some .globalImplicit
def SC.loc (S : SC) (x : Str) : Bool := match S.kind x with
  | some .local => true
  | some .cell => (match S.own with
    | none => true
    | some s => s.names.lookup x == some .cell)
  | _ => false
def SC.free (S : SC) (x : Str) : Bool := S.gl x && S.fr.contains x
def SC.blk (S : SC) (scope : Scope) : SC := { S with sc := relS scope S.sc, own := some scope }
structure Good (S : SC) (M : Mn) (X : Cx) : Prop where
  N : X.N = S.N
  sc : X.env.scope = S.sc
  fk : S.sc.kind = .function
  own : ∀ x, (match S.own with | none => true | some s => s.names.lookup x == some .cell) = true → X.fn x = true
  calm : X.calm = true
  nd : S.N.Nodup
  un : X.A.units + 110 < cLine
  hd : X.A.handled = none
  free : ∀ x ∈ S.fr, X.mg x = none
  glob : ∀ j x, S.G[j]? = some x → ∃ d v u, M.γ j = some d ∧ X.mg x = some u ∧ RelV v u ∧ ∀ H W, Rp X.K H W v d
  fns : ∀ j x n ro, S.F[j]? = some (x, n, ro) → FnAv X x n (M.φ j) ro
theorem FnAv.to {X X' : Cx} {x : Str} {n : Nat} {φ : List D → Option D} {ro : Ow} (h : FnAv X x n φ ro) (e1 : X'.prog = X.prog) (e2 : X'.w = X.w) (e3 : X'.K = X.K) (e4 : X'.mg = X.mg) (e5 : X'.base = X.base) (e6 : X'.A = X.A) : FnAv X' x n φ ro := by
  obtain ⟨fa, fd, ps, k, h1, h2, h3, h4, h5⟩ := h.ex
  exact ⟨fa, fd, ps, k, by rw [e4]; exact h1, by rw [e3]; exact h2, by rw [e3]; exact h3, by rw [e1, e2, e3, e4, e5]; exact h4, by rw [e6]; exact h5⟩
theorem Good.blk {S : SC} {M : Mn} {X : Cx} (g : Good S M X) {scope : Scope} (hk : scope.kind = .function) (s : Shared) (H : Hp) (C : Addr) (cl : List (Str × Addr)) (fp : List Addr) : Good (S.blk scope) M (BX X scope s H C cl fp) where
  N := g.N
  sc := by show relS scope X.env.scope = relS scope S.sc; rw [g.sc]
  fk := hk
  own := fun x h => h
  calm := g.calm
  nd := g.nd
  un := g.un
  hd := g.hd
  free := g.free
  glob := g.glob
  fns := fun j x n ro h => (g.fns j x n ro h).to rfl rfl rfl rfl rfl rfl
section
variable {S : SC} {M : Mn} {X : Cx}
theorem Good.vis (g : Good S M X) {x : Str} (h : S.vis x = true) : Vis X.env.scope x := by
  unfold SC.vis SC.kind at h
  unfold Vis
  rw [g.sc]
  split at h <;> first | exact .inl (by assumption) | exact .inr (.inl (by assumption)) | exact .inr (.inr (by assumption)) | cases h
theorem Good.gl (g : Good S M X) {x : Str} (h : S.gl x = true) : Gl X x := by
  unfold SC.gl SC.kind at h
  show X.env.scope.names.lookup x = _
  rw [g.sc]
  exact eq_of_beq h
theorem Good.fr (g : Good S M X) {x : Str} (h : S.free x = true) : Gl X x ∧ X.mg x = none := by
  unfold SC.free at h
  rw [Bool.and_eq_true] at h
  exact ⟨g.gl h.1, g.free x (by simpa using h.2)⟩
theorem Good.loc (g : Good S M X) {x : Str} (h : S.loc x = true) : L2.Loc X.env.scope x ∧ (X.fn x = true ∨ X.env.scope.names.lookup x = some .local) := by
  unfold SC.loc SC.kind at h
  unfold L2.Loc
  rw [g.sc]
  split at h
  · rename_i e
    exact ⟨.inl e, .inr e⟩
  · rename_i e
    exact ⟨.inr e, .inl (g.own x h)⟩
  · cases h
end

/-! ### pieces of syntax -/
def notStar : Expr → Bool
  | .Starred .. => false
  | _ => true
theorem notStar_ok {e : Expr} (h : notStar e = true) : ∀ v p, e ≠ .Starred v p := fun v p z => by subst z; cases h
def mName : Expr → Option Str
  | .Name x _ => some x
  | _ => none
theorem mName_eq {e : Expr} {x : Str} (h : mName e = some x) : ∃ p, e = .Name x p := by
  unfold mName at h; split at h <;> cases h; exact ⟨_, rfl⟩
def mConst : Expr → Option Const
  | .Constant c _ _ => some c
  | _ => none
theorem mConst_eq {e : Expr} {c : Const} (h : mConst e = some c) : ∃ j p, e = .Constant c j p := by
  unfold mConst at h; split at h <;> cases h; exact ⟨_, _, rfl⟩
def mBin : Expr → Option (Expr × Operator × Expr)
  | .BinOp a o b _ => some (a, o, b)
  | _ => none
theorem mBin_eq {e a b : Expr} {o : Operator} (h : mBin e = some (a, o, b)) : ∃ p, e = .BinOp a o b p := by
  unfold mBin at h; split at h <;> cases h; exact ⟨_, rfl⟩
def mUn : Expr → Option (UnaryOp × Expr)
  | .UnaryOp o a _ => some (o, a)
  | _ => none
theorem mUn_eq {e a : Expr} {o : UnaryOp} (h : mUn e = some (o, a)) : ∃ p, e = .UnaryOp o a p := by
  unfold mUn at h; split at h <;> cases h; exact ⟨_, rfl⟩
def mCmp : Expr → Option (Expr × CmpOp × Expr)
  | .Compare a [o] [b] _ => some (a, o, b)
  | _ => none
theorem mCmp_eq {e a b : Expr} {o : CmpOp} (h : mCmp e = some (a, o, b)) : ∃ p, e = .Compare a [o] [b] p := by
  unfold mCmp at h; split at h <;> cases h; exact ⟨_, rfl⟩
def mChain : Expr → Option (Expr × CmpOp × Expr × CmpOp × Expr)
  | .Compare a [o, o'] [b, c] _ => some (a, o, b, o', c)
  | _ => none
theorem mChain_eq {e a b c : Expr} {o o' : CmpOp} (h : mChain e = some (a, o, b, o', c)) : ∃ p, e = .Compare a [o, o'] [b, c] p := by
  unfold mChain at h; split at h <;> cases h; exact ⟨_, rfl⟩
def mBool : Expr → Option (BoolOp × List Expr × Pos)
  | .BoolOp o vs p => some (o, vs, p)
  | _ => none
theorem mBool_eq {e : Expr} {o : BoolOp} {vs : List Expr} {p : Pos} (h : mBool e = some (o, vs, p)) : e = .BoolOp o vs p := by
  unfold mBool at h; split at h <;> cases h; rfl
def mIf : Expr → Option (Expr × Expr × Expr)
  | .IfExp c a b _ => some (c, a, b)
  | _ => none
theorem mIf_eq {e a b c : Expr} (h : mIf e = some (c, a, b)) : ∃ p, e = .IfExp c a b p := by
  unfold mIf at h; split at h <;> cases h; exact ⟨_, rfl⟩
def mTup : Expr → Option (List Expr)
  | .Tuple es _ _ => some es
  | _ => none
theorem mTup_eq {e : Expr} {es : List Expr} (h : mTup e = some es) : ∃ k p, e = .Tuple es k p := by
  unfold mTup at h; split at h <;> cases h; exact ⟨_, _, rfl⟩
def mLst : Expr → Option (List Expr)
  | .List es _ => some es
  | _ => none
theorem mLst_eq {e : Expr} {es : List Expr} (h : mLst e = some es) : ∃ p, e = .List es p := by
  unfold mLst at h; split at h <;> cases h; exact ⟨_, rfl⟩
def notSlice : Expr → Bool
  | .Slice .. => false
  | _ => true
def mIx : Expr → Option (Expr × Expr)
  | .Subscript a b _ => if notSlice b then some (a, b) else none
  | _ => none
theorem mIx_eq {e a b : Expr} (h : mIx e = some (a, b)) : ∃ p, e = .Subscript a b p ∧ notSlice b = true := by
  unfold mIx at h
  split at h
  · split at h
    · cases h; exact ⟨_, rfl, by assumption⟩
    · cases h
  · cases h
theorem plainIx {b : Expr} (h : notSlice b = true) : PlainIx b := by
  intro o i
  cases b <;> first | rfl | cases h
def mSl : Expr → Option (Expr × Option Expr × Option Expr)
  | .Subscript a (.Slice lo hi none _) _ => some (a, lo, hi)
  | _ => none
theorem mSl_eq {e a : Expr} {lo hi : Option Expr} (h : mSl e = some (a, lo, hi)) : ∃ p q, e = .Subscript a (.Slice lo hi none q) p := by
  unfold mSl at h; split at h <;> cases h; exact ⟨_, _, rfl⟩
def mCall : Expr → Option (Str × List Expr)
  | .Call (.Name x _) es [] _ => some (x, es)
  | _ => none
theorem mCall_eq {e : Expr} {x : Str} {es : List Expr} (h : mCall e = some (x, es)) : ∃ p q, e = .Call (.Name x p) es [] q := by
  unfold mCall at h; split at h <;> cases h; exact ⟨_, _, rfl⟩
def mComp : Expr → Option (Expr × Expr × Expr × List Expr × Scope × Pos)
  | .ListComp elt [⟨tg, iter, ifs, a⟩] scope pos => if a = 0 then some (elt, tg, iter, ifs, scope, pos) else none
  | _ => none
theorem mComp_eq {e elt tg iter : Expr} {ifs : List Expr} {scope : Scope} {pos : Pos} (h : mComp e = some (elt, tg, iter, ifs, scope, pos)) : e = .ListComp elt [⟨tg, iter, ifs, 0⟩] scope pos := by
  unfold mComp at h
  split at h
  · split at h
    · rename_i e0; subst e0; cases h; rfl
    · cases h
  · cases h
def notSet : Expr → Bool
  | .Set .. => false
  | _ => true
theorem notSet_ok {e : Expr} {env : PySem.Env} (h : notSet e = true) : ∀ x, foldedSetIterable e env x = pure x := by
  intro x
  cases e <;> first | rfl | cases h
/-! ### operators -/
def BO.op : BO → Operator
  | .add => .Add
  | .sub => .Sub
  | .mul => .Mult
  | .fdiv => .FloorDiv
  | .mod => .Mod
  | .pow => .Pow
def BO.κ : BO → RK
  | .add => .own .no
  | .mul => .own .no
  | _ => .fz
def CO.op : CO → CmpOp
  | .eq => .Eq
  | .ne => .NotEq
  | .lt => .Lt
  | .le => .LtE
  | .gt => .Gt
  | .ge => .GtE
  | .isin => .In
  | .notin => .NotIn
section
variable {S : SC} {M : Mn} {X : Cx} {ω : List Ow}
theorem bo_ok (op : BO) : ∃ r, OpR X (binaryOp op.op) r ∧ OpV X r op.f op.κ := by
  cases op
  · exact ⟨_, op_addA, opv_add⟩
  · exact ⟨_, op_sub, opv_sub⟩
  · exact ⟨_, op_mulA, opv_mul⟩
  · exact ⟨_, op_fdiv, opv_fdiv⟩
  · exact ⟨_, op_mod, opv_mod⟩
  · exact ⟨_, op_pow, opv_pow⟩
theorem co_ok (g : Good S M X) (op : CO) : ∃ r, OpR X (compareOp op.op) r ∧ OpV X r op.f .fz := by
  cases op
  · exact ⟨_, op_eqA g.un, opv_eq⟩
  · exact ⟨_, op_neA g.un, opv_ne⟩
  · exact ⟨_, op_lt, opv_cmp⟩
  · exact ⟨_, op_le, opv_cmp⟩
  · exact ⟨_, op_gt, opv_cmp⟩
  · exact ⟨_, op_ge, opv_cmp⟩
  · exact ⟨_, op_inA, opv_in false⟩
  · exact ⟨_, op_notInA, opv_in true⟩
/-- x in (a display): the display's own marks -/
def markOk (o : CmpOp) (b : Expr) : Bool := match o with
  | .In => (match b with | .Set .. => false | .List .. => false | _ => true)
  | .NotIn => (match b with | .Set .. => false | .List .. => false | _ => true)
  | _ => true
theorem mark_ok {o : CmpOp} {b : Expr} (h : markOk o b = true) : behindInMarks o b = false := by
  cases o <;> first | exact nomark _ | (cases b <;> first | rfl | cases h)
/-! ### built-in functions -/
def FN.nm : FN → Str
  | .len => "len"
  | .int => "int"
  | .abs => "abs"
  | .max => "max"
  | .min => "min"
  | .sum => "sum"
  | .any => "any"
  | .all => "all"
  | .tuple => "tuple"
  | .list => "list"
  | .sorted => "sorted"
def FN.κ : FN → RK
  | .list => .own .no
  | .sorted => .own .no
  | _ => .fz
theorem boot_len' : bootBuiltins "len" = some (.builtin "len") := by decide +kernel
theorem boot_abs' : bootBuiltins "abs" = some (.builtin "abs") := by decide +kernel
theorem fn_ok (g : Good S M X) (f : FN) (h : S.free f.nm = true) {e : Expr} {es : List Expr} (hs : ∀ x ∈ e :: es, ∀ v p, x ≠ .Starred v p) (p pos : Pos) :
    ∃ r, (∀ t, PA X (e :: es) t → PE X (.Call (.Name f.nm p) (e :: es) [] pos) (tCB r t)) ∧ OpVs X r f.f f.κ := by
  obtain ⟨h1, h2⟩ := g.fr h
  have s1 := star_ok (env := X.env) (es := es) (hs e (by simp))
  have s2 := star_no pos X.env es fun x hx => hs x (List.mem_cons_of_mem _ hx)
  cases f
  · exact ⟨_, fun t q => pe_callB call_len h1 h2 boot_len' q (by decide) (by decide) s1 s2, opv_len⟩
  · exact ⟨_, fun t q => pe_callTy call_int1 h1 h2 boot_int q (by decide) (by decide) s1 s2, opv_intF⟩
  · exact ⟨_, fun t q => pe_callB call_abs h1 h2 boot_abs' q (by decide) (by decide) s1 s2, opv_abs⟩
  · exact ⟨_, fun t q => pe_callB (callr_or (call_max2 g.calm) (cr_max g.calm)) h1 h2 boot_max q (by decide) (by decide) s1 s2, opv_max⟩
  · exact ⟨_, fun t q => pe_callB (callr_or (call_min2 g.calm) (cr_min g.calm)) h1 h2 boot_min q (by decide) (by decide) s1 s2, opv_min⟩
  · exact ⟨_, fun t q => pe_callB (cr_sum g.calm) h1 h2 boot_sum q (by decide) (by decide) s1 s2, opv_sum⟩
  · exact ⟨_, fun t q => pe_callB (cr_any g.calm) h1 h2 boot_any q (by decide) (by decide) s1 s2, opv_any⟩
  · exact ⟨_, fun t q => pe_callB (cr_all g.calm) h1 h2 boot_all q (by decide) (by decide) s1 s2, opv_all⟩
  · exact ⟨_, fun t q => pe_callTy call_tuple_of h1 h2 boot_tuple q (by decide) (by decide) s1 s2, opv_tupF⟩
  · exact ⟨_, fun t q => pe_callTy call_list_of h1 h2 boot_list q (by decide) (by decide) s1 s2, opv_lstF⟩
  · exact ⟨_, fun t q => pe_callB cr_sortedI h1 h2 boot_sorted q (by decide) (by decide) s1 s2, opv_sort⟩
end
end PV

set_option Elab.async false
set_option linter.all false
set_option maxRecDepth 100000
set_option autoImplicit false
set_option maxHeartbeats 4000000
/-! Value semantics: the look at expressions. -/
namespace PV
open PySem PySem.Spec PyProof.Rows L2

/-- arguments by a look f: how each lies, what is handed on -/
def cList (f : IE → Expr → Option (RK × List Nat)) : List IE → List Expr → Option (List RK × List Nat)
  | [], [] => some ([], [])
  | i :: is, e :: es => (f i e).bind fun a => (cList f is es).bind fun b => if notStar e then some (a.1 :: b.1, a.2 ++ b.2) else none
  | _, _ => none
def cTgt (S : SC) : Nat → Tgt → Expr → Bool
  | 0, _, _ => false
  | n + 1, .nm i, e => (match mName e with
    | some x => decide (S.N[i]? = some x) && S.loc x
    | none => false)
  | n + 1, .tp ts, e => (match mTup e with
    | some es => decide (es.length = ts.length) && es.all notStar && (List.zipWith (cTgt S n) ts es).all id
    | none => false)
def cstOk : D → Const → Bool
  | .int i, .int j => decide (i = j)
  | .str x, .str y => decide (x = y) && PyData.strOk x
  | .bl a, .bool b => a == b
  | .non, .none => true
  | _, _ => false
def retB (b : Bool) (r : RK × List Nat) : Option (RK × List Nat) := if b then some r else none
mutual
/-- the look at an expression: md tells whether a view will do -/
def cE : Nat → SC → List Ow → Bool → IE → Expr → Option (RK × List Nat)
  | 0, _, _, _, _, _ => none
  | n + 1, S, ω, md, ie, e => match ie with
    | .var i => (mName e).bind fun x => retB (decide (S.N[i]? = some x) && S.vis x && decide (x ≠ ("__debug__" : Str)) && decide (x ≠ ("__classdict__" : Str)))
        (if ω.getD i .no = .no then (.fz, []) else if (md && (decide (ω.getD i .no = .lst .no) || decide (ω.getD i .no = .lst .top))) = true then (.vw, []) else (.fz, [i]))
    | .cst d => (mConst e).bind fun c => retB (cstOk d c) (.fz, [])
    | .glob j => (mName e).bind fun x => retB (decide (S.G[j]? = some x) && S.gl x && decide (x ≠ ("__debug__" : Str))) (.fz, [])
    | .bin op a b => (mBin e).bind fun q => (cE n S ω true a q.1).bind fun ra => (cE n S ω true b q.2.2).bind fun rb => retB (decide (q.2.1 = op.op)) (op.κ, ra.2 ++ rb.2)
    | .neg a => (mUn e).bind fun q => (cE n S ω true a q.2).bind fun ra => retB (decide (q.1 = .USub)) (.fz, ra.2)
    | .cmp op a b => (mCmp e).bind fun q => (cE n S ω true a q.1).bind fun ra => (cE n S ω true b q.2.2).bind fun rb => retB (decide (q.2.1 = op.op) && markOk q.2.1 q.2.2) (.fz, ra.2 ++ rb.2)
    | .isN neg a => (mCmp e).bind fun q => (cE n S ω true a q.1).bind fun ra => retB (decide (q.2.1 = if neg then .IsNot else .Is) && decide (mConst q.2.2 = some .none)) (.fz, ra.2)
    | .chain op op' a b c => (mChain e).bind fun q => (cE n S ω true a q.1).bind fun _ => (cE n S ω true b q.2.2.1).bind fun _ => (cE n S ω true c q.2.2.2.2).bind fun _ =>
        retB (decide (q.2.1 = op.op) && decide (q.2.2.2.1 = op'.op) && markOk q.2.1 q.2.2.1 && markOk q.2.2.2.1 q.2.2.2.2) (.fz, [])
    | .not_ a => (mUn e).bind fun q => (cE n S ω true a q.2).bind fun _ => retB (decide (q.1 = .Not)) (.fz, [])
    | .and_ _ _ => (mBool e).bind fun q => if q.1 = .And then (cB n S ω ie .And q.2.1).map fun L => (.fz, L) else none
    | .or_ _ _ => (mBool e).bind fun q => if q.1 = .Or then (cB n S ω ie .Or q.2.1).map fun L => (.fz, L) else none
    | .ifx c a b => (mIf e).bind fun q => if cT n S ω c q.1 then (cE n S ω false a q.2.1).bind fun ra => (cE n S ω false b q.2.2).bind fun rb => some (if ra.1 = rb.1 then ra.1 else .fz, ra.2 ++ rb.2) else none
    | .tup es => (mTup e).bind fun q => (cList (cE n S ω false) es q).bind fun r => some (.fz, r.2)
    | .lst es => (mLst e).bind fun q => (cList (cE n S ω false) es q).bind fun r => some (if es.isEmpty then .own .top else .own .no, r.2)
    | .ix a b => (mIx e).bind fun q => (cE n S ω true a q.1).bind fun ra => (cE n S ω true b q.2).bind fun rb => some (.fz, ra.2 ++ rb.2)
    | .sl a lo hi => (mSl e).bind fun q => (cE n S ω true a q.1).bind fun ra => if cO n S ω lo q.2.1 && cO n S ω hi q.2.2 then some (.own .no, ra.2) else none
    | .fn f es => (mCall e).bind fun q => (cList (cE n S ω true) es q.2).bind fun r => retB (decide (q.1 = f.nm) && S.free f.nm && !es.isEmpty) (f.κ, r.2)
    | .call j es => (mCall e).bind fun q => (cList (cE n S ω false) es q.2).bind fun r => (match S.F[j]? with
        | some (x, k, ro) => retB (decide (q.1 = x) && S.gl x && decide (x ≠ ("__debug__" : Str)) && decide (es.length = k)) (roK ro, r.2)
        | none => none)
    | .comp elt T it c own => cComp n S ω elt T it c own e
    | .atom a => (cE n S ω true a e).bind fun _ => some (.fz, [])
def cB : Nat → SC → List Ow → IE → BoolOp → List Expr → Option (List Nat)
  | 0, _, _, _, _, _ => none
  | _, _, _, _, _, [] => none
  | n + 1, S, ω, ie, op, [v] => (cE n S ω false ie v).map fun r => r.2
  | n + 1, S, ω, ie, op, v :: v2 :: vs => match ie, op with
    | .and_ a b, .And => (cE n S ω true a v).bind fun _ => cB n S ω b .And (v2 :: vs)
    | .or_ a b, .Or => (cE n S ω true a v).bind fun _ => cB n S ω b .Or (v2 :: vs)
    | _, _ => none
/-- a part of a slice -/
def cO : Nat → SC → List Ow → Option IE → Option Expr → Bool
  | 0, _, _, _, _ => false
  | _ + 1, _, _, none, none => true
  | n + 1, S, ω, some i, some e => (cE n S ω true i e).isSome
  | _, _, _, _, _ => false
/-- the look at a test -/
def cT : Nat → SC → List Ow → IE → Expr → Bool
  | 0, _, _, _, _ => false
  | n + 1, S, ω, ie, e => match ie with
    | .not_ a => (mUn e).any fun q => decide (q.1 = .Not) && cT n S ω a q.2
    | .and_ _ _ => (mBool e).any fun q => decide (q.1 = .And) && cW n S ω ie .And q.2.1
    | .or_ _ _ => (mBool e).any fun q => decide (q.1 = .Or) && cW n S ω ie .Or q.2.1
    | .cmp _ _ _ => (cE n S ω true ie e).isSome
    | .isN _ _ => (cE n S ω true ie e).isSome
    | .chain _ _ _ _ _ => (cE n S ω true ie e).isSome
    | .fn _ _ => (cE n S ω true ie e).isSome
    | .call _ _ => (cE n S ω true ie e).isSome
    | .var _ => (cE n S ω true ie e).isSome
    | .cst _ => (cE n S ω true ie e).isSome
    | .ix _ _ => (cE n S ω true ie e).isSome
    | _ => false
def cW : Nat → SC → List Ow → IE → BoolOp → List Expr → Bool
  | 0, _, _, _, _, _ => false
  | _, _, _, _, _, [] => false
  | n + 1, S, ω, ie, op, [v] => cT n S ω ie v
  | n + 1, S, ω, ie, op, v :: v2 :: vs => match ie, op with
    | .and_ a b, .And => cT n S ω a v && cW n S ω b .And (v2 :: vs)
    | .or_ a b, .Or => cT n S ω a v && cW n S ω b .Or (v2 :: vs)
    | _, _ => false
def cI : Nat → SC → List Ow → II → Expr → Option (List Nat)
  | 0, _, _, _, _ => none
  | n + 1, S, ω, .seq i, e => (cE n S ω false i e).map fun r => r.2
  | n + 1, S, ω, .rng es, e => (mCall e).bind fun q => (cList (cE n S ω true) es q.2).bind fun r => if decide (q.1 = ("range" : Str)) && S.free "range" && (decide (es.length = 1) || decide (es.length = 2)) then some r.2 else none
def cComp : Nat → SC → List Ow → IE → Tgt → II → Option IE → List Nat → Expr → Option (RK × List Nat)
  | 0, _, _, _, _, _, _, _, _ => none
  | n + 1, S, ω, elt, T, it, c, own, e => (mComp e).bind fun q => (cI n S ω it q.2.2.1).bind fun L0 =>
      (cE n (S.blk q.2.2.2.2.1) (T.om (frz own (frz L0 ω))) false elt q.1).bind fun r =>
      retB (blkC S.N S.sc q.2.2.2.2.1 (own.map fun i => (S.N.getD i "", i)) && decide (q.2.2.2.2.1.kind = .function) && T.sl.all (own.contains ·) && cTgt (S.blk q.2.2.2.2.1) 9 T q.2.1 && notSet q.2.2.1 &&
        (match c, q.2.2.2.1 with
          | none, [] => true
          | some ci, [ce] => cT n (S.blk q.2.2.2.2.1) (T.om (frz own (frz L0 ω))) ci ce
          | _, _ => false)) (compK r.1, L0 ++ r.2)
end
end PV

set_option Elab.async false
set_option linter.all false
set_option maxRecDepth 100000
set_option autoImplicit false
set_option maxHeartbeats 4000000
/-! Value semantics: what the look at expressions takes keeps its meaning. -/
namespace PV
open PySem PySem.Spec PyProof.Rows L2
variable {S : SC} {M : Mn} {X : Cx} {ω : List Ow}

theorem EP.cong {e : Expr} {m m' : Env → Option D} {κ : RK} {L : List Nat} (h : EP X ω e m κ L) (e0 : ∀ ρ, m' ρ = m ρ) : EP X ω e m' κ L := by
  have : m' = m := funext e0
  rw [this]; exact h
theorem ET.cong {e : Expr} {m m' : Env → Option Bool} (h : ET X ω e m) (e0 : ∀ ρ, m' ρ = m ρ) : ET X ω e m' := by
  have : m' = m := funext e0
  rw [this]; exact h
theorem EW.cong {e : Expr} {m m' : Env → Option Bool} (h : EW X ω e m) (e0 : ∀ ρ, m' ρ = m ρ) : EW X ω e m' := by
  have : m' = m := funext e0
  rw [this]; exact h
theorem EI.cong {tg e : Expr} {m m' : Env → Option (List D)} {L : List Nat} (h : EI X ω tg e m L) (e0 : ∀ ρ, m' ρ = m ρ) : EI X ω tg e m' L := by
  have : m' = m := funext e0
  rw [this]; exact h
theorem EP.atom {e : Expr} {m : Env → Option D} {κ : RK} {L : List Nat} (h : EP X ω e m κ L) : EP X ω e (fun ρ => (m ρ).bind atomM) .fz [] := by
  obtain ⟨t, p, q⟩ := h.ex
  refine ⟨t, p, fun σ H ρ fs W0 d Q E em k => ?_⟩
  obtain ⟨a, e1, e2⟩ := Option.bind_eq_some_iff.mp em
  unfold atomM at e2
  split at e2
  · rename_i hf
    cases e2
    refine q σ H ρ fs W0 d Q E e1 fun v H' fe P => k v H' [] ⟨P.same, nn, List.nodup_nil, rfl, ?_⟩
    have r := (P.view E.wl).rp_flat hf
    cases r with
    | non => exact .non
    | bl b => exact .bl b
    | int i => exact .int i
    | str x h => exact .str x h
    | tup _ _ => cases hf
    | lst _ _ => cases hf
    | scr _ _ => cases hf
  · cases e2
theorem asBl_eq {d : D} {b : Bool} (h : asBl d = some b) : d = .bl b := by
  unfold asBl at h
  split at h
  · cases h; rfl
  · cases h
theorem ep_and {a b : Expr} {r : List Expr} {ma mb : Env → Option D} {κ : RK} {La Lb : List Nat} {pos : Pos} (ha : EP X ω a ma κ La) (hb : EP X ω (.BoolOp .And (b :: r) pos) mb .fz Lb) :
    EP X ω (.BoolOp .And (a :: b :: r) pos) (fun ρ => ((ma ρ).bind asBl).bind fun k => if k = true then mb ρ else some (.bl false)) .fz Lb := by
  obtain ⟨t, p, q⟩ := ha.ex
  obtain ⟨u, p2, q2⟩ := hb.ex
  refine ⟨_, pe_and p p2, fun σ H ρ fs W0 d Q E em k => ?_⟩
  obtain ⟨c, e1, e2⟩ := Option.bind_eq_some_iff.mp em
  obtain ⟨d1, e3, e4⟩ := Option.bind_eq_some_iff.mp e1
  rw [asBl_eq e4] at e3
  refine q σ H ρ fs W0 _ _ E e3 fun v H1 fe P => ⟨c, (P.view E.wl).bl, ?_⟩
  cases c with
  | true => exact q2 σ H1 ρ fs W0 d Q (E.same P.same) (by simpa using e2) fun v H' fe P2 => k v H' fe (.trans P.same P2)
  | false =>
    have : d = .bl false := by simpa using e2.symm
    subst this
    exact k _ _ _ (.trans P.same (.rpv (.bl false)))
theorem ep_or {a b : Expr} {r : List Expr} {ma mb : Env → Option D} {κ : RK} {La Lb : List Nat} {pos : Pos} (ha : EP X ω a ma κ La) (hb : EP X ω (.BoolOp .Or (b :: r) pos) mb .fz Lb) :
    EP X ω (.BoolOp .Or (a :: b :: r) pos) (fun ρ => ((ma ρ).bind asBl).bind fun k => if k = true then some (.bl true) else mb ρ) .fz Lb := by
  obtain ⟨t, p, q⟩ := ha.ex
  obtain ⟨u, p2, q2⟩ := hb.ex
  refine ⟨_, pe_or p p2, fun σ H ρ fs W0 d Q E em k => ?_⟩
  obtain ⟨c, e1, e2⟩ := Option.bind_eq_some_iff.mp em
  obtain ⟨d1, e3, e4⟩ := Option.bind_eq_some_iff.mp e1
  rw [asBl_eq e4] at e3
  refine q σ H ρ fs W0 _ _ E e3 fun v H1 fe P => ⟨c, (P.view E.wl).bl, ?_⟩
  cases c with
  | false => exact q2 σ H1 ρ fs W0 d Q (E.same P.same) (by simpa using e2) fun v H' fe P2 => k v H' fe (.trans P.same P2)
  | true =>
    have : d = .bl true := by simpa using e2.symm
    subst this
    exact k _ _ _ (.trans P.same (.rpv (.bl true)))
theorem ep_one {a : Expr} {op : BoolOp} {m : Env → Option D} {κ : RK} {L : List Nat} {pos : Pos} (h : EP X ω a m κ L) : EP X ω (.BoolOp op [a] pos) m κ L := let ⟨t, p, q⟩ := h.ex; ⟨t, pe_one p, q⟩
theorem ep_not {a : Expr} {m : Env → Option D} {κ : RK} {L : List Nat} {pos : Pos} (h : EP X ω a m κ L) : EP X ω (.UnaryOp .Not a pos) (fun ρ => ((m ρ).bind asBl).map fun k => D.bl (!k)) .fz [] := by
  obtain ⟨t, p, q⟩ := h.ex
  refine ⟨_, pe_not p, fun σ H ρ fs W0 d Q E em k => ?_⟩
  obtain ⟨c, e1, rfl⟩ := Option.map_eq_some_iff.mp em
  obtain ⟨d1, e3, e4⟩ := Option.bind_eq_some_iff.mp e1
  rw [asBl_eq e4] at e3
  exact q σ H ρ fs W0 _ _ E e3 fun v H1 fe P => ⟨c, (P.view E.wl).bl, k _ _ _ (.trans P.same (.rpv (.bl _)))⟩
/-- a chain as a value -/
theorem ep_chain {a b c : Expr} {r r' : R2} {φ φ' : D → D → Option D} {ma mb mc : Env → Option D} {κa κb κc : RK} {La Lb Lc : List Nat} {e : Expr}
    (hp : ∀ ta tb tc, PE X a ta → PE X b tb → PE X c tc → PE X e (tChain r r' ta tb tc))
    (h1 : OpV X r φ .fz) (h2 : OpV X r' φ' .fz) (ha : EP X ω a ma κa La) (hb : EP X ω b mb κb Lb) (hc : EP X ω c mc κc Lc) :
    EP X ω e (fun ρ => ((ma ρ).bind fun x => (mb ρ).bind fun y => ((φ x y).bind asBl).bind fun k => if k = true then (mc ρ).bind fun z => (φ' y z).bind asBl else some false).map D.bl) .fz [] := by
  obtain ⟨ta, pa, qa⟩ := ha.ex
  obtain ⟨tb, pb, qb⟩ := hb.ex
  obtain ⟨tc, pc, qc⟩ := hc.ex
  refine ⟨_, hp ta tb tc pa pb pc, fun σ H ρ fs W0 d Q E em k => ?_⟩
  obtain ⟨b, em0, rfl⟩ := Option.map_eq_some_iff.mp em
  clear em
  obtain ⟨x, e1, em⟩ := Option.bind_eq_some_iff.mp em0
  obtain ⟨y, e2, em⟩ := Option.bind_eq_some_iff.mp em
  obtain ⟨c1, e3, em⟩ := Option.bind_eq_some_iff.mp em
  obtain ⟨d1, e4, e5⟩ := Option.bind_eq_some_iff.mp e3
  rw [asBl_eq e5] at e4
  refine qa σ H ρ fs W0 x _ E e1 fun v H1 fe1 P1 => ?_
  have E1 := E.same P1.same
  refine qb σ H1 ρ fs W0 y _ E1 e2 fun u H2 fe2 P2 => ?_
  have E2 := E1.same P2.same
  have rx : RpE X.K H2 (Wl W0 fs (La ++ Lb)) v x := ((P1.view E.wl).mono P2.same fun a z => .inl z).mono (Same.refl _) fun a z => .inl (z.mono fun i hi => List.mem_append_left _ hi)
  have ry : RpE X.K H2 (Wl W0 fs (La ++ Lb)) u y := (P2.view E1.wl).mono (Same.refl _) fun a z => .inl (z.mono fun i hi => List.mem_append_right _ hi)
  refine h1 H2 (Wl W0 fs (La ++ Lb)) v u x y (.bl c1) _ E2.wl rx ry e4 fun z H3 fe3 P3 => ⟨c1, (P3.view E2.wl).bl, ?_⟩
  have E3 := E2.same P3.same
  have s3 := (P1.same.trans P2.same).trans P3.same
  cases c1 with
  | false =>
    have : b = false := by simpa using em.symm
    subst this
    exact k _ _ _ (.trans s3 (.rpv (.bl _)))
  | true =>
    obtain ⟨z3, e6, e7⟩ := Option.bind_eq_some_iff.mp (show (mc ρ).bind (fun z => (φ' y z).bind asBl) = some b by simpa using em)
    obtain ⟨d2, e8, e9⟩ := Option.bind_eq_some_iff.mp e7
    rw [asBl_eq e9] at e8
    refine qc σ H3 ρ fs W0 z3 _ E3 e6 fun w H4 fe4 P4 => ?_
    have E4 := E3.same P4.same
    have ry4 : RpE X.K H4 (Wl W0 fs ((La ++ Lb) ++ Lc)) u y := (ry.mono (P3.same.trans P4.same) fun a z => .inl z).mono (Same.refl _) fun a z => .inl (z.mono fun i hi => List.mem_append_left _ hi)
    have rw4 : RpE X.K H4 (Wl W0 fs ((La ++ Lb) ++ Lc)) w z3 := (P4.view E3.wl).mono (Same.refl _) fun a z => .inl (z.mono fun i hi => List.mem_append_right _ hi)
    refine h2 H4 (Wl W0 fs ((La ++ Lb) ++ Lc)) u w y z3 (.bl b) _ E4.wl ry4 rw4 e8 fun z H5 fe5 P5 => ?_
    rw [(P5.view E4.wl).bl]
    exact k _ _ _ (.trans ((s3.trans P4.same).trans P5.same) (.rpv (.bl _)))

/-! ### lists of expressions -/
theorem views_ok {f : IE → Expr → Option (RK × List Nat)} (hf : ∀ i e r, f i e = some r → EP X ω e (denE M i) r.1 r.2) : ∀ {is : List IE} {es : List Expr} {r : List RK × List Nat}, cList f is es = some r → EVs X ω es (denEs M is) r.2 ∧ es.length = is.length ∧ (∀ e ∈ es, ∀ v p, e ≠ .Starred v p)
  | [], [], r, h => by
    cases h
    exact ⟨evs_nil, rfl, fun e he => by cases he⟩
  | [], _ :: _, _, h => by cases h
  | _ :: _, [], _, h => by cases h
  | i :: is, e :: es, r, h => by
    obtain ⟨a, h1, h⟩ := Option.bind_eq_some_iff.mp (show (f i e).bind (fun a => (cList f is es).bind fun b => if notStar e then some (a.1 :: b.1, a.2 ++ b.2) else none) = some r from h)
    obtain ⟨b, h2, h⟩ := Option.bind_eq_some_iff.mp h
    split at h
    · rename_i hs
      cases h
      obtain ⟨q1, q2, q3⟩ := views_ok hf h2
      refine ⟨evs_cons (notStar_ok hs) (hf i e a h1) q1, by simp [q2], fun e' he => ?_⟩
      rcases List.mem_cons.mp he with rfl | he
      · exact notStar_ok hs
      · exact q3 e' he
    · cases h
theorem frozen_ok {f : IE → Expr → Option (RK × List Nat)} (hf : ∀ i e r, f i e = some r → EP X ω e (denE M i) r.1 r.2 ∧ r.1 ≠ .vw) : ∀ {is : List IE} {es : List Expr} {r : List RK × List Nat}, cList f is es = some r → EFs X ω es (denEs M is) r.2 ∧ EOs X ω es (denEs M is) r.1 r.2 ∧ es.length = is.length ∧ (∀ e ∈ es, ∀ v p, e ≠ .Starred v p)
  | [], [], r, h => by
    cases h
    exact ⟨efs_nil, eos_nil, rfl, fun e he => by cases he⟩
  | [], _ :: _, _, h => by cases h
  | _ :: _, [], _, h => by cases h
  | i :: is, e :: es, r, h => by
    obtain ⟨a, h1, h⟩ := Option.bind_eq_some_iff.mp (show (f i e).bind (fun a => (cList f is es).bind fun b => if notStar e then some (a.1 :: b.1, a.2 ++ b.2) else none) = some r from h)
    obtain ⟨b, h2, h⟩ := Option.bind_eq_some_iff.mp h
    split at h
    · rename_i hs
      cases h
      obtain ⟨q1, q0, q2, q3⟩ := frozen_ok hf h2
      obtain ⟨p1, p2⟩ := hf i e a h1
      refine ⟨efs_cons p2 (notStar_ok hs) p1 q1, eos_cons p2 (notStar_ok hs) p1 q0, by simp [q2], fun e' he => ?_⟩
      rcases List.mem_cons.mp he with rfl | he
      · exact notStar_ok hs
      · exact q3 e' he
    · cases h
theorem denEs_len : ∀ {is : List IE} {ρ : Env} {ds : List D}, denEs M is ρ = some ds → ds.length = is.length
  | [], ρ, ds, h => by cases h; rfl
  | i :: is, ρ, ds, h => by
    obtain ⟨x, _, h⟩ := Option.bind_eq_some_iff.mp (show (denE M i ρ).bind (fun x => (denEs M is ρ).bind fun r => some (x :: r)) = some ds from h)
    obtain ⟨r, h2, h⟩ := Option.bind_eq_some_iff.mp h
    cases h
    simp [denEs_len h2]

/-! ### targets -/
theorem tgt_ok (g : Good S M X) : ∀ (n : Nat) (T : Tgt) (e : Expr), cTgt S n T e = true → EG X e T
  | 0, _, _, h => by cases h
  | n + 1, .nm i, e, h => by
    unfold cTgt at h
    split at h
    · rename_i x hx
      obtain ⟨p, rfl⟩ := mName_eq hx
      rw [Bool.and_eq_true] at h
      have h1 : S.N[i]? = some x := of_decide_eq_true h.1
      obtain ⟨h2, h3⟩ := g.loc h.2
      have hN : X.N[i]? = some x := by rw [g.N]; exact h1
      exact eg_nm (pg_name (by rw [g.N]; exact g.nd) hN h2 h3) (List.getElem?_eq_some_iff.mp hN).1
    · cases h
  | n + 1, .tp ts, e, h => by
    unfold cTgt at h
    split at h
    · rename_i es hx
      obtain ⟨k, p, rfl⟩ := mTup_eq hx
      rw [Bool.and_eq_true, Bool.and_eq_true] at h
      obtain ⟨⟨h1, h2⟩, h3⟩ := h
      have hl : es.length = ts.length := of_decide_eq_true h1
      have hs : ∀ e ∈ es, ∀ v p, e ≠ .Starred v p := fun e he => notStar_ok (List.all_eq_true.mp h2 e he)
      have key : ∀ (es : List Expr) (ts : List Tgt), es.length = ts.length → (∀ e ∈ es, ∀ v p, e ≠ .Starred v p) → (List.zipWith (cTgt S n) ts es).all id = true → EGs X es ts := by
        intro es
        induction es with
        | nil => intro ts hl _ _; cases ts with
          | nil => exact egs_nil
          | cons _ _ => cases hl
        | cons e es ih => intro ts hl hs h; cases ts with
          | nil => cases hl
          | cons t ts =>
            rw [List.zipWith_cons_cons, List.all_cons, Bool.and_eq_true] at h
            exact egs_cons (hs e (by simp)) (tgt_ok g n t e h.1) (ih ts (by simpa using hl) (fun e he => hs e (List.mem_cons_of_mem _ he)) h.2)
      exact eg_tp g.calm hs hl (key es ts hl hs h3)
    · cases h

theorem retB_eq {b : Bool} {r r' : RK × List Nat} (h : retB b r = some r') : b = true ∧ r = r' := by
  unfold retB at h
  split at h
  · cases h; exact ⟨by assumption, rfl⟩
  · cases h
theorem bo_vw (op : BO) : op.κ ≠ .vw := by cases op <;> exact fun h => nomatch h
theorem fn_vw (f : FN) : f.κ ≠ .vw := by cases f <;> exact fun h => nomatch h
theorem ro_vw (o : Ow) : roK o ≠ .vw := by cases o <;> exact fun h => nomatch h
theorem comp_vw (κ : RK) : compK κ ≠ .vw := by cases κ <;> exact fun h => nomatch h

structure Snd (n : Nat) : Prop where
  E : ∀ (S : SC) (M : Mn) (X : Cx) (ω : List Ow) (md : Bool) (ie : IE) (e : Expr) (r : RK × List Nat), Good S M X → cE n S ω md ie e = some r → EP X ω e (denE M ie) r.1 r.2 ∧ (md = false → r.1 ≠ .vw)
  B : ∀ (S : SC) (M : Mn) (X : Cx) (ω : List Ow) (ie : IE) (op : BoolOp) (vs : List Expr) (L : List Nat) (pos : Pos), Good S M X → cB n S ω ie op vs = some L → EP X ω (.BoolOp op vs pos) (denE M ie) .fz L
  O : ∀ (S : SC) (M : Mn) (X : Cx) (ω : List Ow) (ie : Option IE) (e : Option Expr), Good S M X → cO n S ω ie e = true → EO X ω e (denO M ie)
  T : ∀ (S : SC) (M : Mn) (X : Cx) (ω : List Ow) (ie : IE) (e : Expr), Good S M X → cT n S ω ie e = true → ET X ω e (fun ρ => (denE M ie ρ).bind asBl)
  W : ∀ (S : SC) (M : Mn) (X : Cx) (ω : List Ow) (ie : IE) (op : BoolOp) (vs : List Expr) (pos : Pos), Good S M X → cW n S ω ie op vs = true → EW X ω (.BoolOp op vs pos) (fun ρ => (denE M ie ρ).bind asBl)
  I : ∀ (S : SC) (M : Mn) (X : Cx) (ω : List Ow) (ii : II) (tg e : Expr) (L : List Nat), Good S M X → cI n S ω ii e = some L → EI X ω tg e (denI M ii) L
  C : ∀ (S : SC) (M : Mn) (X : Cx) (ω : List Ow) (elt : IE) (T : Tgt) (it : II) (c : Option IE) (own : List Nat) (e : Expr) (r : RK × List Nat), Good S M X → cComp n S ω elt T it c own e = some r →
    ∃ elt' tg iter ifs scope pos L0 κ Le, e = .ListComp elt' [⟨tg, iter, ifs, 0⟩] scope pos ∧ r = (compK κ, L0 ++ Le) ∧ CompOk X ω elt' tg iter ifs scope (own.map fun i => (S.N.getD i "", i)) T (denI M it) L0 (denC M c) (denE M elt) κ Le
end PV

set_option Elab.async false
set_option linter.all false
set_option maxRecDepth 100000
set_option autoImplicit false
set_option maxHeartbeats 4000000
/-! Value semantics: soundness of the look at expressions. -/
namespace PV
open PySem PySem.Spec PyProof.Rows L2

theorem own_map (N : List Str) : ∀ own : List Nat, (own.map fun i => (N.getD i "", i)).map (·.2) = own
  | [] => rfl
  | a :: l => by rw [List.map_cons, List.map_cons, own_map N l]
theorem snd_zero : Snd 0 where
  E := fun _ _ _ _ _ _ _ _ _ h => by cases h
  B := fun _ _ _ _ _ _ vs _ _ _ h => by unfold cB at h; cases h
  O := fun _ _ _ _ ie e _ h => by unfold cO at h; cases h
  T := fun _ _ _ _ _ _ _ h => by cases h
  W := fun _ _ _ _ _ _ vs _ _ h => by unfold cW at h; cases h
  I := fun _ _ _ _ ii _ _ _ _ h => by unfold cI at h; cases h
  C := fun _ _ _ _ _ _ _ _ _ _ _ _ h => by cases h
theorem snd_E {n : Nat} (ih : Snd n) (S : SC) (M : Mn) (X : Cx) (ω : List Ow) (md : Bool) (ie : IE) (e : Expr) (r : RK × List Nat) (g : Good S M X) (h : cE (n + 1) S ω md ie e = some r) : EP X ω e (denE M ie) r.1 r.2 ∧ (md = false → r.1 ≠ .vw) := by
  cases ie with
  | var i =>
    obtain ⟨x, hx, h⟩ := Option.bind_eq_some_iff.mp h
    obtain ⟨p, rfl⟩ := mName_eq hx
    obtain ⟨hb, rfl⟩ := retB_eq h
    simp only [Bool.and_eq_true] at hb
    obtain ⟨⟨⟨h1, h2⟩, h3⟩, h4⟩ := hb
    have hN : X.N[i]? = some x := by rw [g.N]; exact of_decide_eq_true h1
    have pe : PE X (.Name x p) (tVar i) := pe_var hN (g.vis h2) (beq_eq_false_iff_ne.mpr (of_decide_eq_true h3)) (beq_eq_false_iff_ne.mpr (of_decide_eq_true h4))
    split
    · rename_i ho
      exact ⟨ep_var pe ho, fun _ h => nomatch h⟩
    · split
      · rename_i hv
        rw [Bool.and_eq_true, Bool.or_eq_true] at hv
        refine ⟨ep_varV pe (hv.2.imp of_decide_eq_true of_decide_eq_true), fun h => ?_⟩
        rw [h] at hv
        exact absurd hv.1 (by decide)
      · exact ⟨ep_varC pe, fun _ h => nomatch h⟩
  | cst d =>
    obtain ⟨c, hx, h⟩ := Option.bind_eq_some_iff.mp h
    obtain ⟨j, p, rfl⟩ := mConst_eq hx
    obtain ⟨hb, rfl⟩ := retB_eq h
    refine ⟨?_, fun _ h => nomatch h⟩
    clear h hx
    unfold cstOk at hb
    split at hb
    · rename_i i j
      have : i = j := of_decide_eq_true hb
      subst this
      exact ep_cst pe_int fun H W => .int _
    · rename_i x y
      rw [Bool.and_eq_true] at hb
      have : x = y := of_decide_eq_true hb.1
      subst this
      exact ep_cst pe_str fun H W => .str _ hb.2
    · rename_i a b
      have : a = b := eq_of_beq hb
      subst this
      exact ep_cst pe_bl fun H W => .bl _
    · exact ep_cst pe_non fun H W => .non
    · cases hb
  | glob j =>
    obtain ⟨x, hx, h⟩ := Option.bind_eq_some_iff.mp h
    obtain ⟨p, rfl⟩ := mName_eq hx
    obtain ⟨hb, rfl⟩ := retB_eq h
    simp only [Bool.and_eq_true] at hb
    obtain ⟨⟨h1, h2⟩, h3⟩ := hb
    obtain ⟨d, v, u, e1, e2, e3, e4⟩ := g.glob j x (of_decide_eq_true h1)
    exact ⟨(ep_glob (g.gl h2) e2 e3 e4 (beq_eq_false_iff_ne.mpr (of_decide_eq_true h3))).cong fun ρ => e1, fun _ h => nomatch h⟩
  | bin op a b =>
    obtain ⟨q, hx, h⟩ := Option.bind_eq_some_iff.mp h
    obtain ⟨ea, o, eb⟩ := q
    obtain ⟨ra, ha, h⟩ := Option.bind_eq_some_iff.mp h
    obtain ⟨rb, hb, h⟩ := Option.bind_eq_some_iff.mp h
    obtain ⟨hc, rfl⟩ := retB_eq h
    obtain ⟨p, rfl⟩ := mBin_eq hx
    have : o = op.op := of_decide_eq_true hc
    subst this
    obtain ⟨rl, h1, h2⟩ := bo_ok (X := X) op
    exact ⟨(ep_op2 (fun ta tb pa pb => pe_op h1 pa pb) h2 (ih.E S M X ω _ a ea ra g ha).1 (ih.E S M X ω _ b eb rb g hb).1).cong fun ρ => rfl, fun _ => bo_vw op⟩
  | neg a =>
    obtain ⟨q, hx, h⟩ := Option.bind_eq_some_iff.mp h
    obtain ⟨o, ea⟩ := q
    obtain ⟨ra, ha, h⟩ := Option.bind_eq_some_iff.mp h
    obtain ⟨hc, rfl⟩ := retB_eq h
    obtain ⟨p, rfl⟩ := mUn_eq hx
    have : o = .USub := of_decide_eq_true hc
    subst this
    exact ⟨(ep_op1 (fun ta pa => pe_un un_neg pa) opv_neg (ih.E S M X ω _ a ea ra g ha).1).cong fun ρ => rfl, fun _ h => nomatch h⟩
  | cmp op a b =>
    obtain ⟨q, hx, h⟩ := Option.bind_eq_some_iff.mp h
    obtain ⟨ea, o, eb⟩ := q
    obtain ⟨ra, ha, h⟩ := Option.bind_eq_some_iff.mp h
    obtain ⟨rb, hb, h⟩ := Option.bind_eq_some_iff.mp h
    obtain ⟨hc, rfl⟩ := retB_eq h
    obtain ⟨p, rfl⟩ := mCmp_eq hx
    rw [Bool.and_eq_true] at hc
    have : o = op.op := of_decide_eq_true hc.1
    subst this
    obtain ⟨rl, h1, h2⟩ := co_ok g op
    exact ⟨(ep_op2 (fun ta tb pa pb => pe_cmpR h1 pa pb (mark_ok hc.2)) h2 (ih.E S M X ω _ a ea ra g ha).1 (ih.E S M X ω _ b eb rb g hb).1).cong fun ρ => rfl, fun _ h => nomatch h⟩
  | isN neg a =>
    obtain ⟨q, hx, h⟩ := Option.bind_eq_some_iff.mp h
    obtain ⟨ea, o, eb⟩ := q
    obtain ⟨ra, ha, h⟩ := Option.bind_eq_some_iff.mp h
    obtain ⟨hc, rfl⟩ := retB_eq h
    obtain ⟨p, rfl⟩ := mCmp_eq hx
    rw [Bool.and_eq_true] at hc
    obtain ⟨j, p2, e2⟩ := mConst_eq (of_decide_eq_true hc.2)
    have e2 : eb = .Constant .none j p2 := e2
    subst e2
    have e1 : o = if neg then .IsNot else .Is := of_decide_eq_true hc.1
    refine ⟨?_, fun _ h => nomatch h⟩
    have ea' := (ih.E S M X ω _ a ea ra g ha).1
    cases neg with
    | false =>
      have e1 : o = .Is := e1
      subst e1
      exact (ep_op1 (fun ta pa => (pe_cmp (pc_isN pa) rfl : PE X _ (tUn (fun x H Q => Q (.bl (decide (x = .non))) H) ta))) opv_isN ea').cong fun ρ => rfl
    | true =>
      have e1 : o = .IsNot := e1
      subst e1
      exact (ep_op1 (fun ta pa => (pe_cmp (pc_notN pa) rfl : PE X _ (tUn (fun x H Q => Q (.bl (!decide (x = .non))) H) ta))) opv_notN ea').cong fun ρ => rfl
  | chain op op' a b c =>
    obtain ⟨q, hx, h⟩ := Option.bind_eq_some_iff.mp h
    obtain ⟨ea, o, eb, o', ec⟩ := q
    obtain ⟨ra, ha, h⟩ := Option.bind_eq_some_iff.mp h
    obtain ⟨rb, hb, h⟩ := Option.bind_eq_some_iff.mp h
    obtain ⟨rc, hc0, h⟩ := Option.bind_eq_some_iff.mp h
    obtain ⟨hc, rfl⟩ := retB_eq h
    obtain ⟨p, rfl⟩ := mChain_eq hx
    simp only [Bool.and_eq_true] at hc
    obtain ⟨⟨⟨h1, h2⟩, h3⟩, h4⟩ := hc
    have : o = op.op := of_decide_eq_true h1
    subst this
    have : o' = op'.op := of_decide_eq_true h2
    subst this
    obtain ⟨r1, k1, k2⟩ := co_ok g op
    obtain ⟨r2, k3, k4⟩ := co_ok g op'
    exact ⟨(ep_chain (fun ta tb tc pa pb pc => pe_chain k1 k3 pa pb pc (mark_ok h4)) k2 k4 (ih.E S M X ω _ a ea ra g ha).1 (ih.E S M X ω _ b eb rb g hb).1 (ih.E S M X ω _ c ec rc g hc0).1).cong fun ρ => rfl, fun _ h => nomatch h⟩
  | not_ a =>
    obtain ⟨q, hx, h⟩ := Option.bind_eq_some_iff.mp h
    obtain ⟨o, ea⟩ := q
    obtain ⟨ra, ha, h⟩ := Option.bind_eq_some_iff.mp h
    obtain ⟨hc, rfl⟩ := retB_eq h
    obtain ⟨p, rfl⟩ := mUn_eq hx
    have : o = .Not := of_decide_eq_true hc
    subst this
    exact ⟨(ep_not (ih.E S M X ω _ a ea ra g ha).1).cong fun ρ => rfl, fun _ h => nomatch h⟩
  | and_ a b =>
    obtain ⟨q, hx, h⟩ := Option.bind_eq_some_iff.mp h
    obtain ⟨o, vs, pos⟩ := q
    split at h
    · rename_i e1
      obtain ⟨L, hL, rfl⟩ := Option.map_eq_some_iff.mp h
      have e1 : o = .And := e1
      subst e1
      rw [mBool_eq hx]
      exact ⟨ih.B S M X ω _ _ vs L pos g hL, fun _ h => nomatch h⟩
    · cases h
  | or_ a b =>
    obtain ⟨q, hx, h⟩ := Option.bind_eq_some_iff.mp h
    obtain ⟨o, vs, pos⟩ := q
    split at h
    · rename_i e1
      obtain ⟨L, hL, rfl⟩ := Option.map_eq_some_iff.mp h
      have e1 : o = .Or := e1
      subst e1
      rw [mBool_eq hx]
      exact ⟨ih.B S M X ω _ _ vs L pos g hL, fun _ h => nomatch h⟩
    · cases h
  | ifx c a b =>
    obtain ⟨q, hx, h⟩ := Option.bind_eq_some_iff.mp h
    obtain ⟨ec, ea, eb⟩ := q
    split at h
    · rename_i ht
      obtain ⟨ra, ha, h⟩ := Option.bind_eq_some_iff.mp h
      obtain ⟨rb, hb, h⟩ := Option.bind_eq_some_iff.mp h
      cases h
      obtain ⟨p, rfl⟩ := mIf_eq hx
      have t := ih.T S M X ω c ec g ht
      obtain ⟨a1, a2⟩ := ih.E S M X ω _ a ea ra g ha
      obtain ⟨b1, b2⟩ := ih.E S M X ω _ b eb rb g hb
      by_cases he : ra.1 = rb.1
      · simp only [if_pos he]
        rw [← he] at b1
        exact ⟨(ep_if t a1 b1).cong fun ρ => rfl, fun _ => a2 rfl⟩
      · simp only [if_neg he]
        exact ⟨(ep_if t (a1.fz (a2 rfl)) (b1.fz (b2 rfl))).cong fun ρ => rfl, fun _ h => nomatch h⟩
    · cases h
  | tup es =>
    obtain ⟨q, hx, h⟩ := Option.bind_eq_some_iff.mp h
    obtain ⟨rr, hr, h⟩ := Option.bind_eq_some_iff.mp h
    cases h
    obtain ⟨k, p, rfl⟩ := mTup_eq hx
    obtain ⟨q1, _, _, _⟩ := frozen_ok (M := M) (fun i e r h => ⟨(ih.E S M X ω false i e r g h).1, (ih.E S M X ω false i e r g h).2 rfl⟩) hr
    exact ⟨(ep_tup q1).cong fun ρ => rfl, fun _ h => nomatch h⟩
  | lst es =>
    obtain ⟨q, hx, h⟩ := Option.bind_eq_some_iff.mp h
    obtain ⟨rr, hr, h⟩ := Option.bind_eq_some_iff.mp h
    cases h
    obtain ⟨p, rfl⟩ := mLst_eq hx
    obtain ⟨q1, _, hl, _⟩ := frozen_ok (M := M) (fun i e r h => ⟨(ih.E S M X ω false i e r g h).1, (ih.E S M X ω false i e r g h).2 rfl⟩) hr
    cases es with
    | nil =>
      have : q = [] := List.eq_nil_of_length_eq_zero hl
      subst this
      cases hr
      exact ⟨ep_nil.cong fun ρ => rfl, fun _ h => nomatch h⟩
    | cons e0 es => exact ⟨(ep_lst q1).cong fun ρ => rfl, fun _ h => nomatch h⟩
  | ix a b =>
    obtain ⟨q, hx, h⟩ := Option.bind_eq_some_iff.mp h
    obtain ⟨ea, eb⟩ := q
    obtain ⟨ra, ha, h⟩ := Option.bind_eq_some_iff.mp h
    obtain ⟨rb, hb, h⟩ := Option.bind_eq_some_iff.mp h
    cases h
    obtain ⟨p, rfl, hn⟩ := mIx_eq hx
    exact ⟨(ep_op2 (fun ta tb pa pb => pe_ix ix_seq pa pb (plainIx hn)) opv_ix (ih.E S M X ω _ a ea ra g ha).1 (ih.E S M X ω _ b eb rb g hb).1).cong fun ρ => rfl, fun _ h => nomatch h⟩
  | sl a lo hi =>
    obtain ⟨q, hx, h⟩ := Option.bind_eq_some_iff.mp h
    obtain ⟨ea, elo, ehi⟩ := q
    obtain ⟨ra, ha, h⟩ := Option.bind_eq_some_iff.mp h
    split at h
    · rename_i hc
      cases h
      rw [Bool.and_eq_true] at hc
      obtain ⟨p, p2, rfl⟩ := mSl_eq hx
      exact ⟨(ep_slice (ih.E S M X ω _ a ea ra g ha).1 (ih.O S M X ω lo elo g hc.1) (ih.O S M X ω hi ehi g hc.2)).cong fun ρ => rfl, fun _ h => nomatch h⟩
    · cases h
  | fn f es =>
    obtain ⟨q, hx, h⟩ := Option.bind_eq_some_iff.mp h
    obtain ⟨x, as⟩ := q
    obtain ⟨rr, hr, h⟩ := Option.bind_eq_some_iff.mp h
    obtain ⟨hc, rfl⟩ := retB_eq h
    simp only [Bool.and_eq_true] at hc
    obtain ⟨⟨h1, h2⟩, h3⟩ := hc
    obtain ⟨p, p2, rfl⟩ := mCall_eq hx
    have : x = f.nm := of_decide_eq_true h1
    subst this
    obtain ⟨q1, hl, hs⟩ := views_ok (M := M) (fun i e r h => (ih.E S M X ω true i e r g h).1) hr
    refine ⟨?_, fun _ => fn_vw f⟩
    cases as with
    | nil =>
      have : es = [] := List.eq_nil_of_length_eq_zero hl.symm
      subst this
      cases h3
    | cons a0 as =>
      obtain ⟨rl, k1, k2⟩ := fn_ok g f h2 hs p p2
      exact (ep_fun k1 k2 q1).cong fun ρ => rfl
  | call j es =>
    obtain ⟨q, hx, h⟩ := Option.bind_eq_some_iff.mp h
    obtain ⟨x, as⟩ := q
    obtain ⟨rr, hr, h⟩ := Option.bind_eq_some_iff.mp h
    split at h
    · rename_i y k ro hF
      obtain ⟨hc, rfl⟩ := retB_eq h
      simp only [Bool.and_eq_true] at hc
      obtain ⟨⟨⟨h1, h2⟩, h3⟩, h4⟩ := hc
      obtain ⟨p, p2, rfl⟩ := mCall_eq hx
      have : x = y := of_decide_eq_true h1
      subst this
      obtain ⟨q1, _, hl, hs⟩ := frozen_ok (M := M) (fun i e r h => ⟨(ih.E S M X ω false i e r g h).1, (ih.E S M X ω false i e r g h).2 rfl⟩) hr
      have hk : es.length = k := of_decide_eq_true h4
      exact ⟨(ep_call (g.fns j x k ro hF) (g.gl h2) (beq_eq_false_iff_ne.mpr (of_decide_eq_true h3)) hs (by rw [hl, hk]) (fun ρ ds hd => by rw [denEs_len hd, hl]) q1).cong fun ρ => rfl, fun _ => ro_vw ro⟩
    · cases h
  | comp elt T it c own =>
    obtain ⟨elt', tg, iter, ifs, scope, pos, L0, κ, Le, rfl, rfl, C⟩ := ih.C S M X ω elt T it c own e r g h
    have q := ep_comp (pos := pos) C
    have e0 : (own.map fun i => (S.N.getD i "", i)).map (·.2) = own := own_map S.N own
    rw [e0] at q
    exact ⟨q.cong fun ρ => rfl, fun _ => comp_vw κ⟩
  | atom a =>
    obtain ⟨ra, ha, h⟩ := Option.bind_eq_some_iff.mp h
    cases h
    exact ⟨((ih.E S M X ω _ a e ra g ha).1.atom).cong fun ρ => rfl, fun _ h => nomatch h⟩

theorem gen_pt {X : Cx} {e : Expr} {t : TE} (h : PE X e t) (he : ∀ whole, isTrue e X.env whole = (do let v ← whole; standAt e.pos; holding [v] (truthy v))) : PT X e (tTest t) := pt_val h he
theorem snd_B {n : Nat} (ih : Snd n) (S : SC) (M : Mn) (X : Cx) (ω : List Ow) (ie : IE) (op : BoolOp) (vs : List Expr) (L : List Nat) (pos : Pos) (g : Good S M X) (h : cB (n + 1) S ω ie op vs = some L) : EP X ω (.BoolOp op vs pos) (denE M ie) .fz L := by
  match vs, h with
  | [], h => unfold cB at h; cases h
  | [v], h =>
    unfold cB at h
    obtain ⟨r, hr, rfl⟩ := Option.map_eq_some_iff.mp h
    obtain ⟨q1, q2⟩ := ih.E S M X ω false ie v r g hr
    exact ep_one (q1.fz (q2 rfl))
  | v :: v2 :: vs, h =>
    unfold cB at h
    split at h
    · obtain ⟨ra, ha, h⟩ := Option.bind_eq_some_iff.mp h
      exact (ep_and (ih.E S M X ω true _ v ra g ha).1 (ih.B S M X ω _ .And (v2 :: vs) L pos g h)).cong fun ρ => rfl
    · obtain ⟨ra, ha, h⟩ := Option.bind_eq_some_iff.mp h
      exact (ep_or (ih.E S M X ω true _ v ra g ha).1 (ih.B S M X ω _ .Or (v2 :: vs) L pos g h)).cong fun ρ => rfl
    · cases h
theorem snd_O {n : Nat} (ih : Snd n) (S : SC) (M : Mn) (X : Cx) (ω : List Ow) (ie : Option IE) (e : Option Expr) (g : Good S M X) (h : cO (n + 1) S ω ie e = true) : EO X ω e (denO M ie) := by
  match ie, e, h with
  | none, none, _ => exact eo_none
  | some i, some e, h =>
    unfold cO at h
    obtain ⟨r, hr⟩ := Option.isSome_iff_exists.mp h
    exact eo_some (ih.E S M X ω true i e r g hr).1
  | none, some _, h => unfold cO at h; cases h
  | some _, none, h => unfold cO at h; cases h
theorem and_bl {a b : Env → Option D} (ρ : Env) : ((((a ρ).bind asBl).bind fun k => if k = true then b ρ else some (.bl false)).bind asBl) = andM (fun ρ => (a ρ).bind asBl) (fun ρ => (b ρ).bind asBl) ρ := by
  show _ = (((a ρ).bind asBl).bind fun c => if c = true then (b ρ).bind asBl else some false)
  generalize (a ρ).bind asBl = o
  cases o with
  | none => rfl
  | some k => cases k <;> rfl
theorem or_bl {a b : Env → Option D} (ρ : Env) : ((((a ρ).bind asBl).bind fun k => if k = true then some (.bl true) else b ρ).bind asBl) = orM (fun ρ => (a ρ).bind asBl) (fun ρ => (b ρ).bind asBl) ρ := by
  show _ = (((a ρ).bind asBl).bind fun c => if c = true then some true else (b ρ).bind asBl)
  generalize (a ρ).bind asBl = o
  cases o with
  | none => rfl
  | some k => cases k <;> rfl
theorem not_bl {a : Env → Option D} (ρ : Env) : ((((a ρ).bind asBl).map fun k => D.bl (!k)).bind asBl) = ((a ρ).bind asBl).map (!·) := by
  generalize (a ρ).bind asBl = o
  cases o with
  | none => rfl
  | some k => rfl
theorem snd_W {n : Nat} (ih : Snd n) (S : SC) (M : Mn) (X : Cx) (ω : List Ow) (ie : IE) (op : BoolOp) (vs : List Expr) (pos : Pos) (g : Good S M X) (h : cW (n + 1) S ω ie op vs = true) : EW X ω (.BoolOp op vs pos) (fun ρ => (denE M ie ρ).bind asBl) := by
  match vs, h with
  | [], h => unfold cW at h; cases h
  | [v], h =>
    unfold cW at h
    have t := ih.T S M X ω ie v g h
    cases op with
    | And => exact ew_and1 t
    | Or => exact ew_or1 t
  | v :: v2 :: vs, h =>
    unfold cW at h
    split at h
    · rw [Bool.and_eq_true] at h
      exact (ew_and (ih.T S M X ω _ v g h.1) (ih.W S M X ω _ .And (v2 :: vs) pos g h.2)).cong and_bl
    · rw [Bool.and_eq_true] at h
      exact (ew_or (ih.T S M X ω _ v g h.1) (ih.W S M X ω _ .Or (v2 :: vs) pos g h.2)).cong or_bl
    · cases h
theorem snd_I {n : Nat} (ih : Snd n) (S : SC) (M : Mn) (X : Cx) (ω : List Ow) (ii : II) (tg e : Expr) (L : List Nat) (g : Good S M X) (h : cI (n + 1) S ω ii e = some L) : EI X ω tg e (denI M ii) L := by
  cases ii with
  | seq i =>
    unfold cI at h
    obtain ⟨r, hr, rfl⟩ := Option.map_eq_some_iff.mp h
    obtain ⟨q1, q2⟩ := ih.E S M X ω false i e r g hr
    exact (ei_seq q1 (q2 rfl)).cong fun ρ => rfl
  | rng es =>
    unfold cI at h
    obtain ⟨q, hx, h⟩ := Option.bind_eq_some_iff.mp h
    obtain ⟨x, as⟩ := q
    obtain ⟨rr, hr, h⟩ := Option.bind_eq_some_iff.mp h
    split at h
    · rename_i hc
      cases h
      simp only [Bool.and_eq_true, Bool.or_eq_true] at hc
      obtain ⟨⟨h1, h2⟩, h3⟩ := hc
      obtain ⟨p, p2, rfl⟩ := mCall_eq hx
      have : x = ("range" : Str) := of_decide_eq_true h1
      subst this
      obtain ⟨f1, f2⟩ := g.fr h2
      obtain ⟨q1, hl, hs⟩ := views_ok (M := M) (fun i e r h => (ih.E S M X ω true i e r g h).1) hr
      rcases h3 with h3 | h3
      · have h3 : es.length = 1 := of_decide_eq_true h3
        match as, hl.trans h3 with
        | [a], _ =>
          refine (ei_rng1 f1 f2 q1 (hs a (by simp))).cong fun ρ => ?_
          show (denEs M es ρ).bind rngF = _
          cases hd : denEs M es ρ with
          | none => rfl
          | some ds =>
            have := denEs_len hd
            match ds, this.trans h3 with
            | [d], _ => rfl
      · have h3 : es.length = 2 := of_decide_eq_true h3
        match as, hl.trans h3 with
        | [a, b], _ =>
          refine (ei_rng2 f1 f2 q1 (hs a (by simp)) (hs b (by simp))).cong fun ρ => ?_
          show (denEs M es ρ).bind rngF = _
          cases hd : denEs M es ρ with
          | none => rfl
          | some ds =>
            have := denEs_len hd
            match ds, this.trans h3 with
            | [d, d2], _ => rfl
    · cases h

theorem et_op2 {X : Cx} {ω : List Ow} {a b : Expr} {ma mb : Env → Option D} {κ κa κb : RK} {La Lb : List Nat} {e : Expr} {r : R2} {φ : D → D → Option D}
    (hp : ∀ ta tb, PE X a ta → PE X b tb → PT X e (tTest (tOp r ta tb))) (hv : OpV X r φ κ) (ha : EP X ω a ma κa La) (hb : EP X ω b mb κb Lb) :
    ET X ω e (fun ρ => ((ma ρ).bind fun x => (mb ρ).bind fun y => φ x y).bind asBl) := by
  obtain ⟨ta, pa, qa⟩ := ha.ex
  obtain ⟨tb, pb, qb⟩ := hb.ex
  refine ⟨_, hp ta tb pa pb, fun σ H ρ fs W0 c Q E em k => ?_⟩
  obtain ⟨d, em, e0⟩ := Option.bind_eq_some_iff.mp em
  have e0 := asBl_eq e0
  subst e0
  obtain ⟨x, ex, em⟩ := Option.bind_eq_some_iff.mp em
  obtain ⟨y, ey, em⟩ := Option.bind_eq_some_iff.mp em
  refine qa σ H ρ fs W0 x _ E ex fun v H1 fe P1 => ?_
  have E1 := E.same P1.same
  refine qb σ H1 ρ fs W0 y _ E1 ey fun u H2 fe2 P2 => ?_
  have hW : Tk H2 (Wl W0 fs (La ++ Lb)) := tk_same (E1.wl) P2.same
  refine hv H2 (Wl W0 fs (La ++ Lb)) v u x y (.bl c) _ hW ?_ ?_ em fun v H' fe P => ⟨c, (P.view hW).bl, k H' ((P1.same.trans P2.same).trans P.same)⟩
  · exact ((P1.view E.wl).mono P2.same fun a z => .inl z).mono (Same.refl _) fun a z => .inl (z.mono fun i hi => List.mem_append_left _ hi)
  · exact (P2.view E1.wl).mono (Same.refl _) fun a z => .inl (z.mono fun i hi => List.mem_append_right _ hi)
theorem et_op1 {X : Cx} {ω : List Ow} {a : Expr} {ma : Env → Option D} {κ κa : RK} {La : List Nat} {e : Expr} {r : V → Hp → VK → Prop} {φ : D → Option D}
    (hp : ∀ ta, PE X a ta → PT X e (tTest (tUn r ta))) (hv : OpV1 X r φ κ) (ha : EP X ω a ma κa La) : ET X ω e (fun ρ => ((ma ρ).bind φ).bind asBl) := by
  obtain ⟨ta, pa, qa⟩ := ha.ex
  refine ⟨_, hp ta pa, fun σ H ρ fs W0 c Q E em k => ?_⟩
  obtain ⟨d, em, e0⟩ := Option.bind_eq_some_iff.mp em
  have e0 := asBl_eq e0
  subst e0
  obtain ⟨x, ex, em⟩ := Option.bind_eq_some_iff.mp em
  refine qa σ H ρ fs W0 x _ E ex fun v H1 fe P1 => ?_
  have hW := tk_same (E.wl (L := La)) P1.same
  exact hv H1 (Wl W0 fs La) v x (.bl c) _ hW (P1.view E.wl) em fun v H' fe P => ⟨c, (P.view hW).bl, k H' (P1.same.trans P.same)⟩
theorem gen_name {X : Cx} {x : Str} {p : Pos} (t : TE) (h : PE X (.Name x p) t) : PT X (.Name x p) (tTest t) := gen_pt h (by intro _; rfl)
theorem gen_call {X : Cx} {f : Expr} {es : List Expr} {p : Pos} (t : TE) (h : PE X (.Call f es [] p) t) : PT X (.Call f es [] p) (tTest t) := gen_pt h (by intro _; rfl)
theorem gen_cst {X : Cx} {c : Const} {j} {p : Pos} (t : TE) (h : PE X (.Constant c j p) t) : PT X (.Constant c j p) (tTest t) := gen_pt h (by intro _; rfl)
theorem gen_sub {X : Cx} {a b : Expr} {p : Pos} (t : TE) (h : PE X (.Subscript a b p) t) : PT X (.Subscript a b p) (tTest t) := gen_pt h (by intro _; rfl)
def isSome_of {α : Type} {o : Option α} (h : o.isSome = true) : ∃ r, o = some r := Option.isSome_iff_exists.mp h
theorem any_some {α : Type} {o : Option α} {f : α → Bool} (h : o.any f = true) : ∃ q, o = some q ∧ f q = true := by
  cases o with
  | none => cases h
  | some q => exact ⟨q, rfl, h⟩
theorem snd_T {n : Nat} (ihs : ∀ m, m ≤ n → Snd m) (S : SC) (M : Mn) (X : Cx) (ω : List Ow) (ie : IE) (e : Expr) (g : Good S M X) (h : cT (n + 1) S ω ie e = true) : ET X ω e (fun ρ => (denE M ie ρ).bind asBl) := by
  have ih := ihs n (Nat.le_refl _)
  cases ie with
  | not_ a =>
    obtain ⟨q, hx, h2⟩ := any_some h
    clear h
    have h := h2
    clear h2
    obtain ⟨o, ea⟩ := q
    obtain ⟨p, rfl⟩ := mUn_eq hx
    rw [Bool.and_eq_true] at h
    have : o = .Not := of_decide_eq_true h.1
    subst this
    exact (et_not (ih.T S M X ω a ea g h.2)).cong not_bl
  | and_ a b =>
    obtain ⟨q, hx, h2⟩ := any_some h
    clear h
    have h := h2
    clear h2
    obtain ⟨o, vs, p⟩ := q
    rw [mBool_eq hx]
    rw [Bool.and_eq_true] at h
    have : o = .And := of_decide_eq_true h.1
    subst this
    exact (ih.W S M X ω _ _ vs p g h.2).et
  | or_ a b =>
    obtain ⟨q, hx, h2⟩ := any_some h
    clear h
    have h := h2
    clear h2
    obtain ⟨o, vs, p⟩ := q
    rw [mBool_eq hx]
    rw [Bool.and_eq_true] at h
    have : o = .Or := of_decide_eq_true h.1
    subst this
    exact (ih.W S M X ω _ _ vs p g h.2).et
  | cmp op a b =>
    obtain ⟨r, h⟩ := isSome_of h
    cases n with
    | zero => cases h
    | succ n =>
    have ih := ihs n (by omega)
    obtain ⟨q, hx, h⟩ := Option.bind_eq_some_iff.mp h
    obtain ⟨ea, o, eb⟩ := q
    obtain ⟨ra, ha, h⟩ := Option.bind_eq_some_iff.mp h
    obtain ⟨rb, hb, h⟩ := Option.bind_eq_some_iff.mp h
    obtain ⟨hc, rfl⟩ := retB_eq h
    obtain ⟨p, rfl⟩ := mCmp_eq hx
    rw [Bool.and_eq_true] at hc
    have : o = op.op := of_decide_eq_true hc.1
    subst this
    obtain ⟨rl, h1, h2⟩ := co_ok g op
    exact (et_op2 (fun ta tb pa pb => pt_cmpR h1 pa pb (mark_ok hc.2)) h2 (ih.E S M X ω _ a ea ra g ha).1 (ih.E S M X ω _ b eb rb g hb).1).cong fun ρ => rfl
  | isN neg a =>
    obtain ⟨r, h⟩ := isSome_of h
    cases n with
    | zero => cases h
    | succ n =>
    have ih := ihs n (by omega)
    obtain ⟨q, hx, h⟩ := Option.bind_eq_some_iff.mp h
    obtain ⟨ea, o, eb⟩ := q
    obtain ⟨ra, ha, h⟩ := Option.bind_eq_some_iff.mp h
    obtain ⟨hc, rfl⟩ := retB_eq h
    obtain ⟨p, rfl⟩ := mCmp_eq hx
    rw [Bool.and_eq_true] at hc
    obtain ⟨j, p2, e2⟩ := mConst_eq (of_decide_eq_true hc.2)
    have e2 : eb = .Constant .none j p2 := e2
    subst e2
    have e1 : o = if neg then .IsNot else .Is := of_decide_eq_true hc.1
    have ea' := (ih.E S M X ω _ a ea ra g ha).1
    cases neg with
    | false =>
      have e1 : o = .Is := e1
      subst e1
      exact (et_op1 (fun ta pa => (pt_cmp (pc_isN pa) rfl : PT X _ (tTest (tUn (fun x H Q => Q (.bl (decide (x = .non))) H) ta)))) opv_isN ea').cong fun ρ => rfl
    | true =>
      have e1 : o = .IsNot := e1
      subst e1
      exact (et_op1 (fun ta pa => (pt_cmp (pc_notN pa) rfl : PT X _ (tTest (tUn (fun x H Q => Q (.bl (!decide (x = .non))) H) ta)))) opv_notN ea').cong fun ρ => rfl
  | chain op op' a b c =>
    obtain ⟨r, h⟩ := isSome_of h
    cases n with
    | zero => cases h
    | succ n =>
    have ih := ihs n (by omega)
    obtain ⟨q, hx, h⟩ := Option.bind_eq_some_iff.mp h
    obtain ⟨ea, o, eb, o', ec⟩ := q
    obtain ⟨ra, ha, h⟩ := Option.bind_eq_some_iff.mp h
    obtain ⟨rb, hb, h⟩ := Option.bind_eq_some_iff.mp h
    obtain ⟨rc, hc0, h⟩ := Option.bind_eq_some_iff.mp h
    obtain ⟨hc, rfl⟩ := retB_eq h
    obtain ⟨p, rfl⟩ := mChain_eq hx
    simp only [Bool.and_eq_true] at hc
    obtain ⟨⟨⟨h1, h2⟩, h3⟩, h4⟩ := hc
    have : o = op.op := of_decide_eq_true h1
    subst this
    have : o' = op'.op := of_decide_eq_true h2
    subst this
    obtain ⟨r1, k1, k2⟩ := co_ok g op
    obtain ⟨r2, k3, k4⟩ := co_ok g op'
    refine (et_chain (fun ta tb tc pa pb pc => pt_chain k1 k3 pa pb pc (mark_ok h4)) k2 k4 (ih.E S M X ω _ a ea ra g ha).1 (ih.E S M X ω _ b eb rb g hb).1 (ih.E S M X ω _ c ec rc g hc0).1).cong fun ρ => ?_
    show (Option.map D.bl _).bind asBl = _
    generalize ((denE M a ρ).bind _ : Option Bool) = o
    cases o <;> rfl
  | fn f es =>
    obtain ⟨r, h⟩ := isSome_of h
    have h0 := (ih.E S M X ω true _ e r g h).1
    cases n with
    | zero => cases h
    | succ n =>
    have ih := ihs n (by omega)
    obtain ⟨q, hx, h⟩ := Option.bind_eq_some_iff.mp h
    obtain ⟨x, as⟩ := q
    obtain ⟨p, p2, rfl⟩ := mCall_eq hx
    exact h0.et gen_call
  | call j es =>
    obtain ⟨r, h⟩ := isSome_of h
    have h0 := (ih.E S M X ω true _ e r g h).1
    cases n with
    | zero => cases h
    | succ n =>
    have ih := ihs n (by omega)
    obtain ⟨q, hx, h⟩ := Option.bind_eq_some_iff.mp h
    obtain ⟨x, as⟩ := q
    obtain ⟨p, p2, rfl⟩ := mCall_eq hx
    exact h0.et gen_call
  | var i =>
    obtain ⟨r, h⟩ := isSome_of h
    have h0 := (ih.E S M X ω true _ e r g h).1
    cases n with
    | zero => cases h
    | succ n =>
    have ih := ihs n (by omega)
    obtain ⟨x, hx, h⟩ := Option.bind_eq_some_iff.mp h
    obtain ⟨p, rfl⟩ := mName_eq hx
    exact h0.et gen_name
  | cst d =>
    obtain ⟨r, h⟩ := isSome_of h
    have h0 := (ih.E S M X ω true _ e r g h).1
    cases n with
    | zero => cases h
    | succ n =>
    have ih := ihs n (by omega)
    obtain ⟨c, hx, h⟩ := Option.bind_eq_some_iff.mp h
    obtain ⟨j, p, rfl⟩ := mConst_eq hx
    exact h0.et gen_cst
  | ix a b =>
    obtain ⟨r, h⟩ := isSome_of h
    have h0 := (ih.E S M X ω true _ e r g h).1
    cases n with
    | zero => cases h
    | succ n =>
    have ih := ihs n (by omega)
    obtain ⟨q, hx, h⟩ := Option.bind_eq_some_iff.mp h
    obtain ⟨ea, eb⟩ := q
    obtain ⟨p, rfl, hn⟩ := mIx_eq hx
    exact h0.et gen_sub
  | _ => cases h
theorem notSet_ok' {e : Expr} {env : PySem.Env} (h : notSet e = true) : ∀ x, foldedSetIterable e env x = pure x := notSet_ok h
theorem snd_C {n : Nat} (ih : Snd n) (S : SC) (M : Mn) (X : Cx) (ω : List Ow) (elt : IE) (T : Tgt) (it : II) (c : Option IE) (own : List Nat) (e : Expr) (r : RK × List Nat) (g : Good S M X) (h : cComp (n + 1) S ω elt T it c own e = some r) :
    ∃ elt' tg iter ifs scope pos L0 κ Le, e = .ListComp elt' [⟨tg, iter, ifs, 0⟩] scope pos ∧ r = (compK κ, L0 ++ Le) ∧ CompOk X ω elt' tg iter ifs scope (own.map fun i => (S.N.getD i "", i)) T (denI M it) L0 (denC M c) (denE M elt) κ Le := by
  obtain ⟨q, hx, h⟩ := Option.bind_eq_some_iff.mp h
  obtain ⟨elt', tg, iter, ifs, scope, pos⟩ := q
  obtain ⟨L0, hI, h⟩ := Option.bind_eq_some_iff.mp h
  obtain ⟨re, hE, h⟩ := Option.bind_eq_some_iff.mp h
  obtain ⟨hc, rfl⟩ := retB_eq h
  · simp only [Bool.and_eq_true] at hc
    obtain ⟨⟨⟨⟨⟨h1, h2⟩, h3⟩, h4⟩, h5⟩, h6⟩ := hc
    refine ⟨elt', tg, iter, ifs, scope, pos, L0, re.1, re.2, mComp_eq hx, rfl, ?_⟩
    have hk : scope.kind = .function := of_decide_eq_true h2
    have e0 : (own.map fun i => (S.N.getD i "", i)).map (·.2) = own := own_map S.N own
    have gb : ∀ s H C cl fp, Good (S.blk scope) M (BX X scope s H C cl fp) := fun s H C cl fp => g.blk hk s H C cl fp
    refine ⟨?_, ?_, g.calm, by rw [g.N]; exact g.nd, ?_, ih.I S M X ω it tg iter L0 g hI, ?_, ?_, ?_, ?_⟩
    · obtain ⟨q1, q2⟩ := ih.E (S.blk scope) M (BX X scope {} (fun _ => none) 0 [] []) _ false elt elt' re (gb _ _ _ _ _) hE
      exact q2 rfl
    · intro i hi
      rw [e0]
      simpa using List.all_eq_true.mp h3 i hi
    · have := blkOk_by h1
      rw [g.N, g.sc]; exact this
    · exact fun s H C cl fp => tgt_ok (gb s H C cl fp) 9 T tg h4
    · intro s H C cl fp
      rw [e0]
      match c, ifs, h6 with
      | none, [], _ => exact ptsd_nil
      | some ci, [ce], h6 => exact ptsd_one (ih.T (S.blk scope) M (BX X scope s H C cl fp) _ ci ce (gb s H C cl fp) h6)
    · intro s H C cl fp
      rw [e0]
      exact (ih.E (S.blk scope) M (BX X scope s H C cl fp) _ false elt elt' re (gb s H C cl fp) hE).1
    · exact notSet_ok h5
theorem snd_le : ∀ n m, m ≤ n → Snd m
  | 0, m, h => by
    have : m = 0 := by omega
    subst this
    exact snd_zero
  | n + 1, m, h => by
    by_cases e : m ≤ n
    · exact snd_le n m e
    · have : m = n + 1 := by omega
      subst this
      have ihs := snd_le n
      have ih := ihs n (Nat.le_refl n)
      exact ⟨snd_E ih, snd_B ih, snd_O ih, snd_T ihs, snd_W ih, snd_I ih, snd_C ih⟩
theorem snd (n : Nat) : Snd n := snd_le n n (Nat.le_refl n)
end PV

set_option Elab.async false
set_option linter.all false
set_option maxRecDepth 100000
set_option autoImplicit false
set_option maxHeartbeats 4000000
/-! Value semantics: the look at statements. -/
namespace PV
open PySem PySem.Spec PyProof.Rows L2

/-! ### pieces of statements -/
def mRet : Stmt → Option Expr
  | .Return (some e) _ => some e
  | _ => none
theorem mRet_eq {s : Stmt} {e : Expr} (h : mRet s = some e) : ∃ p, s = .Return (some e) p := by
  unfold mRet at h; split at h <;> cases h; exact ⟨_, rfl⟩
def isRetN : Stmt → Bool
  | .Return none _ => true
  | _ => false
theorem isRetN_eq {s : Stmt} (h : isRetN s = true) : ∃ p, s = .Return none p := by
  unfold isRetN at h; split at h <;> first | exact ⟨_, rfl⟩ | cases h
def isPass : Stmt → Bool
  | .Pass _ => true
  | _ => false
theorem isPass_eq {s : Stmt} (h : isPass s = true) : ∃ p, s = .Pass p := by
  unfold isPass at h; split at h <;> first | exact ⟨_, rfl⟩ | cases h
def isBrk : Stmt → Bool
  | .Break _ => true
  | _ => false
theorem isBrk_eq {s : Stmt} (h : isBrk s = true) : ∃ p, s = .Break p := by
  unfold isBrk at h; split at h <;> first | exact ⟨_, rfl⟩ | cases h
def isCt : Stmt → Bool
  | .Continue _ => true
  | _ => false
theorem isCt_eq {s : Stmt} (h : isCt s = true) : ∃ p, s = .Continue p := by
  unfold isCt at h; split at h <;> first | exact ⟨_, rfl⟩ | cases h
/-- a text that stands alone -/
def isDoc : Stmt → Bool
  | .Expr (.Constant (.str x) _ _) _ => PyData.strOk x
  | _ => false
theorem isDoc_eq {s : Stmt} (h : isDoc s = true) : ∃ x j p q, s = .Expr (.Constant (.str x) j p) q ∧ PyData.strOk x = true := by
  unfold isDoc at h; split at h
  · exact ⟨_, _, _, _, rfl, h⟩
  · cases h
def notComp : Expr → Bool
  | .ListComp .. => false
  | .SetComp .. => false
  | .DictComp .. => false
  | _ => true
def mExp : Stmt → Option Expr
  | .Expr e _ => some e
  | _ => none
theorem mExp_eq {s : Stmt} {e : Expr} (h : mExp s = some e) : ∃ p, s = .Expr e p := by
  unfold mExp at h; split at h <;> cases h; exact ⟨_, rfl⟩
theorem swaps_no {e : Expr} {t : Option Expr} {l : Nat} {env : PySem.Env} (h : notComp e = true) : swapsWith e t l env = pure false := by
  cases e <;> first | rfl | cases h
def mAsg : Stmt → Option (Expr × Expr × Pos)
  | .Assign [t] e p => some (t, e, p)
  | _ => none
theorem mAsg_eq {s : Stmt} {t e : Expr} {p : Pos} (h : mAsg s = some (t, e, p)) : s = .Assign [t] e p := by
  unfold mAsg at h; split at h <;> cases h; rfl
def mNameP : Expr → Option (Str × Pos)
  | .Name x p => some (x, p)
  | _ => none
theorem mNameP_eq {e : Expr} {x : Str} {p : Pos} (h : mNameP e = some (x, p)) : e = .Name x p := by
  unfold mNameP at h; split at h <;> cases h; rfl
def mAug : Stmt → Option (Str × Operator × Expr)
  | .AugAssign (.Name x _) o e _ => some (x, o, e)
  | _ => none
theorem mAug_eq {s : Stmt} {x : Str} {o : Operator} {e : Expr} (h : mAug s = some (x, o, e)) : ∃ p q, s = .AugAssign (.Name x p) o e q := by
  unfold mAug at h; split at h <;> cases h; exact ⟨_, _, rfl⟩
def mApp : Stmt → Option (Str × Expr)
  | .Expr (.Call (.Attribute (.Name x _) a p2) [e] [] p3) _ => if (a == ("append" : Str)) && (p2.endLine == p3.line) then some (x, e) else none
  | _ => none
theorem mApp_eq {s : Stmt} {x : Str} {e : Expr} (h : mApp s = some (x, e)) : ∃ p1 p2 p3 p4, s = .Expr (.Call (.Attribute (.Name x p1) "append" p2) [e] [] p3) p4 ∧ (p2.endLine == p3.line) = true := by
  unfold mApp at h
  split at h
  · split at h
    · rename_i hc
      cases h
      rw [Bool.and_eq_true] at hc
      have := eq_of_beq hc.1
      subst this
      exact ⟨_, _, _, _, rfl, hc.2⟩
    · cases h
  · cases h
def mIfS : Stmt → Option (Expr × List Stmt × List Stmt)
  | .If c a b _ => some (c, a, b)
  | _ => none
theorem mIfS_eq {s : Stmt} {c : Expr} {a b : List Stmt} (h : mIfS s = some (c, a, b)) : ∃ p, s = .If c a b p := by
  unfold mIfS at h; split at h <;> cases h; exact ⟨_, rfl⟩
def mFor : Stmt → Option (Expr × Expr × List Stmt)
  | .For t i b [] _ => some (t, i, b)
  | _ => none
theorem mFor_eq {s : Stmt} {t i : Expr} {b : List Stmt} (h : mFor s = some (t, i, b)) : ∃ p, s = .For t i b [] p := by
  unfold mFor at h; split at h <;> cases h; exact ⟨_, rfl⟩
def mWhl : Stmt → Option (Expr × List Stmt)
  | .While c b [] _ => some (c, b)
  | _ => none
theorem mWhl_eq {s : Stmt} {c : Expr} {b : List Stmt} (h : mWhl s = some (c, b)) : ∃ p, s = .While c b [] p := by
  unfold mWhl at h; split at h <;> cases h; exact ⟨_, rfl⟩
/-! ### stores at once -/
/-- the names, if the stores are swapped -/
def swN (kind : Str → Option NameKind) (ts : List Expr) : List Str :=
  ts.filterMap fun
    | .Name id pos => if kind id == some .local && pos.line == ((ts.head?.map (·.pos.line)).getD 0) then some id else none
    | _ => none
def swP (kind : Str → Option NameKind) (ts vs : List Expr) : Option (Option (List Str)) :=
  if !(ts.length == 2 || ts.length == 3) || vs.length != ts.length then some none
  else if vs.any (fun e => !notStar e) then some none
  else if (swN kind ts).length != ts.length || (swN kind ts).eraseDups.length != (swN kind ts).length then some none
  else if vs.all (foldedForSure 8) then some none
  else if vs.all (constantsAlone 8) then none
  else some (some (swN kind ts))
theorem star_fun : (fun e : Expr => match e with | .Starred .. => true | _ => false) = fun e => !notStar e := by
  funext e
  cases e <;> rfl
theorem swS_eq {env : PySem.Env} {ts vs : List Expr} {kt k2 : Nat} {pt p2 : Pos} : swappedStores [.Tuple ts kt pt] (.Tuple vs k2 p2) env =
    (if (!(ts.length == 2 || ts.length == 3) || vs.length != ts.length || env.blockKind != .function) = true then pure none
     else if vs.any (fun e => match e with | .Starred .. => true | _ => false) = true then pure none
     else if ((swN env.kindOf ts).length != ts.length || (swN env.kindOf ts).eraseDups.length != (swN env.kindOf ts).length) = true then pure none
     else if vs.all (foldedForSure 8) = true then pure none
     else if vs.all (constantsAlone 8) = true then (unsupported "assign.tuple-of-constant-expressions:order-of-the-stores" : Sem PUnit) >>= fun _ => pure (some (swN env.kindOf ts))
     else pure (some (swN env.kindOf ts))) := by
  unfold swappedStores
  rfl
theorem swP_ok {env : PySem.Env} (hb : env.blockKind = .function) {ts vs : List Expr} {kt k2 : Nat} {pt p2 : Pos} {r : Option (List Str)} (h : swP env.kindOf ts vs = some r) : swappedStores [.Tuple ts kt pt] (.Tuple vs k2 p2) env = pure r := by
  rw [swS_eq, hb, star_fun]
  unfold swP at h
  have e0 : (ScopeKind.function != ScopeKind.function) = false := by decide
  rw [e0, Bool.or_false]
  split at h
  · rename_i q; cases h; rw [if_pos q]
  · rename_i q
    rw [if_neg q]
    split at h
    · rename_i q; cases h; rw [if_pos q]
    · rename_i q
      rw [if_neg q]
      split at h
      · rename_i q; cases h; rw [if_pos q]
      · rename_i q
        rw [if_neg q]
        split at h
        · rename_i q; cases h; rw [if_pos q]
        · rename_i q
          rw [if_neg q]
          split at h
          · cases h
          · rename_i q
            cases h
            rw [if_neg q]
theorem swP_other {tg e : Expr} {env : PySem.Env} (h : mTup e = none) : swappedStores [tg] e env = pure none := by
  cases e <;> first | (cases tg <;> rfl) | cases h
end PV

set_option Elab.async false
set_option linter.all false
set_option maxRecDepth 100000
set_option autoImplicit false
set_option maxHeartbeats 4000000
/-! Value semantics: the look at statements, and that it keeps the meaning. -/
namespace PV
open PySem PySem.Spec PyProof.Rows L2

def retF (b : Bool) (F : Fl) : Option Fl := if b then some F else none
theorem retF_eq {b : Bool} {F F' : Fl} (h : retF b F = some F') : b = true ∧ F = F' := by
  unfold retF at h
  split at h
  · cases h; exact ⟨by assumption, rfl⟩
  · cases h
def okB (a : Option (List Ow)) (w : List Ow) : Bool := match a with
  | none => true
  | some a => omLeB a w
theorem okO_of {a : Option (List Ow)} {w : List Ow} (h : okB a w = true) : okO a w := fun x e => by
  subst e
  exact omLe_of h
def meetO (a : Option (List Ow)) (w : List Ow) : List Ow := match a with
  | none => w
  | some a => meets a w
def fixO (f : List Ow → Option Fl) : Nat → List Ow → Option (List Ow × Fl)
  | 0, _ => none
  | k + 1, w => (f w).bind fun F => if okB F.nx w && okB F.ct w then some (w, F) else fixO f k (meetO F.nx (meetO F.ct w))
theorem fixO_ok {f : List Ow → Option Fl} : ∀ (k : Nat) {w w' : List Ow} {F : Fl}, fixO f k w = some (w', F) → f w' = some F ∧ okO F.nx w' ∧ okO F.ct w'
  | 0, _, _, _, h => by cases h
  | k + 1, w, w', F, h => by
    obtain ⟨F1, e1, h⟩ := Option.bind_eq_some_iff.mp h
    split at h
    · rename_i hc
      cases h
      rw [Bool.and_eq_true] at hc
      exact ⟨e1, okO_of hc.1, okO_of hc.2⟩
    · exact fixO_ok k h
def isComp : IE → Bool
  | .comp .. => true
  | _ => false
def mulC (S : SC) (ts vs : List Expr) : List Nat → Bool
  | [i, j] => (match ts with
    | [.Name x _, .Name y _] => decide (S.N[i]? = some x) && decide (S.N[j]? = some y) && decide (i ≠ j) && decide (S.kind x = some .local) && decide (S.kind y = some .local) && decide (swP S.kind ts vs = some (some [x, y])) && decide (vs.length = 2)
    | _ => false)
  | [i, j, l] => (match ts with
    | [.Name x _, .Name y _, .Name z _] => decide (S.N[i]? = some x) && decide (S.N[j]? = some y) && decide (S.N[l]? = some z) && decide (i ≠ j) && decide (i ≠ l) && decide (j ≠ l) && decide (S.kind x = some .local) && decide (S.kind y = some .local) && decide (S.kind z = some .local) && decide (swP S.kind ts vs = some (some [x, y, z])) && decide (vs.length = 3)
    | _ => false)
  | _ => false
def nmsC (S : SC) : List Expr → List Nat → Bool
  | [], [] => true
  | t :: ts, i :: is => (match t with
    | .Name x _ => decide (S.N[i]? = some x) && S.loc x
    | _ => false) && nmsC S ts is
  | _, _ => false
def mulT (S : SC) (ts vs : List Expr) (is : List Nat) : Bool := decide (swP S.kind ts vs = some none) && (decide (vs.length = is.length) && (decide (is.length ≤ 100) && nmsC S ts is))
def setC (S : SC) (i : Nat) (ω : List Ow) (t e : Expr) (ie : IE) : Bool := match mName t with
  | some x => decide (S.N[i]? = some x) && S.loc x && decide (i < ω.length) && (notComp e || isComp ie)
  | none => false
def tpOk (S : SC) (t e : Expr) : Bool := match mTup t with
  | none => false
  | some ts => (match mTup e with
    | none => true
    | some vs => decide (swP S.kind ts vs = some none))
mutual
def cS : Nat → SC → Ow → List Ow → IS → Stmt → Option Fl
  | 0, _, _, _, _, _ => none
  | n + 1, S, ro, ω, is, s => match is with
    | .pass => retF (isPass s || isDoc s) ⟨some ω, none, none⟩
    | .brk => retF (isBrk s) ⟨none, some ω, none⟩
    | .cont => retF (isCt s) ⟨none, none, some ω⟩
    | .retN => retF (isRetN s && decide (ro = .no)) ⟨none, none, none⟩
    | .ret e => (mRet s).bind fun ex => (cE n S ω false e ex).bind fun r => retF (Ow.le (koO r.1) ro) ⟨none, none, none⟩
    | .retv i => (mRet s).bind fun ex => (mName ex).bind fun x => retF (decide (S.N[i]? = some x) && S.vis x && decide (x ≠ ("__debug__" : Str)) && decide (x ≠ ("__classdict__" : Str)) && Ow.le (ω.getD i .no) ro) ⟨none, none, none⟩
    | .expr e => (mExp s).bind fun ex => (cE n S ω true e ex).bind fun _ => retF (notComp ex) ⟨some ω, none, none⟩
    | .set i e => (mAsg s).bind fun q => (cE n S ω false e q.2.1).bind fun r => retF (setC S i ω q.1 q.2.1 e) ⟨some ((frz r.2 ω).set i (koO r.1)), none, none⟩
    | .setT T e => (mAsg s).bind fun q => (cE n S ω false e q.2.1).bind fun r => retF (cTgt S 9 T q.1 && tpOk S q.1 q.2.1) ⟨some (T.om (frz r.2 ω)), none, none⟩
    | .mul is es => (mAsg s).bind fun q => (mTup q.1).bind fun ts => (mTup q.2.1).bind fun vs => (cList (cE n S ω false) es vs).bind fun r => retF ((mulC S ts vs is || mulT S ts vs is) && is.all fun i => decide (i < ω.length)) ⟨some (setsO is r.1 (frz r.2 ω)), none, none⟩
    | .aug i add e => (mAug s).bind fun q => (cE n S ω true e q.2.2).bind fun r => retF (decide (S.N[i]? = some q.1) && S.loc q.1 && decide (q.2.1 = if add then .Add else .Sub) && decide (i < ω.length) && decide (r.2 = [])) ⟨some (ω.set i .no), none, none⟩
    | .app i e => (mApp s).bind fun q => (cE n S ω false e q.2).bind fun r => (match ω.getD i .no with
      | .lst eo => retF (decide (S.N[i]? = some q.1) && S.vis q.1 && decide (q.1 ≠ ("__debug__" : Str)) && decide (q.1 ≠ ("__classdict__" : Str)) && decide (i < ω.length) && decide (i ∉ r.2) && notStar q.2) ⟨some ((frz r.2 ω).set i (.lst (Ow.meet eo (koO r.1)))), none, none⟩
      | _ => none)
    | .ite c a b => (mIfS s).bind fun q => if cT n S ω c q.1 then (cSs n S ro ω a q.2.1).bind fun Fa => (cSs n S ro ω b q.2.2).bind fun Fb => some ⟨joinO Fa.nx Fb.nx, joinO Fa.bk Fb.bk, joinO Fa.ct Fb.ct⟩ else none
    | .for_ T it b => (mFor s).bind fun q => (cI n S ω it q.2.1).bind fun L => (fixO (fun w => cSs n S ro (T.om w) b q.2.2) 4 (frz L ω)).bind fun r =>
        retF (omLeB (frz L ω) r.1 && cTgt S 9 T q.1 && notSet q.2.1) ⟨joinO (some r.1) r.2.bk, none, none⟩
    | .whl c b => (mWhl s).bind fun q => (fixO (fun w => cSs n S ro w b q.2) 4 ω).bind fun r => retF (omLeB ω r.1 && cT n S r.1 c q.1) ⟨joinO (some r.1) r.2.bk, none, none⟩
def cSs : Nat → SC → Ow → List Ow → List IS → List Stmt → Option Fl
  | 0, _, _, _, _, _ => none
  | n + 1, S, ro, ω, [], [] => some ⟨some ω, none, none⟩
  | n + 1, S, ro, ω, s :: ss, t :: ts => (cS n S ro ω s t).bind fun F1 => match F1.nx with
    | some ω1 => (cSs n S ro ω1 ss ts).bind fun F2 => some ⟨F2.nx, joinO F1.bk F2.bk, joinO F1.ct F2.ct⟩
    | none => some ⟨none, F1.bk, F1.ct⟩
  | _, _, _, _, _, _ => none
end
section
variable {S : SC} {M : Mn} {X : Cx} {ω : List Ow} {ro : Ow}
theorem S1.cong {s : Stmt} {m m' : Env → Option Out} {F : Fl} (h : S1 X ω s m F ro) (e0 : ∀ ρ, m' ρ = m ρ) : S1 X ω s m' F ro := by
  have : m' = m := funext e0
  rw [this]; exact h
theorem s_setT {tg e : Expr} {T : Tgt} {m : Env → Option D} {κ : RK} {L : List Nat} {pos : Pos} (hp : ∀ te g, PE X e te → PG X tg g → PS X (.Assign [tg] e pos) (tAsg te g)) (h : EP X ω e m κ L) (hκ : κ ≠ .vw) (hg : EG X tg T) :
    S1 X ω (.Assign [tg] e pos) (fun ρ => (m ρ).bind fun d => (bindT T d ρ).map Out.nx) ⟨some (T.om (frz L ω)), none, none⟩ ro := by
  obtain ⟨t, p, q⟩ := (h.fz hκ).ex
  obtain ⟨g, pg, qg⟩ := hg.ex
  refine ⟨_, hp t g p pg, fun σ H ρ fs W0 out D E em k1 k2 k3 k4 => ?_⟩
  obtain ⟨d, e1, em⟩ := Option.bind_eq_some_iff.mp em
  obtain ⟨ρ', e2, rfl⟩ := Option.map_eq_some_iff.mp em
  refine q σ H ρ fs W0 d _ E e1 fun v H' fe P => ?_
  have r : fe = [] ∧ Rp X.K H' (Wl W0 fs L) v d := P.rp
  have E' := (E.same P.same).frz L
  refine qg σ H' ρ ρ' _ _ W0 v d _ E' (r.2.less fun a z => ?_) e2 fun σ' fs' E2 h1 h2 b => ?_
  · rcases z with z | ⟨j, _, z⟩
    · exact .inl z
    · exact .inr ⟨j, (mem_frF.mp z).1, (mem_frF.mp z).2⟩
  · exact k1 ρ' _ σ' H' fs' rfl rfl ⟨fun a o e _ => P.same a o e, fun i a z => .inl ⟨i, (mem_frF.mp (h1 i a z)).2⟩⟩ E2
end
end PV

set_option Elab.async false
set_option linter.all false
set_option maxRecDepth 100000
set_option autoImplicit false
set_option maxHeartbeats 4000000
/-! Value semantics: soundness of the look at statements. -/
namespace PV
open PySem PySem.Spec PyProof.Rows L2

structure SndS (n : Nat) : Prop where
  s : ∀ (S : SC) (M : Mn) (X : Cx) (ro : Ow) (ω : List Ow) (is : IS) (s : Stmt) (F : Fl), Good S M X → PassesOwn (model X.prog X.w) X.A X.env X.xe → cS n S ro ω is s = some F → S1 X ω s (exe M is) F ro
  ss : ∀ (S : SC) (M : Mn) (X : Cx) (ro : Ow) (ω : List Ow) (is : List IS) (ss : List Stmt) (F : Fl), Good S M X → PassesOwn (model X.prog X.w) X.A X.env X.xe → cSs n S ro ω is ss = some F → SB X ω ss (exes M is) F ro
theorem Good.bk {S : SC} {M : Mn} {X : Cx} (g : Good S M X) : X.env.blockKind = .function := by
  unfold PySem.Env.blockKind
  rw [g.sc, g.fk]
  split <;> rfl
theorem Good.kf {S : SC} {M : Mn} {X : Cx} (g : Good S M X) : X.env.kindOf = S.kind := by
  funext x
  show X.env.scope.names.lookup x = S.sc.names.lookup x
  rw [g.sc]
theorem Good.pv {S : SC} {M : Mn} {X : Cx} (g : Good S M X) {i : Nat} {x : Str} {p : Pos} (h1 : S.N[i]? = some x) (h2 : S.vis x = true) (h3 : x ≠ ("__debug__" : Str)) (h4 : x ≠ ("__classdict__" : Str)) : PE X (.Name x p) (tVar i) :=
  pe_var (by rw [g.N]; exact h1) (g.vis h2) (beq_eq_false_iff_ne.mpr h3) (beq_eq_false_iff_ne.mpr h4)
theorem Good.lt {S : SC} {M : Mn} {X : Cx} (g : Good S M X) {i : Nat} {x : Str} (h1 : S.N[i]? = some x) : i < X.N.length := by
  rw [g.N]; exact (List.getElem?_eq_some_iff.mp h1).1
theorem mComp_none {e : Expr} (h : notComp e = true) : ∀ a b c d, e ≠ .ListComp a b c d := fun a b c d z => by subst z; cases h
theorem swaps_tup {ts : List Expr} {k : Nat} {p : Pos} {e : Expr} {l : Nat} {env : PySem.Env} : swapsWithSole [.Tuple ts k p] e l env = pure false := by
  cases e <;> rfl
theorem eq_sp {a b c : Expr} {x y z : Str} : True := trivial
theorem frozen_len {f : IE → Expr → Option (RK × List Nat)} : ∀ {is : List IE} {es : List Expr} {r : List RK × List Nat}, cList f is es = some r → es.length = is.length
  | [], [], r, h => rfl
  | [], _ :: _, _, h => by cases h
  | _ :: _, [], _, h => by cases h
  | i :: is, e :: es, r, h => by
    obtain ⟨a, h1, h⟩ := Option.bind_eq_some_iff.mp (show (f i e).bind (fun a => (cList f is es).bind fun b => if notStar e then some (a.1 :: b.1, a.2 ++ b.2) else none) = some r from h)
    obtain ⟨b, h2, h⟩ := Option.bind_eq_some_iff.mp h
    rw [List.length_cons, List.length_cons, frozen_len h2]
theorem nmsC_len {S : SC} : ∀ {ts : List Expr} {is : List Nat}, nmsC S ts is = true → ts.length = is.length
  | [], [], _ => rfl
  | t :: ts, i :: is, h => by
    unfold nmsC at h
    rw [Bool.and_eq_true] at h
    rw [List.length_cons, List.length_cons, nmsC_len h.2]
  | [], _ :: _, h => by unfold nmsC at h; cases h
  | _ :: _, [], h => by unfold nmsC at h; cases h
theorem nmsC_star {S : SC} : ∀ {ts : List Expr} {is : List Nat}, nmsC S ts is = true → ∀ e ∈ ts, ∀ v p, e ≠ .Starred v p
  | [], _, _, e, he => by cases he
  | t :: ts, i :: is, h, e, he => by
    unfold nmsC at h
    rw [Bool.and_eq_true] at h
    rcases List.mem_cons.mp he with z | z
    · rw [z]
      intro v p q
      rw [q] at h
      cases h.1
    · exact nmsC_star h.2 e z
  | _ :: _, [], h, _, _ => by unfold nmsC at h; cases h
theorem nmsC_ok {S : SC} {M : Mn} {X : Cx} (g : Good S M X) : ∀ {ts : List Expr} {is : List Nat}, nmsC S ts is = true → PGs X ts (gNames is) ∧ ∀ i ∈ is, i < X.N.length
  | [], [], _ => ⟨pgs_nil, fun _ h => by cases h⟩
  | t :: ts, i :: is, h => by
    have hst := nmsC_star h
    unfold nmsC at h
    rw [Bool.and_eq_true] at h
    obtain ⟨h1, h2⟩ := h
    obtain ⟨q1, q2⟩ := nmsC_ok g h2
    split at h1
    · rename_i x p
      rw [Bool.and_eq_true] at h1
      have hN : X.N[i]? = some x := by rw [g.N]; exact of_decide_eq_true h1.1
      obtain ⟨l1, l2⟩ := g.loc h1.2
      refine ⟨pgs_cons (pg_name (by rw [g.N]; exact g.nd) hN l1 l2) q1 (assign_ok (hst _ List.mem_cons_self)), fun j hj => ?_⟩
      rcases List.mem_cons.mp hj with z | z
      · rw [z]; exact (List.getElem?_eq_some_iff.mp hN).1
      · exact q2 j z
    · cases h1
  | [], _ :: _, h => by unfold nmsC at h; cases h
  | _ :: _, [], h => by unfold nmsC at h; cases h
theorem snds_zero : SndS 0 where
  s := fun _ _ _ _ _ _ _ _ _ _ h => by cases h
  ss := fun _ _ _ _ _ is ss _ _ _ h => by unfold cSs at h; cases h
theorem snds_ss {n : Nat} (ih : SndS n) (S : SC) (M : Mn) (X : Cx) (ro : Ow) (ω : List Ow) (is : List IS) (ss : List Stmt) (F : Fl) (g : Good S M X) (po : PassesOwn (model X.prog X.w) X.A X.env X.xe) (h : cSs (n + 1) S ro ω is ss = some F) : SB X ω ss (exes M is) F ro := by
  match is, ss, h with
  | [], [], h => unfold cSs at h; cases h; exact sb_nil
  | i :: is, t :: ts, h =>
    unfold cSs at h
    obtain ⟨F1, h1, h⟩ := Option.bind_eq_some_iff.mp h
    have q1 := ih.s S M X ro ω i t F1 g po h1
    split at h
    · rename_i ω1 hn
      obtain ⟨F2, h2, h⟩ := Option.bind_eq_some_iff.mp h
      cases h
      exact sb_cons q1 hn (ih.ss S M X ro ω1 is ts F2 g po h2)
    · rename_i hn
      cases h
      exact sb_end q1 hn
  | [], _ :: _, h => unfold cSs at h; cases h
  | _ :: _, [], h => unfold cSs at h; cases h
theorem snds_s {n : Nat} (ih : SndS n) (S : SC) (M : Mn) (X : Cx) (ro : Ow) (ω : List Ow) (is : IS) (s : Stmt) (F : Fl) (g : Good S M X) (po : PassesOwn (model X.prog X.w) X.A X.env X.xe) (h : cS (n + 1) S ro ω is s = some F) : S1 X ω s (exe M is) F ro := by
  have eN := (snd n).E
  cases is with
  | pass =>
    replace h := retF_eq h
    obtain ⟨h, rfl⟩ := h
    rw [Bool.or_eq_true] at h
    rcases h with h | h
    · obtain ⟨p, rfl⟩ := isPass_eq h
      exact s_pass
    · obtain ⟨x, j, p, q, rfl, hx⟩ := isDoc_eq h
      exact (s_expr (ep_cst (d := .str x) pe_str fun H W => .str _ hx) rfl).cong fun ρ => rfl
  | brk =>
    replace h := retF_eq h
    obtain ⟨h, rfl⟩ := h
    obtain ⟨p, rfl⟩ := isBrk_eq h
    exact s_break
  | cont =>
    replace h := retF_eq h
    obtain ⟨h, rfl⟩ := h
    obtain ⟨p, rfl⟩ := isCt_eq h
    exact s_continue
  | retN =>
    replace h := retF_eq h
    obtain ⟨h, rfl⟩ := h
    rw [Bool.and_eq_true] at h
    obtain ⟨p, rfl⟩ := isRetN_eq h.1
    exact s_retN (of_decide_eq_true h.2)
  | ret e =>
    replace h := Option.bind_eq_some_iff.mp h
    obtain ⟨ex, hx, h⟩ := h
    replace h := Option.bind_eq_some_iff.mp h
    obtain ⟨r, hr, h⟩ := h
    replace h := retF_eq h
    obtain ⟨h, rfl⟩ := h
    obtain ⟨p, rfl⟩ := mRet_eq hx
    obtain ⟨q1, q2⟩ := eN S M X ω false e ex r g hr
    exact s_ret q1 (q2 rfl) h
  | retv i =>
    replace h := Option.bind_eq_some_iff.mp h
    obtain ⟨ex, hx, h⟩ := h
    replace h := Option.bind_eq_some_iff.mp h
    obtain ⟨x, hr, h⟩ := h
    replace h := retF_eq h
    obtain ⟨h, rfl⟩ := h
    obtain ⟨p, rfl⟩ := mRet_eq hx
    obtain ⟨p2, rfl⟩ := mName_eq hr
    simp only [Bool.and_eq_true] at h
    obtain ⟨⟨⟨⟨h1, h2⟩, h3⟩, h4⟩, h5⟩ := h
    exact s_retO (g.pv (of_decide_eq_true h1) h2 (of_decide_eq_true h3) (of_decide_eq_true h4)) h5
  | expr e =>
    replace h := Option.bind_eq_some_iff.mp h
    obtain ⟨ex, hx, h⟩ := h
    replace h := Option.bind_eq_some_iff.mp h
    obtain ⟨r, hr, h⟩ := h
    replace h := retF_eq h
    obtain ⟨h, rfl⟩ := h
    obtain ⟨p, rfl⟩ := mExp_eq hx
    exact (s_expr (eN S M X ω true e ex r g hr).1 (swaps_no h)).cong fun ρ => rfl
  | set i e =>
    replace h := Option.bind_eq_some_iff.mp h
    obtain ⟨q, hx, h⟩ := h
    obtain ⟨t, ex, pos⟩ := q
    replace h := Option.bind_eq_some_iff.mp h
    obtain ⟨r, hr, h⟩ := h
    replace h := retF_eq h
    obtain ⟨h, rfl⟩ := h
    rw [mAsg_eq hx]
    replace h : setC S i ω t ex e = true := h
    replace hr : cE n S ω false e ex = some r := hr
    unfold setC at h
    split at h
    · rename_i x ht
      obtain ⟨p, rfl⟩ := mName_eq ht
      simp only [Bool.and_eq_true, Bool.or_eq_true] at h
      obtain ⟨⟨⟨h1, h2⟩, h3⟩, h4⟩ := h
      have h1 := of_decide_eq_true h1
      have h3 : i < ω.length := of_decide_eq_true h3
      obtain ⟨l1, l2⟩ := g.loc h2
      have hN : X.N[i]? = some x := by rw [g.N]; exact h1
      have nd : X.N.Nodup := by rw [g.N]; exact g.nd
      obtain ⟨q1, q2⟩ := eN S M X ω false e ex r g hr
      by_cases hc : notComp ex = true
      · exact (s_set (fun te he => ps_set nd hN l1 he (swaps_no hc) l2) q1 (q2 rfl) h3 (g.lt h1)).cong fun ρ => rfl
      · have h4 := h4.resolve_left hc
        cases e with
        | comp elt T it c own =>
          cases n with
          | zero => cases hr
          | succ n =>
          obtain ⟨elt', tg, iter, ifs, scope, spos, L0, κ, Le, rfl, rfl, C⟩ := (snd n).C S M X ω elt T it c own ex r g hr
          by_cases hb : (X.env.blockKind == .function && X.env.kindOf x == some .local && p.line == spos.line && !(scope.names.any fun (n, k) => n == x && (k == .local || k == .cell))) = true
          · have hsw : ∀ l, swapsWith (.ListComp elt' [⟨tg, iter, ifs, 0⟩] scope spos) (some (.Name x p)) l X.env = pure true := fun l => by
              rw [← hb]; rfl
            simp only [Bool.and_eq_true] at hb
            have hl : X.env.scope.names.lookup x = some .local := eq_of_beq hb.1.1.2
            have q := s_setC (ro := ro) (spos := pos) (py := p) C hN hl (hsw pos.line) h3 (g.lt h1)
            rw [own_map] at q
            exact q.cong fun ρ => rfl
          · have hb' := Bool.eq_false_iff.mpr hb
            have hsw : ∀ l, swapsWith (.ListComp elt' [⟨tg, iter, ifs, 0⟩] scope spos) (some (.Name x p)) l X.env = pure false := fun l => by
              rw [← hb']; rfl
            exact (s_set (fun te he => ps_set nd hN l1 he (hsw pos.line) l2) q1 (q2 rfl) h3 (g.lt h1)).cong fun ρ => rfl
        | _ => cases h4
    · cases h
  | setT T e =>
    replace h := Option.bind_eq_some_iff.mp h
    obtain ⟨q, hx, h⟩ := h
    obtain ⟨t, ex, pos⟩ := q
    replace h := Option.bind_eq_some_iff.mp h
    obtain ⟨r, hr, h⟩ := h
    replace h := retF_eq h
    obtain ⟨h, rfl⟩ := h
    rw [mAsg_eq hx]
    replace hr : cE n S ω false e ex = some r := hr
    rw [Bool.and_eq_true] at h
    obtain ⟨h1, h2⟩ := h
    replace h1 : cTgt S 9 T t = true := h1
    replace h2 : tpOk S t ex = true := h2
    obtain ⟨q1, q2⟩ := eN S M X ω false e ex r g hr
    have hg := tgt_ok g 9 T t h1
    unfold tpOk at h2
    split at h2
    · cases h2
    · rename_i ts ht
      obtain ⟨k, p, rfl⟩ := mTup_eq ht
      refine (s_setT (fun te gg he hgg => ps_asg he hgg swaps_tup ?_ rfl) q1 (q2 rfl) hg).cong fun ρ => rfl
      split at h2
      · rename_i he
        exact swP_other he
      · rename_i vs he
        obtain ⟨k2, p2, rfl⟩ := mTup_eq he
        refine swP_ok g.bk ?_
        rw [g.kf]
        exact of_decide_eq_true h2
  | mul js es =>
    replace h := Option.bind_eq_some_iff.mp h
    obtain ⟨q, hx, h⟩ := h
    obtain ⟨t, ex, pos⟩ := q
    replace h := Option.bind_eq_some_iff.mp h
    obtain ⟨ts, ht, h⟩ := h
    replace h := Option.bind_eq_some_iff.mp h
    obtain ⟨vs, hv, h⟩ := h
    replace h := Option.bind_eq_some_iff.mp h
    obtain ⟨r, hr, h⟩ := h
    replace h := retF_eq h
    obtain ⟨h, rfl⟩ := h
    rw [mAsg_eq hx]
    obtain ⟨kt, pt, e1⟩ := mTup_eq ht
    obtain ⟨k2, p2, e2⟩ := mTup_eq hv
    have e1 : t = .Tuple ts kt pt := e1
    have e2 : ex = .Tuple vs k2 p2 := e2
    subst e1
    subst e2
    rw [Bool.and_eq_true] at h
    obtain ⟨h1, h2⟩ := h
    obtain ⟨_, q1, hl, _⟩ := frozen_ok (M := M) (fun i e r h => ⟨(eN S M X ω false i e r g h).1, (eN S M X ω false i e r g h).2 rfl⟩) hr
    have nd : X.N.Nodup := by rw [g.N]; exact g.nd
    have hi : ∀ i ∈ js, i < ω.length := fun i hi => of_decide_eq_true (List.all_eq_true.mp h2 i hi)
    have sw : ∀ xs, swP S.kind ts vs = some (some xs) → swappedStores [.Tuple ts kt pt] (.Tuple vs k2 p2) X.env = pure (some xs) := fun xs e => swP_ok g.bk (by rw [g.kf]; exact e)
    have lk : ∀ x, S.kind x = some .local → X.env.scope.names.lookup x = some .local := fun x e => by rw [g.sc]; exact e
    rw [Bool.or_eq_true] at h1
    replace h1 := h1.symm
    rcases h1 with h1 | h1
    · unfold mulT at h1
      rw [Bool.and_eq_true, Bool.and_eq_true, Bool.and_eq_true] at h1
      obtain ⟨h1, h3, h4, h5⟩ := h1
      obtain ⟨n1, n2⟩ := nmsC_ok g h5
      have hs : js.length ≤ sizeLine := Nat.le_trans (of_decide_eq_true h4) (by decide)
      have h3 : vs.length = js.length := of_decide_eq_true h3
      refine (s_multi (fun ta pa => ps_mulT (pg_tup (n := js.length) g.calm n1 ((assignEach_len _ _).trans (nmsC_len h5)) (assignEach_star _ _ (nmsC_star h5))) (swP_ok g.bk (by rw [g.kf]; exact of_decide_eq_true h1)) hs ta pa) q1 (fun ρ ds e => by rw [denEs_len e, ← hl, h3]) hi n2).cong fun ρ => rfl
    unfold mulC at h1
    split at h1
    · split at h1
      · simp only [Bool.and_eq_true] at h1
        obtain ⟨⟨⟨⟨⟨⟨h1, h3⟩, h4⟩, h5⟩, h6⟩, h7⟩, h8⟩ := h1
        have h1 := of_decide_eq_true h1
        have h3 := of_decide_eq_true h3
        have h8 := of_decide_eq_true h8
        match vs, h8 with
        | [a, b], _ =>
          refine (s_multi (fun ta pa => ps_mul2 g.calm nd (by rw [g.N]; exact h1) (by rw [g.N]; exact h3) (of_decide_eq_true h4) (lk _ (of_decide_eq_true h5)) (lk _ (of_decide_eq_true h6)) (sw _ (of_decide_eq_true h7)) ta pa) q1 (fun ρ ds e => by rw [denEs_len e, ← hl]; rfl) hi fun i hi' => ?_).cong fun ρ => rfl
          rcases List.mem_cons.mp hi' with z | z
          · rw [z]; exact g.lt h1
          · rcases List.mem_cons.mp z with z | z
            · rw [z]; exact g.lt h3
            · cases z
      · cases h1
    · split at h1
      · simp only [Bool.and_eq_true] at h1
        obtain ⟨⟨⟨⟨⟨⟨⟨⟨⟨⟨h1, h3⟩, h3'⟩, h4⟩, h4'⟩, h4''⟩, h5⟩, h6⟩, h6'⟩, h7⟩, h8⟩ := h1
        have h1 := of_decide_eq_true h1
        have h3 := of_decide_eq_true h3
        have h3' := of_decide_eq_true h3'
        have h8 := of_decide_eq_true h8
        match vs, h8 with
        | [a, b, c], _ =>
          refine (s_multi (fun ta pa => ps_mul3 g.calm nd (by rw [g.N]; exact h1) (by rw [g.N]; exact h3) (by rw [g.N]; exact h3') (of_decide_eq_true h4) (of_decide_eq_true h4') (of_decide_eq_true h4'') (lk _ (of_decide_eq_true h5)) (lk _ (of_decide_eq_true h6)) (lk _ (of_decide_eq_true h6')) (sw _ (of_decide_eq_true h7)) ta pa) q1 (fun ρ ds e => by rw [denEs_len e, ← hl]; rfl) hi fun i hi' => ?_).cong fun ρ => rfl
          rcases List.mem_cons.mp hi' with z | z
          · rw [z]; exact g.lt h1
          · rcases List.mem_cons.mp z with z | z
            · rw [z]; exact g.lt h3
            · rcases List.mem_cons.mp z with z | z
              · rw [z]; exact g.lt h3'
              · cases z
      · cases h1
    · cases h1
  | aug i add e =>
    replace h := Option.bind_eq_some_iff.mp h
    obtain ⟨q, hx, h⟩ := h
    obtain ⟨x, o, ex⟩ := q
    replace h := Option.bind_eq_some_iff.mp h
    obtain ⟨r, hr, h⟩ := h
    replace h := retF_eq h
    obtain ⟨h, rfl⟩ := h
    obtain ⟨p, p2, rfl⟩ := mAug_eq hx
    simp only [Bool.and_eq_true] at h
    obtain ⟨⟨⟨⟨h1, h2⟩, h3⟩, h4⟩, h5⟩ := h
    have h1 : S.N[i]? = some x := of_decide_eq_true h1
    have h3 : o = if add then .Add else .Sub := of_decide_eq_true h3
    obtain ⟨l1, l2⟩ := g.loc h2
    have hN : X.N[i]? = some x := by rw [g.N]; exact h1
    have nd : X.N.Nodup := by rw [g.N]; exact g.nd
    have q1 := (eN S M X ω true e ex r g hr).1
    cases add with
    | true =>
      replace h3 : o = .Add := h3
      subst h3
      exact (s_aug nd hN l1 l2 iop_addA opv_iadd q1 (of_decide_eq_true h4) (of_decide_eq_true h5)).cong fun ρ => rfl
    | false =>
      replace h3 : o = .Sub := h3
      subst h3
      exact (s_aug nd hN l1 l2 iop_sub opv_sub q1 (of_decide_eq_true h4) (of_decide_eq_true h5)).cong fun ρ => rfl
  | app i e =>
    replace h := Option.bind_eq_some_iff.mp h
    obtain ⟨q, hx, h⟩ := h
    obtain ⟨x, ex⟩ := q
    replace h := Option.bind_eq_some_iff.mp h
    obtain ⟨r, hr, h⟩ := h
    split at h
    · rename_i eo ho
      replace h := retF_eq h
      obtain ⟨h, rfl⟩ := h
      obtain ⟨p1, p2, p3, p4, rfl, hln⟩ := mApp_eq hx
      simp only [Bool.and_eq_true] at h
      obtain ⟨⟨⟨⟨⟨⟨h1, h2⟩, h3⟩, h4⟩, h5⟩, h6⟩, h7⟩ := h
      obtain ⟨q1, q2⟩ := eN S M X ω false e ex r g hr
      exact (s_append (g.pv (of_decide_eq_true h1) h2 (of_decide_eq_true h3) (of_decide_eq_true h4)) q1 (notStar_ok h7) hln (q2 rfl) ho (of_decide_eq_true h5) (of_decide_eq_true h6)).cong fun ρ => rfl
    · cases h
  | ite c a b =>
    replace h := Option.bind_eq_some_iff.mp h
    obtain ⟨q, hx, h⟩ := h
    obtain ⟨ce, ea, eb⟩ := q
    obtain ⟨p, rfl⟩ := mIfS_eq hx
    split at h
    · rename_i hc
      replace h := Option.bind_eq_some_iff.mp h
      obtain ⟨Fa, ha, h⟩ := h
      replace h := Option.bind_eq_some_iff.mp h
      obtain ⟨Fb, hb, h⟩ := h
      cases h
      exact (s_if ((snd n).T S M X ω c ce g hc) (ih.ss S M X ro ω a ea Fa g po ha) (ih.ss S M X ro ω b eb Fb g po hb)).cong fun ρ => rfl
    · cases h
  | for_ T it b =>
    replace h := Option.bind_eq_some_iff.mp h
    obtain ⟨q, hx, h⟩ := h
    obtain ⟨tg, iter, body⟩ := q
    replace h := Option.bind_eq_some_iff.mp h
    obtain ⟨L, hL, h⟩ := h
    replace h := Option.bind_eq_some_iff.mp h
    obtain ⟨r, hr, h⟩ := h
    obtain ⟨w, Fb⟩ := r
    replace h := retF_eq h
    obtain ⟨h, rfl⟩ := h
    obtain ⟨p, rfl⟩ := mFor_eq hx
    simp only [Bool.and_eq_true] at h
    obtain ⟨⟨h1, h2⟩, h3⟩ := h
    obtain ⟨hb, k1, k2⟩ := fixO_ok 4 hr
    exact (s_for po g.calm ((snd n).I S M X ω it tg iter L g hL) (tgt_ok g 9 T tg h2) (omLe_of h1) (ih.ss S M X ro (T.om w) b body Fb g po hb) k1 k2 (notSet_ok h3)).cong fun ρ => rfl
  | whl c b =>
    replace h := Option.bind_eq_some_iff.mp h
    obtain ⟨q, hx, h⟩ := h
    obtain ⟨ce, body⟩ := q
    replace h := Option.bind_eq_some_iff.mp h
    obtain ⟨r, hr, h⟩ := h
    obtain ⟨w, Fb⟩ := r
    replace h := retF_eq h
    obtain ⟨h, rfl⟩ := h
    obtain ⟨p, rfl⟩ := mWhl_eq hx
    rw [Bool.and_eq_true] at h
    obtain ⟨hb, k1, k2⟩ := fixO_ok 4 hr
    exact (s_while (n := WF) po (omLe_of h.1) ((snd n).T S M X w c ce g h.2) (ih.ss S M X ro w b body Fb g po hb) k1 k2).cong fun ρ => rfl
theorem snds : ∀ n, SndS n
  | 0 => snds_zero
  | n + 1 => ⟨snds_s (snds n), snds_ss (snds n)⟩
end PV

set_option Elab.async false
set_option linter.all false
set_option maxRecDepth 100000
set_option autoImplicit false
set_option maxHeartbeats 4000000
/-! Value semantics: the defs of a text. -/
namespace PV
open PySem PySem.Spec PyProof.Rows L2

/-- a def of the text: its name in the module, its own name, parameters, body, scope; the parameters' names, all names, what a result owns; its meaning -/
structure DfI where
  x : Str
  nm : Str
  args : Arguments
  body : List Stmt
  scope : Scope
  ps : List Str
  N : List Str
  ro : Ow
  ir : IFn
/-- a look at the names of a def's scope -/
def scOk (N P : List Str) (sc : Scope) : Bool :=
  decide (sc.kind = .function) && (!sc.isCoroutine && (!sc.isGenerator && (decide N.Nodup && (decide (N.take P.length = P) && (P.all (fun x => sc.names.lookup x == some .local || sc.names.lookup x == some .cell) && sc.names.all fun y => y.2 != .free)))))
theorem scOk_by {N P : List Str} {sc : Scope} (h : scOk N P sc = true) : FnScope N P sc := by
  unfold scOk at h
  simp only [Bool.and_eq_true] at h
  obtain ⟨h1, h2, h3, h4, h5, h6, h7⟩ := h
  refine ⟨of_decide_eq_true h1, by simpa using h2, by simpa using h3, of_decide_eq_true h4, of_decide_eq_true h5, fun x hx => ?_, fun y hy e => ?_⟩
  · have := List.all_eq_true.mp h6 x hx
    rw [Bool.or_eq_true] at this
    exact this.imp eq_of_beq eq_of_beq
  · have q := List.all_eq_true.mp h7 y hy
    rw [e] at q
    cases q
def DfI.sc (fr G : List Str) (F : List (Str × Nat × Ow)) (d : DfI) : SC := ⟨d.N, d.scope, none, fr, G, F⟩
def flOk (ro : Ow) : Option Fl → Bool
  | some F => F.bk.isNone && F.ct.isNone && (F.nx.isNone || decide (ro = .no))
  | none => false
def DfI.good (fr G : List Str) (F : List (Str × Nat × Ow)) (d : DfI) : Bool :=
  scOk d.N d.ps d.scope && decide (d.ir.np = d.ps.length) && decide (d.ir.nn = d.N.length) && flOk d.ro (cSs 1000 (d.sc fr G F) d.ro (List.replicate d.N.length .no) d.ir.body d.body)
def sigs (T : List DfI) : List (Str × Nat × Ow) := T.map fun d => (d.x, d.ps.length, d.ro)
def irs (T : List DfI) : List IFn := T.map DfI.ir
structure TxtOk (K : PySem.W.Frag) (mg : Str → Option Value) (T : List DfI) (fr G : List Str) (γ : Nat → Option D) : Prop where
  fn : ∀ (j : Nat) (d : DfI), T[j]? = some d → ∃ (f : Addr) (fd : FuncData), FunD K d.nm d.nm d.args d.body d.scope [] [] f fd ∧ mg d.x = some (.ref f) ∧ Binds K fd d.ps []
  free : ∀ x ∈ fr, mg x = none
  glob : ∀ (j : Nat) (x : Str), G[j]? = some x → ∃ d v u, γ j = some d ∧ mg x = some u ∧ RelV v u ∧ ∀ H W, Rp K H W v d
  chk : (T.all fun d => d.good fr G (sigs T)) = true
section
variable {P : Program} {w : World} {K : PySem.W.Frag} {mg : Str → Option Value} {base : Heap}
theorem spF_none {ro : Ow} {n : Nat} {φ : List D → Option D} (h : ∀ ds, φ ds = none) {vs : List V} {H : Hp} {Q : VK} {E : XK} (q : spF K φ ro n vs H Q E) : False := by
  obtain ⟨_, ds, d, W, _, _, e, _⟩ := q
  rw [h] at e; cases e
theorem relL_get {H : Hp} {W : Addr → Prop} : ∀ {vs : List V} {ds : List D} {i : Nat} {d : D}, RpL K H W vs ds → ds[i]? = some d → ∃ v, vs[i]? = some v ∧ Rp K H W v d
  | _, _, _, _, .nil, h => by cases h
  | _, _, 0, _, .cons r _, h => by cases h; exact ⟨_, rfl, r⟩
  | _, _, i + 1, _, .cons _ s, h => relL_get (i := i) s h
theorem getD_rep (n i : Nat) : (List.replicate n Ow.no).getD i .no = .no := by
  rw [List.getD_eq_getElem?_getD, List.getElem?_replicate]
  split <;> rfl
theorem start_env {N : List Str} {vs : List V} {ds : List D} {H : Hp} {W : Addr → Prop} {nn : Nat} (hn : nn = N.length) (hW : Tk H W) (r : RpL K H W vs ds) (hl : vs.length ≤ N.length) : EnvR K H W (L2.start N vs) (startE nn ds) (List.replicate N.length .no) (fun _ => []) where
  len := by
    have := r.length
    unfold L2.start startE
    simp only [List.length_append, List.length_map, List.length_replicate]
    omega
  sl := fun i d e => by
    have e2 := r.length
    unfold startE at e
    by_cases hi : i < ds.length
    · rw [List.getElem?_append_left (by simpa using hi), List.getElem?_map] at e
      have e' : ds[i]? = some d := by
        cases q : ds[i]? with
        | none => rw [q] at e; cases e
        | some d' => rw [q] at e; cases e; rfl
      obtain ⟨v, hv, rv⟩ := relL_get r e'
      refine ⟨v, ?_, ?_⟩
      · unfold L2.start
        rw [List.getElem?_append_left (by rw [List.length_map, e2]; exact hi), List.getElem?_map, hv]
        rfl
      · rw [getD_rep]
        exact .no (rv.less fun a z => z.elim id fun ⟨_, _, z⟩ => by cases z)
    · rw [List.getElem?_append_right (by simpa using hi), List.getElem?_replicate] at e
      split at e <;> cases e
  nil := fun _ _ => rfl
  w0 := hW
  dis0 := fun _ _ h => by cases h
  dis := fun _ _ _ h => by cases h
  nd := fun _ => List.nodup_nil
theorem fn_all {T : List DfI} {fr G : List Str} {γ : Nat → Option D} (O : TxtOk K mg T fr G γ) : ∀ (n j : Nat) (d : DfI) (f : Addr) (fd : FuncData), T[j]? = some d → FunD K d.nm d.nm d.args d.body d.scope [] [] f fd →
    FnOk P w K mg base CX0 n f fd d.ps (spF K (run (irs T) γ n j) d.ro d.ps.length)
  | 0, j, d, f, fd, hj, F => ⟨fun vs H Q E h => h.1, fun A outer s H args us vs Q E _ _ _ _ h => (spF_none (fun ds => rfl) h).elim⟩
  | n + 1, j, d, f, fd, hj, F => by
    have hg : d.good fr G (sigs T) = true := List.all_eq_true.mp O.chk d (List.mem_of_getElem? hj)
    unfold DfI.good at hg
    simp only [Bool.and_eq_true] at hg
    obtain ⟨⟨⟨h1, h2⟩, h3⟩, h4⟩ := hg
    have S := scOk_by h1
    have h2 : d.ir.np = d.ps.length := of_decide_eq_true h2
    have h3 : d.ir.nn = d.N.length := of_decide_eq_true h3
    have hpl : d.ps.length ≤ d.N.length := by have := congrArg List.length S.pre; rw [List.length_take] at this; omega
    obtain ⟨Fl, hF⟩ : ∃ Fl, cSs 1000 (d.sc fr G (sigs T)) d.ro (List.replicate d.N.length .no) d.ir.body d.body = some Fl := by
      cases q : cSs 1000 (d.sc fr G (sigs T)) d.ro (List.replicate d.N.length .no) d.ir.body d.body with
      | none => rw [q] at h4; cases h4
      | some F => exact ⟨F, rfl⟩
    rw [hF] at h4
    have h4 : (Fl.bk.isNone && Fl.ct.isNone && (Fl.nx.isNone || decide (d.ro = .no))) = true := h4
    simp only [Bool.and_eq_true, Bool.or_eq_true] at h4
    obtain ⟨⟨b1, b2⟩, b3⟩ := h4
    refine F.ok S (fun vs H Q E h => h.1) fun cdv A outer s H vs Q E hr h => ?_
    let M : Mn := ⟨run (irs T) γ n, γ⟩
    let X : Cx := (cxOf CX0 P w K mg base d.N d.nm d.scope f cdv A outer s H E).nox
    have hr' : Room n X.A := hr
    have g : Good (d.sc fr G (sigs T)) M X := {
      N := rfl
      sc := rfl
      fk := S.kind
      own := fun x _ => rfl
      calm := rfl
      nd := S.nd
      un := by have := hr'.un; omega
      hd := hr'.hd
      free := O.free
      glob := O.glob
      fns := fun i x k ro hi => by
        have hi : (sigs T)[i]? = some (x, k, ro) := hi
        unfold sigs at hi
        rw [List.getElem?_map] at hi
        cases q : T[i]? with
        | none => rw [q] at hi; cases hi
        | some di =>
          rw [q] at hi
          cases hi
          obtain ⟨fa, fdi, F1, m1, bi⟩ := O.fn i di q
          exact ⟨fa, fdi, di.ps, n, m1, F1.kp, bi, fn_all O n i di fa fdi q F1, hr'⟩ }
    have q := (snds 1000).ss (d.sc fr G (sigs T)) M X d.ro (List.replicate d.N.length .no) d.ir.body d.body Fl g PassesOwn.never hF
    obtain ⟨t, pt, qt⟩ := q.ex
    refine ⟨t, PSs.nox pt, ?_⟩
    obtain ⟨hl, ds, dd, W, hW, R, e, k⟩ := h
    have e : (match (irs T)[j]? with
      | none => none
      | some f => f.run ⟨run (irs T) γ n, γ⟩ ds) = some dd := e
    have ej : (irs T)[j]? = some d.ir := by
      unfold irs
      rw [List.getElem?_map, hj]; rfl
    rw [ej] at e
    have e : d.ir.run M ds = some dd := e
    unfold IFn.run at e
    split at e
    · obtain ⟨out, e1, e2⟩ := Option.bind_eq_some_iff.mp e
      have E0 : EnvR K H W (L2.start d.N vs) (startE d.ir.nn ds) (List.replicate d.N.length .no) (fun _ => []) := start_env h3 hW R (by omega)
      refine qt _ H _ _ W out _ E0 e1 (fun ρ' ω' σ' H' fs' ho hx c E' => ?_) (fun ρ' ω' σ' H' fs' ho hx c E' => ?_) (fun ρ' ω' σ' H' fs' ho hx c E' => ?_) (fun d0 v H' fe ho r => ?_)
      · subst ho
        cases e2
        have hro : d.ro = .no := by
          rcases b3 with b3 | b3
          · rw [hx] at b3; cases b3
          · exact of_decide_eq_true b3
        refine k .non H' [] ?_
        rw [hro]
        exact ⟨fun a o e => c.keep a o e (fun i z => by cases z), nn, List.nodup_nil, rfl, Rp.non⟩
      · rw [hx] at b1; cases b1
      · rw [hx] at b2; cases b2
      · subst ho
        cases e2
        refine k v H' fe ?_
        have nw : ∀ a ∈ fe, H a = none := fun a ha => (r.new a ha).elim (fun ⟨j, z⟩ => by cases z) id
        have sm : Same H H' := fun a o e => r.keep a o e fun i z => by cases z
        have rp := r.rp
        cases hro : d.ro with
        | no =>
          rw [hro] at rp
          cases rp with
          | no r0 =>
            exact ⟨sm, nn, List.nodup_nil, rfl, r0.less fun a z => .inl z⟩
        | top =>
          rw [hro] at rp
          cases rp
        | lst e0 =>
          rw [hro] at rp
          exact ⟨sm, nw, r.nd, rp⟩
    · cases e
end
end PV

set_option Elab.async false
set_option linter.all false
set_option maxRecDepth 100000
set_option autoImplicit false
set_option maxHeartbeats 4000000
/-! Value semantics: the head: a law from its meaning. -/
namespace PV
open PySem PySem.Spec PyProof.Rows L2

/-! ### the module's constants -/
def vOf : Value → V
  | .none => .non
  | .bool b => .bl b
  | .int i _ => .int i
  | .str x _ => .str x
  | .ref a => .ref a
  | _ => .non
mutual
def kB (K : PySem.W.Frag) : D → Value → Bool
  | .non, u => (match u with
    | .none => true
    | _ => false)
  | .bl b, u => (match u with
    | .bool c => b == c
    | _ => false)
  | .int i, u => (match u with
    | .int j _ => decide (i = j)
    | _ => false)
  | .str x, u => (match u with
    | .str y _ => decide (x = y) && PyData.strOk x
    | _ => false)
  | .tup ds, u => (match u with
    | .ref a => (match K.lookup a with
      | some ⟨.type c, _, .seq its _, _⟩ => decide (c = "tuple") && (decide (its.size ≤ sizeLine) && kBs K ds its.toList)
      | _ => false)
    | _ => false)
  | _, _ => false
def kBs (K : PySem.W.Frag) : List D → List Value → Bool
  | [], [] => true
  | d :: ds, u :: us => kB K d u && kBs K ds us
  | _, _ => false
end
mutual
theorem kB_ok {K : PySem.W.Frag} : ∀ {d : D} {u : Value}, kB K d u = true → RelV (vOf u) u ∧ ∀ H W, Rp K H W (vOf u) d
  | .non, u, h => by
    unfold kB at h
    split at h
    · exact ⟨rfl, fun H W => .non⟩
    · cases h
  | .bl b, u, h => by
    unfold kB at h
    split at h
    · have := eq_of_beq h
      subst this
      exact ⟨rfl, fun H W => .bl b⟩
    · cases h
  | .int i, u, h => by
    unfold kB at h
    split at h
    · rename_i j t
      have : i = j := of_decide_eq_true h
      subst this
      exact ⟨⟨t, rfl⟩, fun H W => .int i⟩
    · cases h
  | .str x, u, h => by
    unfold kB at h
    split at h
    · rename_i y t
      rw [Bool.and_eq_true] at h
      have : x = y := of_decide_eq_true h.1
      subst this
      exact ⟨⟨t, rfl⟩, fun H W => .str x h.2⟩
    · cases h
  | .tup ds, u, h => by
    unfold kB at h
    split at h
    · rename_i a
      split at h
      · rename_i c od its n osl q
        rw [Bool.and_eq_true, Bool.and_eq_true] at h
        obtain ⟨h1, h2, h3⟩ := h
        obtain ⟨r1, r2⟩ := kBs_ok h3
        exact ⟨rfl, fun H W => .tup (.inr ⟨_, its, n, q, congrArg Value.type (of_decide_eq_true h1), rfl, of_decide_eq_true h2, r1⟩) (r2 H W)⟩
      · cases h
    · cases h
  | .lst _, u, h => by unfold kB at h; cases h
  | .scr _, u, h => by unfold kB at h; cases h
theorem kBs_ok {K : PySem.W.Frag} : ∀ {ds : List D} {us : List Value}, kBs K ds us = true → Vals (us.map vOf) us ∧ ∀ H W, RpL K H W (us.map vOf) ds
  | [], [], _ => ⟨.nil, fun H W => .nil⟩
  | [], _ :: _, h => by unfold kBs at h; cases h
  | _ :: _, [], h => by unfold kBs at h; cases h
  | d :: ds, u :: us, h => by
    unfold kBs at h
    rw [Bool.and_eq_true] at h
    obtain ⟨r1, r2⟩ := kB_ok h.1
    obtain ⟨s1, s2⟩ := kBs_ok h.2
    exact ⟨.cons r1 s1, fun H W => .cons (r2 H W) (s2 H W)⟩
end
def kcB (K : PySem.W.Frag) (c : Str × D) : Bool := match PySem.W.nsIn K mainGlobals c.1 with
  | some (some u) => kB K c.2 u
  | _ => false
/-! ### what is looked at behind the top -/
def DfI.dd (d : DfI) : He.DefD := ⟨(d.x, none), d.nm, d.nm, d.args, d.body, d.scope, [], []⟩
structure Txt where
  T : List DfI
  fr : List Str
  cs : List (Str × D)
def Txt.γ (t : Txt) (j : Nat) : Option D := (t.cs[j]?).map (·.2)
def Txt.G (t : Txt) : List Str := t.cs.map (·.1)
def Txt.ok (t : Txt) (K : PySem.W.Frag) : Bool := (t.T.all fun d => (He.Fa.glo d.x).ok K) && ((t.fr.all fun x => (He.Fa.free x).ok K) && t.cs.all (kcB K))
def Txt.obs (t : Txt) (K : PySem.W.Frag) : Bool × He.AlD := (t.ok K, He.obsD [] (t.T.map DfI.dd) K)
def Txt.val (t : Txt) : Bool × He.AlD := (true, He.valD (t.T.map DfI.dd))
def Txt.obsG (t : Txt) (n : Nat) (g : Addr → Option Obj) : Bool × He.AlD := t.obs (He.frG g (He.asD g n))
def Txt.hook (t : Txt) (n : Nat) : PySem.W.Hook where
  α := Bool × He.AlD
  obs := fun s => t.obsG n s.heap.get?
  val := fun _ => t.val
  says := fun _ h => ∃ K : PySem.W.Frag, K.In h ∧ t.obs K = t.val
  of := fun _ _ e => ⟨_, He.frG_in, e⟩
  keeps := fun _ _ _ ⟨K, hK, c⟩ k => ⟨K, PySem.W.Frag.In.keeps hK k, c⟩
def Txt.ob (t : Txt) (n : Nat) (s : PySem.W.SharedT) : Bool × He.AlD := t.obsG n (HandSHeadRun.getT s)
theorem Txt.ob_eq (t : Txt) (n : Nat) (s : PySem.W.SharedT) : t.ob n s = (t.hook n).obs s.abs := by
  have e : HandSHeadRun.getT s = s.abs.heap.get? := funext (HandSHeadRun.getT_eq s)
  unfold Txt.ob
  rw [e]
  rfl
/-- the parameters bind as they stand -/
def BindsP (d : DfI) : Prop := ∀ (kV doc pm : Value) (an : Option Addr) (cdv ct : Value) (us : List Value), us.length = d.ps.length → bindArgs (PySem.W.fnOf d.nm d.nm d.args d.body d.scope .none kV doc pm an cdv ct) ⟨us, []⟩ = pure (d.ps.zip us)
def EachP {α : Type} (P : α → Prop) : List α → Prop
  | [] => True
  | a :: l => P a ∧ EachP P l
theorem EachP.get {α : Type} {P : α → Prop} : ∀ {l : List α} {j : Nat} {a : α}, EachP P l → l[j]? = some a → P a
  | [], _, _, _, h => by cases h
  | _ :: _, 0, _, h, e => by cases e; exact h.1
  | _ :: _, j + 1, _, h, e => EachP.get (j := j) h.2 e
theorem txt_ok {t : Txt} {K : PySem.W.Frag} {h : Heap} {mg : Str → Option Value} (X : K.In h) (G : h.Ns mainGlobals mg) (c : t.obs K = t.val) (hb : EachP BindsP t.T) (hc : (t.T.all fun d => d.good t.fr t.G (sigs t.T)) = true) : TxtOk K mg t.T t.fr t.G t.γ := by
  have c1 : t.ok K = true := congrArg (fun z : Bool × He.AlD => z.1) c
  have c2 : He.SaysD [] (t.T.map DfI.dd) K := congrArg (fun z : Bool × He.AlD => z.2) c
  unfold Txt.ok at c1
  rw [Bool.and_eq_true, Bool.and_eq_true] at c1
  obtain ⟨g1, g2, g3⟩ := c1
  refine ⟨fun j d hj => ?_, fun x hx => ?_, fun j x hj => ?_, hc⟩
  · obtain ⟨fd, F⟩ := c2.def_ j (d := d.dd) (by rw [List.getElem?_map, hj]; rfl)
    exact ⟨_, fd, F, He.glo_ok X G (List.all_eq_true.mp g1 d (List.mem_of_getElem? hj)), F.bindsN (hb.get hj)⟩
  · exact He.free_ok X G (List.all_eq_true.mp g2 x hx)
  · unfold Txt.G at hj
    rw [List.getElem?_map] at hj
    cases q : t.cs[j]? with
    | none => rw [q] at hj; cases hj
    | some p =>
      rw [q] at hj
      cases hj
      have k := List.all_eq_true.mp g3 p (List.mem_of_getElem? q)
      unfold kcB at k
      split at k
      · rename_i u e
        obtain ⟨r1, r2⟩ := kB_ok k
        exact ⟨p.2, vOf u, u, by unfold Txt.γ; rw [q]; rfl, PySem.W.mg_of X G e, r1, r2⟩
      · cases k
theorem scr_of {K : PySem.W.Frag} {H : Hp} {a : Addr} {xs : List V} (hO : Only H) (hS : SqL K H a xs) : SW K H (fun _ => False) a xs := by
  rcases hS with hS | hS
  · rcases hS with hS | ⟨o, hS⟩
    · rcases hO a with z | ⟨o, ys, z⟩
      · rw [hS] at z; cases z
      · rw [hS] at z; cases z
    · exact .inl ⟨⟨o, hS⟩, id⟩
  · exact .inr hS
/-- THE END: the law's promise from its meaning -/
theorem law_facts {t : Txt} {k j most : Nat} {P : Program} {w : World} {mg : Str → Option Value} {fa : Addr} {h : Heap} {dl : DfI} {K : PySem.W.Frag} (X : K.In h) (c : t.obs K = t.val) (G : h.Ns mainGlobals mg) (hfa : mg ("law" : Str) = some (.ref fa))
    (hb : EachP BindsP t.T) (hc : (t.T.all fun d => d.good t.fr t.G (sigs t.T)) = true) (hj : t.T[j]? = some dl) (hx : dl.x = "law") (hps : dl.ps = [("script" : Str)]) (hro : dl.ro = .no)
    (law : ∀ ns : List Int, ns.length ≤ most → run (irs t.T) t.γ k j [.scr (ns.map D.int)] = some (.bl true)) :
    ∃ (K : PySem.W.Frag) (fd : FuncData) (sp : Sp), K.In h ∧ (∀ (s : Shared) (u : Value), BindsTo s fd ⟨[u], []⟩ [(("script" : Str), u)]) ∧
        (∀ (H : Hp) (a : Addr) (ns : List Int), ns.length ≤ most → Only H → SqL K H a (ns.map V.int) → sp [.ref a] H (fun v _ => v = .bl true) fun _ _ _ => False) ∧
        ∀ base : Heap, K.In base → base.Ns mainGlobals mg → FnOk P w K mg base CX0 k fa fd [("script" : Str)] sp := by
  have O := txt_ok X G c hb hc
  have c2 : He.SaysD [] (t.T.map DfI.dd) K := congrArg (fun z : Bool × He.AlD => z.2) c
  have c1 : t.ok K = true := congrArg (fun z : Bool × He.AlD => z.1) c
  unfold Txt.ok at c1
  rw [Bool.and_eq_true] at c1
  obtain ⟨fd, F⟩ := c2.def_ j (d := dl.dd) (by rw [List.getElem?_map, hj]; rfl)
  have eg := He.glo_ok X G (List.all_eq_true.mp c1.1 dl (List.mem_of_getElem? hj))
  rw [hx, hfa] at eg
  have e : fa = He.ga K dl.x := by rw [hx]; exact Value.ref.inj (Option.some.inj eg)
  refine ⟨K, fd, spF K (run (irs t.T) t.γ k j) dl.ro dl.ps.length, X, fun s u => ?_, fun H a ns hl hO hS => ?_, fun base _ _ => ?_⟩
  · have b := F.bindsA (ps := dl.ps) (hb.get hj) s [u] (by rw [hps]; rfl)
    rw [hps] at b
    exact b
  · refine ⟨by rw [hps]; rfl, [.scr (ns.map D.int)], .bl true, fun _ => False, fun a z => z.elim, .cons (.scr (scr_of hO hS) (RpL.ints ns)) .nil, law ns hl, fun v H' fe E => ?_⟩
    have r := E.rp
    rw [hro] at r
    have r : fe = [] ∧ Rp K H' (fun _ => False) v (.bl true) := r
    cases r.2
    rfl
  · have f := fn_all (P := P) (w := w) (base := base) O k j dl (He.ga K dl.x) fd hj F
    rw [← e, hps] at f
    exact hps ▸ f
end PV

set_option Elab.async false
set_option linter.all false
set_option maxRecDepth 100000
set_option autoImplicit false
set_option maxHeartbeats 4000000
/-! Value semantics: how a meaning is reckoned. -/
namespace PV
open PySem PySem.Spec PyProof.Rows L2

theorem run_def {T : List IFn} {γ : Nat → Option D} {n j : Nat} {ds : List D} {f : IFn} {out : Out} {d : D} (h : T[j]? = some f) (hl : ds.length = f.np) (he : exes ⟨run T γ n, γ⟩ f.body (startE f.nn ds) = some out) (ho : outD out = some d) : run T γ (n + 1) j ds = some d := by
  show (match T[j]? with
    | none => none
    | some f => f.run ⟨run T γ n, γ⟩ ds) = some d
  rw [h]
  show f.run ⟨run T γ n, γ⟩ ds = some d
  unfold IFn.run
  rw [if_pos hl, he]
  exact ho
theorem szOk_ok {n : Nat} (h : n ≤ 1000001) : szOk n = true := decide_eq_true (Nat.le_trans h (by decide))
/-- what follows a statement -/
def goO (M : Mn) (rest : List IS) : Out → Option Out
  | .nx ρ' => exes M rest ρ'
  | .rt d => some (.rt d)
  | .bk ρ' => some (.bk ρ')
  | .ct ρ' => some (.ct ρ')
theorem goO_eq (M : Mn) (s : IS) (rest : List IS) (ρ : Env) : exes M (s :: rest) ρ = (exe M s ρ).bind (goO M rest) := by
  show seqM (exe M s) (exes M rest) ρ = _
  unfold seqM
  congr 1
  funext o
  cases o <;> rfl
theorem run_at {T : List IFn} {γ : Nat → Option D} {n j : Nat} {ds : List D} {f : IFn} {out : Out} {d : D} {ρ : Env} (h : T[j]? = some f) (hl : ds.length = f.np) (hρ : startE f.nn ds = ρ) (he : exes ⟨run T γ n, γ⟩ f.body ρ = some out) (ho : outD out = some d) : run T γ (n + 1) j ds = some d :=
  run_def h hl (by rw [hρ]; exact he) ho
section
variable {M : Mn} {ρ ρ' : Env} {rest : List IS} {o : Option Out}
theorem x_set {i : Nat} {e : IE} {d : D} (h : denE M e ρ = some d) (k : exes M rest (ρ.set i (some d)) = o) : exes M (.set i e :: rest) ρ = o := by
  show seqM (exe M (.set i e)) (exes M rest) ρ = o
  unfold seqM
  show ((denE M e ρ).map _).bind _ = o
  rw [h]; exact k
theorem x_setT {T : Tgt} {e : IE} {d : D} (h : denE M e ρ = some d) (hb : bindT T d ρ = some ρ') (k : exes M rest ρ' = o) : exes M (.setT T e :: rest) ρ = o := by
  show seqM (exe M (.setT T e)) (exes M rest) ρ = o
  unfold seqM
  show ((denE M e ρ).bind fun d => (bindT T d ρ).map Out.nx).bind _ = o
  rw [h]
  show ((bindT T d ρ).map Out.nx).bind _ = o
  rw [hb]; exact k
theorem x_mul {is : List Nat} {es : List IE} {ds : List D} (h : denEs M es ρ = some ds) (k : exes M rest (setsE is ds ρ) = o) : exes M (.mul is es :: rest) ρ = o := by
  show seqM (exe M (.mul is es)) (exes M rest) ρ = o
  unfold seqM
  show ((denEs M es ρ).map _).bind _ = o
  rw [h]; exact k
theorem x_ret {e : IE} {d : D} (h : denE M e ρ = some d) : exes M (.ret e :: rest) ρ = some (.rt d) := by
  show seqM (exe M (.ret e)) (exes M rest) ρ = _
  unfold seqM
  show ((denE M e ρ).map Out.rt).bind _ = _
  rw [h]; rfl
theorem x_retv {i : Nat} {d : D} (h : (ρ[i]?).join = some d) : exes M (.retv i :: rest) ρ = some (.rt d) := by
  show seqM (exe M (.retv i)) (exes M rest) ρ = _
  unfold seqM
  show (((ρ[i]?).join).map Out.rt).bind _ = _
  rw [h]; rfl
theorem x_pass (k : exes M rest ρ = o) : exes M (.pass :: rest) ρ = o := k
theorem x_brk : exes M (.brk :: rest) ρ = some (.bk ρ) := rfl
theorem x_cont : exes M (.cont :: rest) ρ = some (.ct ρ) := rfl
theorem x_retN : exes M (.retN :: rest) ρ = some (.rt .non) := rfl
theorem x_nil : exes M [] ρ = some (.nx ρ) := rfl
theorem x_app {i : Nat} {e : IE} {xs : List D} {d : D} (hi : (ρ[i]?).join = some (.lst xs)) (h : denE M e ρ = some d) (hz : xs.length ≤ 1000000) (k : exes M rest (ρ.set i (some (.lst (xs ++ [d])))) = o) : exes M (.app i e :: rest) ρ = o := by
  show seqM (exe M (.app i e)) (exes M rest) ρ = o
  unfold seqM
  show (((ρ[i]?).join).bind fun a => (denE M e ρ).bind fun b => (appM a b).map fun d => Out.nx (ρ.set i (some d))).bind _ = o
  rw [hi, h]
  have : appM (.lst xs) d = some (.lst (xs ++ [d])) := by
    exact if_pos (szOk_ok (Nat.succ_le_succ hz))
  show ((appM (.lst xs) d).map _).bind _ = o
  rw [this]; exact k
theorem x_aug {i : Nat} {add : Bool} {e : IE} {a b d : D} (hi : (ρ[i]?).join = some a) (h : denE M e ρ = some b) (ho : (if add then iaddD else intOp cYes fun i j => i - j) a b = some d) (k : exes M rest (ρ.set i (some d)) = o) : exes M (.aug i add e :: rest) ρ = o := by
  show seqM (exe M (.aug i add e)) (exes M rest) ρ = o
  unfold seqM
  show (((ρ[i]?).join).bind fun a => (denE M e ρ).bind fun b => ((if add then iaddD else intOp cYes fun i j => i - j) a b).map fun d => Out.nx (ρ.set i (some d))).bind _ = o
  rw [hi, h]
  show (((if add then iaddD else intOp cYes fun i j => i - j) a b).map _).bind _ = o
  rw [ho]; exact k
theorem x_then {c : IE} {a b : List IS} {o1 : Out} (h : denE M c ρ = some (.bl true)) (h1 : exes M a ρ = some o1) (k2 : goO M rest o1 = o) : exes M (.ite c a b :: rest) ρ = o := by
  rw [goO_eq]
  have e : exe M (.ite c a b) ρ = some o1 := by
    show (((denE M c ρ).bind asBl).bind fun k => if k = true then exes M a ρ else exes M b ρ) = some o1
    rw [h]; exact h1
  rw [e]; exact k2
theorem x_else {c : IE} {a b : List IS} {o1 : Out} (h : denE M c ρ = some (.bl false)) (h1 : exes M b ρ = some o1) (k2 : goO M rest o1 = o) : exes M (.ite c a b :: rest) ρ = o := by
  rw [goO_eq]
  have e : exe M (.ite c a b) ρ = some o1 := by
    show (((denE M c ρ).bind asBl).bind fun k => if k = true then exes M a ρ else exes M b ρ) = some o1
    rw [h]; exact h1
  rw [e]; exact k2
/-- if c: .. return, not taken -/
theorem x_skip {c : IE} {a : List IS} (h : denE M c ρ = some (.bl false)) (k2 : exes M rest ρ = o) : exes M (.ite c a [] :: rest) ρ = o := x_else h x_nil k2
theorem x_for {T : Tgt} {it : II} {b : List IS} {ds : List D} (hi : denI M it ρ = some ds) (hf : forM T (exes M b) ds ρ = some (.nx ρ')) (k : exes M rest ρ' = o) : exes M (.for_ T it b :: rest) ρ = o := by
  show seqM (exe M (.for_ T it b)) (exes M rest) ρ = o
  unfold seqM
  show ((denI M it ρ).bind fun ds => forM T (exes M b) ds ρ).bind _ = o
  rw [hi]
  show (forM T (exes M b) ds ρ).bind _ = o
  rw [hf]; exact k
theorem x_forR {T : Tgt} {it : II} {b : List IS} {ds : List D} {d : D} (hi : denI M it ρ = some ds) (hf : forM T (exes M b) ds ρ = some (.rt d)) : exes M (.for_ T it b :: rest) ρ = some (.rt d) := by
  show seqM (exe M (.for_ T it b)) (exes M rest) ρ = _
  unfold seqM
  show ((denI M it ρ).bind fun ds => forM T (exes M b) ds ρ).bind _ = _
  rw [hi]
  show (forM T (exes M b) ds ρ).bind _ = _
  rw [hf]; rfl
theorem x_whl {c : IE} {b : List IS} {out : Out} (hf : whileM (fun ρ => (denE M c ρ).bind asBl) (exes M b) WF ρ = some out) (k : goO M rest out = o) : exes M (.whl c b :: rest) ρ = o := by
  rw [goO_eq]
  show (whileM (fun ρ => (denE M c ρ).bind asBl) (exes M b) WF ρ).bind _ = o
  rw [hf]; exact k
end
/-! ### walks over lists -/
/-- a for that runs to its end -/
theorem forM_end {α : Type} {T : Tgt} {b : Env → Option Out} {φ : α → D} : ∀ (l : List α) (I : Nat → Env → Prop) (k : Nat), (∀ i a ρ, l[i]? = some a → I (k + i) ρ → ∃ ρ1 ρ2, bindT T (φ a) ρ = some ρ1 ∧ (b ρ1 = some (.nx ρ2) ∨ b ρ1 = some (.ct ρ2)) ∧ I (k + i + 1) ρ2) →
    ∀ ρ, I k ρ → ∃ ρ', forM T b (l.map φ) ρ = some (.nx ρ') ∧ I (k + l.length) ρ'
  | [], I, k, h, ρ, h0 => ⟨ρ, rfl, h0⟩
  | a :: l, I, k, h, ρ, h0 => by
    obtain ⟨ρ1, ρ2, h1, h2, h3⟩ := h 0 a ρ rfl h0
    obtain ⟨ρ', e, q⟩ := forM_end l I (k + 1) (fun i a ρ hi hI => by
      have := h (i + 1) a ρ hi (by rw [show k + (i + 1) = k + 1 + i by omega]; exact hI)
      rw [show k + (i + 1) + 1 = k + 1 + i + 1 by omega] at this
      exact this) ρ2 h3
    refine ⟨ρ', ?_, by rw [List.length_cons, show k + (l.length + 1) = k + 1 + l.length by omega]; exact q⟩
    rw [List.map_cons]
    unfold forM
    rw [h1]
    show (b ρ1).bind _ = _
    rcases h2 with h2 | h2 <;> (rw [h2]; exact e)
theorem forM_all {α : Type} {T : Tgt} {b : Env → Option Out} {φ : α → D} (l : List α) (I : Nat → Env → Prop) {ρ : Env} (h0 : I 0 ρ) (h : ∀ i a ρ, l[i]? = some a → I i ρ → ∃ ρ1 ρ2, bindT T (φ a) ρ = some ρ1 ∧ (b ρ1 = some (.nx ρ2) ∨ b ρ1 = some (.ct ρ2)) ∧ I (i + 1) ρ2) :
    ∃ ρ', forM T b (l.map φ) ρ = some (.nx ρ') ∧ I l.length ρ' := by
  obtain ⟨ρ', e, q⟩ := forM_end l I 0 (fun i a ρ hi hI => by
    have := h i a ρ hi (by simpa using hI)
    simpa using this) ρ h0
  exact ⟨ρ', e, by simpa using q⟩
/-- a comprehension -/
theorem compM_eq {α : Type} {T : Tgt} {mc : Env → Option Bool} {me : Env → Option D} {ρ : Env} {φ : α → D} {p : α → Bool} {g : α → D} : ∀ (l : List α), (∀ a ∈ l, ∃ ρ', bindT T (φ a) ρ = some ρ' ∧ mc ρ' = some (p a) ∧ (p a = true → me ρ' = some (g a))) → compM T mc me ρ (l.map φ) = some ((l.filter p).map g)
  | [], _ => rfl
  | a :: l, h => by
    obtain ⟨ρ', h1, h2, h3⟩ := h a List.mem_cons_self
    have ih := compM_eq (T := T) (mc := mc) (me := me) (ρ := ρ) l fun a ha => h a (List.mem_cons_of_mem _ ha)
    rw [List.map_cons]
    unfold compM
    rw [h1]
    show (mc ρ').bind _ = _
    rw [h2]
    show (if p a = true then _ else _) = _
    by_cases hp : p a = true
    · rw [if_pos hp, List.filter_cons_of_pos hp]
      have e := h3 hp
      rw [e]
      show (compM T mc me ρ (l.map φ)).bind _ = _
      rw [ih]; rfl
    · rw [if_neg hp, List.filter_cons_of_neg hp]
      exact ih
theorem den_comp {α : Type} {M : Mn} {elt : IE} {T : Tgt} {it : II} {c : Option IE} {own : List Nat} {ρ : Env} {φ : α → D} (l : List α) (p : α → Bool) (g : α → D) (hi : denI M it ρ = some (l.map φ))
    (h : ∀ a ∈ l, ∃ ρ', bindT T (φ a) (wipeE ρ own) = some ρ' ∧ denC M c ρ' = some (p a) ∧ (p a = true → denE M elt ρ' = some (g a))) : denE M (.comp elt T it c own) ρ = some (.lst ((l.filter p).map g)) := by
  show compD own T (denI M it) (denC M c) (denE M elt) ρ = _
  unfold compD
  rw [hi]
  show (compM T (denC M c) (denE M elt) (wipeE ρ own) (l.map φ)).map D.lst = _
  rw [compM_eq l h]; rfl
theorem den_compA {α : Type} {M : Mn} {elt : IE} {T : Tgt} {it : II} {own : List Nat} {ρ : Env} {φ : α → D} (l : List α) (g : α → D) (hi : denI M it ρ = some (l.map φ))
    (h : ∀ a ∈ l, ∃ ρ', bindT T (φ a) (wipeE ρ own) = some ρ' ∧ denE M elt ρ' = some (g a)) : denE M (.comp elt T it none own) ρ = some (.lst (l.map g)) := by
  have q := den_comp (c := none) l (fun _ => true) g hi fun a ha => by
    obtain ⟨ρ', h1, h2⟩ := h a ha
    exact ⟨ρ', h1, rfl, fun _ => h2⟩
  rw [q, List.filter_eq_self.mpr fun _ _ => rfl]
/-! ### numbers -/
section
variable {i j : Int}
theorem o_mod (h : 0 < j) : intOp cModB (fun i j => i % j) (.int i) (.int j) = some (.int (i % j)) := if_pos (decide_eq_true h)
theorem o_div (h : 0 < j) (h2 : j < 1073741824) : intOp cDivB (fun i j => i / j) (.int i) (.int j) = some (.int (i / j)) := if_pos (decide_eq_true ⟨h, h2⟩)
theorem o_mulR (h : -18446744073709551616 < j) (h2 : j < 18446744073709551616) : mulD (.int i) (.int j) = some (.int (i * j)) := if_pos (decide_eq_true (.inr ⟨h, h2⟩))
theorem o_mulL (h : -18446744073709551616 < i) (h2 : i < 18446744073709551616) : mulD (.int i) (.int j) = some (.int (i * j)) := if_pos (decide_eq_true (.inl ⟨h, h2⟩))
theorem o_rng1 (h : i ≤ 16777216) (h2 : -4611686018427387904 ≤ i) : rng1 [.int i] = some ((List.range i.toNat).map fun (k : Nat) => D.int k) := by
  have e : rng1 [.int i] = some (rngL 0 i.toNat) := if_pos (decide_eq_true ⟨h, h2⟩)
  rw [e]
  unfold rngL
  simp
theorem o_rng2 (h : j - i ≤ 16777216) (h1 : -4611686018427387904 ≤ i) (h2 : i < 4611686018427387904) (h3 : -4611686018427387904 ≤ j) (h4 : j < 4611686018427387904) : rng2 [.int i, .int j] = some ((List.range (j - i).toNat).map fun (k : Nat) => D.int (i + k)) :=
  if_pos (decide_eq_true ⟨h, h1, h2, h3, h4⟩)
end
/-! ### the same data -/
mutual
def D.has : Nat → D → Bool
  | 0, .tup _ => false
  | 0, .lst _ => false
  | n + 1, .tup xs => D.hasL n xs
  | n + 1, .lst xs => D.hasL n xs
  | _, .scr _ => false
  | _, _ => true
def D.hasL : Nat → List D → Bool
  | _, [] => true
  | n, d :: ds => D.has n d && D.hasL n ds
end
theorem hasL_iff {n : Nat} : ∀ {ds : List D}, D.hasL n ds = true ↔ ∀ d ∈ ds, D.has n d = true
  | [] => by simp [D.hasL]
  | d :: ds => by
    unfold D.hasL
    rw [Bool.and_eq_true, hasL_iff]
    simp
mutual
theorem has_plain : ∀ {n : Nat} {d : D}, D.has n d = true → d.plain = true ∧ d.dep ≤ n
  | 0, .tup _, h => by simp [D.has] at h
  | 0, .lst _, h => by simp [D.has] at h
  | n + 1, .tup xs, h => by
    have := hasL_plain (n := n) (by simpa [D.has] using h)
    exact ⟨by simpa [D.plain] using this.1, by simp [D.dep]; exact this.2⟩
  | n + 1, .lst xs, h => by
    have := hasL_plain (n := n) (by simpa [D.has] using h)
    exact ⟨by simpa [D.plain] using this.1, by simp [D.dep]; exact this.2⟩
  | n, .scr _, h => by cases n <;> simp [D.has] at h
  | n, .non, h => ⟨rfl, Nat.zero_le _⟩
  | n, .bl _, h => ⟨rfl, Nat.zero_le _⟩
  | n, .int _, h => ⟨rfl, Nat.zero_le _⟩
  | n, .str _, h => ⟨rfl, Nat.zero_le _⟩
theorem hasL_plain : ∀ {n : Nat} {ds : List D}, D.hasL n ds = true → D.plains ds = true ∧ D.deps ds ≤ n
  | _, [], _ => ⟨rfl, Nat.zero_le _⟩
  | n, d :: ds, h => by
    unfold D.hasL at h
    rw [Bool.and_eq_true] at h
    have h1 := has_plain h.1
    have h2 := hasL_plain h.2
    exact ⟨by unfold D.plains; rw [h1.1, h2.1]; rfl, by unfold D.deps; exact Nat.max_le.mpr ⟨h1.2, h2.2⟩⟩
end
mutual
theorem py_refl : ∀ d : D, PyData.eqv d.py d.py = true
  | .non => rfl
  | .bl b => by simp [D.py, PyData.eqv]
  | .int i => by simp [D.py, PyData.eqv]
  | .str x => by simp [D.py, PyData.eqv]
  | .tup xs => by simp only [D.py, PyData.eqv]; exact pys_refl xs
  | .lst xs => by simp only [D.py, PyData.eqv]; exact pys_refl xs
  | .scr xs => by simp only [D.py, PyData.eqv]; exact pys_refl xs
theorem pys_refl : ∀ ds : List D, PyData.eqvAll (D.pys ds) (D.pys ds) = true
  | [] => rfl
  | d :: ds => by simp only [D.pys, PyData.eqvAll, py_refl d, pys_refl ds]; rfl
end
theorem eqM_self {n : Nat} {d : D} (h : D.has n d = true) (hn : n ≤ 100 := by decide) : eqM d d = some (.bl true) := by
  obtain ⟨h1, h2⟩ := has_plain h
  unfold eqM okEq
  rw [h1, if_pos (by simp; omega)]
  unfold eqD
  rw [py_refl]
theorem neM_self {n : Nat} {d : D} (h : D.has n d = true) (hn : n ≤ 100 := by decide) : neM d d = some (.bl false) := by
  obtain ⟨h1, h2⟩ := has_plain h
  unfold neM okEq
  rw [h1, if_pos (by simp; omega)]
  unfold eqD
  rw [py_refl]; rfl
theorem eqM_int (i j : Int) : eqM (.int i) (.int j) = some (.bl (i == j)) := rfl
theorem neM_int (i j : Int) : neM (.int i) (.int j) = some (.bl (!(i == j))) := rfl
theorem has_ints (ns : List Int) : D.hasL 0 (ns.map D.int) = true := hasL_iff.mpr fun d hd => by
  obtain ⟨n, _, rfl⟩ := List.mem_map.mp hd
  rfl
theorem all_flat (ns : List Int) : (ns.map D.int).all D.flat = true := List.all_eq_true.mpr fun d hd => by
  obtain ⟨n, _, rfl⟩ := List.mem_map.mp hd
  rfl
theorem inL_int (i : Int) : ∀ ns : List Int, inL (.int i) (ns.map D.int) = decide (i ∈ ns)
  | [] => rfl
  | n :: ns => by
    have ih := inL_int i ns
    unfold inL at *
    rw [List.map_cons, List.any_cons, ih]
    show ((n == i) || _) = _
    by_cases h : n = i
    · subst h; simp
    · have h' : ¬ i = n := fun e => h e.symm
      have : (n == i) = false := beq_eq_false_iff_ne.mpr h
      rw [this]
      simp [h']
theorem inM_tup (i : Int) (ns : List Int) : inM false (.int i) (.tup (ns.map D.int)) = some (.bl (decide (i ∈ ns))) := by
  show (if ((D.int i).flat && (ns.map D.int).all D.flat) = true then _ else _) = _
  rw [all_flat]
  show some (D.bl (inL (.int i) (ns.map D.int))) = _
  rw [inL_int]
theorem inM_lst (i : Int) (ns : List Int) : inM false (.int i) (.lst (ns.map D.int)) = some (.bl (decide (i ∈ ns))) := by
  show (if ((D.int i).flat && (ns.map D.int).all D.flat) = true then _ else _) = _
  rw [all_flat]
  show some (D.bl (inL (.int i) (ns.map D.int))) = _
  rw [inL_int]
/-! ### the law's numbers -/
theorem addD_int (i j : Int) : addD (.int i) (.int j) = some (.int (i + j)) := rfl
theorem subD_int (i j : Int) : intOp cYes (fun i j => i - j) (.int i) (.int j) = some (.int (i - j)) := rfl
theorem cmpD_int (p : Int → Int → Bool) (i j : Int) : cmpD p (.int i) (.int j) = some (.bl (p i j)) := rfl
theorem intF_int (i : Int) : intF [.int i] = some (.int i) := rfl
theorem asBl_bl (b : Bool) : asBl (.bl b) = some b := rfl
theorem tupF_lst (xs : List D) : tupF [.lst xs] = some (.tup xs) := rfl
theorem sortF_ints (ns : List Int) : sortF [.lst (ns.map D.int)] = some (.lst ((sortI ns).map D.int)) := by
  show (asInts (ns.map D.int)).map _ = _
  rw [asInts_map]; rfl
theorem sumF_ints (ns : List Int) : sumF [.lst (ns.map D.int)] = some (.int ns.sum) := by
  show (asInts (ns.map D.int)).map _ = _
  rw [asInts_map]; rfl
theorem minF_ints {ns : List Int} (h : ns ≠ []) : minF [.lst (ns.map D.int)] = some (.int (minI ns)) := by
  show (asInts (ns.map D.int)).bind _ = _
  rw [asInts_map]
  cases ns with
  | nil => exact absurd rfl h
  | cons a l => rfl
theorem maxF_ints {ns : List Int} (h : ns ≠ []) : maxF [.lst (ns.map D.int)] = some (.int (maxI ns)) := by
  show (asInts (ns.map D.int)).bind _ = _
  rw [asInts_map]
  cases ns with
  | nil => exact absurd rfl h
  | cons a l => rfl
theorem atI_nat {α : Type} (xs : List α) (i : Nat) : atI xs (i : Int) = xs[i]? := by
  unfold atI ixN
  rw [if_pos (by omega)]
  by_cases h : i < xs.length
  · rw [if_pos (by omega)]
    show xs[((i : Int)).toNat]? = _
    rw [Int.toNat_natCast]
  · rw [if_neg (by omega)]
    exact (List.getElem?_eq_none (by omega)).symm
theorem atI_lt {α : Type} {xs : List α} {i : Int} {d : α} (h : 0 ≤ i) (h2 : xs[i.toNat]? = some d) : atI xs i = some d := by
  have e : ((i.toNat : Nat) : Int) = i := Int.toNat_of_nonneg h
  rw [← e, atI_nat]
  exact h2
theorem ixM_lst (xs : List D) (i : Int) : ixM (.lst xs) (.int i) = atI xs i := rfl
theorem ixM_tup (xs : List D) (i : Int) : ixM (.tup xs) (.int i) = atI xs i := rfl
theorem ixM_scr (xs : List D) (i : Int) : ixM (.scr xs) (.int i) = atI xs i := rfl
theorem slM_lst (xs : List D) (a b : Option Int) : slM (.lst xs) a b = some (.lst (cutL xs a b)) := rfl
theorem slM_tup (xs : List D) (a b : Option Int) : slM (.tup xs) a b = some (.tup (cutL xs a b)) := rfl
theorem asInt_int (i : Int) : asInt (.int i) = some (some i) := rfl
theorem asSeq_lst (xs : List D) : asSeq (.lst xs) = some xs := rfl
theorem asSeq_tup (xs : List D) : asSeq (.tup xs) = some xs := rfl
theorem rngF_1 (a : D) : rngF [a] = rng1 [a] := rfl
theorem rngF_2 (a b : D) : rngF [a, b] = rng2 [a, b] := rfl
theorem lenF_lst (xs : List D) : lenF [.lst xs] = some (.int xs.length) := rfl
theorem lenF_tup (xs : List D) : lenF [.tup xs] = some (.int xs.length) := rfl
theorem lenF_scr (xs : List D) : lenF [.scr xs] = some (.int xs.length) := rfl
theorem cutL_to {α : Type} (xs : List α) (n : Nat) : cutL xs none (some (n : Int)) = xs.take n := by
  unfold cutL
  rw [HT.sIx_nat]
  show (xs.drop 0).take (min n xs.length - 0) = _
  rw [List.drop_zero, Nat.sub_zero, List.take_eq_take_iff]
  omega
theorem cutL_in {α : Type} (xs : List α) (m n : Nat) : cutL xs (some (m : Int)) (some (n : Int)) = (xs.drop m).take (n - m) := by
  unfold cutL
  rw [HT.sIx_nat, HT.sIx_nat]
  by_cases h : m ≤ xs.length
  · rw [Nat.min_eq_left h, List.take_eq_take_iff, List.length_drop]
    omega
  · rw [List.drop_eq_nil_of_le (by omega), List.drop_eq_nil_of_le (by omega), List.take_nil, List.take_nil]
theorem cutL_from {α : Type} (xs : List α) (m : Nat) : cutL xs (some (m : Int)) none = xs.drop m := by
  unfold cutL
  rw [HT.sIx_nat]
  show (xs.drop (min m xs.length)).take (xs.length - min m xs.length) = _
  by_cases h : m ≤ xs.length
  · rw [Nat.min_eq_left h, List.take_of_length_le (by rw [List.length_drop]; omega)]
  · rw [List.drop_eq_nil_of_le (by omega), List.drop_eq_nil_of_le (by omega), List.take_nil]
def fCell : IFn := ⟨2, 2, [.ite (.cmp .lt (.var 1) (.fn .len [.var 0])) [.ret (.ix (.var 0) (.var 1))] [], .ret (.cst (.int 0))]⟩
theorem r_cell {T : List IFn} {γ : Nat → Option D} {n j : Nat} (h : T[j]? = some fCell) (ns : List Int) (k : Nat) : run T γ (n + 1) j [.scr (ns.map D.int), .int k] = some (.int (ns.getD k 0)) := by
  refine run_at (ρ := [some (.scr (ns.map D.int)), some (.int k)]) (out := .rt _) h rfl rfl ?_ rfl
  by_cases hk : k < ns.length
  · refine x_then (o1 := .rt (.int (ns.getD k 0))) ?_ (x_ret ?_) rfl
    · simp only [denE, denEs, denO, denC, denI, BO.f, CO.f, FN.f, rngF_1, rngF_2, setsE, bindT, wipeE, List.getElem?_cons_zero, List.getElem?_cons_succ, List.set_cons_zero, List.set_cons_succ, Option.join_some, Option.bind_some, Option.map_some, addD_int, subD_int, cmpD_int, eqM_int, neM_int, intF_int, asBl_bl, asInt_int, asSeq_lst, asSeq_tup, tupF_lst, ixM_lst, ixM_tup, ixM_scr, slM_lst, slM_tup, lenF_lst, lenF_tup, lenF_scr, List.length_map]
      simp; omega
    · simp only [denE, denEs, denO, denC, denI, BO.f, CO.f, FN.f, rngF_1, rngF_2, setsE, bindT, wipeE, List.getElem?_cons_zero, List.getElem?_cons_succ, List.set_cons_zero, List.set_cons_succ, Option.join_some, Option.bind_some, Option.map_some, addD_int, subD_int, cmpD_int, eqM_int, neM_int, intF_int, asBl_bl, asInt_int, asSeq_lst, asSeq_tup, tupF_lst, ixM_lst, ixM_tup, ixM_scr, slM_lst, slM_tup, lenF_lst, lenF_tup, lenF_scr, atI_nat]
      rw [List.getElem?_map, List.getElem?_eq_getElem hk, List.getD_eq_getElem?_getD, List.getElem?_eq_getElem hk]; rfl
  · refine x_skip ?_ (x_ret ?_)
    · simp only [denE, denEs, denO, denC, denI, BO.f, CO.f, FN.f, rngF_1, rngF_2, setsE, bindT, wipeE, List.getElem?_cons_zero, List.getElem?_cons_succ, List.set_cons_zero, List.set_cons_succ, Option.join_some, Option.bind_some, Option.map_some, addD_int, subD_int, cmpD_int, eqM_int, neM_int, intF_int, asBl_bl, asInt_int, asSeq_lst, asSeq_tup, tupF_lst, ixM_lst, ixM_tup, ixM_scr, slM_lst, slM_tup, lenF_lst, lenF_tup, lenF_scr, List.length_map]
      simp; omega
    · simp only [denE, denEs, denO, denC, denI, BO.f, CO.f, FN.f, rngF_1, rngF_2, setsE, bindT, wipeE, List.getElem?_cons_zero, List.getElem?_cons_succ, List.set_cons_zero, List.set_cons_succ, Option.join_some, Option.bind_some, Option.map_some, addD_int, subD_int, cmpD_int, eqM_int, neM_int, intF_int, asBl_bl, asInt_int, asSeq_lst, asSeq_tup, tupF_lst, ixM_lst, ixM_tup, ixM_scr, slM_lst, slM_tup, lenF_lst, lenF_tup, lenF_scr]
      rw [List.getD_eq_getElem?_getD, List.getElem?_eq_none (by omega)]; rfl
def lDraws : List IS := [.set 5 (.bin .mod (.fn .int [.bin .add (.bin .add (.bin .mul (.var 0) (.cst (.int 48271))) (.bin .mul (.var 4) (.cst (.int 69621)))) (.cst (.int 1))]) (.cst (.int 2147483647))), .ite (.and_ (.cmp .ge (.var 0) (.bin .pow (.cst (.int 10)) (.cst (.int 18)))) (.cmp .gt (.var 3) (.cst (.int 0)))) [.app 2 (.bin .mod (.var 3) (.cst (.int 1009))), .set 3 (.bin .fdiv (.var 3) (.cst (.int 1009)))] [.app 2 (.bin .fdiv (.bin .mod (.fn .int [.bin .add (.bin .mul (.var 5) (.var 5)) (.bin .mul (.var 5) (.cst (.int 40692)))]) (.cst (.int 2147483399))) (.cst (.int 7)))]]
def fDraws : IFn := ⟨2, 6, [.set 2 (.lst []), .set 3 (.fn .int [.var 0]), .for_ (.nm 4) (.rng [.var 1]) lDraws, .ret (.var 2)]⟩
theorem o_pow18 : intOp cPowB (fun i j => i ^ j.toNat) (.int 10) (.int 18) = some (.int 1000000000000000000) := by
  simp [intOp, cPowB]
theorem draws_step {M : Mn} (c k r a0 : Int) (ns : List Int) (b : Option D) (hl : ns.length ≤ 1000000) : ∃ (x r' : Int) (m : Int), exes M lDraws [some (.int c), some (.int k), some (.lst (ns.map D.int)), some (.int r), some (.int a0), b] = some (.nx [some (.int c), some (.int k), some (.lst ((ns ++ [x]).map D.int)), some (.int r'), some (.int a0), some (.int m)]) := by
  obtain ⟨m, hm⟩ : ∃ m, (c * 48271 + a0 * 69621 + 1) % 2147483647 = m := ⟨_, rfl⟩
  have hm0 : 0 ≤ m := by rw [← hm]; exact Int.emod_nonneg _ (by omega)
  have hm1 : m < 2147483647 := by rw [← hm]; exact Int.emod_lt_of_pos _ (by omega)
  have hlen : (ns.map D.int).length ≤ 1000000 := by rw [List.length_map]; exact hl
  have e1 : denE M (.bin .mod (.fn .int [.bin .add (.bin .add (.bin .mul (.var 0) (.cst (.int 48271))) (.bin .mul (.var 4) (.cst (.int 69621)))) (.cst (.int 1))]) (.cst (.int 2147483647))) [some (.int c), some (.int k), some (.lst (ns.map D.int)), some (.int r), some (.int a0), b] = some (.int m) := by
    simp only [denE, denEs, denO, denC, denI, BO.f, CO.f, FN.f, rngF_1, rngF_2, setsE, bindT, wipeE, List.getElem?_cons_zero, List.getElem?_cons_succ, List.set_cons_zero, List.set_cons_succ, Option.join_some, Option.bind_some, Option.map_some, addD_int, subD_int, cmpD_int, eqM_int, neM_int, intF_int, asBl_bl, asInt_int, asSeq_lst, asSeq_tup, tupF_lst, ixM_lst, ixM_tup, ixM_scr, slM_lst, slM_tup, lenF_lst, lenF_tup, lenF_scr, o_mod (show (0 : Int) < 2147483647 by omega), o_mulR (i := c) (show (-18446744073709551616 : Int) < 48271 by omega) (by omega), o_mulR (i := a0) (show (-18446744073709551616 : Int) < 69621 by omega) (by omega), hm]
  have hc : denE M (.and_ (.cmp .ge (.var 0) (.bin .pow (.cst (.int 10)) (.cst (.int 18)))) (.cmp .gt (.var 3) (.cst (.int 0)))) [some (.int c), some (.int k), some (.lst (ns.map D.int)), some (.int r), some (.int a0), some (.int m)] = some (.bl (decide (1000000000000000000 ≤ c) && decide (0 < r))) := by
    simp only [denE, denEs, denO, denC, denI, BO.f, CO.f, FN.f, rngF_1, rngF_2, setsE, bindT, wipeE, List.getElem?_cons_zero, List.getElem?_cons_succ, List.set_cons_zero, List.set_cons_succ, Option.join_some, Option.bind_some, Option.map_some, addD_int, subD_int, cmpD_int, eqM_int, neM_int, intF_int, asBl_bl, asInt_int, asSeq_lst, asSeq_tup, tupF_lst, ixM_lst, ixM_tup, ixM_scr, slM_lst, slM_tup, lenF_lst, lenF_tup, lenF_scr, o_pow18]
    cases decide ((1000000000000000000 : Int) ≤ c) <;> simp
  have e3 : denE M (.bin .fdiv (.bin .mod (.fn .int [.bin .add (.bin .mul (.var 5) (.var 5)) (.bin .mul (.var 5) (.cst (.int 40692)))]) (.cst (.int 2147483399))) (.cst (.int 7))) [some (.int c), some (.int k), some (.lst (ns.map D.int)), some (.int r), some (.int a0), some (.int m)] = some (.int ((m * m + m * 40692) % 2147483399 / 7)) := by
    simp only [denE, denEs, denO, denC, denI, BO.f, CO.f, FN.f, rngF_1, rngF_2, setsE, bindT, wipeE, List.getElem?_cons_zero, List.getElem?_cons_succ, List.set_cons_zero, List.set_cons_succ, Option.join_some, Option.bind_some, Option.map_some, addD_int, subD_int, cmpD_int, eqM_int, neM_int, intF_int, asBl_bl, asInt_int, asSeq_lst, asSeq_tup, tupF_lst, ixM_lst, ixM_tup, ixM_scr, slM_lst, slM_tup, lenF_lst, lenF_tup, lenF_scr, o_mod (show (0 : Int) < 2147483399 by omega), o_div (show (0 : Int) < 7 by omega) (by omega), o_mulR (i := m) (j := m) (by omega) (by omega), o_mulR (i := m) (show (-18446744073709551616 : Int) < 40692 by omega) (by omega)]
  have e4 : denE M (.bin .mod (.var 3) (.cst (.int 1009))) [some (.int c), some (.int k), some (.lst (ns.map D.int)), some (.int r), some (.int a0), some (.int m)] = some (.int (r % 1009)) := by
    simp only [denE, denEs, denO, denC, denI, BO.f, CO.f, FN.f, rngF_1, rngF_2, setsE, bindT, wipeE, List.getElem?_cons_zero, List.getElem?_cons_succ, List.set_cons_zero, List.set_cons_succ, Option.join_some, Option.bind_some, Option.map_some, addD_int, subD_int, cmpD_int, eqM_int, neM_int, intF_int, asBl_bl, asInt_int, asSeq_lst, asSeq_tup, tupF_lst, ixM_lst, ixM_tup, ixM_scr, slM_lst, slM_tup, lenF_lst, lenF_tup, lenF_scr, o_mod (show (0 : Int) < 1009 by omega)]
  have e5 : denE M (.bin .fdiv (.var 3) (.cst (.int 1009))) [some (.int c), some (.int k), some (.lst (ns.map D.int ++ [.int (r % 1009)])), some (.int r), some (.int a0), some (.int m)] = some (.int (r / 1009)) := by
    simp only [denE, denEs, denO, denC, denI, BO.f, CO.f, FN.f, rngF_1, rngF_2, setsE, bindT, wipeE, List.getElem?_cons_zero, List.getElem?_cons_succ, List.set_cons_zero, List.set_cons_succ, Option.join_some, Option.bind_some, Option.map_some, addD_int, subD_int, cmpD_int, eqM_int, neM_int, intF_int, asBl_bl, asInt_int, asSeq_lst, asSeq_tup, tupF_lst, ixM_lst, ixM_tup, ixM_scr, slM_lst, slM_tup, lenF_lst, lenF_tup, lenF_scr, o_div (show (0 : Int) < 1009 by omega) (by omega)]
  have hmap : ∀ x : Int, (ns ++ [x]).map D.int = ns.map D.int ++ [.int x] := fun x => by rw [List.map_append]; rfl
  cases hb : (decide ((1000000000000000000 : Int) ≤ c) && decide (0 < r)) with
  | true =>
    rw [hb] at hc
    refine ⟨r % 1009, r / 1009, m, ?_⟩
    rw [hmap]
    exact x_set e1 (x_then hc (x_app rfl e4 hlen (x_set e5 rfl)) rfl)
  | false =>
    rw [hb] at hc
    refine ⟨(m * m + m * 40692) % 2147483399 / 7, r, m, ?_⟩
    rw [hmap]
    exact x_set e1 (x_else hc (x_app rfl e3 hlen rfl) rfl)
theorem r_draws {T : List IFn} {γ : Nat → Option D} {n j : Nat} (h : T[j]? = some fDraws) (c : Int) (k : Nat) (hk : k ≤ 1000) : ∃ ns : List Int, ns.length = k ∧ run T γ (n + 1) j [.int c, .int k] = some (.lst (ns.map D.int)) := by
  obtain ⟨ρ', e, ns, r, a, b, hn, rfl⟩ := forM_all (T := .nm 4) (b := exes ⟨run T γ n, γ⟩ lDraws) (φ := fun i : Nat => D.int i) (List.range k) (fun i ρ => ∃ (ns : List Int) (r : Int) (a b : Option D), ns.length = i ∧ ρ = [some (.int c), some (.int k), some (.lst (ns.map D.int)), some (.int r), a, b]) (ρ := [some (.int c), some (.int k), some (.lst []), some (.int c), none, none]) ⟨[], c, none, none, rfl, rfl⟩ fun i a0 ρ hi hI => by
    obtain ⟨ns, r, a, b, hn, rfl⟩ := hI
    have hik : i < k := by
      have := (List.getElem?_eq_some_iff.mp hi).1
      simpa using this
    obtain ⟨x, r', m, e⟩ := draws_step (M := ⟨run T γ n, γ⟩) c k r (a0 : Int) ns b (by omega)
    exact ⟨_, _, rfl, .inl e, ns ++ [x], r', _, _, by rw [List.length_append, hn]; rfl, rfl⟩
  refine ⟨ns, by rw [hn, List.length_range], run_at (ρ := [some (.int c), some (.int k), none, none, none, none]) (out := .rt _) h rfl rfl ?_ rfl⟩
  have e2 : denI ⟨run T γ n, γ⟩ (.rng [.var 1]) [some (.int c), some (.int k), some (.lst []), some (.int c), none, none] = some ((List.range k).map fun i : Nat => D.int i) := by
    simp only [denE, denEs, denO, denC, denI, BO.f, CO.f, FN.f, rngF_1, rngF_2, setsE, bindT, wipeE, List.getElem?_cons_zero, List.getElem?_cons_succ, List.set_cons_zero, List.set_cons_succ, Option.join_some, Option.bind_some, Option.map_some, addD_int, subD_int, cmpD_int, eqM_int, neM_int, intF_int, asBl_bl, asInt_int, asSeq_lst, asSeq_tup, tupF_lst, ixM_lst, ixM_tup, ixM_scr, slM_lst, slM_tup, lenF_lst, lenF_tup, lenF_scr, o_rng1 (i := (k : Int)) (by omega) (by omega)]
    rw [Int.toNat_natCast]
  exact x_set (d := .lst []) rfl (x_set (d := .int c) rfl (x_for e2 e (x_ret rfl)))
end PV

set_option Elab.async false
set_option linter.all false
set_option maxRecDepth 100000
set_option autoImplicit false
set_option maxHeartbeats 0
namespace K03
open PySem PySem.Spec PyProof.Rows L2 PV
def top (i : Nat) : Stmt := PySem.Challenge.pw_weekendsoff_k03_whole_rings_of_weekends.main.body.getD i (.Pass ⟨0, 0, 0, 0⟩)
/-- divisor: 0 one, 1 other -/
def l_divisor_0 : List IS := [.mul [0, 1] [.var 1, .bin .mod (.var 0) (.var 1)]]
def b_divisor : List IS := [
  .whl (.cmp .gt (.var 1) (.cst (.int 0))) l_divisor_0,
  .ret (.var 0)]
def f_divisor : IFn := ⟨2, 2, b_divisor⟩
def d_divisor : DfI := ⟨"divisor", "divisor", defArgs (top 1), defBody (top 1), defScope (top 1), ["one", "other"], ["one", "other"], .no, f_divisor⟩
/-- ring_start: 0 hands, 1 end, 2 weekend -/
def b_ring_start : List IS := [
  .ret (.bin .mod (.bin .mul (.var 2) (.bin .sub (.var 0) (.var 1))) (.var 0))]
def f_ring_start : IFn := ⟨3, 3, b_ring_start⟩
def d_ring_start : DfI := ⟨"ring_start", "ring_start", defArgs (top 4), defBody (top 4), defScope (top 4), ["hands", "end", "weekend"], ["hands", "end", "weekend"], .no, f_ring_start⟩
/-- ring_places: 0 hands, 1 end, 2 weekend, 3 start, 4 step -/
def c_ring_places_0 : IE := .comp (.bin .mod (.bin .add (.var 3) (.var 4)) (.var 0)) (.nm 4) (.rng [.bin .sub (.var 0) (.var 1)]) none [4]
def b_ring_places : List IS := [
  .set 3 (.call 1 [.var 0, .var 1, .var 2]),
  .ret (c_ring_places_0)]
def f_ring_places : IFn := ⟨3, 5, b_ring_places⟩
def d_ring_places : DfI := ⟨"ring_places", "ring_places", defArgs (top 5), defBody (top 5), defScope (top 5), ["hands", "end", "weekend"], ["hands", "end", "weekend", "start", "step"], .no, f_ring_places⟩
/-- ring_off: 0 hands, 1 end, 2 many, 3 weekend -/
def c_ring_off_0 : IE := .comp (.fn .tuple [.fn .sorted [.call 2 [.var 0, .var 1, .var 3]]]) (.nm 3) (.rng [.var 2]) none [3]
def b_ring_off : List IS := [
  .ret (.fn .tuple [c_ring_off_0])]
def f_ring_off : IFn := ⟨3, 4, b_ring_off⟩
def d_ring_off : DfI := ⟨"ring_off", "ring_off", defArgs (top 6), defBody (top 6), defScope (top 6), ["hands", "end", "many"], ["hands", "end", "many", "weekend"], .no, f_ring_off⟩
/-- ring_weeks: 0 hands, 1 end -/
def b_ring_weeks : List IS := [
  .ret (.bin .fdiv (.var 0) (.call 0 [.var 0, .bin .sub (.var 0) (.var 1)]))]
def f_ring_weeks : IFn := ⟨2, 2, b_ring_weeks⟩
def d_ring_weeks : DfI := ⟨"ring_weeks", "ring_weeks", defArgs (top 7), defBody (top 7), defScope (top 7), ["hands", "end"], ["hands", "end"], .no, f_ring_weeks⟩
/-- ring_free: 0 hands, 1 end, 2 many, 3 weeks, 4 rows, 5 found, 6 hand, 7 first, 8 step -/
def c_ring_free_0 : IE := .comp (.cst (.int 1)) (.nm 8) (.rng [.var 2]) (some (.cmp .isin (.var 6) (.ix (.var 4) (.bin .mod (.bin .add (.var 7) (.var 8)) (.var 3))))) [8]
def l_ring_free_0 : List IS := [.app 5 (.fn .sum [c_ring_free_0])]
def l_ring_free_1 : List IS := [.for_ (.nm 7) (.rng [.var 3]) l_ring_free_0]
def b_ring_free : List IS := [
  .set 3 (.call 4 [.var 0, .var 1]),
  .set 4 (.call 3 [.var 0, .var 1, .var 3]),
  .set 5 (.lst []),
  .for_ (.nm 6) (.rng [.var 0]) l_ring_free_1,
  .ret (.fn .min [.var 5])]
def f_ring_free : IFn := ⟨3, 9, b_ring_free⟩
def d_ring_free : DfI := ⟨"ring_free", "ring_free", defArgs (top 8), defBody (top 8), defScope (top 8), ["hands", "end", "many"], ["hands", "end", "many", "weeks", "rows", "found", "hand", "first", "step"], .no, f_ring_free⟩
/-- can_be_free: 0 hands, 1 end, 2 many -/
def c_can_be_free_0 : IE := .comp (.bin .fdiv (.bin .mul (.var 2) (.bin .sub (.var 0) (.var 1))) (.var 0)) (.nm 2) (.rng [.cst (.int 1), .bin .add (.glob 0) (.cst (.int 1))]) none [2]
def b_can_be_free : List IS := [
  .ret (.fn .tuple [c_can_be_free_0])]
def f_can_be_free : IFn := ⟨2, 3, b_can_be_free⟩
def d_can_be_free : DfI := ⟨"can_be_free", "can_be_free", defArgs (top 9), defBody (top 9), defScope (top 9), ["hands", "end"], ["hands", "end", "many"], .no, f_can_be_free⟩
/-- _law_cell: 0 script, 1 k -/
def b__law_cell : List IS := [
  .ite (.cmp .lt (.var 1) (.fn .len [.var 0])) [.ret (.ix (.var 0) (.var 1))] [],
  .ret (.cst (.int 0))]
def f__law_cell : IFn := ⟨2, 2, b__law_cell⟩
def d__law_cell : DfI := ⟨"_law_cell", "_law_cell", defArgs (top 11), defBody (top 11), defScope (top 11), ["script", "k"], ["script", "k"], .no, f__law_cell⟩
/-- _law_draws: 0 cell, 1 count, 2 result, 3 rest, 4 k, 5 mixed -/
def l__law_draws_0 : List IS := [.set 5 (.bin .mod (.fn .int [.bin .add (.bin .add (.bin .mul (.var 0) (.cst (.int 48271))) (.bin .mul (.var 4) (.cst (.int 69621)))) (.cst (.int 1))]) (.cst (.int 2147483647))), .ite (.and_ (.cmp .ge (.var 0) (.bin .pow (.cst (.int 10)) (.cst (.int 18)))) (.cmp .gt (.var 3) (.cst (.int 0)))) [.app 2 (.bin .mod (.var 3) (.cst (.int 1009))), .set 3 (.bin .fdiv (.var 3) (.cst (.int 1009)))] [.app 2 (.bin .fdiv (.bin .mod (.fn .int [.bin .add (.bin .mul (.var 5) (.var 5)) (.bin .mul (.var 5) (.cst (.int 40692)))]) (.cst (.int 2147483399))) (.cst (.int 7)))]]
def b__law_draws : List IS := [
  .set 2 (.lst []),
  .set 3 (.fn .int [.var 0]),
  .for_ (.nm 4) (.rng [.var 1]) l__law_draws_0,
  .ret (.var 2)]
def f__law_draws : IFn := ⟨2, 6, b__law_draws⟩
def d__law_draws : DfI := ⟨"_law_draws", "_law_draws", defArgs (top 12), defBody (top 12), defScope (top 12), ["cell", "count"], ["cell", "count", "result", "rest", "k", "mixed"], .no, f__law_draws⟩
/-- law: 0 script, 1 n, 2 hands, 3 many, 4 end, 5 rows, 6 first, 7 weekend, 8 weeks, 9 counts, 10 hand, 11 off, 12 week, 13 row, 14 step -/
def c_law_0 : IE := .comp (.bin .mod (.fn .int [.bin .add (.var 6) (.var 14)]) (.var 2)) (.nm 14) (.rng [.bin .sub (.var 2) (.var 4)]) none [14]
def l_law_0 : List IS := [.app 5 (.fn .tuple [.fn .sorted [c_law_0]]), .set 6 (.bin .sub (.bin .add (.var 6) (.var 2)) (.var 4))]
def c_law_1 : IE := .comp (.var 12) (.nm 12) (.rng [.cst (.int 1), .cst (.int 61)]) (some (.cmp .eq (.bin .mod (.fn .int [.bin .mul (.var 12) (.bin .sub (.var 2) (.var 4))]) (.var 2)) (.cst (.int 0)))) [12]
def c_law_2 : IE := .comp (.ifx (.cmp .isin (.var 10) (.var 13)) (.cst (.int 1)) (.cst (.int 0))) (.nm 13) (.seq (.sl (.var 5) none (some (.var 8)))) none [13]
def c_law_3 : IE := .comp (.fn .sum [.sl (.var 11) (some (.var 12)) (some (.bin .add (.var 12) (.var 3)))]) (.nm 12) (.rng [.var 8]) none [12]
def l_law_1 : List IS := [.set 11 (.bin .mul (c_law_2) (.cst (.int 13))), .set 9 (.bin .add (.var 9) (c_law_3))]
def c_law_4 : IE := .comp (.bin .fdiv (.bin .mul (.var 14) (.bin .sub (.var 2) (.var 4))) (.var 2)) (.nm 14) (.rng [.cst (.int 1), .cst (.int 7)]) none [14]
def b_law : List IS := [
  .set 1 (.call 8 [.call 7 [.var 0, .cst (.int 0)], .cst (.int 40)]),
  .mul [2, 3] [.bin .add (.bin .mod (.fn .int [.ix (.var 1) (.cst (.int 0))]) (.cst (.int 30))) (.cst (.int 1)), .bin .add (.bin .mod (.fn .int [.ix (.var 1) (.cst (.int 1))]) (.cst (.int 12))) (.cst (.int 1))],
  .set 4 (.bin .mod (.fn .int [.ix (.var 1) (.cst (.int 2))]) (.bin .add (.fn .min [.var 2, .cst (.int 12)]) (.cst (.int 1)))),
  .mul [5, 6] [.lst [], .cst (.int 0)],
  .for_ (.nm 7) (.rng [.cst (.int 60)]) l_law_0,
  .ite (.or_ (.cmp .ne (.call 3 [.var 2, .var 4, .cst (.int 60)]) (.fn .tuple [.var 5])) (.cmp .ne (.call 3 [.var 2, .var 4, .var 3]) (.fn .tuple [.sl (.var 5) none (some (.var 3))]))) [.ret (.cst (.bl false))] [],
  .set 8 (.ix (c_law_1) (.cst (.int 0))),
  .ite (.cmp .ne (.call 4 [.var 2, .var 4]) (.var 8)) [.ret (.cst (.bl false))] [],
  .set 9 (.lst []),
  .for_ (.nm 10) (.rng [.var 2]) l_law_1,
  .ite (.or_ (.cmp .ne (.call 5 [.var 2, .var 4, .var 3]) (.fn .min [.var 9])) (.cmp .ne (.fn .min [.var 9]) (.bin .fdiv (.bin .mul (.var 3) (.bin .sub (.var 2) (.var 4))) (.var 2)))) [.ret (.cst (.bl false))] [],
  .ret (.cmp .eq (.call 6 [.var 2, .var 4]) (.fn .tuple [c_law_4]))]
def f_law : IFn := ⟨1, 15, b_law⟩
def d_law : DfI := ⟨"law", "law", defArgs (top 13), defBody (top 13), defScope (top 13), ["script"], ["script", "n", "hands", "many", "end", "rows", "first", "weekend", "weeks", "counts", "hand", "off", "week", "row", "step"], .no, f_law⟩
def T : List DfI := [d_divisor, d_ring_start, d_ring_places, d_ring_off, d_ring_weeks, d_ring_free, d_can_be_free, d__law_cell, d__law_draws, d_law]
def tx : Txt := ⟨T, ["range", "tuple", "sorted", "sum", "min", "len", "int"], [("MOST_OF", .int 6)]⟩
theorem tx_good : (tx.T.all fun d => d.good tx.fr tx.G (sigs tx.T)) = true := by decide +kernel
theorem tx_binds : EachP BindsP tx.T := ⟨(fun _ _ _ _ _ _ us hl => match us, hl with | [_, _], _ => rfl), (fun _ _ _ _ _ _ us hl => match us, hl with | [_, _, _], _ => rfl), (fun _ _ _ _ _ _ us hl => match us, hl with | [_, _, _], _ => rfl), (fun _ _ _ _ _ _ us hl => match us, hl with | [_, _, _], _ => rfl), (fun _ _ _ _ _ _ us hl => match us, hl with | [_, _], _ => rfl), (fun _ _ _ _ _ _ us hl => match us, hl with | [_, _, _], _ => rfl), (fun _ _ _ _ _ _ us hl => match us, hl with | [_, _], _ => rfl), (fun _ _ _ _ _ _ us hl => match us, hl with | [_, _], _ => rfl), (fun _ _ _ _ _ _ us hl => match us, hl with | [_, _], _ => rfl), (fun _ _ _ _ _ _ us hl => match us, hl with | [_], _ => rfl), trivial⟩
-- law: index 9, place 13
def loose : List Str := (["divisor", "ring_start", "ring_places", "ring_off", "ring_weeks", "ring_free", "can_be_free", "_law_cell", "_law_draws", "MOST_OF"] : List Str)

abbrev R : PySem.W.OpenRow := PySem.W.OpenLaw.row PySem.Challenge.rw_weekendsoff_k03_whole_rings_of_weekends
theorem hrun (w : World) : HandSHeadRun.RunEq R (PySem.W.view R.prog [13]) (tx.hook 5) (tx.ob 5) 4000 loose w := by
  intro os
  kernel_rfl
end K03

set_option Elab.async false
set_option linter.all false
set_option maxRecDepth 100000
set_option autoImplicit false
set_option maxHeartbeats 4000000
namespace K03
open PySem PySem.Spec PyProof.Rows L2 PV

abbrev TT : List IFn := irs tx.T
theorem gcd_step (a b : Nat) : Nat.gcd b (a % b) = Nat.gcd a b := by
  rw [Nat.gcd_comm a b, Nat.gcd_rec b a, Nat.gcd_comm]
theorem div_loop {M : Mn} : ∀ (N b a : Nat), b < N → whileM (fun ρ => (denE M (.cmp .gt (.var 1) (.cst (.int 0))) ρ).bind asBl) (exes M l_divisor_0) N [some (.int a), some (.int b)] = some (.nx [some (.int (Nat.gcd a b : Nat)), some (.int 0)])
  | 0, b, a, h => by omega
  | N + 1, b, a, h => by
    unfold whileM
    have ec : ((denE M (.cmp .gt (.var 1) (.cst (.int 0))) [some (.int a), some (.int b)]).bind asBl) = some (decide ((0 : Int) < b)) := by
      simp only [denE, denEs, denO, denC, denI, BO.f, CO.f, FN.f, rngF_1, rngF_2, setsE, bindT, wipeE, List.getElem?_cons_zero, List.getElem?_cons_succ, List.set_cons_zero, List.set_cons_succ, Option.join_some, Option.bind_some, Option.map_some, addD_int, subD_int, cmpD_int, eqM_int, neM_int, intF_int, asBl_bl, asInt_int, asSeq_lst, asSeq_tup, tupF_lst, ixM_lst, ixM_tup, ixM_scr, slM_lst, slM_tup, lenF_lst, lenF_tup, lenF_scr]
    rw [ec]
    show (if decide ((0 : Int) < b) = true then _ else _) = _
    by_cases hb : (0 : Int) < b
    · rw [if_pos (decide_eq_true hb)]
      have eb : exes M l_divisor_0 [some (.int a), some (.int b)] = some (.nx [some (.int b), some (.int ((a % b : Nat) : Int))]) := by
        refine x_mul (ds := [.int b, .int ((a % b : Nat) : Int)]) ?_ rfl
        simp only [denE, denEs, denO, denC, denI, BO.f, CO.f, FN.f, rngF_1, rngF_2, setsE, bindT, wipeE, List.getElem?_cons_zero, List.getElem?_cons_succ, List.set_cons_zero, List.set_cons_succ, Option.join_some, Option.bind_some, Option.map_some, addD_int, subD_int, cmpD_int, eqM_int, neM_int, intF_int, asBl_bl, asInt_int, asSeq_lst, asSeq_tup, tupF_lst, ixM_lst, ixM_tup, ixM_scr, slM_lst, slM_tup, lenF_lst, lenF_tup, lenF_scr, o_mod hb]
        rw [Int.natCast_emod]
      rw [eb]
      have hb' : 0 < b := by omega
      have ih := div_loop (M := M) N (a % b) b (by have := Nat.mod_lt a hb'; omega)
      rw [gcd_step] at ih
      exact ih
    · rw [if_neg (by simpa using hb)]
      have : b = 0 := by omega
      subst this
      rw [Nat.gcd_zero_right]; rfl
theorem r_divisor {γ : Nat → Option D} {n : Nat} (a b : Nat) (h : b < 10000) : run TT γ (n + 1) 0 [.int a, .int b] = some (.int (Nat.gcd a b : Nat)) := by
  refine run_at (ρ := [some (.int a), some (.int b)]) (out := .rt _) (f := f_divisor) rfl rfl rfl ?_ rfl
  exact x_whl (div_loop WF b a (by unfold WF; omega)) (x_ret rfl)
section
variable {γ : Nat → Option D} {n : Nat} {h e k w : Int}
theorem r_start (hk : h - e = k) (h0 : 0 < h) (hk1 : k ≤ 1000) (hk0 : 0 ≤ k) : run TT γ (n + 1) 1 [.int h, .int e, .int w] = some (.int (w * k % h)) := by
  refine run_at (ρ := [some (.int h), some (.int e), some (.int w)]) (out := .rt _) (f := f_ring_start) rfl rfl rfl (x_ret ?_) rfl
  simp only [denE, denEs, denO, denC, denI, BO.f, CO.f, FN.f, rngF_1, rngF_2, setsE, bindT, wipeE, List.getElem?_cons_zero, List.getElem?_cons_succ, List.set_cons_zero, List.set_cons_succ, Option.join_some, Option.bind_some, Option.map_some, addD_int, subD_int, cmpD_int, eqM_int, neM_int, intF_int, asBl_bl, asInt_int, asSeq_lst, asSeq_tup, tupF_lst, ixM_lst, ixM_tup, ixM_scr, slM_lst, slM_tup, lenF_lst, lenF_tup, lenF_scr, hk, o_mulR (i := w) (j := k) (by omega) (by omega), o_mod h0]
/-- the hands off at weekend w -/
def row (h k w : Int) : List Int := sortI ((List.range k.toNat).map fun t : Nat => (w * k + t) % h)
theorem r_places1 {M : Mn} {z : Int} {x : Option D} (h0 : 0 < h) : denE M (.bin .mod (.bin .add (.var 3) (.var 4)) (.var 0)) [some (.int h), some (.int e), x, some (.int (w * k % h)), some (.int z)] = some (.int ((w * k + z) % h)) := by
  simp only [denE, denEs, denO, denC, denI, BO.f, CO.f, FN.f, rngF_1, rngF_2, setsE, bindT, wipeE, List.getElem?_cons_zero, List.getElem?_cons_succ, List.set_cons_zero, List.set_cons_succ, Option.join_some, Option.bind_some, Option.map_some, addD_int, subD_int, cmpD_int, eqM_int, neM_int, intF_int, asBl_bl, asInt_int, asSeq_lst, asSeq_tup, tupF_lst, ixM_lst, ixM_tup, ixM_scr, slM_lst, slM_tup, lenF_lst, lenF_tup, lenF_scr, o_mod h0, Int.emod_add_emod]
theorem r_places (hk : h - e = k) (h0 : 0 < h) (hk1 : k ≤ 1000) (hk0 : 0 ≤ k) : run TT γ (n + 2) 2 [.int h, .int e, .int w] = some (.lst (((List.range k.toNat).map fun t : Nat => (w * k + t) % h).map D.int)) := by
  refine run_at (ρ := [some (.int h), some (.int e), some (.int w), none, none]) (out := .rt _) (f := f_ring_places) rfl rfl rfl ?_ rfl
  refine x_set (d := .int (w * k % h)) ?_ (x_ret ?_)
  · simp only [denE, denEs, denO, denC, denI, BO.f, CO.f, FN.f, rngF_1, rngF_2, setsE, bindT, wipeE, List.getElem?_cons_zero, List.getElem?_cons_succ, List.set_cons_zero, List.set_cons_succ, Option.join_some, Option.bind_some, Option.map_some, addD_int, subD_int, cmpD_int, eqM_int, neM_int, intF_int, asBl_bl, asInt_int, asSeq_lst, asSeq_tup, tupF_lst, ixM_lst, ixM_tup, ixM_scr, slM_lst, slM_tup, lenF_lst, lenF_tup, lenF_scr, r_start (γ := γ) (n := n) (w := w) hk h0 hk1 hk0]
  · rw [List.map_map]
    refine den_compA (φ := fun t : Nat => D.int t) (List.range k.toNat) _ ?_ fun t _ => ⟨_, rfl, r_places1 h0⟩
    simp only [denE, denEs, denO, denC, denI, BO.f, CO.f, FN.f, rngF_1, rngF_2, setsE, bindT, wipeE, List.getElem?_cons_zero, List.getElem?_cons_succ, List.set_cons_zero, List.set_cons_succ, Option.join_some, Option.bind_some, Option.map_some, addD_int, subD_int, cmpD_int, eqM_int, neM_int, intF_int, asBl_bl, asInt_int, asSeq_lst, asSeq_tup, tupF_lst, ixM_lst, ixM_tup, ixM_scr, slM_lst, slM_tup, lenF_lst, lenF_tup, lenF_scr, hk, o_rng1 (i := k) (by omega) (by omega)]
theorem r_off1 {m z : Int} (hk : h - e = k) (h0 : 0 < h) (hk1 : k ≤ 1000) (hk0 : 0 ≤ k) : denE ⟨run TT γ (n + 2), γ⟩ (.fn .tuple [.fn .sorted [.call 2 [.var 0, .var 1, .var 3]]]) [some (.int h), some (.int e), some (.int m), some (.int z)] = some (.tup ((row h k z).map D.int)) := by
  simp only [denE, denEs, denO, denC, denI, BO.f, CO.f, FN.f, rngF_1, rngF_2, setsE, bindT, wipeE, List.getElem?_cons_zero, List.getElem?_cons_succ, List.set_cons_zero, List.set_cons_succ, Option.join_some, Option.bind_some, Option.map_some, addD_int, subD_int, cmpD_int, eqM_int, neM_int, intF_int, asBl_bl, asInt_int, asSeq_lst, asSeq_tup, tupF_lst, ixM_lst, ixM_tup, ixM_scr, slM_lst, slM_tup, lenF_lst, lenF_tup, lenF_scr, r_places (γ := γ) (n := n) (w := z) hk h0 hk1 hk0, sortF_ints]
  rfl
theorem r_off {m : Int} (hk : h - e = k) (h0 : 0 < h) (hk1 : k ≤ 1000) (hk0 : 0 ≤ k) (hm : m ≤ 1000) (hm0 : 0 ≤ m) : run TT γ (n + 3) 3 [.int h, .int e, .int m] = some (.tup ((List.range m.toNat).map fun w : Nat => .tup ((row h k w).map D.int))) := by
  have ec : denE ⟨run TT γ (n + 2), γ⟩ c_ring_off_0 [some (.int h), some (.int e), some (.int m), none] = some (.lst ((List.range m.toNat).map fun w : Nat => .tup ((row h k w).map D.int))) := by
    refine den_compA (φ := fun t : Nat => D.int t) (List.range m.toNat) _ ?_ fun w _ => ⟨_, rfl, r_off1 hk h0 hk1 hk0⟩
    simp only [denE, denEs, denO, denC, denI, BO.f, CO.f, FN.f, rngF_1, rngF_2, setsE, bindT, wipeE, List.getElem?_cons_zero, List.getElem?_cons_succ, List.set_cons_zero, List.set_cons_succ, Option.join_some, Option.bind_some, Option.map_some, addD_int, subD_int, cmpD_int, eqM_int, neM_int, intF_int, asBl_bl, asInt_int, asSeq_lst, asSeq_tup, tupF_lst, ixM_lst, ixM_tup, ixM_scr, slM_lst, slM_tup, lenF_lst, lenF_tup, lenF_scr, o_rng1 (i := m) (by omega) (by omega)]
  refine run_at (ρ := [some (.int h), some (.int e), some (.int m), none]) (out := .rt _) (f := f_ring_off) rfl rfl rfl (x_ret ?_) rfl
  simp only [denE, denEs, denO, denC, denI, BO.f, CO.f, FN.f, rngF_1, rngF_2, setsE, bindT, wipeE, List.getElem?_cons_zero, List.getElem?_cons_succ, List.set_cons_zero, List.set_cons_succ, Option.join_some, Option.bind_some, Option.map_some, addD_int, subD_int, cmpD_int, eqM_int, neM_int, intF_int, asBl_bl, asInt_int, asSeq_lst, asSeq_tup, tupF_lst, ixM_lst, ixM_tup, ixM_scr, slM_lst, slM_tup, lenF_lst, lenF_tup, lenF_scr, ec]
theorem r_weeks (hk : h - e = k) (h0 : 0 < h) (hh : h < 1000) (hk1 : k ≤ 1000) (hk0 : 0 ≤ k) : run TT γ (n + 2) 4 [.int h, .int e] = some (.int ((h.toNat / Nat.gcd h.toNat k.toNat : Nat) : Int)) := by
  refine run_at (ρ := [some (.int h), some (.int e)]) (out := .rt _) (f := f_ring_weeks) rfl rfl rfl (x_ret ?_) rfl
  have e1 : (h.toNat : Int) = h := Int.toNat_of_nonneg (by omega)
  have e2 : (k.toNat : Int) = k := Int.toNat_of_nonneg hk0
  have ec := r_divisor (γ := γ) (n := n) h.toNat k.toNat (by omega)
  rw [e1, e2] at ec
  have g0 : 0 < Nat.gcd h.toNat k.toNat := Nat.gcd_pos_of_pos_left _ (by omega)
  have g1 : Nat.gcd h.toNat k.toNat ≤ h.toNat := Nat.gcd_le_left _ (by omega : 0 < h.toNat)
  simp only [denE, denEs, denO, denC, denI, BO.f, CO.f, FN.f, rngF_1, rngF_2, setsE, bindT, wipeE, List.getElem?_cons_zero, List.getElem?_cons_succ, List.set_cons_zero, List.set_cons_succ, Option.join_some, Option.bind_some, Option.map_some, addD_int, subD_int, cmpD_int, eqM_int, neM_int, intF_int, asBl_bl, asInt_int, asSeq_lst, asSeq_tup, tupF_lst, ixM_lst, ixM_tup, ixM_scr, slM_lst, slM_tup, lenF_lst, lenF_tup, lenF_scr, hk, ec, o_div (i := h) (j := ((Nat.gcd h.toNat k.toNat : Nat) : Int)) (by omega) (by omega)]
  rw [Int.natCast_ediv, e1]
/-- how many of m weekends from f on hand a is free -/
def cnt (h k : Int) (wk : Nat) (m : Nat) (a : Int) (f : Nat) : Int := (((List.range m).filter fun s => decide (a ∈ row h k (((f + s) % wk : Nat) : Int))).map fun _ => (1 : Int)).sum
def fnd (h k : Int) (wk m : Nat) : List Int := (List.range h.toNat).flatMap fun a : Nat => (List.range wk).map fun f => cnt h k wk m (a : Int) f
/-! ### ring_free -/
theorem sum_ones {α : Type} (l : List α) : ((l.map fun _ => (1 : Int)).map D.int) = l.map fun _ => D.int 1 := by rw [List.map_map]; rfl
theorem c_free_1 {M : Mn} {rows : List D} {m a f z wk : Int} {r : List Int} {x0 x1 x5 : Option D} (hw : 0 < wk) (hr : atI rows ((f + z) % wk) = some (.tup (r.map D.int))) :
    denE M (.cmp .isin (.var 6) (.ix (.var 4) (.bin .mod (.bin .add (.var 7) (.var 8)) (.var 3)))) [x0, x1, some (.int m), some (.int wk), some (.tup rows), x5, some (.int a), some (.int f), some (.int z)] = some (.bl (decide (a ∈ r))) := by
  simp only [denE, denEs, denO, denC, denI, BO.f, CO.f, FN.f, rngF_1, rngF_2, setsE, bindT, wipeE, List.getElem?_cons_zero, List.getElem?_cons_succ, List.set_cons_zero, List.set_cons_succ, Option.join_some, Option.bind_some, Option.map_some, addD_int, subD_int, cmpD_int, eqM_int, neM_int, intF_int, asBl_bl, asInt_int, asSeq_lst, asSeq_tup, tupF_lst, ixM_lst, ixM_tup, ixM_scr, slM_lst, slM_tup, lenF_lst, lenF_tup, lenF_scr, o_mod hw, hr, inM_tup]
theorem rows_at {h k : Int} {wk : Nat} {f s : Nat} (hw : 0 < wk) : atI ((List.range wk).map fun w : Nat => D.tup ((row h k w).map D.int)) (((f : Int) + (s : Int)) % (wk : Int)) = some (.tup ((row h k (((f + s) % wk : Nat) : Int)).map D.int)) := by
  have e : ((f : Int) + (s : Int)) % (wk : Int) = (((f + s) % wk : Nat) : Int) := by rw [Int.natCast_emod, Int.natCast_add]
  rw [e, PV.atI_nat, List.getElem?_map, List.getElem?_range (Nat.mod_lt _ hw)]; rfl
theorem c_free {M : Mn} {h k m : Int} {a f : Int} {wk fn : Nat} {x0 x1 x5 x8 : Option D} (hf : (fn : Int) = f) (hw : 0 < wk) (hm : m ≤ 1000) (hm0 : 0 ≤ m) :
    denE M c_ring_free_0 [x0, x1, some (.int m), some (.int wk), some (.tup ((List.range wk).map fun w : Nat => D.tup ((row h k w).map D.int))), x5, some (.int a), some (.int f), x8] =
    some (.lst ((((List.range m.toNat).filter fun s => decide (a ∈ row h k (((fn + s) % wk : Nat) : Int))).map fun _ => (1 : Int)).map D.int)) := by
  rw [sum_ones]
  refine den_comp (φ := fun t : Nat => D.int t) (List.range m.toNat) (fun s => decide (a ∈ row h k (((fn + s) % wk : Nat) : Int))) _ ?_ fun s _ => ⟨[x0, x1, some (.int m), some (.int wk), some (.tup ((List.range wk).map fun w : Nat => D.tup ((row h k w).map D.int))), x5, some (.int a), some (.int f), some (.int s)], rfl, ?_, fun _ => rfl⟩
  · simp only [denE, denEs, denO, denC, denI, BO.f, CO.f, FN.f, rngF_1, rngF_2, setsE, bindT, wipeE, List.getElem?_cons_zero, List.getElem?_cons_succ, List.set_cons_zero, List.set_cons_succ, Option.join_some, Option.bind_some, Option.map_some, addD_int, subD_int, cmpD_int, eqM_int, neM_int, intF_int, asBl_bl, asInt_int, asSeq_lst, asSeq_tup, tupF_lst, ixM_lst, ixM_tup, ixM_scr, slM_lst, slM_tup, lenF_lst, lenF_tup, lenF_scr, o_rng1 (i := m) (by omega) (by omega)]
  · rw [← hf]
    exact congrArg (fun o => Option.bind o asBl) (c_free_1 (by omega) (rows_at (h := h) (k := k) hw))
theorem l_free0 {M : Mn} {h k m : Int} {a f : Int} {wk fn : Nat} {x0 x1 x8 : Option D} {found : List Int} (hf : (fn : Int) = f) (hw : 0 < wk) (hm : m ≤ 1000) (hm0 : 0 ≤ m) (hl : found.length ≤ 1000000) :
    exes M l_ring_free_0 [x0, x1, some (.int m), some (.int wk), some (.tup ((List.range wk).map fun w : Nat => D.tup ((row h k w).map D.int))), some (.lst (found.map D.int)), some (.int a), some (.int f), x8] =
    some (.nx [x0, x1, some (.int m), some (.int wk), some (.tup ((List.range wk).map fun w : Nat => D.tup ((row h k w).map D.int))), some (.lst ((found ++ [cnt h k wk m.toNat a fn]).map D.int)), some (.int a), some (.int f), x8]) := by
  have e : denE M (.fn .sum [c_ring_free_0]) [x0, x1, some (.int m), some (.int wk), some (.tup ((List.range wk).map fun w : Nat => D.tup ((row h k w).map D.int))), some (.lst (found.map D.int)), some (.int a), some (.int f), x8] = some (.int (cnt h k wk m.toNat a fn)) := by
    simp only [denE, denEs, denO, denC, denI, BO.f, CO.f, FN.f, rngF_1, rngF_2, setsE, bindT, wipeE, List.getElem?_cons_zero, List.getElem?_cons_succ, List.set_cons_zero, List.set_cons_succ, Option.join_some, Option.bind_some, Option.map_some, addD_int, subD_int, cmpD_int, eqM_int, neM_int, intF_int, asBl_bl, asInt_int, asSeq_lst, asSeq_tup, tupF_lst, ixM_lst, ixM_tup, ixM_scr, slM_lst, slM_tup, lenF_lst, lenF_tup, lenF_scr, c_free hf hw hm hm0, sumF_ints]
    rfl
  rw [List.map_append]
  exact x_app rfl e (by rw [List.length_map]; exact hl) rfl
theorem l_free1 {M : Mn} {h k m : Int} {a : Int} {wk : Nat} {x0 x1 x7 x8 : Option D} {found : List Int} (hw : 0 < wk) (hw1 : wk ≤ 1000) (hm : m ≤ 1000) (hm0 : 0 ≤ m) (hl : found.length ≤ 30000) :
    ∃ x7' x8', exes M l_ring_free_1 [x0, x1, some (.int m), some (.int wk), some (.tup ((List.range wk).map fun w : Nat => D.tup ((row h k w).map D.int))), some (.lst (found.map D.int)), some (.int a), x7, x8] =
    some (.nx [x0, x1, some (.int m), some (.int wk), some (.tup ((List.range wk).map fun w : Nat => D.tup ((row h k w).map D.int))), some (.lst ((found ++ (List.range wk).map fun f => cnt h k wk m.toNat a f).map D.int)), some (.int a), x7', x8']) := by
  obtain ⟨ρ', e, x7', x8', rfl⟩ := forM_all (T := .nm 7) (b := exes M l_ring_free_0) (φ := fun i : Nat => D.int i) (List.range wk)
    (fun i ρ => ∃ x7 x8, ρ = [x0, x1, some (.int m), some (.int wk), some (.tup ((List.range wk).map fun w : Nat => D.tup ((row h k w).map D.int))), some (.lst ((found ++ (List.range i).map fun f => cnt h k wk m.toNat a f).map D.int)), some (.int a), x7, x8])
    (ρ := [x0, x1, some (.int m), some (.int wk), some (.tup ((List.range wk).map fun w : Nat => D.tup ((row h k w).map D.int))), some (.lst (found.map D.int)), some (.int a), x7, x8]) ⟨x7, x8, by rw [List.range_zero, List.map_nil, List.append_nil]⟩ fun i f ρ hi hI => by
      obtain ⟨x7, x8, rfl⟩ := hI
      obtain ⟨hi1, hi2⟩ := List.getElem?_eq_some_iff.mp hi
      rw [List.getElem_range] at hi2
      subst hi2
      rw [List.length_range] at hi1
      refine ⟨_, _, rfl, .inl (l_free0 (fn := i) rfl hw hm hm0 ?_), some (.int i), x8, ?_⟩
      · rw [List.length_append, List.length_map, List.length_range]; omega
      · have e : found ++ (List.range (i + 1)).map (fun f => cnt h k wk m.toNat a f) = (found ++ (List.range i).map (fun f => cnt h k wk m.toNat a f)) ++ [cnt h k wk m.toNat a i] := by
          rw [List.range_succ, List.map_append, ← List.append_assoc]; rfl
        rw [e]
  rw [List.length_range] at e
  refine ⟨x7', x8', x_for ?_ e x_nil⟩
  simp only [denE, denEs, denO, denC, denI, BO.f, CO.f, FN.f, rngF_1, rngF_2, setsE, bindT, wipeE, List.getElem?_cons_zero, List.getElem?_cons_succ, List.set_cons_zero, List.set_cons_succ, Option.join_some, Option.bind_some, Option.map_some, addD_int, subD_int, cmpD_int, eqM_int, neM_int, intF_int, asBl_bl, asInt_int, asSeq_lst, asSeq_tup, tupF_lst, ixM_lst, ixM_tup, ixM_scr, slM_lst, slM_tup, lenF_lst, lenF_tup, lenF_scr, o_rng1 (i := (wk : Int)) (by omega) (by omega)]
  rw [Int.toNat_natCast]
theorem fnd_ne {h k : Int} {wk m : Nat} (h0 : 0 < h) (hw : 0 < wk) : fnd h k wk m ≠ [] := by
  intro e
  unfold fnd at e
  rw [List.flatMap_eq_nil_iff] at e
  have := e 0 (List.mem_range.mpr (by omega))
  rw [List.map_eq_nil_iff, List.range_eq_nil] at this
  omega
theorem r_free {γ : Nat → Option D} {n : Nat} {h e k m : Int} (hk : h - e = k) (h0 : 0 < h) (hh : h ≤ 30) (hk1 : k ≤ 1000) (hk0 : 0 ≤ k) (hm : m ≤ 1000) (hm0 : 0 ≤ m) :
    run TT γ (n + 4) 5 [.int h, .int e, .int m] = some (.int (minI (fnd h k (h.toNat / Nat.gcd h.toNat k.toNat) m.toNat))) := by
  generalize hwk : h.toNat / Nat.gcd h.toNat k.toNat = wk
  have g0 : 0 < Nat.gcd h.toNat k.toNat := Nat.gcd_pos_of_pos_left _ (by omega)
  have g1 : Nat.gcd h.toNat k.toNat ≤ h.toNat := Nat.gcd_le_left _ (by omega : 0 < h.toNat)
  have hw : 0 < wk := by rw [← hwk]; exact Nat.div_pos g1 g0
  have hw1 : wk ≤ h.toNat := by rw [← hwk]; exact Nat.div_le_self _ _
  have e4 : run TT γ (n + 3) 4 [.int h, .int e] = some (.int (wk : Int)) := by
    rw [← hwk]; exact r_weeks hk h0 (by omega) hk1 hk0
  have e3 : run TT γ (n + 3) 3 [.int h, .int e, .int (wk : Int)] = some (.tup ((List.range wk).map fun w : Nat => .tup ((row h k w).map D.int))) := by
    have := r_off (γ := γ) (n := n) (m := (wk : Int)) hk h0 hk1 hk0 (by omega) (by omega)
    rw [Int.toNat_natCast] at this
    exact this
  refine run_at (ρ := [some (.int h), some (.int e), some (.int m), none, none, none, none, none, none]) (out := .rt (.int (minI (fnd h k wk m.toNat)))) (f := f_ring_free) rfl rfl rfl ?_ rfl
  refine x_set (d := .int (wk : Int)) (by simp only [denE, denEs, denO, denC, denI, BO.f, CO.f, FN.f, rngF_1, rngF_2, setsE, bindT, wipeE, List.getElem?_cons_zero, List.getElem?_cons_succ, List.set_cons_zero, List.set_cons_succ, Option.join_some, Option.bind_some, Option.map_some, addD_int, subD_int, cmpD_int, eqM_int, neM_int, intF_int, asBl_bl, asInt_int, asSeq_lst, asSeq_tup, tupF_lst, ixM_lst, ixM_tup, ixM_scr, slM_lst, slM_tup, lenF_lst, lenF_tup, lenF_scr, e4]) (x_set (d := .tup ((List.range wk).map fun w : Nat => .tup ((row h k w).map D.int))) (by simp only [denE, denEs, denO, denC, denI, BO.f, CO.f, FN.f, rngF_1, rngF_2, setsE, bindT, wipeE, List.getElem?_cons_zero, List.getElem?_cons_succ, List.set_cons_zero, List.set_cons_succ, Option.join_some, Option.bind_some, Option.map_some, addD_int, subD_int, cmpD_int, eqM_int, neM_int, intF_int, asBl_bl, asInt_int, asSeq_lst, asSeq_tup, tupF_lst, ixM_lst, ixM_tup, ixM_scr, slM_lst, slM_tup, lenF_lst, lenF_tup, lenF_scr, e3]) (x_set (d := .lst []) rfl ?_))
  obtain ⟨ρ', ef, x6', x7', x8', rfl⟩ := forM_all (T := .nm 6) (b := exes ⟨run TT γ (n + 3), γ⟩ l_ring_free_1) (φ := fun i : Nat => D.int i) (List.range h.toNat)
    (fun i ρ => ∃ x6 x7 x8, ρ = [some (.int h), some (.int e), some (.int m), some (.int wk), some (.tup ((List.range wk).map fun w : Nat => D.tup ((row h k w).map D.int))), some (.lst (((List.range i).flatMap fun a : Nat => (List.range wk).map fun f => cnt h k wk m.toNat (a : Int) f).map D.int)), x6, x7, x8])
    (ρ := [some (.int h), some (.int e), some (.int m), some (.int wk), some (.tup ((List.range wk).map fun w : Nat => D.tup ((row h k w).map D.int))), some (.lst []), none, none, none]) ⟨none, none, none, rfl⟩ fun i f ρ hi hI => by
      obtain ⟨x6, x7, x8, rfl⟩ := hI
      obtain ⟨hi1, hi2⟩ := List.getElem?_eq_some_iff.mp hi
      rw [List.getElem_range] at hi2
      subst hi2
      rw [List.length_range] at hi1
      obtain ⟨x7', x8', e1⟩ := l_free1 (M := ⟨run TT γ (n + 3), γ⟩) (h := h) (k := k) (m := m) (a := (i : Int)) (wk := wk) (x0 := some (.int h)) (x1 := some (.int e)) (x7 := x7) (x8 := x8) (found := (List.range i).flatMap fun a : Nat => (List.range wk).map fun f => cnt h k wk m.toNat (a : Int) f) hw (by omega) hm hm0 (by
        have : ∀ l : List Nat, (l.flatMap fun a : Nat => (List.range wk).map fun f => cnt h k wk m.toNat (a : Int) f).length = l.length * wk := by
          intro l
          induction l with
          | nil => simp
          | cons a l ih => rw [List.flatMap_cons, List.length_append, ih, List.length_map, List.length_range, List.length_cons, Nat.succ_mul]; omega
        rw [this, List.length_range]
        have : i * wk ≤ 30 * 30 := Nat.mul_le_mul (by omega) (by omega)
        omega)
      refine ⟨_, _, rfl, .inl e1, some (.int i), x7', x8', ?_⟩
      rw [List.range_succ, List.flatMap_append]
      rw [List.flatMap_cons, List.flatMap_nil, List.append_nil]
  rw [List.length_range] at ef
  refine x_for (ds := (List.range h.toNat).map fun i : Nat => D.int i) ?_ ef (x_ret ?_)
  · simp only [denE, denEs, denO, denC, denI, BO.f, CO.f, FN.f, rngF_1, rngF_2, setsE, bindT, wipeE, List.getElem?_cons_zero, List.getElem?_cons_succ, List.set_cons_zero, List.set_cons_succ, Option.join_some, Option.bind_some, Option.map_some, addD_int, subD_int, cmpD_int, eqM_int, neM_int, intF_int, asBl_bl, asInt_int, asSeq_lst, asSeq_tup, tupF_lst, ixM_lst, ixM_tup, ixM_scr, slM_lst, slM_tup, lenF_lst, lenF_tup, lenF_scr, o_rng1 (i := h) (by omega) (by omega)]
  · have := minF_ints (fnd_ne (k := k) (m := m.toNat) h0 hw)
    unfold fnd at this
    simp only [denE, denEs, denO, denC, denI, BO.f, CO.f, FN.f, rngF_1, rngF_2, setsE, bindT, wipeE, List.getElem?_cons_zero, List.getElem?_cons_succ, List.set_cons_zero, List.set_cons_succ, Option.join_some, Option.bind_some, Option.map_some, addD_int, subD_int, cmpD_int, eqM_int, neM_int, intF_int, asBl_bl, asInt_int, asSeq_lst, asSeq_tup, tupF_lst, ixM_lst, ixM_tup, ixM_scr, slM_lst, slM_tup, lenF_lst, lenF_tup, lenF_scr, this]
    rfl
theorem r_can {γ : Nat → Option D} {n : Nat} {h e k : Int} (hγ : γ 0 = some (.int 6)) (hk : h - e = k) (h0 : 0 < h) (hh : h ≤ 30) (hk1 : k ≤ 1000) (hk0 : 0 ≤ k) :
    run TT γ (n + 1) 6 [.int h, .int e] = some (.tup ((List.range 6).map fun s : Nat => .int ((1 + (s : Int)) * k / h))) := by
  have el : ∀ {z : Int}, denE ⟨run TT γ n, γ⟩ (.bin .fdiv (.bin .mul (.var 2) (.bin .sub (.var 0) (.var 1))) (.var 0)) [some (.int h), some (.int e), some (.int z)] = some (.int (z * k / h)) := by
    intro z
    simp only [denE, denEs, denO, denC, denI, BO.f, CO.f, FN.f, rngF_1, rngF_2, setsE, bindT, wipeE, List.getElem?_cons_zero, List.getElem?_cons_succ, List.set_cons_zero, List.set_cons_succ, Option.join_some, Option.bind_some, Option.map_some, addD_int, subD_int, cmpD_int, eqM_int, neM_int, intF_int, asBl_bl, asInt_int, asSeq_lst, asSeq_tup, tupF_lst, ixM_lst, ixM_tup, ixM_scr, slM_lst, slM_tup, lenF_lst, lenF_tup, lenF_scr, hk, o_mulR (i := z) (j := k) (by omega) (by omega), o_div h0 (by omega : h < 1073741824)]
  have ec : denE ⟨run TT γ n, γ⟩ c_can_be_free_0 [some (.int h), some (.int e), none] = some (.lst ((List.range 6).map fun s : Nat => .int ((1 + (s : Int)) * k / h))) := by
    refine den_compA (φ := fun t : Nat => D.int (1 + (t : Int))) (List.range 6) _ ?_ fun s _ => ⟨_, rfl, el⟩
    simp only [denE, denEs, denO, denC, denI, BO.f, CO.f, FN.f, rngF_1, rngF_2, setsE, bindT, wipeE, List.getElem?_cons_zero, List.getElem?_cons_succ, List.set_cons_zero, List.set_cons_succ, Option.join_some, Option.bind_some, Option.map_some, addD_int, subD_int, cmpD_int, eqM_int, neM_int, intF_int, asBl_bl, asInt_int, asSeq_lst, asSeq_tup, tupF_lst, ixM_lst, ixM_tup, ixM_scr, slM_lst, slM_tup, lenF_lst, lenF_tup, lenF_scr, hγ]
    rfl
  refine run_at (ρ := [some (.int h), some (.int e), none]) (out := .rt _) (f := f_can_be_free) rfl rfl rfl (x_ret ?_) rfl
  simp only [denE, denEs, denO, denC, denI, BO.f, CO.f, FN.f, rngF_1, rngF_2, setsE, bindT, wipeE, List.getElem?_cons_zero, List.getElem?_cons_succ, List.set_cons_zero, List.set_cons_succ, Option.join_some, Option.bind_some, Option.map_some, addD_int, subD_int, cmpD_int, eqM_int, neM_int, intF_int, asBl_bl, asInt_int, asSeq_lst, asSeq_tup, tupF_lst, ixM_lst, ixM_tup, ixM_scr, slM_lst, slM_tup, lenF_lst, lenF_tup, lenF_scr, ec]
end
end K03

set_option Elab.async false
set_option linter.all false
set_option maxRecDepth 100000
set_option autoImplicit false
set_option maxHeartbeats 4000000
/-! Plain numbers: how many of m weekends a hand is free. -/
namespace K03
open PySem PySem.Spec PyProof.Rows L2 PV

theorem sum_if {α : Type} (p : α → Bool) : ∀ l : List α, (l.map fun a => if p a = true then (1 : Int) else 0).sum = ((l.filter p).map fun _ => (1 : Int)).sum
  | [] => rfl
  | a :: l => by
    have ih := sum_if p l
    rw [List.map_cons, List.sum_cons, ih]
    cases h : p a with
    | true => rw [List.filter_cons_of_pos h, List.map_cons, List.sum_cons]; simp
    | false => rw [List.filter_cons_of_neg (by rw [h]; simp)]; simp
theorem rep_get {α : Type} (l : List α) : ∀ (n i : Nat), i < n * l.length → (List.replicate n l).flatten[i]? = l[i % l.length]?
  | 0, i, h => by omega
  | n + 1, i, h => by
    rw [List.replicate_succ, List.flatten_cons]
    by_cases hi : i < l.length
    · rw [List.getElem?_append_left hi, Nat.mod_eq_of_lt hi]
    · rw [List.getElem?_append_right (by omega), rep_get l n (i - l.length) (by rw [Nat.succ_mul] at h; omega)]
      rw [Nat.mod_eq_sub_mod (by omega : i ≥ l.length)]
theorem rep_len {α : Type} (l : List α) : ∀ n : Nat, (List.replicate n l).flatten.length = n * l.length
  | 0 => by simp
  | n + 1 => by rw [List.replicate_succ, List.flatten_cons, List.length_append, rep_len l n, Nat.succ_mul]; omega
theorem rep_cut {wk f m n : Nat} (g : Nat → Int) (hw : 0 < wk) (h : f + m ≤ n * wk) : (((List.replicate n ((List.range wk).map g)).flatten).drop f).take m = (List.range m).map fun s => g ((f + s) % wk) := by
  apply List.ext_getElem?
  intro i
  rw [List.getElem?_take]
  by_cases hi : i < m
  · rw [if_pos hi, List.getElem?_drop, rep_get _ _ _ (by rw [List.length_map, List.length_range]; omega), List.length_map, List.length_range, List.getElem?_map, List.getElem?_range (Nat.mod_lt _ hw), List.getElem?_map, List.getElem?_range hi]
    rfl
  · rw [if_neg hi, List.getElem?_eq_none (by rw [List.length_map, List.length_range]; omega)]
/-! ### rows -/
theorem mem_row {h k w a : Int} (h0 : 0 < h) (hk0 : 0 ≤ k) (hk : k ≤ h) (a0 : 0 ≤ a) (a1 : a < h) : a ∈ row h k w ↔ (a - w * k) % h < k := by
  unfold row
  rw [(sortI_perm _).mem_iff, List.mem_map]
  constructor
  · rintro ⟨t, ht, e⟩
    have ht := List.mem_range.mp ht
    have e2 : (a - w * k) % h = (t : Int) % h := by
      rw [← e, Int.sub_emod, Int.emod_emod, ← Int.sub_emod]
      congr 1; omega
    rw [e2, Int.emod_eq_of_lt (by omega) (by omega)]; omega
  · intro hl
    have n0 := Int.emod_nonneg (a - w * k) (by omega : h ≠ 0)
    refine ⟨((a - w * k) % h).toNat, List.mem_range.mpr (by omega), ?_⟩
    rw [Int.toNat_of_nonneg n0, Int.add_emod, Int.emod_emod, ← Int.add_emod]
    rw [show w * k + (a - w * k) = a by omega]
    exact Int.emod_eq_of_lt a0 a1
theorem row_mod {h k a : Int} {wk t : Nat} (h0 : 0 < h) (hk0 : 0 ≤ k) (hk : k ≤ h) (a0 : 0 ≤ a) (a1 : a < h) (hd : h ∣ (wk : Int) * k) : a ∈ row h k (((t % wk : Nat)) : Int) ↔ (a - (t : Int) * k) % h < k := by
  rw [mem_row h0 hk0 hk a0 a1]
  have e : (a - ((t % wk : Nat) : Int) * k) % h = (a - (t : Int) * k) % h := by
    have e1 : (t : Int) = ((t % wk : Nat) : Int) + (wk : Int) * ((t / wk : Nat) : Int) := by
      have := Nat.mod_add_div t wk
      have := congrArg (fun n : Nat => (n : Int)) this
      simp only [Int.natCast_add, Int.natCast_mul] at this
      omega
    obtain ⟨c, hc⟩ := hd
    rw [e1, Int.add_mul]
    have e2 : (wk : Int) * ((t / wk : Nat) : Int) * k = h * (c * ((t / wk : Nat) : Int)) := by
      rw [Int.mul_right_comm, hc, Int.mul_assoc]
    rw [e2]
    rw [show a - (((t % wk : Nat) : Int) * k + h * (c * ((t / wk : Nat) : Int))) = (a - ((t % wk : Nat) : Int) * k) - h * (c * ((t / wk : Nat) : Int)) by omega]
    rw [Int.sub_mul_emod_self_left]
  rw [e]
/-- one weekend -/
theorem one_step {h k y : Int} (h0 : 0 < h) (hk0 : 0 ≤ k) (hk : k ≤ h) : (if y % h < k then (1 : Int) else 0) = y / h - (y - k) / h := by
  have e1 := Int.emod_add_mul_ediv y h
  have e2 := Int.emod_nonneg y (by omega : h ≠ 0)
  have e3 := Int.emod_lt_of_pos y h0
  by_cases hc : y % h < k
  · rw [if_pos hc]
    have : (y - k) / h = y / h - 1 := by
      rw [show y - k = (y % h - k + h) + h * (y / h - 1) by rw [Int.mul_sub]; omega]
      rw [Int.add_mul_ediv_left _ _ (by omega), Int.ediv_eq_zero_of_lt (by omega) (by omega)]; omega
    omega
  · rw [if_neg hc]
    have : (y - k) / h = y / h := by
      rw [show y - k = (y % h - k) + h * (y / h) by omega]
      rw [Int.add_mul_ediv_left _ _ (by omega), Int.ediv_eq_zero_of_lt (by omega) (by omega)]; omega
    omega
theorem tele {h k : Int} (h0 : 0 < h) (hk0 : 0 ≤ k) (hk : k ≤ h) (x : Int) : ∀ m : Nat, ((List.range m).map fun s : Nat => if (x - (s : Int) * k) % h < k then (1 : Int) else 0).sum = x / h - (x - (m : Int) * k) / h
  | 0 => by simp
  | m + 1 => by
    rw [List.range_succ, List.map_append, List.sum_append, tele h0 hk0 hk x m]
    have := one_step (y := x - (m : Int) * k) h0 hk0 hk
    rw [List.map_cons, List.map_nil, List.sum_cons, List.sum_nil, this]
    rw [show x - ((m + 1 : Nat) : Int) * k = x - (m : Int) * k - k by rw [Int.natCast_add, Int.add_mul]; omega]
    omega
theorem cnt_eq {h k a : Int} {wk m f : Nat} (h0 : 0 < h) (hk0 : 0 ≤ k) (hk : k ≤ h) (a0 : 0 ≤ a) (a1 : a < h) (hd : h ∣ (wk : Int) * k) : cnt h k wk m a f = (a - (f : Int) * k) / h - (a - (f : Int) * k - (m : Int) * k) / h := by
  unfold cnt
  rw [← sum_if, ← tele h0 hk0 hk]
  congr 1
  apply List.map_congr_left
  intro s _
  have := row_mod (t := f + s) h0 hk0 hk a0 a1 hd
  rw [show a - ((f + s : Nat) : Int) * k = a - (f : Int) * k - (s : Int) * k by rw [Int.natCast_add, Int.add_mul]; omega] at this
  by_cases hc : (a - (f : Int) * k - (s : Int) * k) % h < k
  · rw [if_pos hc, if_pos (decide_eq_true (this.mpr hc))]
  · rw [if_neg hc, if_neg (by simpa using fun z => hc (this.mp z))]
theorem cnt_ge {h k a : Int} {wk m f : Nat} (h0 : 0 < h) (hk0 : 0 ≤ k) (hk : k ≤ h) (a0 : 0 ≤ a) (a1 : a < h) (hd : h ∣ (wk : Int) * k) : (m : Int) * k / h ≤ cnt h k wk m a f := by
  rw [cnt_eq h0 hk0 hk a0 a1 hd]
  generalize (a - (f : Int) * k) = x
  generalize (m : Int) * k = y
  have e1 := Int.emod_add_mul_ediv y h
  have e2 := Int.emod_nonneg y (by omega : h ≠ 0)
  have : (x - y) / h ≤ (x - h * (y / h)) / h := Int.ediv_le_ediv h0 (by omega)
  rw [show x - h * (y / h) = x + h * (-(y / h)) by rw [Int.mul_neg]; omega, Int.add_mul_ediv_left _ _ (by omega)] at this
  omega
theorem cnt_min {h k : Int} {wk m : Nat} (h0 : 0 < h) (hk0 : 0 ≤ k) (hk : k ≤ h) (hd : h ∣ (wk : Int) * k) : cnt h k wk m (h - 1) 0 = (m : Int) * k / h := by
  rw [cnt_eq h0 hk0 hk (by omega) (by omega) hd]
  generalize (m : Int) * k = y
  have e1 := Int.emod_add_mul_ediv y h
  have e2 := Int.emod_nonneg y (by omega : h ≠ 0)
  have e3 := Int.emod_lt_of_pos y h0
  rw [show ((0 : Nat) : Int) * k = 0 by simp, Int.sub_zero, Int.ediv_eq_zero_of_lt (by omega) (by omega)]
  rw [show h - 1 - y = (h - 1 - y % h) + h * (-(y / h)) by rw [Int.mul_neg]; omega, Int.add_mul_ediv_left _ _ (by omega), Int.ediv_eq_zero_of_lt (by omega) (by omega)]
  omega
theorem min_of {l : List Int} {v : Int} (h1 : v ∈ l) (h2 : ∀ y ∈ l, v ≤ y) : minI l = v := by
  have hn : l ≠ [] := fun e => by rw [e] at h1; cases h1
  obtain ⟨q1, q2⟩ := minI_mem hn
  exact Int.le_antisymm (q2 v h1) (h2 _ q1)
theorem fnd_min {h k : Int} {wk m : Nat} (h0 : 0 < h) (hk0 : 0 ≤ k) (hk : k ≤ h) (hw : 0 < wk) (hd : h ∣ (wk : Int) * k) : minI (fnd h k wk m) = (m : Int) * k / h := by
  apply min_of
  · unfold fnd
    rw [List.mem_flatMap]
    refine ⟨(h - 1).toNat, List.mem_range.mpr (by omega), List.mem_map.mpr ⟨0, List.mem_range.mpr hw, ?_⟩⟩
    rw [Int.toNat_of_nonneg (by omega)]
    exact cnt_min h0 hk0 hk hd
  · intro y hy
    unfold fnd at hy
    rw [List.mem_flatMap] at hy
    obtain ⟨a, ha, hy⟩ := hy
    obtain ⟨f, _, rfl⟩ := List.mem_map.mp hy
    have := List.mem_range.mp ha
    exact cnt_ge h0 hk0 hk (by omega) (by omega) hd
/-! ### when it comes round -/
theorem wk_dvd (h k : Nat) : h ∣ h / Nat.gcd h k * k := by
  obtain ⟨c, hc⟩ := Nat.gcd_dvd_right h k
  obtain ⟨d, hd⟩ := Nat.gcd_dvd_left h k
  by_cases g : Nat.gcd h k = 0
  · have : h = 0 := Nat.eq_zero_of_gcd_eq_zero_left g
    subst this
    simp
  · have e : h / Nat.gcd h k = d := by
      conv => lhs; arg 1; rw [hd]
      exact Nat.mul_div_cancel_left d (by omega)
    rw [e]
    refine ⟨c, ?_⟩
    conv => lhs; rw [hc]
    conv => rhs; rw [hd]
    rw [← Nat.mul_assoc, Nat.mul_comm d]
theorem wk_le {h k j : Nat} (h0 : 0 < h) (hj : 0 < j) (hd : h ∣ j * k) : h / Nat.gcd h k ≤ j := by
  have g0 : 0 < Nat.gcd h k := Nat.gcd_pos_of_pos_left _ h0
  have hc := Nat.coprime_div_gcd_div_gcd g0
  have e1 : h / Nat.gcd h k ∣ j * (k / Nat.gcd h k) := by
    obtain ⟨c, hc⟩ := hd
    refine ⟨c, ?_⟩
    rw [← Nat.mul_div_assoc _ (Nat.gcd_dvd_right h k), hc, Nat.mul_comm h c, Nat.mul_div_assoc _ (Nat.gcd_dvd_left h k), Nat.mul_comm]
  exact Nat.le_of_dvd hj (hc.dvd_of_dvd_mul_right e1)
end K03

set_option Elab.async false
set_option linter.all false
set_option maxRecDepth 100000
set_option autoImplicit false
set_option maxHeartbeats 4000000
/-! The law. -/
namespace K03
open PySem PySem.Spec PyProof.Rows L2 PV
section
variable {M : Mn} {h e k m : Int}
/-- the rows as the law has them -/
def rws (h k : Int) (n : Nat) : List D := (List.range n).map fun w : Nat => D.tup ((row h k w).map D.int)
theorem rws_has (h k : Int) (n : Nat) : D.has 2 (.tup (rws h k n)) = true := by
  show D.hasL 1 (rws h k n) = true
  rw [hasL_iff]
  intro d hd
  obtain ⟨w, _, rfl⟩ := List.mem_map.mp hd
  show D.hasL 0 _ = true
  exact has_ints _
theorem rws_take (h k : Int) {n j : Nat} (hj : j ≤ n) : (rws h k n).take j = rws h k j := by
  unfold rws
  rw [← List.map_take, List.take_range, Nat.min_eq_left hj]
theorem cutL_toI {α : Type} (xs : List α) {n : Int} (h : 0 ≤ n) : cutL xs none (some n) = xs.take n.toNat := by
  have := cutL_to xs n.toNat
  rw [Int.toNat_of_nonneg h] at this
  exact this
theorem c_law0e {z f : Int} {x0 x1 x3 x4 x5 x7 x8 x9 xa xb xc xd : Option D} (h0 : 0 < h) : denE M (.bin .mod (.fn .int [.bin .add (.var 6) (.var 14)]) (.var 2)) [x0, x1, some (.int h), x3, x4, x5, some (.int f), x7, x8, x9, xa, xb, xc, xd, some (.int z)] = some (.int ((f + z) % h)) := by
  simp only [denE, denEs, denO, denC, denI, BO.f, CO.f, FN.f, rngF_1, rngF_2, setsE, bindT, wipeE, List.getElem?_cons_zero, List.getElem?_cons_succ, List.set_cons_zero, List.set_cons_succ, Option.join_some, Option.bind_some, Option.map_some, addD_int, subD_int, cmpD_int, eqM_int, neM_int, intF_int, asBl_bl, asInt_int, asSeq_lst, asSeq_tup, tupF_lst, ixM_lst, ixM_tup, ixM_scr, slM_lst, slM_tup, lenF_lst, lenF_tup, lenF_scr, o_mod h0]
theorem c_law0 {f : Int} {x0 x1 x3 x5 x7 x8 x9 xa xb xc xd xe : Option D} (hk : h - e = k) (h0 : 0 < h) (hk1 : k ≤ 1000) (hk0 : 0 ≤ k) : denE M c_law_0 [x0, x1, some (.int h), x3, some (.int e), x5, some (.int f), x7, x8, x9, xa, xb, xc, xd, xe] = some (.lst (((List.range k.toNat).map fun t : Nat => (f + t) % h).map D.int)) := by
  rw [List.map_map]
  refine den_compA (φ := fun t : Nat => D.int t) (List.range k.toNat) _ ?_ fun t _ => ⟨_, rfl, c_law0e h0⟩
  simp only [denE, denEs, denO, denC, denI, BO.f, CO.f, FN.f, rngF_1, rngF_2, setsE, bindT, wipeE, List.getElem?_cons_zero, List.getElem?_cons_succ, List.set_cons_zero, List.set_cons_succ, Option.join_some, Option.bind_some, Option.map_some, addD_int, subD_int, cmpD_int, eqM_int, neM_int, intF_int, asBl_bl, asInt_int, asSeq_lst, asSeq_tup, tupF_lst, ixM_lst, ixM_tup, ixM_scr, slM_lst, slM_tup, lenF_lst, lenF_tup, lenF_scr, hk, o_rng1 (i := k) (by omega) (by omega)]
theorem l_law0 {w : Int} {rows : List D} {x0 x1 x3 x7 x8 x9 xa xb xc xd xe : Option D} (hk : h - e = k) (h0 : 0 < h) (hk1 : k ≤ 1000) (hk0 : 0 ≤ k) (hl : rows.length ≤ 1000000) :
    exes M l_law_0 [x0, x1, some (.int h), x3, some (.int e), some (.lst rows), some (.int (w * k)), x7, x8, x9, xa, xb, xc, xd, xe] = some (.nx [x0, x1, some (.int h), x3, some (.int e), some (.lst (rows ++ [.tup ((row h k w).map D.int)])), some (.int ((w + 1) * k)), x7, x8, x9, xa, xb, xc, xd, xe]) := by
  have e1 : denE M (.fn .tuple [.fn .sorted [c_law_0]]) [x0, x1, some (.int h), x3, some (.int e), some (.lst rows), some (.int (w * k)), x7, x8, x9, xa, xb, xc, xd, xe] = some (.tup ((row h k w).map D.int)) := by
    simp only [denE, denEs, denO, denC, denI, BO.f, CO.f, FN.f, rngF_1, rngF_2, setsE, bindT, wipeE, List.getElem?_cons_zero, List.getElem?_cons_succ, List.set_cons_zero, List.set_cons_succ, Option.join_some, Option.bind_some, Option.map_some, addD_int, subD_int, cmpD_int, eqM_int, neM_int, intF_int, asBl_bl, asInt_int, asSeq_lst, asSeq_tup, tupF_lst, ixM_lst, ixM_tup, ixM_scr, slM_lst, slM_tup, lenF_lst, lenF_tup, lenF_scr, c_law0 hk h0 hk1 hk0, sortF_ints]
    rfl
  have e2 : denE M (.bin .sub (.bin .add (.var 6) (.var 2)) (.var 4)) [x0, x1, some (.int h), x3, some (.int e), some (.lst (rows ++ [.tup ((row h k w).map D.int)])), some (.int (w * k)), x7, x8, x9, xa, xb, xc, xd, xe] = some (.int ((w + 1) * k)) := by
    have : w * k + h - e = (w + 1) * k := by rw [Int.add_mul]; omega
    simp only [denE, denEs, denO, denC, denI, BO.f, CO.f, FN.f, rngF_1, rngF_2, setsE, bindT, wipeE, List.getElem?_cons_zero, List.getElem?_cons_succ, List.set_cons_zero, List.set_cons_succ, Option.join_some, Option.bind_some, Option.map_some, addD_int, subD_int, cmpD_int, eqM_int, neM_int, intF_int, asBl_bl, asInt_int, asSeq_lst, asSeq_tup, tupF_lst, ixM_lst, ixM_tup, ixM_scr, slM_lst, slM_tup, lenF_lst, lenF_tup, lenF_scr, this]
  exact x_app rfl e1 hl (x_set e2 rfl)
theorem loop0 {x0 x1 x3 x8 x9 xa xb xc xd xe : Option D} (hk : h - e = k) (h0 : 0 < h) (hk1 : k ≤ 1000) (hk0 : 0 ≤ k) :
    ∃ f x7, forM (.nm 7) (exes M l_law_0) ((List.range 60).map fun i : Nat => D.int i) [x0, x1, some (.int h), x3, some (.int e), some (.lst []), some (.int 0), none, x8, x9, xa, xb, xc, xd, xe] = some (.nx [x0, x1, some (.int h), x3, some (.int e), some (.lst (rws h k 60)), f, x7, x8, x9, xa, xb, xc, xd, xe]) := by
  obtain ⟨ρ', ef, x7, rfl⟩ := forM_all (T := .nm 7) (b := exes M l_law_0) (φ := fun i : Nat => D.int i) (List.range 60)
    (fun i ρ => ∃ x7, ρ = [x0, x1, some (.int h), x3, some (.int e), some (.lst (rws h k i)), some (.int ((i : Int) * k)), x7, x8, x9, xa, xb, xc, xd, xe])
    (ρ := [x0, x1, some (.int h), x3, some (.int e), some (.lst []), some (.int 0), none, x8, x9, xa, xb, xc, xd, xe]) ⟨none, by simp [rws]⟩ fun i f ρ hi hI => by
      obtain ⟨x7, rfl⟩ := hI
      obtain ⟨hi1, hi2⟩ := List.getElem?_eq_some_iff.mp hi
      rw [List.getElem_range] at hi2
      subst hi2
      rw [List.length_range] at hi1
      refine ⟨_, _, rfl, .inl (l_law0 (w := (i : Int)) hk h0 hk1 hk0 ?_), some (.int i), ?_⟩
      · unfold rws; rw [List.length_map, List.length_range]; omega
      · have : rws h k (i + 1) = rws h k i ++ [.tup ((row h k i).map D.int)] := by
          unfold rws; rw [List.range_succ, List.map_append]; rfl
        rw [this, Int.natCast_add]; rfl
  exact ⟨_, x7, ef⟩
/-- the first week that comes round -/
theorem c_law1e {z : Int} {x0 x1 x3 x5 x6 x7 x8 x9 xa xb xd xe : Option D} (hk : h - e = k) (h0 : 0 < h) (hk1 : k ≤ 1000) (hk0 : 0 ≤ k) : denE M (.cmp .eq (.bin .mod (.fn .int [.bin .mul (.var 12) (.bin .sub (.var 2) (.var 4))]) (.var 2)) (.cst (.int 0))) [x0, x1, some (.int h), x3, some (.int e), x5, x6, x7, x8, x9, xa, xb, some (.int z), xd, xe] = some (.bl (z * k % h == 0)) := by
  simp only [denE, denEs, denO, denC, denI, BO.f, CO.f, FN.f, rngF_1, rngF_2, setsE, bindT, wipeE, List.getElem?_cons_zero, List.getElem?_cons_succ, List.set_cons_zero, List.set_cons_succ, Option.join_some, Option.bind_some, Option.map_some, addD_int, subD_int, cmpD_int, eqM_int, neM_int, intF_int, asBl_bl, asInt_int, asSeq_lst, asSeq_tup, tupF_lst, ixM_lst, ixM_tup, ixM_scr, slM_lst, slM_tup, lenF_lst, lenF_tup, lenF_scr, hk, o_mulR (i := z) (j := k) (by omega) (by omega), o_mod h0]
theorem first_wk {wk : Nat} {xs : List Nat} (h0 : 0 < h) (hh : h ≤ 30) (hk0 : 0 ≤ k) (hwk : h.toNat / Nat.gcd h.toNat k.toNat = wk) (hx : xs = (List.range 60).filter fun s : Nat => ((1 + (s : Int)) * k % h == 0)) : xs[0]? = some (wk - 1) ∧ 0 < wk := by
  have e1 : (h.toNat : Int) = h := Int.toNat_of_nonneg (by omega)
  have e2 : (k.toNat : Int) = k := Int.toNat_of_nonneg hk0
  have g0 : 0 < Nat.gcd h.toNat k.toNat := Nat.gcd_pos_of_pos_left _ (by omega)
  have g1 : Nat.gcd h.toNat k.toNat ≤ h.toNat := Nat.gcd_le_left _ (by omega : 0 < h.toNat)
  have hw : 0 < wk := by rw [← hwk]; exact Nat.div_pos g1 g0
  have hw1 : wk ≤ h.toNat := by rw [← hwk]; exact Nat.div_le_self _ _
  refine ⟨?_, hw⟩
  have key : ∀ s : Nat, ((1 + (s : Int)) * k % h == 0) = true ↔ h.toNat ∣ (s + 1) * k.toNat := by
    intro s
    rw [beq_iff_eq, ← Int.dvd_iff_emod_eq_zero]
    constructor
    · intro q
      rw [← e1, ← e2] at q
      have : ((h.toNat : Nat) : Int) ∣ (((s + 1) * k.toNat : Nat) : Int) := by
        rw [Int.natCast_mul, Int.natCast_add, Int.add_comm]; exact q
      exact Int.natCast_dvd_natCast.mp this
    · intro q
      have := Int.natCast_dvd_natCast.mpr q
      rw [Int.natCast_mul, Int.natCast_add, Int.add_comm, e1, e2] at this
      exact this
  rw [hx, ← List.head?_eq_getElem?, List.head?_filter, List.find?_range_eq_some]
  refine ⟨(key _).mpr ?_, List.mem_range.mpr (by omega), fun j hj => ?_⟩
  · rw [Nat.sub_add_cancel hw, ← hwk]; exact wk_dvd _ _
  · rw [Bool.not_eq_true']
    rw [Bool.eq_false_iff]
    intro q
    have := wk_le (by omega) (by omega) ((key j).mp q)
    omega
theorem e_weeks {wk : Nat} {x0 x1 x3 x5 x6 x7 x8 x9 xa xb xc xd xe : Option D} (hk : h - e = k) (h0 : 0 < h) (hh : h ≤ 30) (hk1 : k ≤ 1000) (hk0 : 0 ≤ k) (hwk : h.toNat / Nat.gcd h.toNat k.toNat = wk) :
    denE M (.ix c_law_1 (.cst (.int 0))) [x0, x1, some (.int h), x3, some (.int e), x5, x6, x7, x8, x9, xa, xb, xc, xd, xe] = some (.int wk) := by
  have ec : denE M c_law_1 [x0, x1, some (.int h), x3, some (.int e), x5, x6, x7, x8, x9, xa, xb, xc, xd, xe] = some (.lst (((List.range 60).filter fun s : Nat => ((1 + (s : Int)) * k % h == 0)).map fun s : Nat => D.int (1 + (s : Int)))) := by
    refine den_comp (φ := fun t : Nat => D.int (1 + (t : Int))) (List.range 60) (fun s : Nat => ((1 + (s : Int)) * k % h == 0)) _ ?_ fun s _ => ⟨[x0, x1, some (.int h), x3, some (.int e), x5, x6, x7, x8, x9, xa, xb, some (.int (1 + (s : Int))), xd, xe], rfl, ?_, fun _ => rfl⟩
    · have e60 : rng2 [.int 1, .int 61] = some ((List.range 60).map fun t : Nat => D.int (1 + t)) := by
        have q := o_rng2 (i := 1) (j := 61) (by omega) (by omega) (by omega) (by omega) (by omega)
        rw [show ((61 : Int) - 1).toNat = 60 by decide] at q
        exact q
      simp only [denE, denEs, denO, denC, denI, BO.f, CO.f, FN.f, rngF_1, rngF_2, setsE, bindT, wipeE, List.getElem?_cons_zero, List.getElem?_cons_succ, List.set_cons_zero, List.set_cons_succ, Option.join_some, Option.bind_some, Option.map_some, addD_int, subD_int, cmpD_int, eqM_int, neM_int, intF_int, asBl_bl, asInt_int, asSeq_lst, asSeq_tup, tupF_lst, ixM_lst, ixM_tup, ixM_scr, slM_lst, slM_tup, lenF_lst, lenF_tup, lenF_scr, e60]
    · have q := c_law1e (M := M) (z := 1 + (s : Int)) (x0 := x0) (x1 := x1) (x3 := x3) (x5 := x5) (x6 := x6) (x7 := x7) (x8 := x8) (x9 := x9) (xa := xa) (xb := xb) (xd := xd) (xe := xe) hk h0 hk1 hk0
      unfold denC
      rw [q]
      rfl
  obtain ⟨q1, q2⟩ := first_wk h0 hh hk0 hwk rfl
  simp only [denE, denEs, denO, denC, denI, BO.f, CO.f, FN.f, rngF_1, rngF_2, setsE, bindT, wipeE, List.getElem?_cons_zero, List.getElem?_cons_succ, List.set_cons_zero, List.set_cons_succ, Option.join_some, Option.bind_some, Option.map_some, addD_int, subD_int, cmpD_int, eqM_int, neM_int, intF_int, asBl_bl, asInt_int, asSeq_lst, asSeq_tup, tupF_lst, ixM_lst, ixM_tup, ixM_scr, slM_lst, slM_tup, lenF_lst, lenF_tup, lenF_scr, ec]
  have qa : ∀ l : List D, atI l 0 = l[0]? := fun l => PV.atI_nat l 0
  rw [qa, List.getElem?_map, q1]
  show some (D.int (1 + ((wk - 1 : Nat) : Int))) = _
  rw [show 1 + ((wk - 1 : Nat) : Int) = (wk : Int) by omega]
/-- one hand -/
def offs (h k a : Int) (w : Nat) : Int := if decide (a ∈ row h k (w : Int)) = true then 1 else 0
theorem c_law2e {a : Int} {r : List Int} {x0 x1 x2 x3 x4 x5 x6 x7 x8 x9 xb xc xe : Option D} : denE M (.ifx (.cmp .isin (.var 10) (.var 13)) (.cst (.int 1)) (.cst (.int 0))) [x0, x1, x2, x3, x4, x5, x6, x7, x8, x9, some (.int a), xb, xc, some (.tup (r.map D.int)), xe] = some (.int (if decide (a ∈ r) = true then 1 else 0)) := by
  simp only [denE, denEs, denO, denC, denI, BO.f, CO.f, FN.f, rngF_1, rngF_2, setsE, bindT, wipeE, List.getElem?_cons_zero, List.getElem?_cons_succ, List.set_cons_zero, List.set_cons_succ, Option.join_some, Option.bind_some, Option.map_some, addD_int, subD_int, cmpD_int, eqM_int, neM_int, intF_int, asBl_bl, asInt_int, asSeq_lst, asSeq_tup, tupF_lst, ixM_lst, ixM_tup, ixM_scr, slM_lst, slM_tup, lenF_lst, lenF_tup, lenF_scr, inM_tup]
  cases decide (a ∈ r) <;> rfl
theorem c_law2 {a : Int} {wk : Nat} {x0 x1 x2 x3 x4 x6 x7 x9 xb xc xd xe : Option D} (hw : wk ≤ 60) : denE M c_law_2 [x0, x1, x2, x3, x4, some (.lst (rws h k 60)), x6, x7, some (.int wk), x9, some (.int a), xb, xc, xd, xe] = some (.lst (((List.range wk).map (offs h k a)).map D.int)) := by
  rw [List.map_map]
  refine den_compA (φ := fun w : Nat => D.tup ((row h k w).map D.int)) (List.range wk) _ ?_ fun w _ => ⟨_, rfl, c_law2e⟩
  simp only [denE, denEs, denO, denC, denI, BO.f, CO.f, FN.f, rngF_1, rngF_2, setsE, bindT, wipeE, List.getElem?_cons_zero, List.getElem?_cons_succ, List.set_cons_zero, List.set_cons_succ, Option.join_some, Option.bind_some, Option.map_some, addD_int, subD_int, cmpD_int, eqM_int, neM_int, intF_int, asBl_bl, asInt_int, asSeq_lst, asSeq_tup, tupF_lst, ixM_lst, ixM_tup, ixM_scr, slM_lst, slM_tup, lenF_lst, lenF_tup, lenF_scr, cutL_to]
  rw [rws_take h k hw]; rfl
theorem c_law3e {z : Int} {f : Nat} {off : List Int} {x0 x1 x2 x4 x5 x6 x7 x8 x9 xa xd xe : Option D} (hz : (f : Int) = z) (hm : 0 ≤ m) : denE M (.fn .sum [.sl (.var 11) (some (.var 12)) (some (.bin .add (.var 12) (.var 3)))]) [x0, x1, x2, some (.int m), x4, x5, x6, x7, x8, x9, xa, some (.lst (off.map D.int)), some (.int z), xd, xe] = some (.int (((off.drop f).take m.toNat).sum)) := by
  have e1 : z + m = ((f + m.toNat : Nat) : Int) := by rw [Int.natCast_add, Int.toNat_of_nonneg hm, hz]
  have e2 : cutL (off.map D.int) (some z) (some (z + m)) = ((off.drop f).take m.toNat).map D.int := by
    rw [e1, ← hz, cutL_in, Nat.add_sub_cancel_left, ← List.map_drop, ← List.map_take]
  simp only [denE, denEs, denO, denC, denI, BO.f, CO.f, FN.f, rngF_1, rngF_2, setsE, bindT, wipeE, List.getElem?_cons_zero, List.getElem?_cons_succ, List.set_cons_zero, List.set_cons_succ, Option.join_some, Option.bind_some, Option.map_some, addD_int, subD_int, cmpD_int, eqM_int, neM_int, intF_int, asBl_bl, asInt_int, asSeq_lst, asSeq_tup, tupF_lst, ixM_lst, ixM_tup, ixM_scr, slM_lst, slM_tup, lenF_lst, lenF_tup, lenF_scr, e2, sumF_ints]
theorem l_law1 {a : Int} {wk : Nat} {cts : List Int} {x0 x1 x2 x4 x6 x7 xb xc xd xe : Option D} (hw0 : 0 < wk) (hw : wk ≤ 60) (hm : 0 ≤ m) (hm1 : m ≤ 12) (hl : cts.length ≤ 100000) :
    ∃ xb' xc' xd', exes M l_law_1 [x0, x1, x2, some (.int m), x4, some (.lst (rws h k 60)), x6, x7, some (.int wk), some (.lst (cts.map D.int)), some (.int a), xb, xc, xd, xe] =
      some (.nx [x0, x1, x2, some (.int m), x4, some (.lst (rws h k 60)), x6, x7, some (.int wk), some (.lst ((cts ++ (List.range wk).map fun f => cnt h k wk m.toNat a f).map D.int)), some (.int a), xb', xc', xd', xe]) := by
  have e1 : denE M (.bin .mul c_law_2 (.cst (.int 13))) [x0, x1, x2, some (.int m), x4, some (.lst (rws h k 60)), x6, x7, some (.int wk), some (.lst (cts.map D.int)), some (.int a), xb, xc, xd, xe] = some (.lst (((List.replicate 13 ((List.range wk).map (offs h k a))).flatten).map D.int)) := by
    have q : mulD (.lst (((List.range wk).map (offs h k a)).map D.int)) (.int 13) = some (.lst (((List.replicate 13 ((List.range wk).map (offs h k a))).flatten).map D.int)) := by
      have : (((List.replicate 13 ((List.range wk).map (offs h k a))).flatten).map D.int) = (List.replicate 13 (((List.range wk).map (offs h k a)).map D.int)).flatten := by
        rw [List.map_flatten, List.map_replicate]
      rw [this]
      refine if_pos (decide_eq_true ⟨by omega, by omega, ?_⟩)
      rw [List.length_map, List.length_map, List.length_range]
      exact Nat.le_trans (Nat.mul_le_mul_right _ hw) (by decide)
    simp only [denE, denEs, denO, denC, denI, BO.f, CO.f, FN.f, rngF_1, rngF_2, setsE, bindT, wipeE, List.getElem?_cons_zero, List.getElem?_cons_succ, List.set_cons_zero, List.set_cons_succ, Option.join_some, Option.bind_some, Option.map_some, addD_int, subD_int, cmpD_int, eqM_int, neM_int, intF_int, asBl_bl, asInt_int, asSeq_lst, asSeq_tup, tupF_lst, ixM_lst, ixM_tup, ixM_scr, slM_lst, slM_tup, lenF_lst, lenF_tup, lenF_scr, c_law2 hw, q]
  have ec : ∀ {y9 y12 : Option D}, denE M c_law_3 [x0, x1, x2, some (.int m), x4, some (.lst (rws h k 60)), x6, x7, some (.int wk), y9, some (.int a), some (.lst (((List.replicate 13 ((List.range wk).map (offs h k a))).flatten).map D.int)), y12, xd, xe] = some (.lst (((List.range wk).map fun f => cnt h k wk m.toNat a f).map D.int)) := by
    intro y9 y12
    rw [List.map_map]
    refine den_compA (φ := fun t : Nat => D.int t) (List.range wk) _ ?_ fun f hf => ⟨_, rfl, ?_⟩
    · simp only [denE, denEs, denO, denC, denI, BO.f, CO.f, FN.f, rngF_1, rngF_2, setsE, bindT, wipeE, List.getElem?_cons_zero, List.getElem?_cons_succ, List.set_cons_zero, List.set_cons_succ, Option.join_some, Option.bind_some, Option.map_some, addD_int, subD_int, cmpD_int, eqM_int, neM_int, intF_int, asBl_bl, asInt_int, asSeq_lst, asSeq_tup, tupF_lst, ixM_lst, ixM_tup, ixM_scr, slM_lst, slM_tup, lenF_lst, lenF_tup, lenF_scr, o_rng1 (i := (wk : Int)) (by omega) (by omega)]
      rw [Int.toNat_natCast]
    · refine (c_law3e (f := f) rfl hm).trans ?_
      have hf := List.mem_range.mp hf
      rw [rep_cut (offs h k a) hw0 (by omega)]
      show _ = some (D.int (cnt h k wk m.toNat a f))
      unfold cnt
      rw [← sum_if]
      rfl
  have e2 : denE M (.bin .add (.var 9) c_law_3) [x0, x1, x2, some (.int m), x4, some (.lst (rws h k 60)), x6, x7, some (.int wk), some (.lst (cts.map D.int)), some (.int a), some (.lst (((List.replicate 13 ((List.range wk).map (offs h k a))).flatten).map D.int)), xc, xd, xe] = some (.lst ((cts ++ (List.range wk).map fun f => cnt h k wk m.toNat a f).map D.int)) := by
    have q : addD (.lst (cts.map D.int)) (.lst (((List.range wk).map fun f => cnt h k wk m.toNat a f).map D.int)) = some (.lst ((cts ++ (List.range wk).map fun f => cnt h k wk m.toNat a f).map D.int)) := by
      rw [List.map_append]
      refine if_pos (szOk_ok ?_)
      rw [List.length_map, List.length_map, List.length_map, List.length_range]; omega
    simp only [denE, denEs, denO, denC, denI, BO.f, CO.f, FN.f, rngF_1, rngF_2, setsE, bindT, wipeE, List.getElem?_cons_zero, List.getElem?_cons_succ, List.set_cons_zero, List.set_cons_succ, Option.join_some, Option.bind_some, Option.map_some, addD_int, subD_int, cmpD_int, eqM_int, neM_int, intF_int, asBl_bl, asInt_int, asSeq_lst, asSeq_tup, tupF_lst, ixM_lst, ixM_tup, ixM_scr, slM_lst, slM_tup, lenF_lst, lenF_tup, lenF_scr, ec, q]
  exact ⟨_, _, _, x_set e1 (x_set e2 rfl)⟩
theorem c_law4e {z : Int} {x0 x1 x3 x5 x6 x7 x8 x9 xa xb xc xd : Option D} (hk : h - e = k) (h0 : 0 < h) (hh : h ≤ 30) (hk1 : k ≤ 1000) (hk0 : 0 ≤ k) : denE M (.bin .fdiv (.bin .mul (.var 14) (.bin .sub (.var 2) (.var 4))) (.var 2)) [x0, x1, some (.int h), x3, some (.int e), x5, x6, x7, x8, x9, xa, xb, xc, xd, some (.int z)] = some (.int (z * k / h)) := by
  simp only [denE, denEs, denO, denC, denI, BO.f, CO.f, FN.f, rngF_1, rngF_2, setsE, bindT, wipeE, List.getElem?_cons_zero, List.getElem?_cons_succ, List.set_cons_zero, List.set_cons_succ, Option.join_some, Option.bind_some, Option.map_some, addD_int, subD_int, cmpD_int, eqM_int, neM_int, intF_int, asBl_bl, asInt_int, asSeq_lst, asSeq_tup, tupF_lst, ixM_lst, ixM_tup, ixM_scr, slM_lst, slM_tup, lenF_lst, lenF_tup, lenF_scr, hk, o_mulR (i := z) (j := k) (by omega) (by omega), o_div h0 (by omega : h < 1073741824)]
end
theorem r_law1 {wk : Nat} {x0 x1 x4 x6 x7 xb xc xd xe : Option D} {h k m : Int} {M : Mn} (h0 : 0 < h) (hh : h ≤ 30) (hw0 : 0 < wk) (hw : wk ≤ 30) (hm : 0 ≤ m) (hm1 : m ≤ 12) :
    ∃ ya yb yc yd, forM (.nm 10) (exes M l_law_1) ((List.range h.toNat).map fun i : Nat => D.int i) [x0, x1, some (.int h), some (.int m), x4, some (.lst (rws h k 60)), x6, x7, some (.int wk), some (.lst []), none, xb, xc, xd, xe] =
      some (.nx [x0, x1, some (.int h), some (.int m), x4, some (.lst (rws h k 60)), x6, x7, some (.int wk), some (.lst ((fnd h k wk m.toNat).map D.int)), ya, yb, yc, yd, xe]) := by
  obtain ⟨ρ', ef, ya, yb, yc, yd, rfl⟩ := forM_all (T := .nm 10) (b := exes M l_law_1) (φ := fun i : Nat => D.int i) (List.range h.toNat)
    (fun i ρ => ∃ ya yb yc yd, ρ = [x0, x1, some (.int h), some (.int m), x4, some (.lst (rws h k 60)), x6, x7, some (.int wk), some (.lst (((List.range i).flatMap fun a : Nat => (List.range wk).map fun f => cnt h k wk m.toNat (a : Int) f).map D.int)), ya, yb, yc, yd, xe])
    (ρ := [x0, x1, some (.int h), some (.int m), x4, some (.lst (rws h k 60)), x6, x7, some (.int wk), some (.lst []), none, xb, xc, xd, xe]) ⟨none, xb, xc, xd, rfl⟩ fun i f ρ hi hI => by
      obtain ⟨ya, yb, yc, yd, rfl⟩ := hI
      obtain ⟨hi1, hi2⟩ := List.getElem?_eq_some_iff.mp hi
      rw [List.getElem_range] at hi2
      subst hi2
      rw [List.length_range] at hi1
      obtain ⟨xb', xc', xd', e1⟩ := l_law1 (M := M) (h := h) (k := k) (m := m) (a := (i : Int)) (wk := wk) (x0 := x0) (x1 := x1) (x2 := some (.int h)) (x4 := x4) (x6 := x6) (x7 := x7) (xb := yb) (xc := yc) (xd := yd) (xe := xe)
        (cts := (List.range i).flatMap fun a : Nat => (List.range wk).map fun f => cnt h k wk m.toNat (a : Int) f) hw0 (by omega) hm hm1 (by
        have : ∀ l : List Nat, (l.flatMap fun a : Nat => (List.range wk).map fun f => cnt h k wk m.toNat (a : Int) f).length = l.length * wk := by
          intro l
          induction l with
          | nil => simp
          | cons a l ih => rw [List.flatMap_cons, List.length_append, ih, List.length_map, List.length_range, List.length_cons, Nat.succ_mul]; omega
        rw [this, List.length_range]
        have : i * wk ≤ 30 * 30 := Nat.mul_le_mul (by omega) (by omega)
        omega)
      refine ⟨_, _, rfl, .inl e1, some (.int i), xb', xc', xd', ?_⟩
      rw [List.range_succ, List.flatMap_append]
      rw [List.flatMap_cons, List.flatMap_nil, List.append_nil]
  rw [List.length_range] at ef
  exact ⟨ya, yb, yc, yd, ef⟩
/-- THE LAW -/
theorem law_ok (ns : List Int) (_ : ns.length ≤ 63) : run (irs tx.T) tx.γ 40 9 [.scr (ns.map D.int)] = some (.bl true) := by
  obtain ⟨ds, hds, hdraw⟩ := r_draws (T := TT) (γ := tx.γ) (n := 38) (j := 8) rfl (ns.getD 0 0) 40 (by omega)
  have hcell := r_cell (T := TT) (γ := tx.γ) (n := 38) (j := 7) rfl ns 0
  have at_ : ∀ i : Nat, i < 40 → atI (ds.map D.int) (i : Int) = some (.int (ds.getD i 0)) := fun i hi => by
    rw [PV.atI_nat, List.getElem?_map, List.getD_eq_getElem?_getD, List.getElem?_eq_getElem (by omega)]; rfl
  obtain ⟨a0, ha0⟩ : ∃ a : Int, ds.getD 0 0 = a := ⟨_, rfl⟩
  obtain ⟨a1, ha1⟩ : ∃ a : Int, ds.getD 1 0 = a := ⟨_, rfl⟩
  obtain ⟨a2, ha2⟩ : ∃ a : Int, ds.getD 2 0 = a := ⟨_, rfl⟩
  have at0 : atI (ds.map D.int) 0 = some (.int a0) := by rw [← ha0]; exact at_ 0 (by omega)
  have at1 : atI (ds.map D.int) 1 = some (.int a1) := by rw [← ha1]; exact at_ 1 (by omega)
  have at2 : atI (ds.map D.int) 2 = some (.int a2) := by rw [← ha2]; exact at_ 2 (by omega)
  obtain ⟨h, hh⟩ : ∃ h : Int, a0 % 30 + 1 = h := ⟨_, rfl⟩
  obtain ⟨m, hm⟩ : ∃ m : Int, a1 % 12 + 1 = m := ⟨_, rfl⟩
  obtain ⟨e, he⟩ : ∃ e : Int, a2 % (min h 12 + 1) = e := ⟨_, rfl⟩
  obtain ⟨k, hk⟩ : ∃ k : Int, h - e = k := ⟨_, rfl⟩
  have h0 : 0 < h := by omega
  have h1 : h ≤ 30 := by omega
  have m0 : 0 ≤ m := by omega
  have m1 : m ≤ 12 := by omega
  have mp : 0 < min h 12 + 1 := by omega
  have e0 : 0 ≤ e := by rw [← he]; exact Int.emod_nonneg _ (by omega)
  have e1 : e ≤ h := by have := Int.emod_lt_of_pos a2 mp; omega
  have k0 : 0 ≤ k := by omega
  have k1 : k ≤ 1000 := by omega
  have k2 : k ≤ h := by omega
  obtain ⟨wk, hwk⟩ : ∃ wk : Nat, h.toNat / Nat.gcd h.toNat k.toNat = wk := ⟨_, rfl⟩
  have t1 : (h.toNat : Int) = h := Int.toNat_of_nonneg (by omega)
  have t2 : (k.toNat : Int) = k := Int.toNat_of_nonneg k0
  have t3 : (m.toNat : Int) = m := Int.toNat_of_nonneg m0
  have w0 : 0 < wk := (first_wk h0 h1 k0 hwk rfl).2
  have w1 : wk ≤ 30 := by
    have : wk ≤ h.toNat := by rw [← hwk]; exact Nat.div_le_self _ _
    omega
  have hd : h ∣ (wk : Int) * k := by
    have := Int.natCast_dvd_natCast.mpr (wk_dvd h.toNat k.toNat)
    rw [Int.natCast_mul, hwk, t1, t2] at this
    exact this
  let M : Mn := ⟨run TT tx.γ 39, tx.γ⟩
  have hmin : minI (fnd h k wk m.toNat) = m * k / h := by
    have := fnd_min (m := m.toNat) h0 k0 k2 w0 hd
    rw [t3] at this
    exact this
  have o1 : run TT tx.γ 39 3 [.int h, .int e, .int 60] = some (.tup (rws h k 60)) := r_off (m := 60) hk h0 k1 k0 (by omega) (by omega)
  have o2 : run TT tx.γ 39 3 [.int h, .int e, .int m] = some (.tup (rws h k m.toNat)) := r_off hk h0 k1 k0 (by omega) m0
  have o4 : run TT tx.γ 39 4 [.int h, .int e] = some (.int wk) := by
    rw [← hwk]; exact r_weeks (n := 37) hk h0 (by omega) k1 k0
  have o5 : run TT tx.γ 39 5 [.int h, .int e, .int m] = some (.int (minI (fnd h k wk m.toNat))) := by
    have := r_free (γ := tx.γ) (n := 35) hk h0 h1 k1 k0 (by omega : m ≤ 1000) m0
    rw [hwk] at this
    exact this
  have o6 : run TT tx.γ 39 6 [.int h, .int e] = some (.tup ((List.range 6).map fun s : Nat => .int ((1 + (s : Int)) * k / h))) := r_can (n := 38) rfl hk h0 h1 k1 k0
  have g1 : denE M (.call 8 [.call 7 [.var 0, .cst (.int 0)], .cst (.int 40)]) [some (.scr (ns.map D.int)), none, none, none, none, none, none, none, none, none, none, none, none, none, none] = some (.lst (ds.map D.int)) := by
    have hc : M.φ 7 [.scr (ns.map D.int), .int 0] = some (.int (ns.getD 0 0)) := hcell
    have hd : M.φ 8 [.int (ns.getD 0 0), .int 40] = some (.lst (ds.map D.int)) := hdraw
    simp only [denE, denEs, denO, denC, denI, BO.f, CO.f, FN.f, rngF_1, rngF_2, setsE, bindT, wipeE, List.getElem?_cons_zero, List.getElem?_cons_succ, List.set_cons_zero, List.set_cons_succ, Option.join_some, Option.bind_some, Option.map_some, addD_int, subD_int, cmpD_int, eqM_int, neM_int, intF_int, asBl_bl, asInt_int, asSeq_lst, asSeq_tup, tupF_lst, ixM_lst, ixM_tup, ixM_scr, slM_lst, slM_tup, lenF_lst, lenF_tup, lenF_scr, hc, hd]
  have g2 : denEs M [.bin .add (.bin .mod (.fn .int [.ix (.var 1) (.cst (.int 0))]) (.cst (.int 30))) (.cst (.int 1)), .bin .add (.bin .mod (.fn .int [.ix (.var 1) (.cst (.int 1))]) (.cst (.int 12))) (.cst (.int 1))] [some (.scr (ns.map D.int)), some (.lst (ds.map D.int)), none, none, none, none, none, none, none, none, none, none, none, none, none] = some [.int h, .int m] := by
    simp only [denE, denEs, denO, denC, denI, BO.f, CO.f, FN.f, rngF_1, rngF_2, setsE, bindT, wipeE, List.getElem?_cons_zero, List.getElem?_cons_succ, List.set_cons_zero, List.set_cons_succ, Option.join_some, Option.bind_some, Option.map_some, addD_int, subD_int, cmpD_int, eqM_int, neM_int, intF_int, asBl_bl, asInt_int, asSeq_lst, asSeq_tup, tupF_lst, ixM_lst, ixM_tup, ixM_scr, slM_lst, slM_tup, lenF_lst, lenF_tup, lenF_scr, at0, at1, o_mod (by omega : (0 : Int) < 30), o_mod (by omega : (0 : Int) < 12), hh, hm]
  have g3 : denE M (.bin .mod (.fn .int [.ix (.var 1) (.cst (.int 2))]) (.bin .add (.fn .min [.var 2, .cst (.int 12)]) (.cst (.int 1)))) [some (.scr (ns.map D.int)), some (.lst (ds.map D.int)), some (.int h), some (.int m), none, none, none, none, none, none, none, none, none, none, none] = some (.int e) := by
    have q : minF [.int h, .int 12] = some (.int (min h 12)) := rfl
    simp only [denE, denEs, denO, denC, denI, BO.f, CO.f, FN.f, rngF_1, rngF_2, setsE, bindT, wipeE, List.getElem?_cons_zero, List.getElem?_cons_succ, List.set_cons_zero, List.set_cons_succ, Option.join_some, Option.bind_some, Option.map_some, addD_int, subD_int, cmpD_int, eqM_int, neM_int, intF_int, asBl_bl, asInt_int, asSeq_lst, asSeq_tup, tupF_lst, ixM_lst, ixM_tup, ixM_scr, slM_lst, slM_tup, lenF_lst, lenF_tup, lenF_scr, at2, q, o_mod mp, he]
  obtain ⟨f6, x7, g5⟩ := loop0 (M := M) (x0 := some (.scr (ns.map D.int))) (x1 := some (.lst (ds.map D.int))) (x3 := some (.int m)) (x8 := none) (x9 := none) (xa := none) (xb := none) (xc := none) (xd := none) (xe := none) hk h0 k1 k0
  have g6 : denE M (.or_ (.cmp .ne (.call 3 [.var 2, .var 4, .cst (.int 60)]) (.fn .tuple [.var 5])) (.cmp .ne (.call 3 [.var 2, .var 4, .var 3]) (.fn .tuple [.sl (.var 5) none (some (.var 3))]))) [some (.scr (ns.map D.int)), some (.lst (ds.map D.int)), some (.int h), some (.int m), some (.int e), some (.lst (rws h k 60)), f6, x7, none, none, none, none, none, none, none] = some (.bl false) := by
    have c1 : cutL (rws h k 60) none (some m) = rws h k m.toNat := by rw [cutL_toI _ m0, rws_take h k (by omega)]
    have o1' : M.φ 3 [.int h, .int e, .int 60] = some (.tup (rws h k 60)) := o1
    have o2' : M.φ 3 [.int h, .int e, .int m] = some (.tup (rws h k m.toNat)) := o2
    simp only [denE, denEs, denO, denC, denI, BO.f, CO.f, FN.f, rngF_1, rngF_2, setsE, bindT, wipeE, List.getElem?_cons_zero, List.getElem?_cons_succ, List.set_cons_zero, List.set_cons_succ, Option.join_some, Option.bind_some, Option.map_some, addD_int, subD_int, cmpD_int, eqM_int, neM_int, intF_int, asBl_bl, asInt_int, asSeq_lst, asSeq_tup, tupF_lst, ixM_lst, ixM_tup, ixM_scr, slM_lst, slM_tup, lenF_lst, lenF_tup, lenF_scr, o1', o2', c1, neM_self (rws_has h k 60), neM_self (rws_has h k m.toNat)]
    rfl
  have g8 := e_weeks (M := M) (x0 := some (.scr (ns.map D.int))) (x1 := some (.lst (ds.map D.int))) (x3 := some (.int m)) (x5 := some (.lst (rws h k 60))) (x6 := f6) (x7 := x7) (x8 := none) (x9 := none) (xa := none) (xb := none) (xc := none) (xd := none) (xe := none) hk h0 h1 k1 k0 hwk
  have g9 : denE M (.cmp .ne (.call 4 [.var 2, .var 4]) (.var 8)) [some (.scr (ns.map D.int)), some (.lst (ds.map D.int)), some (.int h), some (.int m), some (.int e), some (.lst (rws h k 60)), f6, x7, some (.int wk), none, none, none, none, none, none] = some (.bl false) := by
    have o4' : M.φ 4 [.int h, .int e] = some (.int wk) := o4
    simp only [denE, denEs, denO, denC, denI, BO.f, CO.f, FN.f, rngF_1, rngF_2, setsE, bindT, wipeE, List.getElem?_cons_zero, List.getElem?_cons_succ, List.set_cons_zero, List.set_cons_succ, Option.join_some, Option.bind_some, Option.map_some, addD_int, subD_int, cmpD_int, eqM_int, neM_int, intF_int, asBl_bl, asInt_int, asSeq_lst, asSeq_tup, tupF_lst, ixM_lst, ixM_tup, ixM_scr, slM_lst, slM_tup, lenF_lst, lenF_tup, lenF_scr, o4']
    simp
  obtain ⟨ya, yb, yc, yd, g10⟩ := r_law1 (M := M) (wk := wk) (h := h) (k := k) (m := m) (x0 := some (.scr (ns.map D.int))) (x1 := some (.lst (ds.map D.int))) (x4 := some (.int e)) (x6 := f6) (x7 := x7) (xb := none) (xc := none) (xd := none) (xe := none) h0 h1 w0 w1 m0 m1
  have g11 : denE M (.or_ (.cmp .ne (.call 5 [.var 2, .var 4, .var 3]) (.fn .min [.var 9])) (.cmp .ne (.fn .min [.var 9]) (.bin .fdiv (.bin .mul (.var 3) (.bin .sub (.var 2) (.var 4))) (.var 2)))) [some (.scr (ns.map D.int)), some (.lst (ds.map D.int)), some (.int h), some (.int m), some (.int e), some (.lst (rws h k 60)), f6, x7, some (.int wk), some (.lst ((fnd h k wk m.toNat).map D.int)), ya, yb, yc, yd, none] = some (.bl false) := by
    have o5' : M.φ 5 [.int h, .int e, .int m] = some (.int (minI (fnd h k wk m.toNat))) := o5
    simp only [denE, denEs, denO, denC, denI, BO.f, CO.f, FN.f, rngF_1, rngF_2, setsE, bindT, wipeE, List.getElem?_cons_zero, List.getElem?_cons_succ, List.set_cons_zero, List.set_cons_succ, Option.join_some, Option.bind_some, Option.map_some, addD_int, subD_int, cmpD_int, eqM_int, neM_int, intF_int, asBl_bl, asInt_int, asSeq_lst, asSeq_tup, tupF_lst, ixM_lst, ixM_tup, ixM_scr, slM_lst, slM_tup, lenF_lst, lenF_tup, lenF_scr, o5', minF_ints (fnd_ne (k := k) (m := m.toNat) h0 w0), hk, o_mulR (i := m) (j := k) (by omega) (by omega), o_div (i := m * k) h0 (by omega), hmin]
    simp
  have g12 : denE M (.cmp .eq (.call 6 [.var 2, .var 4]) (.fn .tuple [c_law_4])) [some (.scr (ns.map D.int)), some (.lst (ds.map D.int)), some (.int h), some (.int m), some (.int e), some (.lst (rws h k 60)), f6, x7, some (.int wk), some (.lst ((fnd h k wk m.toNat).map D.int)), ya, yb, yc, yd, none] = some (.bl true) := by
    have o6' : M.φ 6 [.int h, .int e] = some (.tup ((List.range 6).map fun s : Nat => .int ((1 + (s : Int)) * k / h))) := o6
    have ec : denE M c_law_4 [some (.scr (ns.map D.int)), some (.lst (ds.map D.int)), some (.int h), some (.int m), some (.int e), some (.lst (rws h k 60)), f6, x7, some (.int wk), some (.lst ((fnd h k wk m.toNat).map D.int)), ya, yb, yc, yd, none] = some (.lst ((List.range 6).map fun s : Nat => .int ((1 + (s : Int)) * k / h))) := by
      refine den_compA (φ := fun t : Nat => D.int (1 + (t : Int))) (List.range 6) _ (o_rng2 (i := 1) (j := 7) (by omega) (by omega) (by omega) (by omega) (by omega)) fun s _ => ⟨_, rfl, ?_⟩
      exact c_law4e hk h0 h1 k1 k0
    have hs : D.has 1 (.tup ((List.range 6).map fun s : Nat => D.int ((1 + (s : Int)) * k / h))) = true := by
      show D.hasL 0 _ = true
      rw [hasL_iff]
      intro d hd
      obtain ⟨w, _, rfl⟩ := List.mem_map.mp hd
      rfl
    simp only [denE, denEs, denO, denC, denI, BO.f, CO.f, FN.f, rngF_1, rngF_2, setsE, bindT, wipeE, List.getElem?_cons_zero, List.getElem?_cons_succ, List.set_cons_zero, List.set_cons_succ, Option.join_some, Option.bind_some, Option.map_some, addD_int, subD_int, cmpD_int, eqM_int, neM_int, intF_int, asBl_bl, asInt_int, asSeq_lst, asSeq_tup, tupF_lst, ixM_lst, ixM_tup, ixM_scr, slM_lst, slM_tup, lenF_lst, lenF_tup, lenF_scr, o6', ec, eqM_self hs]
  refine run_at (ρ := [some (.scr (ns.map D.int)), none, none, none, none, none, none, none, none, none, none, none, none, none, none]) (out := .rt (.bl true)) (f := f_law) rfl rfl rfl ?_ rfl
  refine x_set g1 (x_mul g2 (x_set g3 (x_mul (ds := [.lst [], .int 0]) rfl (x_for ?_ g5 (x_skip g6 (x_set g8 (x_skip g9 (x_set (d := .lst []) rfl (x_for ?_ g10 (x_skip g11 (x_ret g12)))))))))))
  · exact o_rng1 (i := 60) (by omega) (by omega)
  · simp only [denE, denEs, denO, denC, denI, BO.f, CO.f, FN.f, rngF_1, rngF_2, setsE, bindT, wipeE, List.getElem?_cons_zero, List.getElem?_cons_succ, List.set_cons_zero, List.set_cons_succ, Option.join_some, Option.bind_some, Option.map_some, addD_int, subD_int, cmpD_int, eqM_int, neM_int, intF_int, asBl_bl, asInt_int, asSeq_lst, asSeq_tup, tupF_lst, ixM_lst, ixM_tup, ixM_scr, slM_lst, slM_tup, lenF_lst, lenF_tup, lenF_scr, o_rng1 (i := h) (by omega) (by omega)]
end K03


open PySem PySem.W PySem.Calls PyProof.Rows in
theorem PySem.Challenge.cw_weekendsoff_k03_whole_rings_of_weekends_holds : PySem.Challenge.rw_weekendsoff_k03_whole_rings_of_weekends.Holds := by
  w_on
  o_law
  refine HandSHeadRun.head_any (H := K03.tx.hook 5) (ob := K03.tx.ob 5) (q := view K03.R.prog [13]) (r := K03.R) (M := 4000) (kwd := []) (loose := K03.loose)
    (d := HandSHeadRun.topDef K03.R.prog 13) (K03.tx.ob_eq 5) (by kernel_rfl)
    (fun s => by kernel_rfl) K03.hrun (by kernel_rfl)
    (by kernel_rfl) (by kernel_rfl) (by rfl)
    (by first | assumption | decide +kernel) (by decide +kernel)
    ⟨rfl, rfl, rfl, rfl, rfl, by decide +kernel⟩ ?hw ?hc
  case hw => w_witness2
  case hc =>
    refine L2.walk_ofE (CX := L2.CX0) (k := 40) (n := 63) (x := "script")
      (l := PySem.Challenge.rw_weekendsoff_k03_whole_rings_of_weekends) rfl (by decide) (by kernel_rfl)
      ⟨rfl, by decide, by decide⟩ ?F (fun _ _ _ _ z => z)
    intro w mg fa h Y G hm
    obtain ⟨K, X, c⟩ := Y
    have hn : (HandSHeadRun.topDef K03.R.prog 13).name = ("law" : PySem.Str) := by kernel_rfl
    have hm' : mg ("law" : PySem.Str) = some (.ref fa) := by
      rw [← hn]; exact hm
    exact PV.law_facts (dl := K03.d_law) (j := 9) X c G hm' K03.tx_binds K03.tx_good rfl rfl rfl rfl K03.law_ok

