import PyProof.Rows.All
import Wide.All
import OpenK.AllK
import Wide.FinOn
import HandS.ForMost
import HandS.Gcd
import HandS.Wide
import HandS.IsInst
import HandS.Deep
import HandS.Defaults
import HandS.Head0
import HandS.Head1
import HandS.Head2
import HandS.Head3
import HandS.HeadEnd
import HandS.HeadHook1
import HandS.HeadHook2
import PySem.Challenge.RW_planelaidout_k76_images_of_segments
set_option Elab.async false
set_option linter.all false
set_option maxRecDepth 100000
set_option maxHeartbeats 0
/-! MiniPy, part 1: plain values, how they stand in the abstract heap, states. -/
namespace MP
open PySem PySem.Spec PyProof.Rows L2

/-- plain data that stays as it is -/
inductive D where
  | non | bl (b : Bool) | int (i : Int) | str (x : Str) | tup (l : List D) | lst (l : List D)
/-- a value at a place: data; an own list of data; an own list of values -/
inductive Val where
  | im (d : D) | ml (l : List D) | mm (l : List Val)

mutual
def frz : Val → D
  | .im d => d
  | .ml l => .lst l
  | .mm l => .lst (frzs l)
def frzs : List Val → List D
  | [] => []
  | d :: ds => frz d :: frzs ds
end

/-- a list that the kept part of the heap holds -/
def KL (K : PySem.W.Frag) (a : Addr) (xs : List V) : Prop := SqL K (fun _ => none) a xs
theorem KL.sq {K : PySem.W.Frag} {H : Hp} {a : Addr} {xs : List V} (h : KL K a xs) : SqL K H a xs := by
  rcases h with (h | ⟨o, h⟩) | h
  · cases h
  · cases h
  · exact .inr h
theorem KL.of {K : PySem.W.Frag} {H : Hp} {a : Addr} {xs : List V} (h : SqL K H a xs) : Rd H a (.lst xs) ∨ KL K a xs := by
  rcases h with h | h
  · exact .inl h
  · exact .inr (.inr h)
mutual
/-- the value v, in the abstract heap H, is the data d; S: the lists that may be shared -/
def RepD (K : PySem.W.Frag) (H : Hp) (S : Addr → Prop) : D → V → Prop
  | .non, v => v = .non
  | .bl b, v => v = .bl b
  | .int i, v => v = .int i
  | .str x, v => v = .str x
  | .tup l, v => ∃ a vs, v = .ref a ∧ SqT K H a vs ∧ RepDs K H S l vs
  | .lst l, v => ∃ a vs, v = .ref a ∧ (S a ∧ Rd H a (.lst vs) ∨ KL K a vs) ∧ RepDs K H S l vs
def RepDs (K : PySem.W.Frag) (H : Hp) (S : Addr → Prop) : List D → List V → Prop
  | [], vs => vs = []
  | d :: ds, vs => ∃ v vr, vs = v :: vr ∧ RepD K H S d v ∧ RepDs K H S ds vr
end
mutual
/-- .. is the value d; fp: the lists that are its own -/
def Rep (K : PySem.W.Frag) (H : Hp) (S : Addr → Prop) : Val → V → List Addr → Prop
  | .im d, v, fp => RepD K H S d v ∧ fp = []
  | .ml l, v, fp => ∃ a vs, v = .ref a ∧ H a = some (.lst vs) ∧ RepDs K H S l vs ∧ fp = [a]
  | .mm l, v, fp => ∃ a vs f, v = .ref a ∧ H a = some (.lst vs) ∧ Reps K H S l vs f ∧ fp = a :: f
def Reps (K : PySem.W.Frag) (H : Hp) (S : Addr → Prop) : List Val → List V → List Addr → Prop
  | [], vs, fp => vs = [] ∧ fp = []
  | d :: ds, vs, fp => ∃ v vr f1 f2, vs = v :: vr ∧ Rep K H S d v f1 ∧ Reps K H S ds vr f2 ∧ fp = f1 ++ f2
end

section
variable {K : PySem.W.Frag} {H H' : Hp} {S S' : Addr → Prop}

mutual
theorem RepD.mono (hT : ∀ a xs, SqT K H a xs → SqT K H' a xs) (hL : ∀ a xs, S a → Rd H a (.lst xs) → S' a ∧ Rd H' a (.lst xs)) : ∀ (d : D) (v : V), RepD K H S d v → RepD K H' S' d v
  | .non, _, h => h
  | .bl _, _, h => h
  | .int _, _, h => h
  | .str _, _, h => h
  | .tup l, v, h => by
    obtain ⟨a, vs, e, h1, h2⟩ := h
    exact ⟨a, vs, e, hT _ _ h1, RepDs.mono hT hL l vs h2⟩
  | .lst l, v, h => by
    obtain ⟨a, vs, e, h1, h3⟩ := h
    exact ⟨a, vs, e, h1.imp_left fun z => hL a vs z.1 z.2, RepDs.mono hT hL l vs h3⟩
theorem RepDs.mono (hT : ∀ a xs, SqT K H a xs → SqT K H' a xs) (hL : ∀ a xs, S a → Rd H a (.lst xs) → S' a ∧ Rd H' a (.lst xs)) : ∀ (l : List D) (vs : List V), RepDs K H S l vs → RepDs K H' S' l vs
  | [], _, h => h
  | d :: ds, vs, h => by
    obtain ⟨v, vr, e, h1, h2⟩ := h
    exact ⟨v, vr, e, RepD.mono hT hL d v h1, RepDs.mono hT hL ds vr h2⟩
end
mutual
theorem Rep.mono (hT : ∀ a xs, SqT K H a xs → SqT K H' a xs) (hL : ∀ a xs, S a → Rd H a (.lst xs) → S' a ∧ Rd H' a (.lst xs)) :
    ∀ (d : Val) (v : V) (fp : List Addr), (∀ a ∈ fp, ∀ xs, H a = some (.lst xs) → H' a = some (.lst xs)) → Rep K H S d v fp → Rep K H' S' d v fp
  | .im d, _, _, _, h => ⟨RepD.mono hT hL d _ h.1, h.2⟩
  | .ml l, v, fp, hO, h => by
    obtain ⟨a, vs, e, h1, h2, rfl⟩ := h
    exact ⟨a, vs, e, hO a (List.mem_cons_self ..) _ h1, RepDs.mono hT hL l vs h2, rfl⟩
  | .mm l, v, fp, hO, h => by
    obtain ⟨a, vs, f, e, h1, h2, rfl⟩ := h
    exact ⟨a, vs, f, e, hO a (List.mem_cons_self ..) _ h1, Reps.mono hT hL l vs f (fun b hb => hO b (List.mem_cons_of_mem _ hb)) h2, rfl⟩
theorem Reps.mono (hT : ∀ a xs, SqT K H a xs → SqT K H' a xs) (hL : ∀ a xs, S a → Rd H a (.lst xs) → S' a ∧ Rd H' a (.lst xs)) :
    ∀ (l : List Val) (vs : List V) (fp : List Addr), (∀ a ∈ fp, ∀ xs, H a = some (.lst xs) → H' a = some (.lst xs)) → Reps K H S l vs fp → Reps K H' S' l vs fp
  | [], _, _, _, h => h
  | d :: ds, vs, fp, hO, h => by
    obtain ⟨v, vr, f1, f2, e, h1, h2, rfl⟩ := h
    exact ⟨v, vr, f1, f2, e, Rep.mono hT hL d v f1 (fun b hb => hO b (List.mem_append_left _ hb)) h1, Reps.mono hT hL ds vr f2 (fun b hb => hO b (List.mem_append_right _ hb)) h2, rfl⟩
end
mutual
/-- every own list is tracked -/
theorem Rep.own : ∀ (d : Val) (v : V) (fp : List Addr), Rep K H S d v fp → ∀ a ∈ fp, ∃ xs, H a = some (.lst xs)
  | .im _, _, _, h, a, ha => by rw [h.2] at ha; cases ha
  | .ml l, v, fp, h, a, ha => by
    obtain ⟨b, vs, e, h1, h2, rfl⟩ := h
    rw [List.mem_singleton] at ha
    subst ha
    exact ⟨_, h1⟩
  | .mm l, v, fp, h, a, ha => by
    obtain ⟨b, vs, f, e, h1, h2, rfl⟩ := h
    rcases List.mem_cons.mp ha with rfl | ha
    · exact ⟨_, h1⟩
    · exact Reps.own l vs f h2 a ha
theorem Reps.own : ∀ (l : List Val) (vs : List V) (fp : List Addr), Reps K H S l vs fp → ∀ a ∈ fp, ∃ xs, H a = some (.lst xs)
  | [], _, _, h, a, ha => by rw [h.2] at ha; cases ha
  | d :: ds, vs, fp, h, a, ha => by
    obtain ⟨v, vr, f1, f2, e, h1, h2, rfl⟩ := h
    rcases List.mem_append.mp ha with ha | ha
    · exact Rep.own d v f1 h1 a ha
    · exact Reps.own ds vr f2 h2 a ha
end
theorem keepT : ∀ (a : Addr) (xs : List V), SqT K H a xs → SqT K H a xs := fun _ _ z => z
mutual
/-- what is one's own becomes shared -/
theorem Rep.frz : ∀ (d : Val) (v : V) (fp : List Addr), (∀ a, S a → S' a) → (∀ a ∈ fp, S' a) → Rep K H S d v fp → RepD K H S' (frz d) v
  | .im d, v, fp, m, _, h => RepD.mono keepT (fun a _ s z => ⟨m a s, z⟩) d v h.1
  | .ml l, v, fp, m, hf, h => by
    obtain ⟨a, vs, e, h1, h2, rfl⟩ := h
    exact ⟨a, vs, e, .inl ⟨hf a (List.mem_cons_self ..), .inl h1⟩, RepDs.mono keepT (fun a _ s z => ⟨m a s, z⟩) l vs h2⟩
  | .mm l, v, fp, m, hf, h => by
    obtain ⟨a, vs, f, e, h1, h2, rfl⟩ := h
    show RepD K H S' (.lst (frzs l)) v
    exact ⟨a, vs, e, .inl ⟨hf a (List.mem_cons_self ..), .inl h1⟩, Reps.frz l vs f m (fun b hb => hf b (List.mem_cons_of_mem _ hb)) h2⟩
theorem Reps.frz : ∀ (l : List Val) (vs : List V) (fp : List Addr), (∀ a, S a → S' a) → (∀ a ∈ fp, S' a) → Reps K H S l vs fp → RepDs K H S' (frzs l) vs
  | [], _, _, _, _, h => h.1
  | d :: ds, vs, fp, m, hf, h => by
    obtain ⟨v, vr, f1, f2, e, h1, h2, rfl⟩ := h
    exact ⟨v, vr, e, Rep.frz d v f1 m (fun b hb => hf b (List.mem_append_left _ hb)) h1, Reps.frz ds vr f2 m (fun b hb => hf b (List.mem_append_right _ hb)) h2⟩
end
theorem RepDs.length : ∀ {l : List D} {vs : List V}, RepDs K H S l vs → vs.length = l.length
  | [], _, h => by rw [show _ = _ from h]; rfl
  | d :: ds, vs, h => by
    obtain ⟨v, vr, rfl, h1, h2⟩ := h
    rw [List.length_cons, List.length_cons, RepDs.length h2]
theorem Reps.length : ∀ {l : List Val} {vs : List V} {fp : List Addr}, Reps K H S l vs fp → vs.length = l.length
  | [], _, _, h => by rw [h.1]; rfl
  | d :: ds, vs, fp, h => by
    obtain ⟨v, vr, f1, f2, rfl, h1, h2, rfl⟩ := h
    rw [List.length_cons, List.length_cons, Reps.length h2]
/-- an item -/
theorem RepDs.get : ∀ {l : List D} {vs : List V} {i : Nat} {d : D}, RepDs K H S l vs → l[i]? = some d → ∃ v, vs[i]? = some v ∧ RepD K H S d v
  | [], _, _, _, _, e => by simp at e
  | d :: ds, vs, 0, d', h, e => by
    obtain ⟨v, vr, rfl, h1, h2⟩ := h
    simp at e; subst e
    exact ⟨v, rfl, h1⟩
  | d :: ds, vs, i + 1, d', h, e => by
    obtain ⟨v, vr, rfl, h1, h2⟩ := h
    obtain ⟨v', e', r⟩ := RepDs.get (i := i) h2 (by simpa using e)
    exact ⟨v', by simpa using e', r⟩
theorem RepDs.append : ∀ {l : List D} {vs : List V} {l2 : List D} {vs2 : List V}, RepDs K H S l vs → RepDs K H S l2 vs2 → RepDs K H S (l ++ l2) (vs ++ vs2)
  | [], _, _, _, h, h' => by rw [show _ = _ from h]; exact h'
  | d :: ds, vs, _, _, h, h' => by
    obtain ⟨v, vr, rfl, h1, h2⟩ := h
    exact ⟨v, vr ++ _, rfl, h1, RepDs.append h2 h'⟩
theorem RepDs.take : ∀ {l : List D} {vs : List V} (n : Nat), RepDs K H S l vs → RepDs K H S (l.take n) (vs.take n)
  | [], _, n, h => by rw [show _ = _ from h]; simp [RepDs]
  | d :: ds, vs, 0, h => by simp [RepDs]
  | d :: ds, vs, n + 1, h => by
    obtain ⟨v, vr, rfl, h1, h2⟩ := h
    exact ⟨v, _, rfl, h1, RepDs.take n h2⟩
theorem RepDs.drop : ∀ {l : List D} {vs : List V} (n : Nat), RepDs K H S l vs → RepDs K H S (l.drop n) (vs.drop n)
  | [], _, n, h => by rw [show _ = _ from h]; simp [RepDs]
  | d :: ds, vs, 0, h => h
  | d :: ds, vs, n + 1, h => by
    obtain ⟨v, vr, rfl, h1, h2⟩ := h
    exact RepDs.drop n h2
theorem RepDs.reverse : ∀ {l : List D} {vs : List V}, RepDs K H S l vs → RepDs K H S l.reverse vs.reverse
  | [], _, h => by rw [show _ = _ from h]; exact rfl
  | d :: ds, vs, h => by
    obtain ⟨v, vr, rfl, h1, h2⟩ := h
    rw [List.reverse_cons, List.reverse_cons]
    exact (RepDs.reverse h2).append ⟨v, [], rfl, h1, rfl⟩
theorem RepDs.set : ∀ {l : List D} {vs : List V} {d : D} {v : V} (i : Nat), RepDs K H S l vs → RepD K H S d v → RepDs K H S (l.set i d) (vs.set i v)
  | [], _, _, _, i, h, _ => by rw [show _ = _ from h]; exact rfl
  | d :: ds, vs, d', v', 0, h, r => by
    obtain ⟨v, vr, rfl, h1, h2⟩ := h
    exact ⟨v', vr, rfl, r, h2⟩
  | d :: ds, vs, d', v', i + 1, h, r => by
    obtain ⟨v, vr, rfl, h1, h2⟩ := h
    exact ⟨v, vr.set i v', rfl, h1, RepDs.set i h2 r⟩
theorem RepDs.mem : ∀ {l : List D} {vs : List V}, RepDs K H S l vs → ∀ v ∈ vs, ∃ d ∈ l, RepD K H S d v
  | [], _, h, v, hv => by rw [show _ = _ from h] at hv; cases hv
  | d :: ds, vs, h, v, hv => by
    obtain ⟨v', vr, rfl, h1, h2⟩ := h
    rcases List.mem_cons.mp hv with rfl | hv
    · exact ⟨d, List.mem_cons_self .., h1⟩
    · obtain ⟨d', m, r⟩ := RepDs.mem h2 v hv
      exact ⟨d', List.mem_cons_of_mem _ m, r⟩
end

/-! ### states -/
abbrev VEnv := List (Option Val)
abbrev Fpt := Nat → List Addr
/-- what may be shared: no one's own, not forbidden -/
abbrev Shr (fp : Fpt) (G : Addr → Prop) : Addr → Prop := fun a => (∀ j, a ∉ fp j) ∧ ¬ G a
abbrev GA (G : Addr → Prop) (f : List Addr) : Addr → Prop := fun a => G a ∨ a ∈ f
/-- the places ds hold vs; F: what must stay as it is; G: what is someone else's own -/
structure RelF (K : PySem.W.Frag) (H : Hp) (F : Addr → HO → Prop) (G : Addr → Prop) (ds : VEnv) (vs : L2.St) (fp : Fpt) : Prop where
  len : ds.length = vs.length
  rep : ∀ i d, ds[i]? = some (some d) → ∃ v, vs[i]? = some (some v) ∧ Rep K H (Shr fp G) d v (fp i)
  dis : ∀ i j a, a ∈ fp i → a ∈ fp j → i = j
  nd : ∀ i, (fp i).Nodup
  emp : ∀ i, (∀ d, ds[i]? ≠ some (some d)) → fp i = []
  fr : ∀ b o, F b o → H b = some o ∧ ∀ i, b ∉ fp i
  gt : ∀ b, G b → H b ≠ none
  gf : ∀ i a, a ∈ fp i → ¬ G a
def Rel (K : PySem.W.Frag) (H : Hp) (F : Addr → HO → Prop) (G : Addr → Prop) (ds : VEnv) (vs : L2.St) : Prop := ∃ fp, RelF K H F G ds vs fp

section
variable {K : PySem.W.Frag} {H H' : Hp} {F : Addr → HO → Prop} {G : Addr → Prop} {fp : Fpt} {ds ds' : VEnv} {vs vs' : L2.St} {d : Val} {v : V} {i : Nat}

theorem RelF.own (R : RelF K H F G ds vs fp) {i : Nat} {a : Addr} (h : a ∈ fp i) : ∃ xs, H a = some (.lst xs) := by
  by_cases e : ∃ d, ds[i]? = some (some d)
  · obtain ⟨d, e⟩ := e
    obtain ⟨v, _, r⟩ := R.rep i d e
    exact Rep.own d v _ r a h
  · rw [R.emp i fun d q => e ⟨d, q⟩] at h; cases h
theorem Rel.len (R : Rel K H F G ds vs) : ds.length = vs.length := let ⟨_, r⟩ := R; r.len
theorem Rel.lt (R : Rel K H F G ds vs) (e : ds[i]? = some x) : i < vs.length := by
  have := (List.getElem?_eq_some_iff.mp e).1
  rw [← R.len]; exact this
/-- the same values at other places -/
theorem Rel.reindex (π : Nat → Nat) (R : Rel K H F G ds vs) (hl : ds'.length = vs'.length)
    (h : ∀ i d, ds'[i]? = some (some d) → ds[π i]? = some (some d) ∧ vs'[i]? = vs[π i]?)
    (inj : ∀ i j d e, ds'[i]? = some (some d) → ds'[j]? = some (some e) → π i = π j → i = j) : Rel K H F G ds' vs' := by
  obtain ⟨fp, r⟩ := R
  refine ⟨fun i => match ds'[i]? with | some (some _) => fp (π i) | _ => [], ?_⟩
  have key : ∀ i a, a ∈ (match ds'[i]? with | some (some _) => fp (π i) | _ => []) → a ∈ fp (π i) ∧ ∃ d, ds'[i]? = some (some d) := fun i a ha => by
    cases e : ds'[i]? with
    | none => rw [e] at ha; cases ha
    | some x =>
      cases x with
      | none => rw [e] at ha; cases ha
      | some d => rw [e] at ha; exact ⟨ha, d, rfl⟩
  refine ⟨hl, fun i d e => ?_, fun i j a h1 h2 => ?_, fun i => ?_, fun i q => ?_, fun b o q => ⟨(r.fr b o q).1, fun i hb => (r.fr b o q).2 _ (key i b hb).1⟩, r.gt, fun i a ha => r.gf _ _ (key i a ha).1⟩
  · obtain ⟨e1, e2⟩ := h i d e
    obtain ⟨v, e3, q⟩ := r.rep _ d e1
    refine ⟨v, e2.trans e3, ?_⟩
    simp only [e]
    exact Rep.mono (fun _ _ z => z) (fun a xs s z => ⟨⟨fun j hj => s.1 _ (key j a hj).1, s.2⟩, z⟩) d v _ (fun _ _ _ z => z) q
  · obtain ⟨h1, d, e1⟩ := key i a h1
    obtain ⟨h2, e, e2⟩ := key j a h2
    exact inj i j d e e1 e2 (r.dis _ _ a h1 h2)
  · cases e : ds'[i]? with
    | none => exact List.nodup_nil
    | some x =>
      cases x with
      | none => exact List.nodup_nil
      | some d => exact r.nd _
  · cases e : ds'[i]? with
    | none => rfl
    | some x =>
      cases x with
      | none => rfl
      | some d => exact absurd e (q d)
theorem Rel.pop {x : Option Val} {y : Option V} (R : Rel K H F G (x :: ds) (y :: vs)) : Rel K H F G ds vs :=
  R.reindex (fun i => i + 1) (by simpa using R.len) (fun i d e => ⟨by simpa using e, by simp⟩) fun i j _ _ _ _ h => by simpa using h
theorem Rel.pushN (R : Rel K H F G ds vs) (y : Option V) : Rel K H F G (none :: ds) (y :: vs) :=
  R.reindex (fun i => i - 1) (by simpa using R.len) (fun i d e => by cases i <;> simp_all) fun i j _ _ e1 e2 h => by
    cases i with
    | zero => simp at e1
    | succ i =>
      cases j with
      | zero => simp at e2
      | succ j => simpa using h
/-- the place j of b comes to the front -/
theorem Rel.rot {a : VEnv} {a' : L2.St} {x : Option Val} {y : Option V} (hl : a.length = a'.length) (R : Rel K H F G (a ++ x :: ds) (a' ++ y :: vs)) : Rel K H F G (x :: (a ++ ds)) (y :: (a' ++ vs)) := by
  have L := R.len
  refine R.reindex (fun i => if i = 0 then a.length else if i ≤ a.length then i - 1 else i) (by simp at L ⊢; omega) (fun i d e => ?_) fun i j _ _ _ _ h => ?_
  · cases i with
    | zero =>
      simp only [List.getElem?_cons_zero, Option.some.injEq] at e
      subst e
      simp [hl]
    | succ i =>
      simp only [List.getElem?_cons_succ] at e ⊢
      by_cases hi : i + 1 ≤ a.length
      · simp only [Nat.succ_ne_zero, if_false, hi, if_true, Nat.add_sub_cancel]
        rw [List.getElem?_append_left (by omega)] at e ⊢
        rw [List.getElem?_append_left (by omega), List.getElem?_append_left (by omega)]
        exact ⟨e, rfl⟩
      · simp only [Nat.succ_ne_zero, if_false, hi]
        rw [List.getElem?_append_right (by omega)] at e ⊢
        rw [List.getElem?_append_right (by omega), List.getElem?_append_right (by omega)]
        rw [show i + 1 - a.length = (i - a.length) + 1 by omega, show i + 1 - a'.length = (i - a'.length) + 1 by omega, List.getElem?_cons_succ, List.getElem?_cons_succ]
        exact ⟨e, rfl⟩
  · split at h <;> split at h <;> (try split at h) <;> (try split at h) <;> omega
/-- a place for a value that has nothing of its own -/
theorem RelF.pushR {d : D} (r : RelF K H F G ds vs fp) (q : RepD K H (Shr fp G) d v) : RelF K H F G (some (.im d) :: ds) (some v :: vs) (fun i => match i with | 0 => [] | i + 1 => fp i) := by
  have hS : ∀ a, Shr fp G a → Shr (fun i => match i with | 0 => [] | i + 1 => fp i) G a := fun a s => ⟨fun j => by
    cases j with
    | zero => exact fun h => nomatch h
    | succ j => exact s.1 j, s.2⟩
  refine ⟨by simpa using r.len, fun i d' e => ?_, fun i j a h1 h2 => ?_, fun i => ?_, fun i h => ?_, fun b o h => ⟨(r.fr b o h).1, fun i => ?_⟩, r.gt, fun i a ha => ?_⟩
  · cases i with
    | zero =>
      simp at e; subst e
      exact ⟨v, rfl, RepD.mono (fun _ _ z => z) (fun a xs s z => ⟨hS a s, z⟩) d v q, rfl⟩
    | succ i =>
      obtain ⟨v, e1, q⟩ := r.rep i d' (by simpa using e)
      exact ⟨v, by simpa using e1, Rep.mono (fun _ _ z => z) (fun a xs s z => ⟨hS a s, z⟩) d' v _ (fun _ _ _ z => z) q⟩
  · cases i with
    | zero => cases h1
    | succ i =>
      cases j with
      | zero => cases h2
      | succ j => rw [r.dis i j a h1 h2]
  · cases i with
    | zero => exact List.nodup_nil
    | succ i => exact r.nd i
  · cases i with
    | zero => exact absurd rfl (h (.im d))
    | succ i => exact r.emp i (by simpa using h)
  · cases i with
    | zero => exact fun h => nomatch h
    | succ i => exact (r.fr b o h).2 i
  · cases i with
    | zero => cases ha
    | succ i => exact r.gf i a ha
theorem RelF.push {d : D} (r : RelF K H F G ds vs fp) (q : RepD K H (Shr fp G) d v) : Rel K H F G (some (.im d) :: ds) (some v :: vs) := ⟨_, r.pushR q⟩
theorem shr_push {a : Addr} (s : Shr fp G a) : Shr (fun i => match i with | 0 => [] | i + 1 => fp i) G a := ⟨fun j => by
    cases j with
    | zero => exact fun h => nomatch h
    | succ j => exact s.1 j, s.2⟩
theorem RelF.pushs : ∀ {l : List D} {ws : List V} {fp : Fpt} {ds : VEnv} {vs : L2.St}, RelF K H F G ds vs fp → RepDs K H (Shr fp G) l ws → Rel K H F G (l.map (fun d => some (.im d)) ++ ds) (ws.map some ++ vs)
  | [], ws, fp, ds, vs, r, q => by cases q; exact ⟨fp, r⟩
  | d :: l, ws, fp, ds, vs, r, q => by
    obtain ⟨v, vr, rfl, q1, q2⟩ := q
    have key : ∀ {l : List D} {ws : List V} {fp : Fpt} {ds : VEnv} {vs : L2.St}, RelF K H F G ds vs fp → RepDs K H (Shr fp G) l ws → ∃ fp2, RelF K H F G (l.map (fun d => some (.im d)) ++ ds) (ws.map some ++ vs) fp2 ∧ ∀ a, Shr fp G a → Shr fp2 G a := by
      intro l
      induction l with
      | nil => intro ws fp ds vs r q; cases q; exact ⟨fp, r, fun _ z => z⟩
      | cons d l ih =>
        intro ws fp ds vs r q
        obtain ⟨v, vr, rfl, q1, q2⟩ := q
        obtain ⟨fp2, r2, s2⟩ := ih r q2
        exact ⟨_, r2.pushR (RepD.mono keepT (fun a _ s z => ⟨s2 a s, z⟩) d v q1), fun a s => shr_push (s2 a s)⟩
    obtain ⟨fp2, r2, _⟩ := key (l := d :: l) r ⟨v, vr, rfl, q1, q2⟩
    exact ⟨fp2, r2⟩
/-- another heap -/
theorem RelF.heap (r : RelF K H F G ds vs fp) (hT : ∀ a xs, SqT K H a xs → SqT K H' a xs) (hL : ∀ a xs, Shr fp G a → Rd H a (.lst xs) → Rd H' a (.lst xs))
    (hO : ∀ i a xs, a ∈ fp i → H a = some (.lst xs) → H' a = some (.lst xs)) (hF : ∀ b o, F b o → H b = some o → H' b = some o) (hG : ∀ b, G b → H b ≠ none → H' b ≠ none) : RelF K H' F G ds vs fp :=
  ⟨r.len, fun i d e => let ⟨v, e1, q⟩ := r.rep i d e; ⟨v, e1, Rep.mono hT (fun a xs s z => ⟨s, hL a xs s z⟩) d v _ (fun a ha xs z => hO i a xs ha z) q⟩,
    r.dis, r.nd, r.emp, fun b o q => ⟨hF b o q (r.fr b o q).1, (r.fr b o q).2⟩, fun b q => hG b q (r.gt b q), r.gf⟩
theorem SqT.grow {a : Addr} {xs : List V} (k : ∀ b o, H b = some o → H' b = some o) (h : SqT K H a xs) : SqT K H' a xs := by
  rcases h with (h | ⟨o, h⟩) | h
  · exact .inl (.inl (k _ _ h))
  · exact .inl (.inr ⟨o, k _ _ h⟩)
  · exact .inr h
theorem Rd.grow {a : Addr} {u : HO} (k : ∀ b o, H b = some o → H' b = some o) (h : Rd H a u) : Rd H' a u := by
  rcases h with h | ⟨o, h⟩
  · exact .inl (k _ _ h)
  · exact .inr ⟨o, k _ _ h⟩
theorem RelF.grow (r : RelF K H F G ds vs fp) (k : ∀ b o, H b = some o → H' b = some o) : RelF K H' F G ds vs fp :=
  r.heap (fun _ _ => SqT.grow k) (fun _ _ _ => Rd.grow k) (fun _ _ _ _ z => k _ _ z) (fun _ _ _ z => k _ _ z) fun b _ z q => by
    cases e : H b with
    | none => exact z e
    | some o => rw [k b o e] at q; cases q
theorem Rel.grow (R : Rel K H F G ds vs) (k : ∀ b o, H b = some o → H' b = some o) : Rel K H' F G ds vs := let ⟨fp, r⟩ := R; ⟨fp, r.grow k⟩
theorem grow_upd {p : Addr} {o : HO} (h : H p = none) : ∀ b u, H b = some u → upd H p o b = some u := fun b u e => by rw [upd_ne (ne_of_none e h)]; exact e

def fset (fp : Fpt) (i : Nat) (f : List Addr) : Fpt := fun j => if j = i then f else fp j
/-- the value at i is taken out: its own lists are forbidden meanwhile -/
theorem RelF.take (r : RelF K H F G ds vs fp) (e : ds[i]? = some (some d)) :
    ∃ v, vs[i]? = some (some v) ∧ Rep K H (Shr (fset fp i []) (GA G (fp i))) d v (fp i) ∧ RelF K H F (GA G (fp i)) (ds.set i none) vs (fset fp i []) := by
  obtain ⟨v, e1, q⟩ := r.rep i d e
  have hS : ∀ a, Shr fp G a → Shr (fset fp i []) (GA G (fp i)) a := fun a s => ⟨fun j hj => by
    unfold fset at hj
    split at hj
    · cases hj
    · exact s.1 j hj, fun h => h.elim s.2 (s.1 i)⟩
  refine ⟨v, e1, Rep.mono (fun _ _ z => z) (fun a xs s z => ⟨hS a s, z⟩) d v _ (fun _ _ _ z => z) q, ?_⟩
  refine ⟨by rw [List.length_set]; exact r.len, fun j d' e' => ?_, fun j k a h1 h2 => ?_, fun j => ?_, fun j q' => ?_, fun b o q' => ⟨(r.fr b o q').1, fun j hj => ?_⟩, fun b q' => ?_, fun j a h1 h2 => ?_⟩
  · by_cases hj : i = j
    · subst hj
      by_cases hlt : i < ds.length
      · rw [List.getElem?_set_self hlt] at e'; cases e'
      · rw [List.getElem?_eq_none (by simpa using hlt)] at e'; cases e'
    · rw [List.getElem?_set_ne hj] at e'
      obtain ⟨v', e2, q'⟩ := r.rep j d' e'
      refine ⟨v', e2, ?_⟩
      unfold fset
      rw [if_neg (Ne.symm hj)]
      exact Rep.mono (fun _ _ z => z) (fun a xs s z => ⟨hS a s, z⟩) d' v' _ (fun _ _ _ z => z) q'
  · unfold fset at h1 h2
    split at h1
    · cases h1
    · split at h2
      · cases h2
      · exact r.dis j k a h1 h2
  · unfold fset; split
    · exact List.nodup_nil
    · exact r.nd j
  · unfold fset; split
    · rfl
    · rename_i hj
      exact r.emp j fun d' e' => q' d' (by rw [List.getElem?_set_ne (Ne.symm hj)]; exact e')
  · unfold fset at hj; split at hj
    · cases hj
    · exact (r.fr b o q').2 j hj
  · rcases q' with q' | q'
    · exact r.gt b q'
    · obtain ⟨xs, z⟩ := r.own q'
      rw [z]; exact fun h => nomatch h
  · unfold fset at h1; split at h1
    · cases h1
    · rename_i hj
      rcases h2 with h2 | h2
      · exact r.gf j a h1 h2
      · exact hj (r.dis j i a h1 h2)
/-- a value is put at a place that holds none -/
theorem RelF.put {f : List Addr} (r : RelF K H F (GA G f) ds vs fp) (e : ds[i]? = some none) (e1 : vs[i]? = some (some v)) (q : Rep K H (Shr fp (GA G f)) d v f) (nd : f.Nodup) (hG : ∀ a ∈ f, ¬ G a)
    (hF : ∀ b o, F b o → b ∉ f) : RelF K H F G (ds.set i (some d)) vs (fset fp i f) := by
  have hlt : i < ds.length := (List.getElem?_eq_some_iff.mp e).1
  have em : fp i = [] := r.emp i fun d' e' => by rw [e] at e'; cases e'
  have hS : ∀ a, Shr fp (GA G f) a → Shr (fset fp i f) G a := fun a s => ⟨fun j hj => by
    unfold fset at hj
    split at hj
    · exact s.2 (.inr hj)
    · exact s.1 j hj, fun h => s.2 (.inl h)⟩
  refine ⟨by rw [List.length_set]; exact r.len, fun j d' e' => ?_, fun j k a h1 h2 => ?_, fun j => ?_, fun j q' => ?_, fun b o q' => ⟨(r.fr b o q').1, fun j hj => ?_⟩, fun b q' => r.gt b (.inl q'), fun j a h1 h2 => ?_⟩
  · by_cases hj : i = j
    · subst hj
      rw [List.getElem?_set_self hlt] at e'
      cases e'
      refine ⟨v, e1, ?_⟩
      unfold fset
      rw [if_pos rfl]
      exact Rep.mono (fun _ _ z => z) (fun a xs s z => ⟨hS a s, z⟩) d v _ (fun _ _ _ z => z) q
    · rw [List.getElem?_set_ne hj] at e'
      obtain ⟨v', e2, q'⟩ := r.rep j d' e'
      refine ⟨v', e2, ?_⟩
      unfold fset
      rw [if_neg (Ne.symm hj)]
      exact Rep.mono (fun _ _ z => z) (fun a xs s z => ⟨hS a s, z⟩) d' v' _ (fun _ _ _ z => z) q'
  · unfold fset at h1 h2
    split at h1
    · rename_i e3
      split at h2
      · rename_i e4; rw [e3, e4]
      · exact absurd (.inr h1) (r.gf k a h2)
    · split at h2
      · exact absurd (.inr h2) (r.gf j a h1)
      · exact r.dis j k a h1 h2
  · unfold fset; split
    · exact nd
    · exact r.nd j
  · unfold fset; split
    · rename_i hj; subst hj
      exact absurd (List.getElem?_set_self hlt) (q' d)
    · rename_i hj
      exact r.emp j fun d' e' => q' d' (by rw [List.getElem?_set_ne (Ne.symm hj)]; exact e')
  · unfold fset at hj; split at hj
    · exact hF b o q' hj
    · exact (r.fr b o q').2 j hj
  · unfold fset at h1; split at h1
    · exact hG a h1 h2
    · exact r.gf j a h1 (.inl h2)
theorem RelF.nin (r : RelF K H F G ds vs fp) : ∀ b o, F b o → b ∉ fp i := fun b o q => (r.fr b o q).2 i
/-- a value is stored at a slot -/
theorem Rel.store {x : Option Val} {y : Option V} (R : Rel K H F G (x :: ds) (y :: vs)) (hi : i < ds.length) : Rel K H F G (ds.set i x) (vs.set i y) := by
  have L : ds.length = vs.length := by simpa using R.len
  refine R.reindex (fun j => if j = i then 0 else j + 1) (by simpa using L) (fun j d e => ?_) fun j k _ _ _ _ h => ?_
  · by_cases hj : i = j
    · subst hj
      rw [List.getElem?_set_self hi] at e
      rw [List.getElem?_set_self (by omega)]
      rw [if_pos rfl]
      exact ⟨e, rfl⟩
    · rw [List.getElem?_set_ne hj] at e ⊢
      rw [if_neg (Ne.symm hj)]
      exact ⟨e, rfl⟩
  · split at h <;> split at h <;> omega
theorem RelF.pushN (r : RelF K H F G ds vs fp) (y : Option V) : RelF K H F G (none :: ds) (y :: vs) (fun i => match i with | 0 => [] | i + 1 => fp i) := by
  have hS : ∀ a, Shr fp G a → Shr (fun i => match i with | 0 => [] | i + 1 => fp i) G a := fun a s => ⟨fun j => by
    cases j with
    | zero => exact fun h => nomatch h
    | succ j => exact s.1 j, s.2⟩
  refine ⟨by simpa using r.len, fun i d' e => ?_, fun i j a h1 h2 => ?_, fun i => ?_, fun i h => ?_, fun b o h => ⟨(r.fr b o h).1, fun i => ?_⟩, r.gt, fun i a ha => ?_⟩
  · cases i with
    | zero => simp at e
    | succ i =>
      obtain ⟨v, e1, q⟩ := r.rep i d' (by simpa using e)
      exact ⟨v, by simpa using e1, Rep.mono (fun _ _ z => z) (fun a xs s z => ⟨hS a s, z⟩) d' v _ (fun _ _ _ z => z) q⟩
  · cases i with
    | zero => cases h1
    | succ i =>
      cases j with
      | zero => cases h2
      | succ j => rw [r.dis i j a h1 h2]
  · cases i with
    | zero => exact List.nodup_nil
    | succ i => exact r.nd i
  · cases i with
    | zero => rfl
    | succ i => exact r.emp i (by simpa using h)
  · cases i with
    | zero => exact fun h => nomatch h
    | succ i => exact (r.fr b o h).2 i
  · cases i with
    | zero => cases ha
    | succ i => exact r.gf i a ha
/-- fewer are forbidden -/
theorem RelF.weakG {G' : Addr → Prop} (r : RelF K H F G ds vs fp) (h : ∀ a, G' a → G a) : RelF K H F G' ds vs fp :=
  ⟨r.len, fun i d e => let ⟨v, e1, q⟩ := r.rep i d e; ⟨v, e1, Rep.mono (fun _ _ z => z) (fun a xs s z => ⟨⟨s.1, fun q => s.2 (h a q)⟩, z⟩) d v _ (fun _ _ _ z => z) q⟩,
    r.dis, r.nd, r.emp, r.fr, fun b q => r.gt b (h b q), fun i a q z => r.gf i a q (h a z)⟩
theorem rd_ne {p a : Addr} {u : HO} (hp : H p = none) (h : Rd H a u) : a ≠ p := by
  rintro rfl
  rcases h with h | ⟨_, h⟩ <;> rw [h] at hp <;> cases hp
/-- a new object: no one's yet -/
theorem RelF.new {p : Addr} {o : HO} (r : RelF K H F G ds vs fp) (hp : H p = none) : RelF K (upd H p o) F (GA G [p]) ds vs fp := by
  have g := r.grow (H' := upd H p o) (grow_upd hp)
  have np : ∀ i, p ∉ fp i := fun i h => by
    obtain ⟨xs, e⟩ := r.own h
    rw [e] at hp; cases hp
  refine ⟨g.len, fun i d e => ?_, g.dis, g.nd, g.emp, g.fr, fun b q => ?_, fun i a h q => ?_⟩
  · obtain ⟨v, e1, q⟩ := r.rep i d e
    refine ⟨v, e1, Rep.mono (fun _ _ => SqT.grow (grow_upd hp)) (fun a xs s z => ⟨⟨s.1, fun q => q.elim s.2 fun h => ?_⟩, Rd.grow (grow_upd hp) z⟩) d v _ (fun a _ xs z => grow_upd hp _ _ z) q⟩
    exact rd_ne hp z (List.mem_singleton.mp h)
  · rcases q with q | q
    · exact g.gt b q
    · rw [List.mem_singleton.mp q, upd_same]; exact fun h => nomatch h
  · rcases q with q | q
    · exact g.gf i a h q
    · rw [List.mem_singleton.mp q] at h; exact np i h
/-- a new list of one's own -/
theorem RelF.pushOwn {p : Addr} {l : List D} {ws : List V} (r : RelF K H F G ds vs fp) (hp : H p = none) (q : RepDs K H (Shr fp G) l ws) : Rel K (upd H p (.lst ws)) F G (some (.ml l) :: ds) (some (.ref p) :: vs) := by
  have n := (r.new (o := .lst ws) hp).pushN (some (.ref p))
  have q' : RepDs K (upd H p (.lst ws)) (Shr (fun i => match i with | 0 => [] | i + 1 => fp i) (GA G [p])) l ws :=
    RepDs.mono (fun _ _ => SqT.grow (grow_upd hp)) (fun a xs s z => ⟨⟨fun j => by
      cases j with
      | zero => exact fun h => nomatch h
      | succ j => exact s.1 j, fun h => h.elim s.2 fun h => rd_ne hp z (List.mem_singleton.mp h)⟩, Rd.grow (grow_upd hp) z⟩) l ws q
  have z := n.put (i := 0) (d := .ml l) (v := .ref p) (f := [p]) rfl rfl ⟨p, ws, rfl, upd_same, q', rfl⟩ (by simp) (fun a ha => ?_) (fun b o hb h => ?_)
  · exact ⟨_, z⟩
  · rw [List.mem_singleton.mp ha]
    exact fun h => r.gt _ h hp
  · have := (r.fr b o hb).1
    rw [List.mem_singleton.mp h, hp] at this; cases this
/-- what is one's own at a place becomes shared -/
theorem Rel.frzAt (R : Rel K H F G ds vs) (e : ds[i]? = some (some d)) : Rel K H F G (ds.set i (some (.im (frz d)))) vs := by
  obtain ⟨fp, r⟩ := R
  obtain ⟨v, e1, q, t⟩ := r.take e
  have hlt : i < ds.length := (List.getElem?_eq_some_iff.mp e).1
  have t' := t.weakG (G' := GA G []) fun a h => .inl (h.elim id fun z => nomatch z)
  have q' : Rep K H (Shr (fset fp i []) (GA G [])) (.im (frz d)) v [] := ⟨Rep.frz d v _ (fun a s => ⟨s.1, fun h => s.2 (.inl (h.elim id fun z => nomatch z))⟩) (fun a ha => ⟨fun j hj => ?_, fun h => ?_⟩) q, rfl⟩
  · have z := t'.put (i := i) (d := .im (frz d)) (v := v) (f := []) (List.getElem?_set_self hlt) e1 q' List.nodup_nil (fun a h => nomatch h) (fun _ _ _ h => nomatch h)
    rw [List.set_set] at z
    exact ⟨_, z⟩
  · unfold fset at hj
    split at hj
    · cases hj
    · rename_i hne
      exact hne (r.dis j i a hj ha)
  · rcases h with h | h
    · exact r.gf i a ha h
    · cases h
theorem Rel.drop2 {x y : Option Val} {x' y' : Option V} (R : Rel K H F G (x :: y :: ds) (x' :: y' :: vs)) : Rel K H F G (x :: ds) (x' :: vs) :=
  R.reindex (fun i => if i = 0 then 0 else i + 1) (by simpa using R.len) (fun i d e => by cases i <;> simp_all) fun i j _ _ _ _ h => by
    split at h <;> split at h <;> omega
/-- the places behind the first one are dropped -/
theorem Rel.dropMid {x : Option Val} {y : Option V} {a : VEnv} {a' : L2.St} (hl : a.length = a'.length) (R : Rel K H F G (x :: (a ++ ds)) (y :: (a' ++ vs))) : Rel K H F G (x :: ds) (y :: vs) :=
  R.reindex (fun i => if i = 0 then 0 else i + a.length) (by have := R.len; simp at this ⊢; omega) (fun i d e => by
    cases i with
    | zero => simpa using e
    | succ i =>
      rw [if_neg (Nat.succ_ne_zero i), show i + 1 + a.length = (a.length + i) + 1 by omega]
      simp only [List.getElem?_cons_succ] at e ⊢
      rw [List.getElem?_append_right (by omega), List.getElem?_append_right (by omega)]
      rw [show a.length + i - a.length = i by omega, show a.length + i - a'.length = i by omega]
      exact ⟨e, rfl⟩) fun i j _ _ _ _ h => by
    split at h <;> split at h <;> omega
theorem Rel.dropAll {a : VEnv} {a' : L2.St} (hl : a.length = a'.length) (R : Rel K H F G (a ++ ds) (a' ++ vs)) : Rel K H F G ds vs :=
  R.reindex (fun i => i + a.length) (by have := R.len; simp at this ⊢; omega) (fun i d e => by
      rw [List.getElem?_append_right (by omega), List.getElem?_append_right (by omega)]
      rw [show i + a.length - a.length = i by omega, show i + a.length - a'.length = i by omega]
      exact ⟨e, rfl⟩) fun i j _ _ _ _ h => by omega
/-- slots are forgotten -/
theorem Rel.forget (R : Rel K H F G ds vs) (hl : ds'.length = vs'.length) (h : ∀ (i : Nat) (d : Val), ds'[i]? = some (some d) → ds[i]? = some (some d) ∧ vs'[i]? = vs[i]?) : Rel K H F G ds' vs' :=
  R.reindex id hl h fun _ _ _ _ _ _ z => z
end
end MP

/-! MiniPy, part 2: the syntax (without places in the text), what holds behind it. -/
namespace MP
open PySem PySem.Spec PyProof.Rows L2

inductive Op | add | sub | mul | fdiv | mod | pow | shl | band | bxor
  deriving DecidableEq
inductive Cm | lt | le | gt | ge | eq | ne | isN | notN | isin | notin
  deriving DecidableEq
inductive Ty | tuple | list | bool | int | str
  deriving DecidableEq
inductive Bi | len | abs | max2 | min2 | toInt | toList | toTuple | gcd
  deriving DecidableEq
inductive Mt | append | pop | reverse
  deriving DecidableEq

mutual
inductive E
  | var (i : Nat) | bor (i : Nat) | fz (i : Nat) | int (i : Int) | bl (b : Bool) | non | str (x : Str)
  | bin (o : Op) (a b : E) | neg (a : E)
  | cmp (o : Cm) (a b : E)
  | not (a : E) | and (a b : E) | or (a b : E) | andC (a b : E) | orC (a b : E)
  | ife (c a b : E)
  | idx (a b : E) | slc (a lo hi : E) | noE
  | tup (es : Es) | lst (es : Es)
  | call (f : Str) (es : Es)
  | bi (f : Bi) (es : Es)
  | isi (a : E) (ts : List Ty) (tp : Bool)
  | mt (m : Mt) (i : Nat) (es : Es)
  | lc (elt : E) (tg : Tg) (it : It) (c : E) (own : List Nat)
inductive Es
  | nil | cons (e : E) (es : Es)
inductive Tg
  | nm (i : Nat) | tup (ts : Tgs) | sub (i : Nat) (ix : E)
inductive Tgs
  | nil | cons (t : Tg) (ts : Tgs)
inductive It
  | e (a : E) | rng (a : E) | rng2 (a b : E)
end
mutual
inductive S
  | set (tg : Tg) (e : E) | par (i j : Nat) (a b : E) | setLc (i : Nat) (elt : E) (tg : Tg) (it : It) (c : E) (own : List Nat)
  | aug (i : Nat) (o : Op) (e : E)
  | ex (e : E) | ret (e : E) | retN
  | ife (c : E) (a b : Ss) | for (tg : Tg) (it : It) (b : Ss) | while (c : E) (b : Ss)
  | brk | cnt | pass
inductive Ss
  | nil | cons (s : S) (ss : Ss)
end

/-- what an expression hands on: a value, or a slot's own object -/
inductive Opd | v (d : Val) | bor (i : Nat)
def slotV (ρ : VEnv) (i : Nat) : Option Val := (ρ[i]?).join
/-- a value that is only looked at -/
def look (ρ : VEnv) : Opd → Option D
  | .v d => some (frz d)
  | .bor i => match slotV ρ i with
    | some (.im d) => some d
    | some (.ml l) => some (.lst l)
    | _ => none
def lk1 (x : Option D) (f : D → Prop) : Prop := match x with
  | some a => f a
  | none => False
def lk2 (x y : Option D) (f : D → D → Prop) : Prop := match x, y with
  | some a, some b => f a b
  | _, _ => False

mutual
def toP : D → PyData
  | .non => .none | .bl b => .bool b | .int i => .int i | .str x => .str x
  | .tup l => .tuple (toPs l) | .lst l => .list (toPs l)
def toPs : List D → List PyData
  | [] => []
  | d :: ds => toP d :: toPs ds
end
def deq (a b : D) : Bool := PyData.eqv (toP a) (toP b)
def shp (a : D) : Prop := SeqAt.shaped (toP a) = true

def cutD (xs : List D) (lo hi : Option Int) : List D := (xs.drop (HT.sIx xs.length 0 lo)).take (HT.sIx xs.length xs.length hi - HT.sIx xs.length 0 lo)

def binS : Op → D → D → (Val → Prop) → Prop
  | .add, .int i, .int j, Q => Q (.im (.int (i + j)))
  | .add, .tup a, .tup b, Q => a.length + b.length ≤ 16777216 ∧ Q (.im (.tup (a ++ b)))
  | .add, .lst a, .lst b, Q => a.length + b.length ≤ 16777216 ∧ Q (.ml (a ++ b))
  | .sub, .int i, .int j, Q => Q (.im (.int (i - j)))
  | .mul, .int i, .int j, Q => i.natAbs.log2 + j.natAbs.log2 < 1000000 ∧ Q (.im (.int (i * j)))
  | .fdiv, .int i, .int j, Q => j ≠ 0 ∧ j.natAbs.log2 < 9000 ∧ Q (.im (.int (i.fdiv j)))
  | .mod, .int i, .int j, Q => j ≠ 0 ∧ Q (.im (.int (i.fmod j)))
  | .pow, .int i, .int j, Q => (0 ≤ j ∧ j ≤ 1000000 ∧ i.natAbs < 2 ^ 64) ∧ Q (.im (.int (i ^ j.toNat)))
  | .shl, .int i, .int j, Q => (0 ≤ j ∧ j ≤ 1000000 ∧ i.natAbs < 2 ^ 64) ∧ Q (.im (.int (i * 2 ^ j.toNat)))
  | .band, .int i, .int j, Q => Q (.im (.int (Builtin.bitAnd i j)))
  | .bxor, .int i, .int j, Q => Q (.im (.int (Builtin.bitXor i j)))
  | _, _, _, _ => False
def flatD : D → Bool
  | .tup _ => false | .lst _ => false
  | _ => true
def cmpS : Cm → D → D → (Bool → Prop) → Prop
  | .lt, .int i, .int j, Q => Q (decide (i < j))
  | .le, .int i, .int j, Q => Q (decide (i ≤ j))
  | .gt, .int i, .int j, Q => Q (decide (j < i))
  | .ge, .int i, .int j, Q => Q (decide (j ≤ i))
  | .eq, a, b, Q => shp a ∧ shp b ∧ Q (deq a b)
  | .ne, a, b, Q => shp a ∧ shp b ∧ Q (!deq a b)
  | .isN, a, .non, Q => Q (match a with | .non => true | _ => false)
  | .notN, a, .non, Q => Q (match a with | .non => false | _ => true)
  | .isin, a, .lst l, Q => shp a ∧ shp (.lst l) ∧ Q (l.any fun z => deq z a)
  | .notin, a, .lst l, Q => shp a ∧ shp (.lst l) ∧ Q (!l.any fun z => deq z a)
  | _, _, _, _ => False
def idxS : D → D → (D → Prop) → Prop
  | .tup l, .int i, Q => match atI l i with
    | some d => Q d
    | none => False
  | .lst l, .int i, Q => match atI l i with
    | some d => Q d
    | none => False
  | _, _, _ => False
def slcS : D → Option Int → Option Int → (Val → Prop) → Prop
  | .tup l, lo, hi, Q => Q (.im (.tup (cutD l lo hi)))
  | .lst l, lo, hi, Q => Q (.ml (cutD l lo hi))
  | _, _, _, _ => False
def truS : D → (Bool → Prop) → Prop
  | .non, Q => Q false
  | .bl b, Q => Q b
  | .int i, Q => Q (i != 0)
  | .tup l, Q => Q (!l.isEmpty)
  | .lst l, Q => Q (!l.isEmpty)
  | .str _, _ => False
def biS : Bi → List D → (Val → Prop) → Prop
  | .len, [.tup l], Q => Q (.im (.int l.length))
  | .len, [.lst l], Q => Q (.im (.int l.length))
  | .abs, [.int i], Q => Q (.im (.int (if i < 0 then -i else i)))
  | .max2, [.int i, .int j], Q => Q (.im (.int (if j > i then j else i)))
  | .min2, [.int i, .int j], Q => Q (.im (.int (if j < i then j else i)))
  | .toInt, [.int i], Q => Q (.im (.int i))
  | .toInt, [.bl b], Q => Q (.im (.int (if b then 1 else 0)))
  | .toList, [.lst l], Q => Q (.ml l)
  | .toList, [.tup l], Q => Q (.ml l)
  | .toTuple, [.lst l], Q => Q (.im (.tup l))
  | .toTuple, [.tup l], Q => Q (.im (.tup l))
  | .gcd, [.int i, .int j], Q => Q (.im (.int (Nat.gcd i.natAbs j.natAbs : Nat)))
  | _, _, _ => False
def isT : D → Ty → Bool
  | .tup _, .tuple => true | .lst _, .list => true | .bl _, .bool => true | .bl _, .int => true | .int _, .int => true | .str _, .str => true
  | _, _ => false
/-- a method of an own list: the list behind, the answer -/
def mtS : Mt → List D → List D → (List D → D → Prop) → Prop
  | .append, l, [d], Q => l.length < 16777216 ∧ Q (l ++ [d]) .non
  | .pop, l, [], Q => match l.getLast? with
    | some d => Q l.dropLast d
    | none => False
  | .reverse, l, [], Q => Q l.reverse .non
  | _, _, _, _ => False

/-- a def: the parameters that it never stores at (they may be lent), what it promises -/
structure Sig where
  pn : List Nat
  sp : List Val → (Val → List (Option Val) → Prop) → Prop
  mono : ∀ ds Q Q', (∀ r ms, Q r ms → Q' r ms) → sp ds Q → sp ds Q'
abbrev Tab := Str → Nat → Option Sig

def looks (ρ : VEnv) : List Opd → Option (List D)
  | [] => some []
  | x :: xs => match look ρ x, looks ρ xs with
    | some d, some ds => some (d :: ds)
    | _, _ => none
/-- the arguments of a call: what is lent is handed over as it is -/
def argsV (ρ : VEnv) : List Opd → Option (List Val)
  | [] => some []
  | .v d :: xs => match argsV ρ xs with
    | some ds => some (.im (frz d) :: ds)
    | none => none
  | .bor i :: xs => match slotV ρ i, argsV ρ xs with
    | some d, some ds => some (d :: ds)
    | _, _ => none
def lent : List Opd → Nat → List (Nat × Nat)
  | [], _ => []
  | .v _ :: xs, n => lent xs (n + 1)
  | .bor i :: xs, n => (n, i) :: lent xs (n + 1)
/-- what was lent comes back -/
def backV (ms : List (Option Val)) : List (Nat × Nat) → VEnv → VEnv
  | [], ρ => ρ
  | (p, i) :: r, ρ => backV ms r (ρ.set i (slotV ms p))

structure VEnds where
  nx : VEnv → Prop
  rt : Val → VEnv → Prop
  bk : VEnv → Prop
  ct : VEnv → Prop
def wipeV (ρ : VEnv) : List Nat → VEnv
  | [] => ρ
  | v :: vs => (wipeV ρ vs).set v none
/-- a comprehension's turns -/
def lcL (step : D → VEnv → (Option D → VEnv → Prop) → Prop) (ow : List Nat) : List D → VEnv → List D → (List D → VEnv → Prop) → Prop
  | [], ρ, acc, Q => Q acc ρ
  | d :: ds, ρ, acc, Q => step d (wipeV ρ ow) fun r ρ' => acc.length < 16777216 ∧ lcL step ow ds ρ' (acc ++ r.toList) Q
def forL (step : D → VEnv → VEnds → Prop) : List D → VEnv → VEnds → Prop
  | [], ρ, Z => Z.nx ρ
  | d :: ds, ρ, Z => step d ρ { nx := fun ρ' => forL step ds ρ' Z, ct := fun ρ' => forL step ds ρ' Z, rt := Z.rt, bk := Z.nx }
def whlN (c : VEnv → (Bool → VEnv → Prop) → Prop) (b : VEnv → VEnds → Prop) : Nat → VEnv → VEnds → Prop
  | 0, _, _ => False
  | n + 1, ρ, Z => c ρ fun t ρ' => if t = true then b ρ' { nx := fun ρ2 => whlN c b n ρ2 Z, ct := fun ρ2 => whlN c b n ρ2 Z, rt := Z.rt, bk := Z.nx } else Z.nx ρ'
def rngD (lo : Int) (n : Nat) : List D := (List.range n).map fun (i : Nat) => .int (lo + i)

def seqOf : Option D → (List D → Prop) → Prop
  | some (.lst l), Q => Q l
  | some (.tup l), Q => Q l
  | _, _ => False
def intOf : Option D → (Int → Prop) → Prop
  | some (.int i), Q => Q i
  | _, _ => False
def tupOf : Val → (List D → Prop) → Prop
  | .im (.tup l), Q => Q l
  | _, _ => False
def isMl : Option Val → Prop
  | some (.ml _) => True
  | _ => False
def bolOf : Option D → (Bool → Prop) → Prop
  | some (.bl i), Q => Q i
  | _, _ => False
/-- a clause's test, perhaps none -/
def cnd : E → (VEnv → (Bool → VEnv → Prop) → Prop) → VEnv → (Bool → VEnv → Prop) → Prop
  | .noE, _, ρ, Q => Q true ρ
  | _, f, ρ, Q => f ρ Q
/-- a slice's bound, perhaps none -/
def bnd : E → (VEnv → (Opd → VEnv → Prop) → Prop) → VEnv → (Option Int → VEnv → Prop) → Prop
  | .noE, _, ρ, Q => Q none ρ
  | _, f, ρ, Q => f ρ fun x ρ1 => intOf (look ρ1 x) fun i => Q (some i) ρ1
/-- a place's new content: the list at slot i with x at j -/
def subS (ρ : VEnv) (i : Nat) (k : Int) (x : Val) (Q : VEnv → Prop) : Prop := match slotV ρ i with
  | some (.ml l) => (match ixN l.length k with
    | some j => Q (ρ.set i (some (.ml (l.set j (frz x)))))
    | none => False)
  | _ => False

def tgsLen : Tgs → Nat
  | .nil => 0
  | .cons _ ts => tgsLen ts + 1
section
variable (Γ : Tab) (k : Nat) (pn : List Nat)
mutual
def wpE : E → VEnv → (Opd → VEnv → Prop) → Prop
  | .var i, ρ, Q => (match slotV ρ i with
    | some (.im d) => Q (.v (.im d)) ρ
    | _ => False)
  | .fz i, ρ, Q => (match slotV ρ i with
    | some d => Q (.v (.im (frz d))) (ρ.set i (some (.im (frz d))))
    | none => False)
  | .bor i, ρ, Q => (match slotV ρ i with
    | some _ => Q (.bor i) ρ
    | none => False)
  | .int i, ρ, Q => Q (.v (.im (.int i))) ρ
  | .bl b, ρ, Q => Q (.v (.im (.bl b))) ρ
  | .non, ρ, Q => Q (.v (.im .non)) ρ
  | .str x, ρ, Q => Q (.v (.im (.str x))) ρ
  | .bin o a b, ρ, Q => wpE a ρ fun x ρ1 => wpE b ρ1 fun y ρ2 => lk2 (look ρ2 x) (look ρ2 y) fun d e => binS o d e fun r => Q (.v r) ρ2
  | .neg a, ρ, Q => wpE a ρ fun x ρ1 => intOf (look ρ1 x) fun i => Q (.v (.im (.int (-i)))) ρ1
  | .cmp o a b, ρ, Q => wpE a ρ fun x ρ1 => wpE b ρ1 fun y ρ2 => lk2 (look ρ2 x) (look ρ2 y) fun d e => cmpS o d e fun r => Q (.v (.im (.bl r))) ρ2
  | .not a, ρ, Q => wpE a ρ fun x ρ1 => bolOf (look ρ1 x) fun c => Q (.v (.im (.bl (!c)))) ρ1
  | .and a b, ρ, Q => wpE a ρ fun x ρ1 => bolOf (look ρ1 x) fun c => if c = true then wpE b ρ1 fun y ρ2 => bolOf (look ρ2 y) fun c2 => Q (.v (.im (.bl c2))) ρ2 else Q (.v (.im (.bl false))) ρ1
  | .andC a b, ρ, Q => wpE a ρ fun x ρ1 => bolOf (look ρ1 x) fun c => if c = true then wpE b ρ1 fun y ρ2 => bolOf (look ρ2 y) fun c2 => Q (.v (.im (.bl c2))) ρ2 else Q (.v (.im (.bl false))) ρ1
  | .or a b, ρ, Q => wpE a ρ fun x ρ1 => bolOf (look ρ1 x) fun c => if c = true then Q (.v (.im (.bl true))) ρ1 else wpE b ρ1 fun y ρ2 => bolOf (look ρ2 y) fun c2 => Q (.v (.im (.bl c2))) ρ2
  | .orC a b, ρ, Q => wpE a ρ fun x ρ1 => bolOf (look ρ1 x) fun c => if c = true then Q (.v (.im (.bl true))) ρ1 else wpE b ρ1 fun y ρ2 => bolOf (look ρ2 y) fun c2 => Q (.v (.im (.bl c2))) ρ2
  | .ife c a b, ρ, Q => wpT c ρ fun t ρ1 => if t = true then wpE a ρ1 Q else wpE b ρ1 Q
  | .idx a b, ρ, Q => wpE a ρ fun x ρ1 => wpE b ρ1 fun y ρ2 => lk2 (look ρ2 x) (look ρ2 y) fun d e => idxS d e fun r => Q (.v (.im r)) ρ2
  | .slc a lo hi, ρ, Q => wpE a ρ fun x ρ1 => bnd lo (wpE lo) ρ1 fun l ρ2 => bnd hi (wpE hi) ρ2 fun h ρ3 => lk1 (look ρ3 x) fun d => slcS d l h fun r => Q (.v r) ρ3
  | .noE, _, _ => False
  | .tup es, ρ, Q => wpEs es ρ fun xs ρ1 => xs.length ≤ 16777216 ∧ (match looks ρ1 xs with
    | some ds => (lent xs 0 = []) ∧ Q (.v (.im (.tup ds))) ρ1
    | none => False)
  | .lst es, ρ, Q => wpEs es ρ fun xs ρ1 => xs.length ≤ 16777216 ∧ (match looks ρ1 xs with
    | some ds => (lent xs 0 = []) ∧ Q (.v (.ml ds)) ρ1
    | none => False)
  | .call f es, ρ, Q => wpEs es ρ fun xs ρ1 => (match argsV ρ1 xs with
    | some ds => ∃ j g, j < k ∧ Γ f j = some g ∧ (lent xs 0).all (fun p => decide (p.1 ∈ g.pn)) = true ∧ ((lent xs 0).map (·.2)).Nodup ∧ g.sp ds fun r ms => Q (.v r) (backV ms (lent xs 0) ρ1)
    | none => False)
  | .bi f es, ρ, Q => wpEs es ρ fun xs ρ1 => (match looks ρ1 xs with
    | some ds => biS f ds fun r => Q (.v r) ρ1
    | none => False)
  | .isi a ts _, ρ, Q => wpE a ρ fun x ρ1 => lk1 (look ρ1 x) fun d => Q (.v (.im (.bl (ts.any (isT d))))) ρ1
  | .mt m i es, ρ, Q => isMl (slotV ρ i) ∧ wpEs es ρ fun xs ρ1 => (match looks ρ1 xs, slotV ρ1 i with
    | some ds, some (.ml l) => lent xs 0 = [] ∧ mtS m l ds fun l' r => Q (.v (.im r)) (ρ1.set i (some (.ml l')))
    | _, _ => False)
  | .lc elt tg it c ow, ρ, Q => wpI it ρ fun items ρ1 => lcL (fun d ρ2 R => wpG tg (.im d) ρ2 fun ρ3 => cnd c (wpT c) ρ3 fun t ρ4 => if t = true then wpE elt ρ4 fun o ρ5 => (match o with
      | .v x => R (some (frz x)) ρ5
      | .bor _ => False) else R none ρ4) ow items ρ1 [] fun acc ρ' => Q (.v (.ml acc)) (wipeV ρ' ow)
/-- a test -/
def wpT : E → VEnv → (Bool → VEnv → Prop) → Prop
  | .not a, ρ, Q => wpT a ρ fun b ρ1 => Q (!b) ρ1
  | .and a b, ρ, Q => wpT a ρ fun c ρ1 => if c = true then wpT b ρ1 Q else Q false ρ1
  | .andC a b, ρ, Q => wpT a ρ fun c ρ1 => if c = true then wpT b ρ1 Q else Q false ρ1
  | .or a b, ρ, Q => wpT a ρ fun c ρ1 => if c = true then Q true ρ1 else wpT b ρ1 Q
  | .orC a b, ρ, Q => wpT a ρ fun c ρ1 => if c = true then Q true ρ1 else wpT b ρ1 Q
  | .cmp o a b, ρ, Q => wpE a ρ fun x ρ1 => wpE b ρ1 fun y ρ2 => lk2 (look ρ2 x) (look ρ2 y) fun d e => cmpS o d e fun r => Q r ρ2
  | .var i, ρ, Q => (match slotV ρ i with
    | some (.im d) => truS d fun b => Q b ρ
    | _ => False)
  | .call f es, ρ, Q => wpEs es ρ fun xs ρ1 => (match argsV ρ1 xs with
    | some ds => ∃ j g, j < k ∧ Γ f j = some g ∧ (lent xs 0).all (fun p => decide (p.1 ∈ g.pn)) = true ∧ ((lent xs 0).map (·.2)).Nodup ∧ g.sp ds fun r ms => truS (frz r) fun b => Q b (backV ms (lent xs 0) ρ1)
    | none => False)
  | .idx a b, ρ, Q => wpE a ρ fun x ρ1 => wpE b ρ1 fun y ρ2 => lk2 (look ρ2 x) (look ρ2 y) fun d e => idxS d e fun r => truS r fun b => Q b ρ2
  | .isi a ts _, ρ, Q => wpE a ρ fun x ρ1 => lk1 (look ρ1 x) fun d => Q (ts.any (isT d)) ρ1
  | _, _, _ => False
def wpEs : Es → VEnv → (List Opd → VEnv → Prop) → Prop
  | .nil, ρ, Q => Q [] ρ
  | .cons e es, ρ, Q => wpE e ρ fun x ρ1 => wpEs es ρ1 fun xs ρ2 => Q (x :: xs) ρ2
def wpG : Tg → Val → VEnv → (VEnv → Prop) → Prop
  | .nm i, x, ρ, Q => i ∉ pn ∧ Q (ρ.set i (some x))
  | .tup ts, x, ρ, Q => tupOf x fun ds => ds.length = tgsLen ts ∧ wpGs ts ds ρ Q
  | .sub i ix, x, ρ, Q => isMl (slotV ρ i) ∧ wpE ix ρ fun y ρ1 => intOf (look ρ1 y) fun k => subS ρ1 i k x Q
def wpGs : Tgs → List D → VEnv → (VEnv → Prop) → Prop
  | .nil, [], ρ, Q => Q ρ
  | .cons t ts, d :: ds, ρ, Q => wpG t (.im d) ρ fun ρ1 => wpGs ts ds ρ1 Q
  | _, _, _, _ => False
def wpI : It → VEnv → (List D → VEnv → Prop) → Prop
  | .e a, ρ, Q => wpE a ρ fun x ρ1 => (match x with
    | .v d => seqOf (some (frz d)) fun l => Q l ρ1
    | .bor _ => False)
  | .rng a, ρ, Q => wpE a ρ fun x ρ1 => intOf (look ρ1 x) fun n => (-(2 ^ 62) ≤ n ∧ n < 2 ^ 62) ∧ Q (rngD 0 n.toNat) ρ1
  | .rng2 a b, ρ, Q => wpE a ρ fun x ρ1 => wpE b ρ1 fun y ρ2 => intOf (look ρ2 x) fun m => intOf (look ρ2 y) fun n => (-(2 ^ 62) ≤ m ∧ m < 2 ^ 62 ∧ -(2 ^ 62) ≤ n ∧ n < 2 ^ 62) ∧ Q (rngD m (n - m).toNat) ρ2
end
mutual
def wpS : S → VEnv → VEnds → Prop
  | .set tg e, ρ, Z => wpE Γ k pn e ρ fun x ρ1 => (match x with
    | .v d => wpG Γ k pn tg d ρ1 Z.nx
    | .bor _ => False)
  | .par i j a b, ρ, Z => wpE Γ k pn a ρ fun x ρ1 => wpE Γ k pn b ρ1 fun y ρ2 => (match x, y with
    | .v d, .v e => i ∉ pn ∧ j ∉ pn ∧ i ≠ j ∧ Z.nx ((ρ2.set i (some (.im (frz d)))).set j (some (.im (frz e))))
    | _, _ => False)
  | .setLc i elt tg it c ow, ρ, Z => wpE Γ k pn (.lc elt tg it c ow) ρ fun x ρ1 => (match x with
    | .v d => i ∉ pn ∧ Z.nx (ρ1.set i (some d))
    | .bor _ => False)
  | .aug i o e, ρ, Z => i ∉ pn ∧ intOf (look ρ (.bor i)) fun a => wpE Γ k pn e ρ fun y ρ1 => intOf (look ρ1 y) fun b => (match o with
    | .add => Z.nx (ρ1.set i (some (.im (.int (a + b)))))
    | .sub => Z.nx (ρ1.set i (some (.im (.int (a - b)))))
    | _ => False)
  | .ex e, ρ, Z => wpE Γ k pn e ρ fun _ ρ1 => Z.nx ρ1
  | .ret e, ρ, Z => wpE Γ k pn e ρ fun x ρ1 => (match x with
    | .v d => Z.rt d ρ1
    | .bor i => i ∉ pn ∧ (match slotV ρ1 i with
      | some d => Z.rt d (ρ1.set i none)
      | none => False))
  | .retN, ρ, Z => Z.rt (.im .non) ρ
  | .ife c a b, ρ, Z => wpT Γ k pn c ρ fun t ρ1 => if t = true then wpSs a ρ1 Z else wpSs b ρ1 Z
  | .for tg it b, ρ, Z => wpI Γ k pn it ρ fun items ρ1 => forL (fun d ρ2 Z2 => wpG Γ k pn tg (.im d) ρ2 fun ρ3 => wpSs b ρ3 Z2) items ρ1 Z
  | .while c b, ρ, Z => ∃ n, whlN (fun ρ1 Q => wpT Γ k pn c ρ1 Q) (fun ρ1 Z1 => wpSs b ρ1 Z1) n ρ Z
  | .brk, ρ, Z => Z.bk ρ
  | .cnt, ρ, Z => Z.ct ρ
  | .pass, ρ, Z => Z.nx ρ
def wpSs : Ss → VEnv → VEnds → Prop
  | .nil, ρ, Z => Z.nx ρ
  | .cons s ss, ρ, Z => wpS s ρ { Z with nx := fun ρ1 => wpSs ss ρ1 Z }
end
end
example (Γ : Tab) (k : Nat) (pn : List Nat) (ρ : VEnv) (Q : Opd → VEnv → Prop) : wpE Γ k pn (.bin .add (.int 3) (.int 4)) ρ Q = Q (.v (.im (.int (3 + 4)))) ρ := rfl
end MP

/-! MiniPy, part 3: every construct keeps to its rule. -/
namespace MP
open PySem PySem.Spec PyProof.Rows L2

/-! ### what holds behind an expression is monotone -/
theorem lk1.mono {x : Option D} {f g : D → Prop} (h : ∀ a, f a → g a) : lk1 x f → lk1 x g := by
  cases x with
  | none => exact id
  | some a => exact h a
theorem lk2.mono {x y : Option D} {f g : D → D → Prop} (h : ∀ a b, f a b → g a b) : lk2 x y f → lk2 x y g := by
  cases x <;> cases y <;> first | exact id | exact h _ _
theorem intOf.mono {x : Option D} {f g : Int → Prop} (h : ∀ a, f a → g a) : intOf x f → intOf x g := by
  unfold intOf; split
  · exact h _
  · exact id
theorem bolOf.mono {x : Option D} {f g : Bool → Prop} (h : ∀ a, f a → g a) : bolOf x f → bolOf x g := by
  unfold bolOf; split
  · exact h _
  · exact id
theorem tupOf.mono {x : Val} {f g : List D → Prop} (h : ∀ a, f a → g a) : tupOf x f → tupOf x g := by
  unfold tupOf; split
  · exact h _
  · exact id
theorem seqOf.mono {x : Option D} {f g : List D → Prop} (h : ∀ a, f a → g a) : seqOf x f → seqOf x g := by
  unfold seqOf; split
  · exact h _
  · exact h _
  · exact id
theorem binS.mono {o : Op} {a b : D} {f g : Val → Prop} (h : ∀ a, f a → g a) : binS o a b f → binS o a b g := by
  unfold binS
  split <;> first | exact h _ | exact id | exact fun z => ⟨z.1, h _ z.2⟩ | exact fun z => ⟨z.1, z.2.1, h _ z.2.2⟩
theorem cmpS.mono {o : Cm} {a b : D} {f g : Bool → Prop} (h : ∀ a, f a → g a) : cmpS o a b f → cmpS o a b g := by
  unfold cmpS
  split <;> first | exact h _ | exact id | exact fun z => ⟨z.1, z.2.1, h _ z.2.2⟩
theorem idxS.mono {a b : D} {f g : D → Prop} (h : ∀ a, f a → g a) : idxS a b f → idxS a b g := by
  unfold idxS
  split <;> (try split) <;> first | exact h _ | exact id
theorem slcS.mono {a : D} {l u : Option Int} {f g : Val → Prop} (h : ∀ a, f a → g a) : slcS a l u f → slcS a l u g := by
  unfold slcS
  split <;> first | exact h _ | exact id
theorem truS.mono {a : D} {f g : Bool → Prop} (h : ∀ a, f a → g a) : truS a f → truS a g := by
  unfold truS
  split <;> first | exact h _ | exact id
theorem biS.mono {o : Bi} {a : List D} {f g : Val → Prop} (h : ∀ a, f a → g a) : biS o a f → biS o a g := by
  unfold biS
  split <;> first | exact h _ | exact id
theorem mtS.mono {o : Mt} {l a : List D} {f g : List D → D → Prop} (h : ∀ a b, f a b → g a b) : mtS o l a f → mtS o l a g := by
  unfold mtS
  split
  · exact fun z => ⟨z.1, h _ _ z.2⟩
  · split
    · exact h _ _
    · exact id
  · exact h _ _
  · exact id
theorem subS.mono {ρ : VEnv} {i : Nat} {k : Int} {x : Val} {f g : VEnv → Prop} (h : ∀ a, f a → g a) : subS ρ i k x f → subS ρ i k x g := by
  unfold subS
  split
  · split
    · exact h _
    · exact id
  · exact id
theorem cnd.mono {e : E} {f : VEnv → (Bool → VEnv → Prop) → Prop} {ρ : VEnv} {P Q : Bool → VEnv → Prop} (hf : ∀ ρ P Q, (∀ a b, P a b → Q a b) → f ρ P → f ρ Q) (h : ∀ a b, P a b → Q a b) : cnd e f ρ P → cnd e f ρ Q := by
  unfold cnd
  split
  · exact h _ _
  · exact hf _ _ _ h
theorem bnd.mono {e : E} {f : VEnv → (Opd → VEnv → Prop) → Prop} {ρ : VEnv} {P Q : Option Int → VEnv → Prop} (hf : ∀ ρ P Q, (∀ a b, P a b → Q a b) → f ρ P → f ρ Q) (h : ∀ a b, P a b → Q a b) : bnd e f ρ P → bnd e f ρ Q := by
  unfold bnd
  split
  · exact h _ _
  · exact hf _ _ _ fun _ _ => intOf.mono fun _ => h _ _
theorem lcL.mono {step : D → VEnv → (Option D → VEnv → Prop) → Prop} {ow : List Nat} (hs : ∀ d ρ P Q, (∀ a b, P a b → Q a b) → step d ρ P → step d ρ Q) :
    ∀ {ds : List D} {ρ : VEnv} {acc : List D} {P Q : List D → VEnv → Prop}, (∀ a b, P a b → Q a b) → lcL step ow ds ρ acc P → lcL step ow ds ρ acc Q
  | [], _, _, _, _, h, z => h _ _ z
  | d :: ds, ρ, acc, P, Q, h, z => hs d _ _ _ (fun r ρ' q => ⟨q.1, lcL.mono hs h q.2⟩) z
section
variable {Γ : Tab} {k : Nat} {pn : List Nat}
mutual
theorem wpE.mono : ∀ (e : E) (ρ : VEnv) (P Q : Opd → VEnv → Prop), (∀ a b, P a b → Q a b) → wpE Γ k pn e ρ P → wpE Γ k pn e ρ Q
  | .var i, ρ, P, Q, h, z => by
    unfold wpE at z ⊢
    split at z
    · exact h _ _ z
    · exact z
  | .fz i, ρ, P, Q, h, z => by
    unfold wpE at z ⊢
    split at z
    · exact h _ _ z
    · exact z
  | .bor i, ρ, P, Q, h, z => by
    unfold wpE at z ⊢
    split at z
    · exact h _ _ z
    · exact z
  | .int i, ρ, P, Q, h, z => h _ _ z
  | .bl i, ρ, P, Q, h, z => h _ _ z
  | .non, ρ, P, Q, h, z => h _ _ z
  | .str i, ρ, P, Q, h, z => h _ _ z
  | .bin o a b, ρ, P, Q, h, z => wpE.mono a ρ _ _ (fun _ _ z => wpE.mono b _ _ _ (fun _ _ z => lk2.mono (fun _ _ z => binS.mono (fun _ z => h _ _ z) z) z) z) z
  | .neg a, ρ, P, Q, h, z => wpE.mono a ρ _ _ (fun _ _ z => intOf.mono (fun _ z => h _ _ z) z) z
  | .cmp o a b, ρ, P, Q, h, z => wpE.mono a ρ _ _ (fun _ _ z => wpE.mono b _ _ _ (fun _ _ z => lk2.mono (fun _ _ z => cmpS.mono (fun _ z => h _ _ z) z) z) z) z
  | .not a, ρ, P, Q, h, z => wpE.mono a ρ _ _ (fun _ _ z => bolOf.mono (fun _ z => h _ _ z) z) z
  | .and a b, ρ, P, Q, h, z => wpE.mono a ρ _ _ (fun _ _ z => bolOf.mono (fun c z => by
      split at z
      · rename_i e; rw [if_pos e]; exact wpE.mono b _ _ _ (fun _ _ z => bolOf.mono (fun _ z => h _ _ z) z) z
      · rename_i e; rw [if_neg e]; exact h _ _ z) z) z
  | .andC a b, ρ, P, Q, h, z => wpE.mono a ρ _ _ (fun _ _ z => bolOf.mono (fun c z => by
      split at z
      · rename_i e; rw [if_pos e]; exact wpE.mono b _ _ _ (fun _ _ z => bolOf.mono (fun _ z => h _ _ z) z) z
      · rename_i e; rw [if_neg e]; exact h _ _ z) z) z
  | .or a b, ρ, P, Q, h, z => wpE.mono a ρ _ _ (fun _ _ z => bolOf.mono (fun c z => by
      split at z
      · rename_i e; rw [if_pos e]; exact h _ _ z
      · rename_i e; rw [if_neg e]; exact wpE.mono b _ _ _ (fun _ _ z => bolOf.mono (fun _ z => h _ _ z) z) z) z) z
  | .orC a b, ρ, P, Q, h, z => wpE.mono a ρ _ _ (fun _ _ z => bolOf.mono (fun c z => by
      split at z
      · rename_i e; rw [if_pos e]; exact h _ _ z
      · rename_i e; rw [if_neg e]; exact wpE.mono b _ _ _ (fun _ _ z => bolOf.mono (fun _ z => h _ _ z) z) z) z) z
  | .ife c a b, ρ, P, Q, h, z => wpT.mono c ρ _ _ (fun t _ z => by
      split at z
      · rename_i e; rw [if_pos e]; exact wpE.mono a _ _ _ h z
      · rename_i e; rw [if_neg e]; exact wpE.mono b _ _ _ h z) z
  | .idx a b, ρ, P, Q, h, z => wpE.mono a ρ _ _ (fun _ _ z => wpE.mono b _ _ _ (fun _ _ z => lk2.mono (fun _ _ z => idxS.mono (fun _ z => h _ _ z) z) z) z) z
  | .slc a lo hi, ρ, P, Q, h, z => wpE.mono a ρ _ _ (fun _ _ z => bnd.mono (wpE.mono lo) (fun _ _ z => bnd.mono (wpE.mono hi) (fun _ _ z => lk1.mono (fun _ z => slcS.mono (fun _ z => h _ _ z) z) z) z) z) z
  | .noE, _, _, _, _, z => z
  | .tup es, ρ, P, Q, h, z => wpEs.mono es ρ _ _ (fun xs ρ1 z => ⟨z.1, by
      have z := z.2
      split at z
      · exact ⟨z.1, h _ _ z.2⟩
      · exact z⟩) z
  | .lst es, ρ, P, Q, h, z => wpEs.mono es ρ _ _ (fun xs ρ1 z => ⟨z.1, by
      have z := z.2
      split at z
      · exact ⟨z.1, h _ _ z.2⟩
      · exact z⟩) z
  | .call f es, ρ, P, Q, h, z => wpEs.mono es ρ _ _ (fun xs ρ1 z => by
      split at z
      · obtain ⟨j, g, h1, h2, h3, h4, h5⟩ := z
        exact ⟨j, g, h1, h2, h3, h4, g.mono _ _ _ (fun r ms z => h _ _ z) h5⟩
      · exact z) z
  | .bi f es, ρ, P, Q, h, z => wpEs.mono es ρ _ _ (fun xs ρ1 z => by
      split at z
      · exact biS.mono (fun _ z => h _ _ z) z
      · exact z) z
  | .isi a ts _, ρ, P, Q, h, z => wpE.mono a ρ _ _ (fun _ _ z => lk1.mono (fun _ z => h _ _ z) z) z
  | .mt m i es, ρ, P, Q, h, z => ⟨z.1, wpEs.mono es ρ _ _ (fun xs ρ1 z => by
      split at z
      · exact ⟨z.1, mtS.mono (fun _ _ z => h _ _ z) z.2⟩
      · exact z) z.2⟩
  | .lc elt tg it c ow, ρ, P, Q, h, z => by
    unfold wpE at z ⊢
    refine wpI.mono it ρ _ _ (fun items ρ1 z => ?_) z
    refine lcL.mono (fun d ρ2 P Q h z => ?_) (fun _ _ z => h _ _ z) z
    refine wpG.mono tg _ ρ2 _ _ (fun ρ3 z => ?_) z
    refine cnd.mono (wpT.mono c) (fun t ρ4 z => ?_) z
    split at z
    · rename_i e
      rw [if_pos e]
      refine wpE.mono elt _ _ _ (fun o ρ5 z => ?_) z
      cases o with
      | v x => exact h _ _ z
      | bor i => exact z
    · rename_i e
      rw [if_neg e]
      exact h _ _ z
theorem wpT.mono : ∀ (e : E) (ρ : VEnv) (P Q : Bool → VEnv → Prop), (∀ a b, P a b → Q a b) → wpT Γ k pn e ρ P → wpT Γ k pn e ρ Q
  | .not a, ρ, P, Q, h, z => wpT.mono a ρ _ _ (fun _ _ z => h _ _ z) z
  | .and a b, ρ, P, Q, h, z => wpT.mono a ρ _ _ (fun c _ z => by
      split at z
      · rename_i e; rw [if_pos e]; exact wpT.mono b _ _ _ h z
      · rename_i e; rw [if_neg e]; exact h _ _ z) z
  | .andC a b, ρ, P, Q, h, z => wpT.mono a ρ _ _ (fun c _ z => by
      split at z
      · rename_i e; rw [if_pos e]; exact wpT.mono b _ _ _ h z
      · rename_i e; rw [if_neg e]; exact h _ _ z) z
  | .or a b, ρ, P, Q, h, z => wpT.mono a ρ _ _ (fun c _ z => by
      split at z
      · rename_i e; rw [if_pos e]; exact h _ _ z
      · rename_i e; rw [if_neg e]; exact wpT.mono b _ _ _ h z) z
  | .orC a b, ρ, P, Q, h, z => wpT.mono a ρ _ _ (fun c _ z => by
      split at z
      · rename_i e; rw [if_pos e]; exact h _ _ z
      · rename_i e; rw [if_neg e]; exact wpT.mono b _ _ _ h z) z
  | .cmp o a b, ρ, P, Q, h, z => wpE.mono a ρ _ _ (fun _ _ z => wpE.mono b _ _ _ (fun _ _ z => lk2.mono (fun _ _ z => cmpS.mono (fun _ z => h _ _ z) z) z) z) z
  | .var i, ρ, P, Q, h, z => by
    unfold wpT at z ⊢
    split at z
    · exact truS.mono (fun _ z => h _ _ z) z
    · exact z
  | .call f es, ρ, P, Q, h, z => wpEs.mono es ρ _ _ (fun xs ρ1 z => by
      split at z
      · obtain ⟨j, g, h1, h2, h3, h4, h5⟩ := z
        exact ⟨j, g, h1, h2, h3, h4, g.mono _ _ _ (fun r ms z => truS.mono (fun _ z => h _ _ z) z) h5⟩
      · exact z) z
  | .idx a b, ρ, P, Q, h, z => wpE.mono a ρ _ _ (fun _ _ z => wpE.mono b _ _ _ (fun _ _ z => lk2.mono (fun _ _ z => idxS.mono (fun _ z => truS.mono (fun _ z => h _ _ z) z) z) z) z) z
  | .isi a ts _, ρ, P, Q, h, z => wpE.mono a ρ _ _ (fun _ _ z => lk1.mono (fun _ z => h _ _ z) z) z
  | .fz _, _, _, _, _, z => z
  | .bor _, _, _, _, _, z => z
  | .int _, _, _, _, _, z => z
  | .bl _, _, _, _, _, z => z
  | .non, _, _, _, _, z => z
  | .str _, _, _, _, _, z => z
  | .bin _ _ _, _, _, _, _, z => z
  | .neg _, _, _, _, _, z => z
  | .ife _ _ _, _, _, _, _, z => z
  | .slc _ _ _, _, _, _, _, z => z
  | .noE, _, _, _, _, z => z
  | .tup _, _, _, _, _, z => z
  | .lst _, _, _, _, _, z => z
  | .bi _ _, _, _, _, _, z => z
  | .mt _ _ _, _, _, _, _, z => z
  | .lc _ _ _ _ _, _, _, _, _, z => z
theorem wpEs.mono : ∀ (e : Es) (ρ : VEnv) (P Q : List Opd → VEnv → Prop), (∀ a b, P a b → Q a b) → wpEs Γ k pn e ρ P → wpEs Γ k pn e ρ Q
  | .nil, _, _, _, h, z => h _ _ z
  | .cons e es, ρ, P, Q, h, z => wpE.mono e ρ _ _ (fun _ _ z => wpEs.mono es _ _ _ (fun _ _ z => h _ _ z) z) z
theorem wpG.mono : ∀ (t : Tg) (x : Val) (ρ : VEnv) (P Q : VEnv → Prop), (∀ b, P b → Q b) → wpG Γ k pn t x ρ P → wpG Γ k pn t x ρ Q
  | .nm i, x, ρ, P, Q, h, z => ⟨z.1, h _ z.2⟩
  | .tup ts, x, ρ, P, Q, h, z => tupOf.mono (fun _ z => ⟨z.1, wpGs.mono ts _ _ _ _ h z.2⟩) z
  | .sub i ix, x, ρ, P, Q, h, z => ⟨z.1, wpE.mono ix ρ _ _ (fun _ _ z => intOf.mono (fun _ z => subS.mono h z) z) z.2⟩
theorem wpGs.mono : ∀ (t : Tgs) (x : List D) (ρ : VEnv) (P Q : VEnv → Prop), (∀ b, P b → Q b) → wpGs Γ k pn t x ρ P → wpGs Γ k pn t x ρ Q
  | .nil, [], _, _, _, h, z => h _ z
  | .nil, _ :: _, _, _, _, h, z => z
  | .cons t ts, [], _, _, _, _, z => z
  | .cons t ts, d :: ds, ρ, P, Q, h, z => wpG.mono t _ ρ _ _ (fun _ z => wpGs.mono ts ds _ _ _ h z) z
theorem wpI.mono : ∀ (t : It) (ρ : VEnv) (P Q : List D → VEnv → Prop), (∀ a b, P a b → Q a b) → wpI Γ k pn t ρ P → wpI Γ k pn t ρ Q
  | .e a, ρ, P, Q, h, z => wpE.mono a ρ _ _ (fun o _ z => by
      cases o with
      | v d => exact seqOf.mono (fun _ z => h _ _ z) z
      | bor i => exact z) z
  | .rng a, ρ, P, Q, h, z => wpE.mono a ρ _ _ (fun _ _ z => intOf.mono (fun _ z => ⟨z.1, h _ _ z.2⟩) z) z
  | .rng2 a b, ρ, P, Q, h, z => wpE.mono a ρ _ _ (fun _ _ z => wpE.mono b _ _ _ (fun _ _ z => intOf.mono (fun _ z => intOf.mono (fun _ z => ⟨z.1, h _ _ z.2⟩) z) z) z) z
end
end
end MP

/-! MiniPy, part 4: rules that the hand layer lacks. -/
namespace MP
open PySem PySem.Spec PyProof.Rows L2
section
variable {X : Cx}

/-- t + u of tuples, either perhaps empty -/
def rCatTA (K : PySem.W.Frag) : R2 := fun x y H Q => ∃ a b xs ys, x = .ref a ∧ y = .ref b ∧ SqT K H a xs ∧ SqT K H b ys ∧ xs.length + ys.length ≤ sizeLine ∧
  (xs = [] → Q (.ref b) H) ∧ (xs ≠ [] → ys = [] → Q (.ref a) H) ∧ (∀ p, H p = none → Q (.ref p) (upd H p (.tup (xs ++ ys))))
theorem op_catTA : OpR X (binaryOp .Add) (rCatTA X.K) := by
  intro pins s σ H x y v u Q I rx ry h
  obtain ⟨a, b, xs, ys, rfl, rfl, ha, hb, hz, q0, q1, q2⟩ := h
  cases rx
  cases ry
  obtain ⟨its, r1, p1, _⟩ := I.tuple ha
  obtain ⟨its2, r2, p2, _⟩ := I.tuple hb
  by_cases hx : xs = []
  · have e1 : its = [] := r1.nil_iff.mpr hx
    obtain ⟨⟨cls, dd, data, sl⟩, ho, hc, n, hd⟩ := id p1
    obtain ⟨⟨cls2, dd2, data2, sl2⟩, ho2, hc2, n2, hd2⟩ := id p2
    simp only at hc hd hc2 hd2
    subst hc hd hc2 hd2
    exact concat_meets ⟨_, ho, rfl⟩ ⟨_, ho2, rfl⟩ noFill_tuple_add seq_tuple_add PySem.F.slot_tuple_add PySem.F.entry_tuple_add (PySem.F.args_tuple_add_2 _ _)
      (tuple_addW0 a b its.toArray its2.toArray n n2 dd dd2 sl sl2 (by simp [e1])) ⟨ho, ho2, ⟨.ref b, H, I, rfl, q0 hx⟩⟩
  · refine HT.cat_tup p1 p2 (fun z => hx (r1.nil_iff.mp z)) (fun z => ⟨.ref a, H, I, rfl, q1 hx (r2.nil_iff.mp z)⟩) (fun z => ?_) (by rw [← r1.length, ← r2.length]; exact hz)
    have hn : H s.heap.objs.size = none := I.hok.fresh (Nat.le_refl _)
    refine ⟨.ref s.heap.objs.size, _, ?_, rfl, q2 _ hn⟩
    exact I.laid (t' := s.toks) (fun b o e => Heap.get?_push_of_some _ e) (Nat.le_refl _) ⟨by rw [List.length_append]; exact hz, _, r1.append r2, _, Heap.get?_push_size _ rfl, rfl, 0, rfl⟩
/-- two lists, read -/
def rCatLA (K : PySem.W.Frag) : R2 := fun x y H Q => ∃ a b xs ys, x = .ref a ∧ y = .ref b ∧ SqL K H a xs ∧ SqL K H b ys ∧ xs.length + ys.length ≤ sizeLine ∧
  (∀ p, H p = none → Q (.ref p) (upd H p (.lst (xs ++ ys))))
theorem op_catLA : OpR X (binaryOp .Add) (rCatLA X.K) := by
  intro pins s σ H x y v u Q I rx ry h
  obtain ⟨a, b, xs, ys, rfl, rfl, ha, hb, hz, q⟩ := h
  cases rx
  cases ry
  obtain ⟨its, r1, ⟨⟨cls, dd, data, sl⟩, n, ho, hc, hdn, hd⟩, _⟩ := I.list ha
  obtain ⟨its2, r2, ⟨⟨cls2, dd2, data2, sl2⟩, n2, ho2, hc2, hdn2, hd2⟩, _⟩ := I.list hb
  simp only at hc hd hc2 hd2
  subst hc hd hc2 hd2
  have l1 := r1.length
  have l2 := r2.length
  refine concat_meets ⟨_, ho, rfl⟩ ⟨_, ho2, rfl⟩ noFill_list_add seq_list_add PySem.F.slot_list_add PySem.F.entry_list_add (PySem.F.args_list_add_2 _ _)
      (list_addW a b its.toArray its2.toArray n n2 dd dd2 sl sl2 (by rw [List.size_toArray, List.size_toArray]; omega)) ⟨ho, ho2, ?_⟩
  have ea : its.toArray ++ its2.toArray = (its ++ its2).toArray := by simp
  rw [ea]
  have hn : H s.heap.objs.size = none := I.hok.fresh (Nat.le_refl _)
  refine ⟨.ref s.heap.objs.size, _, ?_, rfl, q _ hn⟩
  exact I.laid (t' := s.toks) (fun b o e => Heap.get?_push_of_some _ e) (Nat.le_refl _) ⟨by rw [List.length_append]; exact hz, _, 0, r1.append r2, Heap.get?_push_size _ rfl⟩
def CDivA (i j : Int) : Prop := j ≠ 0 ∧ j.natAbs.log2 < 9000
theorem op_fdivA : OpR X (binaryOp .FloorDiv) (rI CDivA fun i j => .int (i.fdiv j)) := opI fun _ _ _ _ _ _ _ hc q => floordiv_int hc.1 q (.inl (PyProof.noPylong_of_log2 hc.2))
/-- t[lo:hi], the whole of it is t itself -/
def rSlTA (K : PySem.W.Frag) : V → Option Int → Option Int → Hp → VK → Prop := fun x lo hi H Q => ∃ a xs, x = .ref a ∧ SqT K H a xs ∧
  ((HT.sIx xs.length 0 lo = 0 ∧ HT.sIx xs.length xs.length hi = xs.length) → Q (.ref a) H) ∧ ∀ p, H p = none → Q (.ref p) (upd H p (.tup (cutV xs lo hi)))
end
section
variable {prog : Program} {w : World} {A : Around} {E : Value → Shared → Prop} {s : Shared}
theorem getItem_tuple_all {t sl : Addr} {items : Array Value} {vl vu : Value} {lo hi : Option Int} {Q : Value → Shared → Prop} (ht : IsTup s.heap t items) (hs : s.heap.IsSliceOf sl vl vu .none) (pl : IsPart vl lo) (pu : IsPart vu hi)
    (hw : HT.sIx items.size 0 lo = 0 ∧ HT.sIx items.size items.size hi = items.size) (h : Q (.ref t) s) : wpAny (model prog w) A (getItem (.ref t) (.ref sl)) Q E s := by
  obtain ⟨os, hos, hcs, hds⟩ := id hs
  have hTs : s.TypeIs (.ref sl) "slice" := ⟨os, hos, hcs⟩
  unfold getItem
  try with_reducible refine wpAny_holding ?_
  first | refine wpAny_bind (wpAny_pure ?_) | skip
  refine wpAny_bind (wpAny_sequenceKey ht.typeIs (by decide) ?_)
  refine wpAny_bind (wpAny_callSpecial?_slot (name := Str.ofString "__getitem__") ht.typeIs PyProof.Rows.slot_tuple_getitem
    (wpAny_call_entry PyProof.Rows.slot_tuple_getitem ht.typeIs entry_tuple_getitem ?_ (args_tuple_getitem _ _)))
  show wpAny _ _ (Builtin.Tuple.tupleItemsOf (.ref t) >>= _) _ _ s
  refine wpAny_bind (tupleItemsOf_ ht ?_)
  refine wpAny_bind (wpAny_typeOf hTs ?_)
  rw [if_pos (by decide)]
  refine wpAny_bind (HT.sliceApplied_gen hs pl pu ?_)
  have yes : (((HT.sIx items.size 0 lo : Nat) : Int) == 0 && (1 : Int) == 1 && (HT.sIx items.size items.size hi - HT.sIx items.size 0 lo) == items.size) = true := by
    rw [hw.1, hw.2]; simp
  show wpAny _ _ (if (((HT.sIx items.size 0 lo : Nat) : Int) == 0 && (1 : Int) == 1 && (HT.sIx items.size items.size hi - HT.sIx items.size 0 lo) == items.size) = true then _ else _) _ _ s
  rw [if_pos yes]
  refine wpAny_bind (wpAny_bind (wpAny_typeOf ht.typeIs (wpAny_pure ?_)))
  rw [if_pos (by decide)]
  exact wpAny_bind (wpAny_rule (wpAny_pure ⟨_, rfl, wpAny_pure h⟩))
end
section
variable {X : Cx}
theorem sl_tupA : L2.SlR X (rSlTA X.K) := by
  intro pins s σ H x v vl vu lo hi sl Q I rx hs pl pu h
  obtain ⟨a, xs, rfl, hx, q1, q2⟩ := h
  cases rx
  obtain ⟨its, r, ht, hz⟩ := I.tuple hx
  have hlen : its.toArray.size = xs.length := by rw [List.size_toArray]; exact r.length.symm
  refine ⟨"tuple", _, PyProof.Rows.slot_tuple_getitem.lookup, ht.typeIs, ?_⟩
  by_cases hw : HT.sIx xs.length 0 lo = 0 ∧ HT.sIx xs.length xs.length hi = xs.length
  · exact getItem_tuple_all ht hs pl pu (by rw [hlen]; exact hw) ⟨.ref a, H, I, rfl, q1 hw⟩
  · refine HT.getItem_tuple_cut ht hs pl pu (by rw [hlen]; exact hw) ?_ (by rw [hlen]; exact hz)
    rw [hlen]
    refine ⟨.ref s.heap.objs.size, _, I.laid (t' := s.toks) (o := .tup (cutV xs lo hi)) (fun b ob q => Heap.get?_push_of_some _ q) (Nat.le_refl _) ?_, rfl, q2 _ (I.hok.fresh (Nat.le_refl _))⟩
    exact ⟨Nat.le_trans (cutV_length xs lo hi) hz, _, (r.drop (HT.sIx xs.length 0 lo)).take (HT.sIx xs.length xs.length hi - HT.sIx xs.length 0 lo), IsTup.new _ _⟩
/-- a walk over a list or a tuple -/
def iSeqA (K : PySem.W.Frag) (tl : L2.TE) : L2.TI := fun σ H R => tl σ H fun x H1 => ∃ a, x = .ref a ∧ (((∃ xs, SqL K H1 a xs) ∧ R (Itl K a) H1) ∨ ((∃ xs, SqT K H1 a xs) ∧ R (Itt K a) H1))
theorem pi_seqA {tg l : Expr} {tl : L2.TE} (hl : L2.PE X l tl) : L2.PI X tg l (iSeqA X.K tl) := by
  refine ⟨fun pins s σ H R I h => ?_⟩
  refine thn (hl.run pins s σ H _ I h) fun v s1 ⟨x, H1, I1, r1, q1⟩ => ?_
  obtain ⟨a, e, q⟩ := q1
  subst e
  cases r1
  have J : ∀ o : Obj, L2.Inv X pins σ H1 { s1 with heap := s1.heap.push o } := fun o => I1.kept (t' := s1.toks) fun b _ e => Heap.get?_push_of_some _ e
  have fpk : ∀ b ∈ [s1.heap.objs.size], FpOk X pins H1 b := fun b hb => by
    have e : b = s1.heap.objs.size := by simpa using hb
    subst e
    exact I1.fpOk (Nat.le_refl _) (I1.hok.fresh (Nat.le_refl _))
  rcases q with ⟨⟨xs, hq⟩, q⟩ | ⟨⟨xs, hq⟩, q⟩
  · obtain ⟨its, rv, p, hz⟩ := I1.list hq
    exact wpAny_pyIter_list p.isList ⟨s1.heap.objs.size, [s1.heap.objs.size], _, _, H1, rfl, J _, turn_list a _, ⟨_, Heap.get?_push_size _ rfl, rfl, rfl⟩, fpk, q⟩
  · obtain ⟨its, rv, p, hz⟩ := I1.tuple hq
    exact wpAny_pyIter_tuple (show s1.heap.IsTuple a its.toArray from p) ⟨s1.heap.objs.size, [s1.heap.objs.size], _, _, H1, rfl, J _, turn_tuple a _, ⟨_, Heap.get?_push_size _ rfl, rfl, rfl⟩, fpk, q⟩
end
end MP

/-! MiniPy, part 5: which text a term of MiniPy is of; what is handed on. -/
namespace MP
open PySem PySem.Spec PyProof.Rows L2

structure Ctx where
  N : List Str
  sc : Scope
  ws : Scope
  bn : List Str
  fs : List Str
  gc : Bool
def visB (sc : Scope) (x : Str) : Bool := match sc.names.lookup x with
  | some .local => true
  | some .cell => true
  | some .free => true
  | _ => false
def locB (sc : Scope) (x : Str) : Bool := match sc.names.lookup x with
  | some .local => true
  | some .cell => true
  | _ => false
def nmOk (c : Ctx) (i : Nat) (x : Str) : Bool := decide (c.N[i]? = some x) && visB c.sc x && !(x == ("__debug__" : Str)) && !(x == ("__classdict__" : Str))
def stOk (c : Ctx) (i : Nat) (x : Str) : Bool := decide (c.N[i]? = some x) && locB c.ws x
def glB (c : Ctx) (x : Str) : Bool := match c.sc.names.lookup x with
  | some .globalImplicit => true
  | _ => false
def glOk (c : Ctx) (x : Str) : Bool := glB c x && !(x == ("__debug__" : Str))
def bnOk (c : Ctx) (x y : Str) : Bool := glB c x && decide (x = y) && decide (x ∈ c.bn)
def opK : Op → Operator
  | .add => .Add | .sub => .Sub | .mul => .Mult | .fdiv => .FloorDiv | .mod => .Mod | .pow => .Pow | .shl => .LShift | .band => .BitAnd | .bxor => .BitXor
def cmK : Cm → CmpOp
  | .lt => .Lt | .le => .LtE | .gt => .Gt | .ge => .GtE | .eq => .Eq | .ne => .NotEq | .isN => .Is | .notN => .IsNot | .isin => .In | .notin => .NotIn
def opB (o : Op) (o' : Operator) : Bool := match o, o' with
  | .add, .Add => true | .sub, .Sub => true | .mul, .Mult => true | .fdiv, .FloorDiv => true | .mod, .Mod => true | .pow, .Pow => true | .shl, .LShift => true | .band, .BitAnd => true | .bxor, .BitXor => true
  | _, _ => false
theorem opB_eq {o : Op} {o' : Operator} (h : opB o o' = true) : o' = opK o := by
  cases o <;> cases o' <;> first | rfl | cases h
def cmB (o : Cm) (o' : CmpOp) : Bool := match o, o' with
  | .lt, .Lt => true | .le, .LtE => true | .gt, .Gt => true | .ge, .GtE => true | .eq, .Eq => true | .ne, .NotEq => true | .isN, .Is => true | .notN, .IsNot => true | .isin, .In => true | .notin, .NotIn => true
  | _, _ => false
theorem cmB_eq {o : Cm} {o' : CmpOp} (h : cmB o o' = true) : o' = cmK o := by
  cases o <;> cases o' <;> first | rfl | cases h
def biN : Bi → Str
  | .len => "len" | .abs => "abs" | .max2 => "max" | .min2 => "min" | .toInt => "int" | .toList => "list" | .toTuple => "tuple" | .gcd => "gcd"
def tyS : Ty → String
  | .tuple => "tuple" | .list => "list" | .bool => "bool" | .int => "int" | .str => "str"
def tyN : Ty → Str
  | .tuple => "tuple" | .list => "list" | .bool => "bool" | .int => "int" | .str => "str"
def mtN : Mt → Str
  | .append => "append" | .pop => "pop" | .reverse => "reverse"
def mTys (c : Ctx) : List Ty → List Expr → Bool
  | [], [] => true
  | t :: ts, .Name x _ :: es => bnOk c x (tyN t) && mTys c ts es
  | _, _ => false
/-- the block of a comprehension -/
def Ctx.blk (c : Ctx) (scope : Scope) : Ctx := { c with sc := relS scope c.sc, ws := scope }
def ownOf (c : Ctx) (ow : List Nat) : List (Str × Nat) := ow.map fun i => (c.N.getD i (Str.ofString ""), i)

mutual
def tgS : Tg → List Nat
  | .nm i => [i]
  | .tup ts => tgsS ts
  | .sub _ _ => []
def tgsS : Tgs → List Nat
  | .nil => []
  | .cons t ts => tgS t ++ tgsS ts
end
mutual
def mE (c : Ctx) : E → Expr → Bool
  | .var i, .Name x _ => nmOk c i x
  | .fz i, .Name x _ => nmOk c i x
  | .bor i, .Name x _ => nmOk c i x
  | .int i, .Constant (.int j) _ _ => decide (i = j)
  | .bl i, .Constant (.bool j) _ _ => decide (i = j)
  | .non, .Constant .none _ _ => true
  | .str i, .Constant (.str j) _ _ => decide (i = j)
  | .bin o a b, .BinOp a' o' b' _ => opB o o' && mE c a a' && mE c b b'
  | .neg a, .UnaryOp .USub a' _ => mE c a a'
  | .cmp o a b, .Compare a' [o'] [b'] _ => cmB o o' && mE c a a' && mE c b b'
  | .not a, .UnaryOp .Not a' _ => mE c a a'
  | .and a b, .BoolOp .And [a', b'] _ => mE c a a' && mE c b b'
  | .or a b, .BoolOp .Or [a', b'] _ => mE c a a' && mE c b b'
  | .andC a b, .BoolOp .And (a' :: e1 :: e2 :: es) p => mE c a a' && mE c b (.BoolOp .And (e1 :: e2 :: es) p)
  | .orC a b, .BoolOp .Or (a' :: e1 :: e2 :: es) p => mE c a a' && mE c b (.BoolOp .Or (e1 :: e2 :: es) p)
  | .ife t a b, .IfExp t' a' b' _ => mE c t t' && mE c a a' && mE c b b'
  | .idx a b, .Subscript a' b' _ => mE c a a' && mE c b b'
  | .slc a lo hi, .Subscript a' (.Slice lo' hi' none _) _ => mE c a a' && (match lo', lo with | none, .noE => true | none, _ => false | some _, .noE => false | some e, _ => mE c lo e) && (match hi', hi with | none, .noE => true | none, _ => false | some _, .noE => false | some e, _ => mE c hi e)
  | .tup es, .Tuple es' _ _ => mEs c es es'
  | .lst es, .List es' _ => mEs c es es'
  | .call f es, .Call (.Name x _) es' [] _ => decide (x = f) && glOk c x && decide (x ∈ c.fs) && mEs c es es'
  | .bi f es, .Call (.Name x _) es' [] _ => (match f with
    | .gcd => c.gc && glOk c x && decide (x = biN .gcd)
    | f => bnOk c x (biN f)) && mEs c es es' && (match es' with | [] => false | _ => true)
  | .isi a ts tp, .Call (.Name x _) [a', t'] [] _ => bnOk c x "isinstance" && mE c a a' && (match tp, ts, t' with
    | false, [t], .Name y _ => bnOk c y (tyN t)
    | true, ts, .Tuple es _ _ => mTys c ts es && decide (ts.length ≤ 1000)
    | _, _, _ => false)
  | .mt m i es, .Call (.Attribute (.Name x _) a p) es' [] q => nmOk c i x && decide (a = mtN m) && mEs c es es' && (p.endLine == q.line) && decide (es'.length < 2)
  | .lc elt tg it cn ow, .ListComp e' [⟨tg', it', ifs, ia⟩] scope _ => decide (ia = 0) && blkC c.N c.sc scope (ownOf c ow) && (tgS tg).all (fun j => decide (j ∈ ow)) && mI c it it' && mG (c.blk scope) tg tg' && (match ifs with
    | [] => (match cn with | .noE => true | _ => false)
    | [t'] => (match cn with | .noE => false | _ => mE (c.blk scope) cn t')
    | _ => false) && mE (c.blk scope) elt e'
  | _, _ => false
def mEs (c : Ctx) : Es → List Expr → Bool
  | .nil, [] => true
  | .cons e es, e' :: es' => mE c e e' && mEs c es es'
  | _, _ => false
def mG (c : Ctx) : Tg → Expr → Bool
  | .nm i, .Name x _ => stOk c i x
  | .tup ts, .Tuple es _ _ => mGs c ts es
  | .sub i ix, .Subscript (.Name x _) e _ => nmOk c i x && mE c ix e
  | _, _ => false
def mGs (c : Ctx) : Tgs → List Expr → Bool
  | .nil, [] => true
  | .cons t ts, e :: es => mG c t e && mGs c ts es
  | _, _ => false
def mI (c : Ctx) : It → Expr → Bool
  | .e a, e => mE c a e
  | .rng a, .Call (.Name x _) [a'] [] _ => bnOk c x "range" && mE c a a'
  | .rng2 a b, .Call (.Name x _) [a', b'] [] _ => bnOk c x "range" && mE c a a' && mE c b b'
  | _, _ => false
end
end MP

/-! MiniPy, part 6: readings; each construct. -/
namespace MP
open PySem PySem.Spec PyProof.Rows L2

def toO : Opd → Option Val
  | .v d => some d
  | .bor _ => none
def frO : Opd → Option Val
  | .v d => some (.im (frz d))
  | .bor _ => none
def atO (σ : L2.St) : Opd → V → Prop
  | .v _, _ => True
  | .bor i, v => σ[i]? = some (some v)
def atOs (σ : L2.St) : List Opd → List V → Prop
  | [], vs => vs = []
  | o :: os, vs => ∃ v vr, vs = v :: vr ∧ atO σ o v ∧ atOs σ os vr
theorem atOs.length {σ : L2.St} : ∀ {os : List Opd} {vs : List V}, atOs σ os vs → vs.length = os.length
  | [], _, h => by rw [show _ = _ from h]; rfl
  | o :: os, vs, h => by
    obtain ⟨v, vr, rfl, _, h⟩ := h
    rw [List.length_cons, List.length_cons, atOs.length h]

/-- a value that is looked at: its items may be shared, itself perhaps not -/
def RepW (K : PySem.W.Frag) (H : Hp) (S : Addr → Prop) (d : D) (v : V) : Prop := match d with
  | .lst l => ∃ a vs, v = .ref a ∧ SqL K H a vs ∧ RepDs K H S l vs
  | d => RepD K H S d v
theorem RepW.of {K : PySem.W.Frag} {H : Hp} {S : Addr → Prop} {d : D} {v : V} (h : RepD K H S d v) : RepW K H S d v := by
  cases d with
  | lst l =>
    obtain ⟨a, vs, e, h1, h2⟩ := h
    exact ⟨a, vs, e, h1.elim (fun z => .inl z.2) KL.sq, h2⟩
  | _ => exact h

section
variable (K : PySem.W.Frag) (Γ : Tab) (k : Nat) (pn : List Nat)
/-- what stands at a state: temporary values, then the slots -/
structure At (H : Hp) (F : Addr → HO → Prop) (G : Addr → Prop) (td : VEnv) (tv : L2.St) (ρ : VEnv) (σ : L2.St) : Prop where
  len : td.length = tv.length
  rel : Rel K H F G (td ++ ρ) (tv ++ σ)
def rE (m : E) : L2.TE := fun σ H Q => ∃ F G td tv ρ, At K H F G td tv ρ σ ∧ wpE Γ k pn m ρ fun o ρ' => ∀ v H', At K H' F G (toO o :: td) (some v :: tv) ρ' σ → atO σ o v → Q v H'
def rT (m : E) : L2.TT := fun σ H Q => ∃ F G td tv ρ, At K H F G td tv ρ σ ∧ wpT Γ k pn m ρ fun b ρ' => ∀ H', At K H' F G td tv ρ' σ → Q b H'
def rA (m : Es) : L2.TA := fun σ H Q => ∃ F G td tv ρ, At K H F G td tv ρ σ ∧ wpEs Γ k pn m ρ fun os ρ' => ∀ vs H', At K H' F G (os.map toO ++ td) (vs.map some ++ tv) ρ' σ → atOs σ os vs → Q vs H'
end

section
variable {K : PySem.W.Frag} {Γ : Tab} {k : Nat} {pn : List Nat} {H H' : Hp} {F : Addr → HO → Prop} {G : Addr → Prop} {td : VEnv} {tv σ : L2.St} {ρ : VEnv} {Q : VK}
theorem rE.intro {m : E} {P : Opd → VEnv → Prop} (A : At K H F G td tv ρ σ) (h : wpE Γ k pn m ρ P) (hq : ∀ o ρ' v H', P o ρ' → At K H' F G (toO o :: td) (some v :: tv) ρ' σ → atO σ o v → Q v H') : rE K Γ k pn m σ H Q :=
  ⟨F, G, td, tv, ρ, A, wpE.mono m ρ _ _ (fun o ρ' p v H' a b => hq o ρ' v H' p a b) h⟩
theorem rT.intro {m : E} {Q : Bool → Hp → Prop} {P : Bool → VEnv → Prop} (A : At K H F G td tv ρ σ) (h : wpT Γ k pn m ρ P) (hq : ∀ o ρ' H', P o ρ' → At K H' F G td tv ρ' σ → Q o H') : rT K Γ k pn m σ H Q :=
  ⟨F, G, td, tv, ρ, A, wpT.mono m ρ _ _ (fun o ρ' p H' a => hq o ρ' H' p a) h⟩
theorem rA.intro {m : Es} {Q : List V → Hp → Prop} {P : List Opd → VEnv → Prop} (A : At K H F G td tv ρ σ) (h : wpEs Γ k pn m ρ P)
    (hq : ∀ os ρ' vs H', P os ρ' → At K H' F G (os.map toO ++ td) (vs.map some ++ tv) ρ' σ → atOs σ os vs → Q vs H') : rA K Γ k pn m σ H Q :=
  ⟨F, G, td, tv, ρ, A, wpEs.mono m ρ _ _ (fun o ρ' p vs H' a b => hq o ρ' vs H' p a b) h⟩
theorem At.lens (A : At K H F G td tv ρ σ) : ρ.length = σ.length := by
  have := A.rel.len
  have := A.len
  simp at *
  omega
/-- a temporary value is one's own no longer -/
theorem At.frz {o : Opd} {v : V} (A : At K H F G (toO o :: td) (some v :: tv) ρ σ) : At K H F G (frO o :: td) (some v :: tv) ρ σ := by
  cases o with
  | bor i => exact A
  | v d => exact ⟨A.len, A.rel.frzAt (i := 0) (d := d) rfl⟩
theorem At.frzs : ∀ {os : List Opd} {vs : List V} {td : VEnv} {tv : L2.St}, os.length = vs.length → At K H F G (os.map toO ++ td) (vs.map some ++ tv) ρ σ → At K H F G (os.map frO ++ td) (vs.map some ++ tv) ρ σ := by
  have key : ∀ {os : List Opd} {vs : List V} {td : VEnv} {tv : L2.St} (pre : VEnv) (pre' : L2.St), pre.length = pre'.length → os.length = vs.length → Rel K H F G (pre ++ (os.map toO ++ (td ++ ρ))) (pre' ++ (vs.map some ++ (tv ++ σ))) → Rel K H F G (pre ++ (os.map frO ++ (td ++ ρ))) (pre' ++ (vs.map some ++ (tv ++ σ))) := by
    intro os
    induction os with
    | nil => intro vs td tv pre pre' _ hl R; cases vs; exact R; simp at hl
    | cons o os ih =>
      intro vs td tv pre pre' hp hl R
      cases vs with
      | nil => simp at hl
      | cons v vs =>
        have R' : Rel K H F G (pre ++ (frO o :: (os.map toO ++ (td ++ ρ)))) (pre' ++ (some v :: (vs.map some ++ (tv ++ σ)))) := by
          cases o with
          | bor i => exact R
          | v d =>
            have e : (pre ++ (List.map toO (Opd.v d :: os) ++ (td ++ ρ)))[pre.length]? = some (some d) := by simp [toO]
            have z := R.frzAt e
            simp only [List.map_cons, List.cons_append, toO] at z
            rw [List.set_append_right _ _ (Nat.le_refl _), Nat.sub_self] at z
            exact z
        have z := ih (vs := vs) (td := td) (tv := tv) (pre ++ [frO o]) (pre' ++ [some v]) (by simp [hp]) (by simpa using hl) (by simpa using R')
        simpa using z
  intro os vs td tv hl A
  refine ⟨by have := A.len; simpa using this, ?_⟩
  have z := key (os := os) (vs := vs) (td := td) (tv := tv) [] [] rfl hl (by have := A.rel; simpa using this)
  simpa using z

/-- what is looked at, at the place p of the temporary values -/
theorem look_at {fp : Fpt} {o : Opd} {v : V} {d : D} {p : Nat} (hl : td.length = tv.length) (r : RelF K H F G (td ++ ρ) (tv ++ σ) fp) (hp : td[p]? = some (frO o)) (hv : tv[p]? = some (some v)) (ha : atO σ o v) (e : look ρ o = some d) : RepW K H (Shr fp G) d v := by
  have hlt : p < td.length := (List.getElem?_eq_some_iff.mp hp).1
  cases o with
  | v x =>
    have e : some (frz x) = some d := e
    cases e
    obtain ⟨v', e1, q⟩ := r.rep p (.im (frz x)) (by rw [List.getElem?_append_left hlt]; exact hp)
    rw [List.getElem?_append_left (by omega), hv] at e1
    cases e1
    exact RepW.of q.1
  | bor i =>
    have e : (match slotV ρ i with | some (.im d) => some d | some (.ml l) => some (.lst l) | _ => none) = some d := e
    have go : ∀ x, slotV ρ i = some x → ∃ f, Rep K H (Shr fp G) x v f := fun x hx => by
      have hx' : ρ[i]? = some (some x) := by
        unfold slotV at hx
        cases q : ρ[i]? with
        | none => rw [q] at hx; cases hx
        | some y => rw [q] at hx; exact congrArg some hx
      obtain ⟨v', e1, q⟩ := r.rep (td.length + i) x (by rw [List.getElem?_append_right (by omega)]; simpa using hx')
      rw [List.getElem?_append_right (by omega), show td.length + i - tv.length = i by omega, show σ[i]? = some (some v) from ha] at e1
      cases e1
      exact ⟨_, q⟩
    split at e
    · rename_i x hx
      cases e
      obtain ⟨f, q⟩ := go _ hx
      exact RepW.of q.1
    · rename_i l hx
      cases e
      obtain ⟨f, a, vs, e2, h1, h2, _⟩ := go _ hx
      exact ⟨a, vs, e2, .inl (.inl h1), h2⟩
    · cases e
theorem looks_at {fp : Fpt} : ∀ {os : List Opd} {vs : List V} {ds : List D} {pre : VEnv} {pre' : L2.St}, pre.length = pre'.length → td.length = tv.length → RelF K H F G ((pre ++ (os.map frO ++ td)) ++ ρ) ((pre' ++ (vs.map some ++ tv)) ++ σ) fp → atOs σ os vs → looks ρ os = some ds →
    ds.length = os.length ∧ ∀ (i : Nat) d v, ds[i]? = some d → vs[i]? = some v → RepW K H (Shr fp G) d v := by
  intro os
  induction os with
  | nil =>
    intro vs ds pre pre' _ _ _ _ e
    cases e
    exact ⟨rfl, fun i d v e => by simp at e⟩
  | cons o os ih =>
    intro vs ds pre pre' hp hl r ha e
    obtain ⟨v, vr, rfl, ha, hr⟩ := ha
    unfold looks at e
    have lv := hr.length
    split at e
    · rename_i d ds' e1 e2
      cases e
      have h1 := look_at (p := pre.length) (o := o) (v := v) (d := d) (by simp; omega) r (by simp) (by rw [hp]; simp) ha e1
      obtain ⟨h2, h3⟩ := ih (vs := vr) (ds := ds') (pre := pre ++ [frO o]) (pre' := pre' ++ [some v]) (by simp [hp]) hl (by simpa using r) hr e2
      refine ⟨by simp [h2], fun i d' v' e3 e4 => ?_⟩
      cases i with
      | zero => simp at e3 e4; subst e3 e4; exact h1
      | succ i => exact h3 i d' v' (by simpa using e3) (by simpa using e4)
    · cases e
end
end MP

/-! MiniPy, part 7: operators. -/
namespace MP
open PySem PySem.Spec PyProof.Rows L2
section
variable {K : PySem.W.Frag} {Γ : Tab} {k : Nat} {pn : List Nat} {H H' : Hp} {F : Addr → HO → Prop} {G : Addr → Prop} {td : VEnv} {tv σ : L2.St} {ρ : VEnv} {Q : VK} {fp : Fpt} {mid : VEnv} {mv : L2.St} {d e : D} {x y z : V} {l : List D} {ws : List V} {p : Addr}
/-- data as the answer, in the place of the temporary values mid -/
theorem At.res (hm : mid.length = mv.length) (hl : td.length = tv.length) (r : RelF K H F G ((mid ++ td) ++ ρ) ((mv ++ tv) ++ σ) fp) (q : RepD K H (Shr fp G) d z) : At K H F G (some (.im d) :: td) (some z :: tv) ρ σ := by
  refine ⟨by simp [hl], ?_⟩
  have := r.push q
  rw [List.append_assoc, List.append_assoc] at this
  exact this.dropMid hm
theorem At.newTup (hm : mid.length = mv.length) (hl : td.length = tv.length) (r : RelF K H F G ((mid ++ td) ++ ρ) ((mv ++ tv) ++ σ) fp) (hp : H p = none) (q : RepDs K H (Shr fp G) l ws) : At K (upd H p (.tup ws)) F G (some (.im (.tup l)) :: td) (some (.ref p) :: tv) ρ σ :=
  At.res hm hl (r.grow (grow_upd hp)) ⟨p, ws, rfl, SqT.of upd_same, RepDs.mono (fun _ _ => SqT.grow (grow_upd hp)) (fun a xs s z => ⟨s, Rd.grow (grow_upd hp) z⟩) l ws q⟩
theorem At.newLst (hm : mid.length = mv.length) (hl : td.length = tv.length) (r : RelF K H F G ((mid ++ td) ++ ρ) ((mv ++ tv) ++ σ) fp) (hp : H p = none) (q : RepDs K H (Shr fp G) l ws) : At K (upd H p (.lst ws)) F G (some (.ml l) :: td) (some (.ref p) :: tv) ρ σ := by
  refine ⟨by simp [hl], ?_⟩
  have := r.pushOwn hp q
  rw [List.append_assoc, List.append_assoc] at this
  exact this.dropMid hm

/-- what a binary operation asks -/
def rB (K : PySem.W.Frag) : Op → R2
  | .add => fun x y H Q => rI0 (fun i j => .int (i + j)) x y H Q ∨ rCatTA K x y H Q ∨ rCatLA K x y H Q
  | .sub => rI0 fun i j => .int (i - j)
  | .mul => rI CMulW fun i j => .int (i * j)
  | .fdiv => rI CDivA fun i j => .int (i.fdiv j)
  | .mod => rI (fun _ j => j ≠ 0) fun i j => .int (i.fmod j)
  | .pow => rI CPow fun i j => .int (i ^ j.toNat)
  | .shl => rI CPow fun i j => .int (i * 2 ^ j.toNat)
  | .band => rI0 fun i j => .int (Builtin.bitAnd i j)
  | .bxor => rI0 fun i j => .int (Builtin.bitXor i j)
theorem op_rB {X : Cx} : ∀ o : Op, OpR X (binaryOp (opK o)) (rB X.K o)
  | .add => op_add.or (op_catTA.or op_catLA)
  | .sub => op_sub
  | .mul => op_mulW
  | .fdiv => op_fdivA
  | .mod => op_modN
  | .pow => op_pow
  | .shl => op_shl
  | .band => op_and
  | .bxor => op_xor
theorem bin_ok {o : Op} {P : Val → Prop} (hm : mid.length = mv.length) (hl : td.length = tv.length) (r : RelF K H F G ((mid ++ td) ++ ρ) ((mv ++ tv) ++ σ) fp) (hd : RepW K H (Shr fp G) d x) (he : RepW K H (Shr fp G) e y) (h : binS o d e P)
    (hq : ∀ rv z H', P rv → At K H' F G (some rv :: td) (some z :: tv) ρ σ → Q z H') : rB K o x y H Q := by
  have I : ∀ n, P (.im (.int n)) → Q (.int n) H := fun n hp => hq _ _ _ hp (At.res hm hl r rfl)
  unfold binS at h
  split at h
  · cases hd; cases he; exact .inl ⟨_, _, rfl, rfl, I _ h⟩
  · obtain ⟨a, xs, rfl, h1, h2⟩ := hd
    obtain ⟨b, ys, rfl, h3, h4⟩ := he
    have l1 := h2.length
    have l2 := h4.length
    refine .inr (.inl ⟨a, b, xs, ys, rfl, rfl, h1, h3, by rw [sizeLine_eq]; omega, fun z => ?_, fun z1 z2 => ?_, fun p hp => ?_⟩)
    · subst z
      rename_i la lb
      have : la = [] := by cases la; rfl; simp at l1
      subst this
      exact hq _ _ _ h.2 (At.res hm hl r ⟨b, ys, rfl, h3, h4⟩)
    · subst z2
      rename_i la lb
      have : lb = [] := by cases lb; rfl; simp at l2
      subst this
      exact hq _ _ _ h.2 (At.res hm hl r ⟨a, xs, rfl, h1, by rw [List.append_nil]; exact h2⟩)
    · exact hq _ _ _ h.2 (At.newTup hm hl r hp (h2.append h4))
  · obtain ⟨a, xs, rfl, h1, h2⟩ := hd
    obtain ⟨b, ys, rfl, h3, h4⟩ := he
    have l1 := h2.length
    have l2 := h4.length
    exact .inr (.inr ⟨a, b, xs, ys, rfl, rfl, h1, h3, by rw [sizeLine_eq]; omega, fun p hp => hq _ _ _ h.2 (At.newLst hm hl r hp (h2.append h4))⟩)
  · cases hd; cases he; exact ⟨_, _, rfl, rfl, I _ h⟩
  · cases hd; cases he; exact ⟨_, _, rfl, rfl, h.1, I _ h.2⟩
  · cases hd; cases he; exact ⟨_, _, rfl, rfl, ⟨h.1, h.2.1⟩, I _ h.2.2⟩
  · cases hd; cases he; exact ⟨_, _, rfl, rfl, h.1, I _ h.2⟩
  · cases hd; cases he; exact ⟨_, _, rfl, rfl, h.1, I _ h.2⟩
  · cases hd; cases he; exact ⟨_, _, rfl, rfl, h.1, I _ h.2⟩
  · cases hd; cases he; exact ⟨_, _, rfl, rfl, I _ h⟩
  · cases hd; cases he; exact ⟨_, _, rfl, rfl, I _ h⟩
  · cases h

/-! comparisons -/
mutual
theorem RepD.dp {S : Addr → Prop} : ∀ (d : D) (v : V), RepD K H S d v → Dp K H v (toP d)
  | .non, _, h => by cases h; exact .non
  | .bl b, _, h => by cases h; exact .bl b
  | .int i, _, h => by cases h; exact .int i
  | .str s, _, h => by cases h; exact .str s
  | .tup l, v, h => by obtain ⟨a, vs, rfl, h1, h2⟩ := h; exact .tup h1 (RepDs.dp l vs h2)
  | .lst l, v, h => by obtain ⟨a, vs, rfl, h1, h2⟩ := h; exact .lst (h1.elim (fun z => .inl z.2) KL.sq) (RepDs.dp l vs h2)
theorem RepDs.dp {S : Addr → Prop} : ∀ (l : List D) (vs : List V), RepDs K H S l vs → DpAll K H vs (toPs l)
  | [], _, h => by cases h; exact .nil
  | d :: ds, vs, h => by obtain ⟨v, vr, rfl, h1, h2⟩ := h; exact .cons (RepD.dp d v h1) (RepDs.dp ds vr h2)
end
theorem RepW.dp {S : Addr → Prop} (h : RepW K H S d x) : Dp K H x (toP d) := by
  cases d with
  | lst l => obtain ⟨a, vs, rfl, h1, h2⟩ := h; exact .lst h1 (RepDs.dp l vs h2)
  | _ => exact RepD.dp (S := S) _ _ h
theorem toPs_map : ∀ l : List D, toPs l = l.map toP
  | [] => rfl
  | d :: ds => by rw [toPs, toPs_map ds, List.map_cons]
def rC (K : PySem.W.Frag) : Cm → R2
  | .lt => rI0 fun i j => .bl (decide (i < j))
  | .le => rI0 fun i j => .bl (decide (i ≤ j))
  | .gt => rI0 fun i j => .bl (decide (j < i))
  | .ge => rI0 fun i j => .bl (decide (j ≤ i))
  | .eq => rEqD K
  | .ne => rNeD K
  | .isN => fun x y H Q => y = .non ∧ Q (.bl (decide (x = .non))) H
  | .notN => fun x y H Q => y = .non ∧ Q (.bl (!decide (x = .non))) H
  | .isin => rInD K
  | .notin => rNotInD K
theorem op_rC {X : Cx} (hu : X.A.units + 65 < cLine) : ∀ o : Cm, OpR X (compareOp (cmK o)) (rC X.K o)
  | .lt => op_lt
  | .le => op_le
  | .gt => op_gt
  | .ge => op_ge
  | .eq => op_eqD (by omega)
  | .ne => op_neD (by omega)
  | .isN => op_isN
  | .notN => op_notN
  | .isin => op_inD hu
  | .notin => op_notInD hu
theorem cmp_ok {S : Addr → Prop} {o : Cm} {P : Bool → Prop} {Q : VK} (hd : RepW K H S d x) (he : RepW K H S e y) (h : cmpS o d e P) (hq : ∀ b, P b → Q (.bl b) H) : rC K o x y H Q := by
  unfold cmpS at h
  split at h
  · cases hd; cases he; exact ⟨_, _, rfl, rfl, hq _ h⟩
  · cases hd; cases he; exact ⟨_, _, rfl, rfl, hq _ h⟩
  · cases hd; cases he; exact ⟨_, _, rfl, rfl, hq _ h⟩
  · cases hd; cases he; exact ⟨_, _, rfl, rfl, hq _ h⟩
  · exact ⟨_, _, hd.dp, he.dp, h.1, h.2.1, hq _ h.2.2⟩
  · exact ⟨_, _, hd.dp, he.dp, h.1, h.2.1, hq _ h.2.2⟩
  · cases he
    refine ⟨rfl, hq _ ?_⟩
    cases d with
    | non => cases hd; exact h
    | bl => cases hd; exact h
    | int => cases hd; exact h
    | str => cases hd; exact h
    | tup => obtain ⟨a, vs, rfl, _⟩ := hd; exact h
    | lst => obtain ⟨a, vs, rfl, _⟩ := hd; exact h
  · cases he
    refine ⟨rfl, hq _ ?_⟩
    cases d with
    | non => cases hd; exact h
    | bl => cases hd; exact h
    | int => cases hd; exact h
    | str => cases hd; exact h
    | tup => obtain ⟨a, vs, rfl, _⟩ := hd; exact h
    | lst => obtain ⟨a, vs, rfl, _⟩ := hd; exact h
  · rename_i l
    refine ⟨_, toPs l, hd.dp, he.dp, h.1, h.2.1, hq _ ?_⟩
    have := h.2.2
    rw [toPs_map, List.any_map]
    exact this
  · rename_i l
    refine ⟨_, toPs l, hd.dp, he.dp, h.1, h.2.1, hq _ ?_⟩
    have := h.2.2
    rw [toPs_map, List.any_map]
    exact this
  · cases h
theorem idx_ok {S : Addr → Prop} {P : D → Prop} {Q : VK} (hd : RepW K H S d x) (he : RepW K H S e y) (h : idxS d e P) (hq : ∀ b z, P b → RepD K H S b z → Q z H) : rIx K x y H Q := by
  have go : ∀ (l : List D) (vs : List V) (i : Int), RepDs K H S l vs → (match atI l i with | some d => P d | none => False) → ∃ z, atI vs i = some z ∧ Q z H := by
    intro l vs i hr h
    have hl := hr.length
    unfold atI at h ⊢
    rw [hl]
    cases q : ixN l.length i with
    | none => rw [q] at h; exact h.elim
    | some j =>
      rw [q] at h
      change (match l[j]? with | some d => P d | none => False) at h
      cases q2 : l[j]? with
      | none => rw [q2] at h; exact h.elim
      | some b =>
        rw [q2] at h
        obtain ⟨z, e1, e2⟩ := hr.get q2
        exact ⟨z, e1, hq b z h e2⟩
  unfold idxS at h
  split at h
  · cases he
    obtain ⟨a, vs, rfl, h1, h2⟩ := hd
    obtain ⟨z, e1, e2⟩ := go _ _ _ h2 h
    exact .inr (.inl ⟨a, vs, _, z, rfl, rfl, h1, e1, e2⟩)
  · cases he
    obtain ⟨a, vs, rfl, h1, h2⟩ := hd
    obtain ⟨z, e1, e2⟩ := go _ _ _ h2 h
    exact .inl ⟨a, vs, _, z, rfl, rfl, h1, e1, e2⟩
  · cases h
def rSl (K : PySem.W.Frag) : V → Option Int → Option Int → Hp → VK → Prop := fun x lo hi H Q => rSlL K x lo hi H Q ∨ rSlTA K x lo hi H Q
theorem sl_rSl {X : Cx} : L2.SlR X (rSl X.K) := L2.SlR.or sl_list sl_tupA
theorem cut_rep {S : Addr → Prop} {vs : List V} (lo hi : Option Int) (h : RepDs K H S l vs) : RepDs K H S (cutD l lo hi) (cutV vs lo hi) := by
  unfold cutD cutV
  rw [h.length]
  exact (h.drop _).take _
theorem slc_ok {P : Val → Prop} {lo hi : Option Int} (hm : mid.length = mv.length) (hl : td.length = tv.length) (r : RelF K H F G ((mid ++ td) ++ ρ) ((mv ++ tv) ++ σ) fp) (hd : RepW K H (Shr fp G) d x) (h : slcS d lo hi P)
    (hq : ∀ rv z H', P rv → At K H' F G (some rv :: td) (some z :: tv) ρ σ → Q z H') : rSl K x lo hi H Q := by
  unfold slcS at h
  split at h
  · obtain ⟨a, xs, rfl, h1, h2⟩ := hd
    refine .inr ⟨a, xs, rfl, h1, fun z => ?_, fun p hp => hq _ _ _ h (At.newTup hm hl r hp (cut_rep lo hi h2))⟩
    rename_i l
    have e : cutD l lo hi = l := by
      rw [h2.length] at z
      unfold cutD
      rw [z.1, z.2, List.drop_zero, Nat.sub_zero, List.take_length]
    rw [e] at h
    exact hq _ _ _ h (At.res hm hl r ⟨a, xs, rfl, h1, h2⟩)
  · obtain ⟨a, xs, rfl, h1, h2⟩ := hd
    exact .inl ⟨a, xs, rfl, h1, fun p hp => hq _ _ _ h (At.newLst hm hl r hp (cut_rep lo hi h2))⟩
  · cases h
theorem tru_val {S : Addr → Prop} {P : Bool → Prop} (hd : RepW K H S d x) (h : truS d P) : ∃ b, TruV K x H b ∧ P b := by
  unfold truS at h
  split at h
  · cases hd; exact ⟨false, rfl, h⟩
  · cases hd; exact ⟨_, rfl, h⟩
  · cases hd; exact ⟨_, rfl, h⟩
  · obtain ⟨a, xs, rfl, h1, h2⟩ := hd
    rename_i l
    refine ⟨!l.isEmpty, .inr (.inl ⟨xs, h1, ?_⟩), h⟩
    have := h2.length
    cases l <;> cases xs <;> simp_all
  · obtain ⟨a, xs, rfl, h1, h2⟩ := hd
    rename_i l
    refine ⟨!l.isEmpty, .inl ⟨xs, h1, ?_⟩, h⟩
    have := h2.length
    cases l <;> cases xs <;> simp_all
  · cases h
end
end MP

/-! MiniPy, part 8: calls. -/
namespace MP
open PySem PySem.Spec PyProof.Rows L2

theorem mem_lent {p i : Nat} : ∀ {os : List Opd} {n : Nat}, (p, i) ∈ lent os n ↔ ∃ q, os[q]? = some (.bor i) ∧ p = n + q
  | [], n => by simp [lent]
  | .v d :: os, n => by
    rw [lent, mem_lent (os := os)]
    constructor
    · rintro ⟨q, h, rfl⟩; exact ⟨q + 1, by simpa using h, by omega⟩
    · rintro ⟨q, h, rfl⟩
      cases q with
      | zero => simp at h
      | succ q => exact ⟨q, by simpa using h, by omega⟩
  | .bor j :: os, n => by
    rw [lent, List.mem_cons, mem_lent (os := os)]
    constructor
    · rintro (h | ⟨q, h, rfl⟩)
      · cases h; exact ⟨0, rfl, rfl⟩
      · exact ⟨q + 1, by simpa using h, by omega⟩
    · rintro ⟨q, h, rfl⟩
      cases q with
      | zero => simp at h; subst h; exact .inl rfl
      | succ q => exact .inr ⟨q, by simpa using h, by omega⟩
theorem backV_len {ms : List (Option Val)} : ∀ {L : List (Nat × Nat)} {ρ : VEnv}, (backV ms L ρ).length = ρ.length
  | [], _ => rfl
  | (p, i) :: L, ρ => by rw [backV, backV_len]; simp
theorem backV_out {ms : List (Option Val)} {j : Nat} : ∀ {L : List (Nat × Nat)} {ρ : VEnv}, j ∉ L.map (·.2) → (backV ms L ρ)[j]? = ρ[j]?
  | [], _, _ => rfl
  | (p, i) :: L, ρ, h => by
    simp only [List.map_cons, List.mem_cons, not_or] at h
    rw [backV, backV_out h.2, List.getElem?_set_ne (Ne.symm h.1)]
theorem backV_in {ms : List (Option Val)} {j p : Nat} : ∀ {L : List (Nat × Nat)} {ρ : VEnv}, (L.map (·.2)).Nodup → (p, j) ∈ L → j < ρ.length → (backV ms L ρ)[j]? = some (slotV ms p)
  | (q, i) :: L, ρ, nd, h, hl => by
    simp only [List.map_cons, List.nodup_cons] at nd
    rw [backV]
    rcases List.mem_cons.mp h with h | h
    · cases h
      rw [backV_out nd.1, List.getElem?_set_self hl]
    · exact backV_in nd.2 h (by simpa using hl)
theorem slotV_some {ρ : VEnv} {i : Nat} {d : Val} (h : slotV ρ i = some d) : ρ[i]? = some (some d) := by
  unfold slotV at h
  cases q : ρ[i]? with
  | none => rw [q] at h; cases h
  | some y => rw [q] at h; exact congrArg some h
theorem slotV_of {ρ : VEnv} {i : Nat} {x : Option Val} (h : ρ[i]? = some x) : slotV ρ i = x := by
  unfold slotV; rw [h]; rfl
theorem argsV_get {ρ : VEnv} : ∀ {os : List Opd} {ds : List Val}, argsV ρ os = some ds → ds.length = os.length ∧ ∀ (p : Nat) o, os[p]? = some o → ∃ d, ds[p]? = some d ∧ (match o with | .v x => d = .im (frz x) | .bor i => slotV ρ i = some d)
  | [], ds, e => by cases e; exact ⟨rfl, fun p o h => by simp at h⟩
  | .v x :: os, ds, e => by
    unfold argsV at e
    split at e
    · rename_i ds' e1
      cases e
      obtain ⟨h1, h2⟩ := argsV_get e1
      refine ⟨by simp [h1], fun p o h => ?_⟩
      cases p with
      | zero => simp at h; subst h; exact ⟨_, rfl, rfl⟩
      | succ p => exact h2 p o (by simpa using h)
    · cases e
  | .bor i :: os, ds, e => by
    unfold argsV at e
    split at e
    · rename_i d ds' e0 e1
      cases e
      obtain ⟨h1, h2⟩ := argsV_get e1
      refine ⟨by simp [h1], fun p o h => ?_⟩
      cases p with
      | zero => simp at h; subst h; exact ⟨_, rfl, e0⟩
      | succ p => exact h2 p o (by simpa using h)
    · cases e
theorem atOs_get {σ : L2.St} : ∀ {os : List Opd} {vs : List V}, atOs σ os vs → ∀ (p : Nat) o, os[p]? = some o → ∃ v, vs[p]? = some v ∧ atO σ o v
  | [], vs, _, p, o, h => by simp at h
  | o :: os, vs, ha, p, o', h => by
    obtain ⟨v, vr, rfl, ha, hr⟩ := ha
    cases p with
    | zero => simp at h; subst h; exact ⟨v, rfl, ha⟩
    | succ p => exact atOs_get hr p o' (by simpa using h)

/-- what a def promises, of plain values -/
def spOf (K : PySem.W.Frag) (g : Sig) : Sp := fun vs H Q _ => ∃ (F : Addr → HO → Prop) (G : Addr → Prop) (ds : List Val), Rel K H F G (ds.map some) (vs.map some) ∧
  g.sp ds fun r ms => ∀ v H', Rel K H' F G (some r :: ms) (some v :: vs.map some) → Q v H'

section
variable {K : PySem.W.Frag} {H H' : Hp} {F : Addr → HO → Prop} {G : Addr → Prop} {td : VEnv} {tv σ : L2.St} {ρ : VEnv} {fp : Fpt}
/-- a call, from the state of the caller -/
theorem call_sp {g : Sig} {os : List Opd} {vs : List V} {ds : List Val} {P : Opd → VEnv → Prop} {Q : VK} {E : XK} (A : At K H F G (os.map frO ++ td) (vs.map some ++ tv) ρ σ) (ha : atOs σ os vs) (hl : td.length = tv.length) (e : argsV ρ os = some ds)
    (nd : ((lent os 0).map (·.2)).Nodup) (h : g.sp ds fun r ms => P (.v r) (backV ms (lent os 0) ρ))
    (hq : ∀ r ρ' v H', P (.v r) ρ' → At K H' F G (some r :: td) (some v :: tv) ρ' σ → Q v H') : spOf K g vs H Q E := by
  obtain ⟨fp, r⟩ := A.rel
  obtain ⟨hdl, hdg⟩ := argsV_get e
  have hvl := ha.length
  have hsl : ρ.length = σ.length := A.lens
  generalize hB : os.length + td.length = B
  have slot : ∀ i x, ρ[i]? = some x → ((os.map frO ++ td) ++ ρ)[B + i]? = some x := fun i x h => by
    rw [List.getElem?_append_right (by simp; omega)]
    simpa [← hB] using h
  have slotσ : ∀ i, ((vs.map some ++ tv) ++ σ)[B + i]? = σ[i]? := fun i => by
    rw [List.getElem?_append_right (by simp; omega)]
    congr 1
    simp; omega
  have tmp : ∀ (p : Nat) (x : Val), os[p]? = some (Opd.v x) → ((os.map frO ++ td) ++ ρ)[p]? = some (some (Val.im (MP.frz x))) := fun p x h => by
    have hp : p < os.length := (List.getElem?_eq_some_iff.mp h).1
    rw [List.append_assoc, List.getElem?_append_left (by simpa using hp), List.getElem?_map, h]
    rfl
  have tmpv : ∀ (p : Nat), p < vs.length → ((vs.map some ++ tv) ++ σ)[p]? = (vs[p]?).map some := fun p hp => by
    rw [List.append_assoc, List.getElem?_append_left (by simpa using hp), List.getElem?_map]
  -- the arguments' own lists
  let fpA : Fpt := fun p => match os[p]? with
    | some (.bor i) => fp (B + i)
    | _ => []
  have inA : ∀ {p : Nat} {a : Addr}, a ∈ fpA p → ∃ i, os[p]? = some (.bor i) ∧ a ∈ fp (B + i) := fun {p a} h => by
    simp only [fpA] at h
    split at h
    · rename_i i e; exact ⟨i, e, h⟩
    · cases h
  have lentU : ∀ {p q i : Nat}, os[p]? = some (.bor i) → os[q]? = some (.bor i) → p = q := fun {p q i} h1 h2 => by
    have m1 : (p, i) ∈ lent os 0 := mem_lent.mpr ⟨p, h1, by omega⟩
    have m2 : (q, i) ∈ lent os 0 := mem_lent.mpr ⟨q, h2, by omega⟩
    by_cases hpq : p = q
    · exact hpq
    · exfalso
      have := nd
      rw [List.nodup_iff_pairwise_ne, List.pairwise_map] at this
      obtain ⟨a, ha⟩ := List.getElem_of_mem m1
      obtain ⟨b, hb⟩ := List.getElem_of_mem m2
      have hab : a ≠ b := fun z => by
        subst z
        obtain ⟨_, h1⟩ := ha
        obtain ⟨_, h2⟩ := hb
        rw [h1] at h2
        exact hpq (congrArg Prod.fst h2)
      obtain ⟨la, ha⟩ := ha
      obtain ⟨lb, hb⟩ := hb
      rcases Nat.lt_or_gt_of_ne hab with z | z
      · have := List.pairwise_iff_getElem.mp this a b la lb z
        rw [ha, hb] at this; exact this rfl
      · have := List.pairwise_iff_getElem.mp this b a lb la z
        rw [ha, hb] at this; exact this rfl
  have track : ∀ {i a}, a ∈ fp i → ∃ o, H a = some o := fun {i a} h => let ⟨xs, e⟩ := r.own h; ⟨_, e⟩
  let F' : Addr → HO → Prop := fun b o => H b = some o ∧ ∀ p, b ∉ fpA p
  let G' : Addr → Prop := fun a => G a ∨ ((∃ j, a ∈ fp j) ∧ ∀ p, a ∉ fpA p)
  have S1 : ∀ a, Shr fp G a → Shr fpA G' a := fun a s => ⟨fun p h => let ⟨i, _, z⟩ := inA h; s.1 _ z, fun h => h.elim s.2 fun ⟨⟨j, z⟩, _⟩ => s.1 j z⟩
  have RA : RelF K H F' G' (ds.map some) (vs.map some) fpA := by
    refine ⟨by simp [hdl, hvl], fun p d hd => ?_, fun p q a h1 h2 => ?_, fun p => ?_, fun p hp => ?_, fun b o q => q, fun b q => ?_, fun p a h1 h2 => ?_⟩
    · have hp : p < os.length := by
        have := (List.getElem?_eq_some_iff.mp hd).1
        simp at this; omega
      obtain ⟨o, ho⟩ : ∃ o, os[p]? = some o := ⟨_, List.getElem?_eq_getElem hp⟩
      obtain ⟨d', hd', hk⟩ := hdg p o ho
      obtain ⟨v, hv, hav⟩ := atOs_get ha p o ho
      rw [List.getElem?_map, hd'] at hd
      have hd : d' = d := Option.some.inj (Option.some.inj hd)
      subst hd
      refine ⟨v, by rw [List.getElem?_map, hv]; rfl, ?_⟩
      cases o with
      | v x =>
        have hk : d' = .im (MP.frz x) := hk
        subst hk
        obtain ⟨v', e1, q⟩ := r.rep p _ (tmp p x ho)
        rw [tmpv p (by omega), hv] at e1
        cases e1
        have e2 : fpA p = [] := by simp only [fpA, ho]
        rw [e2]
        exact ⟨RepD.mono keepT (fun a _ s z => ⟨S1 a s, z⟩) _ _ q.1, rfl⟩
      | bor i =>
        have hk : slotV ρ i = some d' := hk
        obtain ⟨v', e1, q⟩ := r.rep (B + i) d' (slot i _ (slotV_some hk))
        rw [slotσ, show σ[i]? = some (some v) from hav] at e1
        cases e1
        have e2 : fpA p = fp (B + i) := by simp only [fpA, ho]
        rw [e2]
        exact Rep.mono keepT (fun a _ s z => ⟨S1 a s, z⟩) _ _ _ (fun _ _ _ z => z) q
    · obtain ⟨i, e1, m1⟩ := inA h1
      obtain ⟨j, e2, m2⟩ := inA h2
      have := r.dis _ _ a m1 m2
      have : i = j := by omega
      subst this
      exact lentU e1 e2
    · simp only [fpA]
      split
      · exact r.nd _
      · exact List.nodup_nil
    · simp only [fpA]
      split
      · rename_i i ho
        obtain ⟨d', hd', _⟩ := hdg p _ ho
        exact absurd (by rw [List.getElem?_map, hd']; rfl) (hp d')
      · rfl
    · rcases q with q | ⟨⟨j, q⟩, _⟩
      · exact r.gt b q
      · obtain ⟨o, e⟩ := track q
        rw [e]; exact fun h => nomatch h
    · obtain ⟨i, _, m⟩ := inA h1
      rcases h2 with h2 | ⟨_, h2⟩
      · exact r.gf _ a m h2
      · exact h2 p h1
  refine ⟨F', G', ds, ⟨fpA, RA⟩, g.mono _ _ _ (fun rv ms hP v H' R' => ?_) h⟩
  obtain ⟨fp', r'⟩ := R'
  refine hq rv _ v H' hP ⟨by simp [hl], ?_⟩
  have hml : ms.length = vs.length := by have := r'.len; simpa using this
  -- what the callee could not reach
  have keep : ∀ {a o}, H a = some o → (∀ p, a ∉ fpA p) → H' a = some o ∧ ∀ j, a ∉ fp' j := fun {a o} e n => r'.fr a o ⟨e, n⟩
  have nA : ∀ {i : Nat} {a : Addr}, a ∈ fp i → (∀ (s p : Nat), os[p]? = some (.bor s) → i ≠ B + s) → ∀ p, a ∉ fpA p := fun {i a} h n p hp => by
    obtain ⟨s, e1, m⟩ := inA hp
    exact n s p e1 (r.dis _ _ a h m)
  have hT : ∀ a xs, SqT K H a xs → SqT K H' a xs := fun a xs s => by
    have nl : ∀ p, (∃ o, H a = some o ∧ ∀ ys, o ≠ .lst ys) → a ∉ fpA p := fun p ⟨o, e, n⟩ hp => by
      obtain ⟨i, _, m⟩ := inA hp
      obtain ⟨ys, e2⟩ := r.own m
      rw [e2] at e; cases e; exact n _ rfl
    rcases s with (s | ⟨o, s⟩) | s
    · exact .inl (.inl (keep s fun p => nl p ⟨_, s, fun ys z => nomatch z⟩).1)
    · exact .inl (.inr ⟨o, (keep s fun p => nl p ⟨_, s, fun ys z => nomatch z⟩).1⟩)
    · exact .inr s
  have sA : ∀ {a}, Shr fp G a → ∀ p, a ∉ fpA p := fun {a} s p hp => let ⟨i, _, m⟩ := inA hp; s.1 _ m
  have hRd : ∀ a xs, Shr fp G a → Rd H a (.lst xs) → Rd H' a (.lst xs) ∧ ∀ j, a ∉ fp' j := fun a xs s z => by
    rcases z with z | ⟨o, z⟩
    · exact ⟨.inl (keep z (sA s)).1, (keep z (sA s)).2⟩
    · exact ⟨.inr ⟨o, (keep z (sA s)).1⟩, (keep z (sA s)).2⟩
  let isL : Nat → Option Nat := fun i => (List.range os.length).find? fun p => match os[p]? with
    | some (.bor s) => i == B + s
    | _ => false
  have isL_some : ∀ {i p : Nat}, isL i = some p → ∃ s, os[p]? = some (.bor s) ∧ i = B + s := fun {i p} h => by
    have h1 := List.find?_some h
    split at h1
    · rename_i s e; exact ⟨s, e, by simpa using h1⟩
    · cases h1
  have isL_none : ∀ {i : Nat}, isL i = none → ∀ (s p : Nat), os[p]? = some (.bor s) → i ≠ B + s := fun {i} h s p e z => by
    have hp : p < os.length := (List.getElem?_eq_some_iff.mp e).1
    have h1 := List.find?_eq_none.mp h p (List.mem_range.mpr hp)
    rw [e] at h1
    simp [z] at h1
  have isL_in : ∀ {s p : Nat}, os[p]? = some (.bor s) → isL (B + s) = some p := fun {s p} e => by
    cases q : isL (B + s) with
    | none => exact absurd rfl (isL_none q s p e)
    | some p' =>
      obtain ⟨s', e', z⟩ := isL_some q
      have : s = s' := by omega
      subst this
      rw [lentU e' e]
  let fpN : Fpt := fun i => match i with
    | 0 => fp' 0
    | i + 1 => match isL i with
      | some p => fp' (p + 1)
      | none => fp i
  have inN : ∀ {i a}, a ∈ fpN i → (∃ j, a ∈ fp' j ∧ ((i = 0 ∧ j = 0) ∨ ∃ i' p, i = i' + 1 ∧ isL i' = some p ∧ j = p + 1)) ∨ ∃ i', i = i' + 1 ∧ isL i' = none ∧ a ∈ fp i' := fun {i a} h => by
    cases i with
    | zero => exact .inl ⟨0, h, .inl ⟨rfl, rfl⟩⟩
    | succ i =>
      simp only [fpN] at h
      split at h
      · rename_i p e; exact .inl ⟨p + 1, h, .inr ⟨i, p, rfl, e, rfl⟩⟩
      · rename_i e; exact .inr ⟨i, rfl, e, h⟩
  have apart : ∀ {i a}, isL i = none → a ∈ fp i → ∀ j, a ∉ fp' j := fun {i a} n h => by
    obtain ⟨o, e⟩ := track h
    exact (keep e (nA h (isL_none n))).2
  have S2 : ∀ a, Shr fp' G' a → Shr fpN G a := fun a s => ⟨fun i h => by
    rcases inN h with ⟨j, h, _⟩ | ⟨i', _, n, h⟩
    · exact s.1 j h
    · exact s.2 (.inr ⟨⟨i', h⟩, nA h (isL_none n)⟩), fun h => s.2 (.inl h)⟩
  have S3 : ∀ a xs, Shr fp G a → Rd H a (.lst xs) → Shr fpN G a := fun a xs s z => ⟨fun i h => by
    rcases inN h with ⟨j, h, _⟩ | ⟨i', _, _, h⟩
    · exact (hRd a xs s z).2 j h
    · exact s.1 i' h, s.2⟩
  have RN : RelF K H' F G (some rv :: ((os.map frO ++ td) ++ backV ms (lent os 0) ρ)) (some v :: ((vs.map some ++ tv) ++ σ)) fpN := by
    refine ⟨by have := r.len; simp [backV_len] at this ⊢; omega, fun i d hd => ?_, fun i j a h1 h2 => ?_, fun i => ?_, fun i hi => ?_, fun b o q => ?_, fun b q => ?_, fun i a h1 h2 => ?_⟩
    · cases i with
      | zero =>
        simp at hd; subst hd
        obtain ⟨v', e1, q⟩ := r'.rep 0 rv rfl
        simp at e1; subst e1
        exact ⟨v, rfl, Rep.mono keepT (fun a _ s z => ⟨S2 a s, z⟩) _ _ _ (fun _ _ _ z => z) q⟩
      | succ i =>
        rw [List.getElem?_cons_succ] at hd ⊢
        have hi : i < B ∨ ∃ s, i = B + s := by
          by_cases z : i < B
          · exact .inl z
          · exact .inr ⟨i - B, by omega⟩
        have old : isL i = none → ((os.map frO ++ td) ++ ρ)[i]? = some (some d) → ∃ w, ((vs.map some ++ tv) ++ σ)[i]? = some (some w) ∧ Rep K H' (Shr fpN G) d w (fpN (i + 1)) := fun n hd => by
          obtain ⟨w, e1, q⟩ := r.rep i d hd
          refine ⟨w, e1, ?_⟩
          have e2 : fpN (i + 1) = fp i := by simp only [fpN, n]
          rw [e2]
          refine Rep.mono hT (fun a xs s z => ⟨S3 a xs s z, (hRd a xs s z).1⟩) _ _ _ (fun a ha xs z => (keep z (nA ha (isL_none n))).1) q
        rcases hi with hi | ⟨s, rfl⟩
        · have n : isL i = none := by
            cases q : isL i with
            | none => rfl
            | some p => obtain ⟨s, _, z⟩ := isL_some q; omega
          rw [List.getElem?_append_left (by simp; omega)] at hd
          exact old n (by rw [List.getElem?_append_left (by simp; omega)]; exact hd)
        · rw [List.getElem?_append_right (by simp; omega)] at hd
          have hd : (backV ms (lent os 0) ρ)[s]? = some (some d) := by
            rw [← hd]; congr 1; simp; omega
          cases q : isL (B + s) with
          | none =>
            have n : s ∉ (lent os 0).map (·.2) := fun z => by
              obtain ⟨⟨p, s'⟩, m, e⟩ := List.mem_map.mp z
              have e : s' = s := e
              subst e
              obtain ⟨p', e, _⟩ := mem_lent.mp m
              exact isL_none q s' p' e rfl
            rw [backV_out n] at hd
            exact old q (slot s _ hd)
          | some p =>
            obtain ⟨s', e, z⟩ := isL_some q
            have : s = s' := by omega
            subst this
            have hlt : s < ρ.length := by
              have := (List.getElem?_eq_some_iff.mp hd).1
              rwa [backV_len] at this
            rw [backV_in nd (mem_lent.mpr ⟨p, e, (Nat.zero_add p).symm⟩) hlt] at hd
            have hd := slotV_some (Option.some.inj hd)
            obtain ⟨w, e1, q2⟩ := r'.rep (p + 1) d (by simpa using hd)
            obtain ⟨v2, hv2, hav⟩ := atOs_get ha p _ e
            rw [List.getElem?_cons_succ, List.getElem?_map, hv2] at e1
            cases e1
            refine ⟨w, by rw [slotσ]; exact hav, ?_⟩
            have e2 : fpN (B + s + 1) = fp' (p + 1) := by simp only [fpN, q]
            rw [e2]
            exact Rep.mono keepT (fun a _ s z => ⟨S2 a s, z⟩) _ _ _ (fun _ _ _ z => z) q2
    · rcases inN h1 with ⟨x, m1, c1⟩ | ⟨i', e1, n1, m1⟩ <;> rcases inN h2 with ⟨y, m2, c2⟩ | ⟨j', e2, n2, m2⟩
      · have := r'.dis _ _ a m1 m2
        subst this
        rcases c1 with ⟨rfl, rfl⟩ | ⟨i', p, rfl, f1, z1⟩ <;> rcases c2 with ⟨rfl, z⟩ | ⟨j', q, rfl, f2, z2⟩
        · rfl
        · omega
        · omega
        · have : p = q := by omega
          subst this
          obtain ⟨s, a1, a2⟩ := isL_some f1
          obtain ⟨t, b1, b2⟩ := isL_some f2
          rw [a1] at b1; cases b1
          omega
      · exact absurd m1 (apart n2 m2 _)
      · exact absurd m2 (apart n1 m1 _)
      · have := r.dis _ _ a m1 m2; omega
    · cases i with
      | zero => exact r'.nd 0
      | succ i =>
        simp only [fpN]
        split
        · exact r'.nd _
        · exact r.nd _
    · cases i with
      | zero => exact absurd rfl (hi rv)
      | succ i =>
        simp only [fpN]
        split
        · rename_i p q
          obtain ⟨s, e, z⟩ := isL_some q
          subst z
          refine r'.emp _ fun d e2 => ?_
          rw [List.getElem?_cons_succ] at e2
          have hp := e2
          have hsρ : s < ρ.length := by
            obtain ⟨d', _, hk⟩ := hdg p _ e
            exact (List.getElem?_eq_some_iff.mp (slotV_some hk)).1
          have z := backV_in (ms := ms) nd (mem_lent.mpr ⟨p, e, (Nat.zero_add p).symm⟩) hsρ
          rw [slotV_of e2] at z
          refine hi d ?_
          rw [List.getElem?_cons_succ, List.getElem?_append_right (by simp; omega), ← z]
          congr 1; simp; omega
        · rename_i n
          refine r.emp i fun d e2 => hi d ?_
          rw [List.getElem?_cons_succ]
          by_cases hB' : i < B
          · rw [List.getElem?_append_left (by simp; omega)] at e2 ⊢
            exact e2
          · obtain ⟨s, rfl⟩ : ∃ s, i = B + s := ⟨i - B, by omega⟩
            rw [List.getElem?_append_right (by simp; omega)] at e2 ⊢
            rw [show B + s - (List.map frO os ++ td).length = s by simp; omega] at e2 ⊢
            rw [backV_out]
            · exact e2
            · intro z
              obtain ⟨⟨p, s'⟩, m, e⟩ := List.mem_map.mp z
              have e : s' = s := e
              subst e
              obtain ⟨p', e, _⟩ := mem_lent.mp m
              exact isL_none n s' p' e rfl
    · obtain ⟨e, n⟩ := r.fr b o q
      have k := keep e fun p hp => let ⟨i, _, m⟩ := inA hp; n _ m
      refine ⟨k.1, fun i hi => ?_⟩
      rcases inN hi with ⟨j, m, _⟩ | ⟨i', _, _, m⟩
      · exact k.2 j m
      · exact n _ m
    · cases e : H b with
      | none => exact absurd e (r.gt b q)
      | some o => rw [(keep e fun p hp => let ⟨i, _, m⟩ := inA hp; r.gf _ b m q).1]; exact fun h => nomatch h
    · rcases inN h1 with ⟨j, m, _⟩ | ⟨i', _, _, m⟩
      · exact r'.gf _ a m (.inl h2)
      · exact r.gf _ a m h2
  have z : Rel K H' F G (some rv :: (List.map frO os ++ (td ++ backV ms (lent os 0) ρ))) (some v :: (List.map some vs ++ (tv ++ σ))) := by
    rw [← List.append_assoc, ← List.append_assoc]
    exact ⟨fpN, RN⟩
  exact z.dropMid (by simp [hvl])
end
end MP

/-! MiniPy, part 9: expressions. -/
namespace MP
open PySem PySem.Spec PyProof.Rows L2

/-- every def of the table keeps its promise, below a level -/
def TabOk (P : Program) (w : World) (K : PySem.W.Frag) (mg : Str → Option Value) (base : Heap) (Γ : Tab) (k : Nat) : Prop :=
  ∀ f j g, j < k → Γ f j = some g → ∀ fa, mg f = some (.ref fa) → ∃ (fd : FuncData) (ps : List Str), Binds K fd ps [] ∧ FnOk P w K mg base CX0 j fa fd ps (spOf K g)
/-- where a term of MiniPy runs -/
structure Amb (Γ : Tab) (k : Nat) (X : Cx) (c : Ctx) : Prop where
  N : X.N = c.N
  nd : X.N.Nodup
  sc : X.env.scope = c.sc
  calm : X.calm = true
  room : ∃ j, k = j + 1 ∧ Room j X.A
  xe : X.xe = fun _ _ => False
  st : ∀ x, locB c.ws x = true → Loc X.env.scope x ∧ (X.fn x = true ∨ X.env.scope.names.lookup x = some .local)
  bn : ∀ x ∈ c.bn, X.mg x = none
  gc : c.gc = true → X.mg "gcd" = some (.builtin "math.gcd")
  fs : ∀ x ∈ c.fs, ∃ fa, X.mg x = some (.ref fa) ∧ PySem.W.keepIn X.K (.ref fa) = true
  tab : TabOk X.prog X.w X.K X.mg X.base Γ k
theorem PE.of {X : Cx} {e : Expr} {t t' : L2.TE} (h : L2.PE X e t) (w : ∀ σ H Q, t' σ H Q → t σ H Q) : L2.PE X e t' := ⟨fun pins s σ H Q I q => h.run pins s σ H Q I (w σ H Q q)⟩
theorem PT.of {X : Cx} {e : Expr} {t t' : L2.TT} (h : L2.PT X e t) (w : ∀ σ H Q, t' σ H Q → t σ H Q) : L2.PT X e t' := ⟨fun pins s σ H Q I q => h.run pins s σ H Q I (w σ H Q q)⟩
theorem PA.of {X : Cx} {e : List Expr} {t t' : L2.TA} (h : L2.PA X e t) (w : ∀ σ H Q, t' σ H Q → t σ H Q) : L2.PA X e t' := ⟨fun pos pins s σ H Q I q => h.run pos pins s σ H Q I (w σ H Q q)⟩

section
variable {X : Cx} {c : Ctx} {Γ : Tab} {k : Nat} {pn : List Nat}
theorem Amb.units (A : Amb Γ k X c) : X.A.units + 65 < cLine := by
  obtain ⟨j, _, r⟩ := A.room
  have := r.un
  omega
theorem Amb.vis (A : Amb Γ k X c) {x : Str} (h : visB c.sc x = true) : Vis X.env.scope x := by
  rw [A.sc]
  unfold visB at h
  split at h
  · exact .inl (by assumption)
  · exact .inr (.inl (by assumption))
  · exact .inr (.inr (by assumption))
  · cases h
theorem Amb.glo (A : Amb Γ k X c) {x : Str} (h : glB c x = true) : Gl X x := by
  show X.env.scope.names.lookup x = some .globalImplicit
  rw [A.sc]
  unfold glB at h
  split at h
  · assumption
  · cases h
theorem nm_parts {i : Nat} {x : Str} (h : nmOk c i x = true) : c.N[i]? = some x ∧ visB c.sc x = true ∧ (x == ("__debug__" : Str)) = false ∧ (x == ("__classdict__" : Str)) = false := by
  unfold nmOk at h
  simp only [Bool.and_eq_true, decide_eq_true_eq, Bool.not_eq_true'] at h
  exact ⟨h.1.1.1, h.1.1.2, h.1.2, h.2⟩
theorem bn_parts {x y : Str} (h : bnOk c x y = true) : glB c x = true ∧ x = y ∧ x ∈ c.bn := by
  unfold bnOk at h
  simp only [Bool.and_eq_true, decide_eq_true_eq] at h
  exact ⟨h.1.1, h.1.2, h.2⟩
theorem e_name (A : Amb Γ k X c) {i : Nat} {x : Str} {pos : Pos} (h : nmOk c i x = true) : L2.PE X (.Name x pos) (tVar i) := by
  obtain ⟨h1, h2, h3, h4⟩ := nm_parts h
  exact pe_var (by rw [A.N]; exact h1) (A.vis h2) h3 h4
theorem At.slot {K : PySem.W.Frag} {H : Hp} {F : Addr → HO → Prop} {G : Addr → Prop} {td : VEnv} {tv σ : L2.St} {ρ : VEnv} {i : Nat} {d : Val} (A : At K H F G td tv ρ σ) (h : slotV ρ i = some d) : ∃ v, σ[i]? = some (some v) := by
  obtain ⟨fp, r⟩ := A.rel
  obtain ⟨v, e, _⟩ := r.rep (td.length + i) d (by rw [List.getElem?_append_right (by omega)]; simpa using slotV_some h)
  rw [List.getElem?_append_right (by have := A.len; omega), show td.length + i - tv.length = i by have := A.len; omega] at e
  exact ⟨v, e⟩
theorem e_var (A : Amb Γ k X c) {i : Nat} {x : Str} {pos : Pos} (h : nmOk c i x = true) : L2.PE X (.Name x pos) (rE X.K Γ k pn (.var i)) := by
  refine PE.of (e_name A h) fun σ H Q ⟨F, G, td, tv, ρ, a, h⟩ => ?_
  unfold wpE at h
  split at h
  · rename_i d hd
    obtain ⟨v, e⟩ := a.slot hd
    refine ⟨v, e, h v H ⟨by simp [a.len], ?_⟩ True.intro⟩
    obtain ⟨fp, r⟩ := a.rel
    obtain ⟨v', e1, q⟩ := r.rep (td.length + i) (.im d) (by rw [List.getElem?_append_right (by omega)]; simpa using slotV_some hd)
    rw [List.getElem?_append_right (by have := a.len; omega), show td.length + i - tv.length = i by have := a.len; omega, e] at e1
    cases e1
    exact r.push q.1
  · exact h.elim
theorem e_bor (A : Amb Γ k X c) {i : Nat} {x : Str} {pos : Pos} (h : nmOk c i x = true) : L2.PE X (.Name x pos) (rE X.K Γ k pn (.bor i)) := by
  refine PE.of (e_name A h) fun σ H Q ⟨F, G, td, tv, ρ, a, h⟩ => ?_
  unfold wpE at h
  split at h
  · rename_i d hd
    obtain ⟨v, e⟩ := a.slot hd
    exact ⟨v, e, h v H ⟨by simp [a.len], a.rel.pushN _⟩ e⟩
  · exact h.elim
theorem e_fz (A : Amb Γ k X c) {i : Nat} {x : Str} {pos : Pos} (h : nmOk c i x = true) : L2.PE X (.Name x pos) (rE X.K Γ k pn (.fz i)) := by
  refine PE.of (e_name A h) fun σ H Q ⟨F, G, td, tv, ρ, a, h⟩ => ?_
  unfold wpE at h
  split at h
  · rename_i d hd
    obtain ⟨v, e⟩ := a.slot hd
    refine ⟨v, e, h v H ⟨by simp [a.len], ?_⟩ True.intro⟩
    have hs : (td ++ ρ)[td.length + i]? = some (some d) := by rw [List.getElem?_append_right (by omega)]; simpa using slotV_some hd
    have z := a.rel.frzAt hs
    rw [List.set_append_right _ _ (by omega), show td.length + i - td.length = i by omega] at z
    obtain ⟨fp, r⟩ := z
    have hi : i < ρ.length := (List.getElem?_eq_some_iff.mp (slotV_some hd)).1
    obtain ⟨v', e1, q⟩ := r.rep (td.length + i) (.im (frz d)) (by rw [List.getElem?_append_right (by omega), show td.length + i - td.length = i by omega, List.getElem?_set_self hi])
    rw [List.getElem?_append_right (by have := a.len; omega), show td.length + i - tv.length = i by have := a.len; omega, e] at e1
    cases e1
    exact r.push q.1
  · exact h.elim
/-- data that needs no heap -/
theorem e_dat {e : Expr} {m : E} {d : D} {v : V} (he : L2.PE X e (tC v)) (hm : ∀ ρ Q, wpE Γ k pn m ρ Q → Q (.v (.im d)) ρ) (hv : ∀ H S, RepD X.K H S d v) : L2.PE X e (rE X.K Γ k pn m) := by
  refine PE.of he fun σ H Q ⟨F, G, td, tv, ρ, a, h⟩ => ?_
  refine hm _ _ h v H ⟨by simp [a.len], ?_⟩ True.intro
  obtain ⟨fp, r⟩ := a.rel
  exact r.push (hv _ _)
variable {a b : Expr} {ma mb mc : E} {pos : Pos}
theorem e_bin {o : Op} (ha : L2.PE X a (rE X.K Γ k pn ma)) (hb : L2.PE X b (rE X.K Γ k pn mb)) : L2.PE X (.BinOp a (opK o) b pos) (rE X.K Γ k pn (.bin o ma mb)) := by
  refine PE.of (pe_op (op_rB o) ha hb) fun σ H Q ⟨F, G, td, tv, ρ, A, h⟩ => ?_
  refine rE.intro A h fun x ρ1 v H1 h1 A1 a1 => rE.intro A1.frz h1 fun y ρ2 u H2 h2 A2 a2 => ?_
  have A2 := A2.frz
  obtain ⟨fp, r⟩ := A2.rel
  cases e1 : look ρ2 x with
  | none => rw [e1] at h2; exact h2.elim
  | some d =>
    cases e2 : look ρ2 y with
    | none => rw [e1, e2] at h2; exact h2.elim
    | some e =>
      rw [e1, e2] at h2
      have hd := look_at (p := 1) (o := x) (v := v) (d := d) A2.len r rfl rfl a1 e1
      have he := look_at (p := 0) (o := y) (v := u) (d := e) A2.len r rfl rfl a2 e2
      exact bin_ok (mid := [frO y, frO x]) (mv := [some u, some v]) rfl A.len r hd he h2 fun rv z H' p A' => p z H' A' True.intro
theorem e_neg (ha : L2.PE X a (rE X.K Γ k pn ma)) : L2.PE X (.UnaryOp .USub a pos) (rE X.K Γ k pn (.neg ma)) := by
  refine PE.of (pe_un un_neg ha) fun σ H Q ⟨F, G, td, tv, ρ, A, h⟩ => ?_
  refine rE.intro A h fun x ρ1 v H1 h1 A1 a1 => ?_
  have A2 := A1.frz
  obtain ⟨fp, r⟩ := A2.rel
  unfold intOf at h1
  split at h1
  · rename_i i e1
    have hd := look_at (p := 0) (o := x) (v := v) (d := .int i) A2.len r rfl rfl a1 e1
    cases hd
    exact ⟨i, rfl, h1 _ _ (At.res (mid := [frO x]) (mv := [some (.int i)]) rfl A.len r rfl) True.intro⟩
  · exact h1.elim
/-- a comparison, by what it asks -/
theorem cmp_core {o : Cm} {σ : L2.St} {H : Hp} {Q : VK} {P : Bool → VEnv → Prop} {F : Addr → HO → Prop} {G : Addr → Prop} {td : VEnv} {tv : L2.St} {ρ : VEnv} (A : At X.K H F G td tv ρ σ)
    (h : wpE Γ k pn ma ρ fun x ρ1 => wpE Γ k pn mb ρ1 fun y ρ2 => lk2 (look ρ2 x) (look ρ2 y) fun d e => cmpS o d e fun r => P r ρ2)
    (hq : ∀ b ρ' H', P b ρ' → At X.K H' F G td tv ρ' σ → Q (.bl b) H') : tOp (rC X.K o) (rE X.K Γ k pn ma) (rE X.K Γ k pn mb) σ H Q := by
  refine rE.intro A h fun x ρ1 v H1 h1 A1 a1 => rE.intro A1.frz h1 fun y ρ2 u H2 h2 A2 a2 => ?_
  have A2 := A2.frz
  obtain ⟨fp, r⟩ := A2.rel
  cases e1 : look ρ2 x with
  | none => rw [e1] at h2; exact h2.elim
  | some d =>
    cases e2 : look ρ2 y with
    | none => rw [e1, e2] at h2; exact h2.elim
    | some e =>
      rw [e1, e2] at h2
      have hd := look_at (p := 1) (o := x) (v := v) (d := d) A2.len r rfl rfl a1 e1
      have he := look_at (p := 0) (o := y) (v := u) (d := e) A2.len r rfl rfl a2 e2
      exact cmp_ok hd he h2 fun b p => hq b _ _ p ⟨A.len, Rel.pop (Rel.pop ⟨fp, r⟩)⟩
theorem At.bl {K : PySem.W.Frag} {H : Hp} {F : Addr → HO → Prop} {G : Addr → Prop} {td : VEnv} {tv σ : L2.St} {ρ : VEnv} (A : At K H F G td tv ρ σ) (b : Bool) : At K H F G (some (.im (.bl b)) :: td) (some (.bl b) :: tv) ρ σ := by
  obtain ⟨fp, r⟩ := A.rel
  exact ⟨by simp [A.len], r.push rfl⟩
theorem e_cmp {o : Cm} (am : Amb Γ k X c) (ha : L2.PE X a (rE X.K Γ k pn ma)) (hb : L2.PE X b (rE X.K Γ k pn mb)) (hm : behindInMarks (cmK o) b = false) : L2.PE X (.Compare a [cmK o] [b] pos) (rE X.K Γ k pn (.cmp o ma mb)) := by
  refine PE.of (pe_cmpR (op_rC am.units o) ha hb hm) fun σ H Q ⟨F, G, td, tv, ρ, A, h⟩ => ?_
  exact cmp_core A h fun b ρ' H' p A' => p _ _ (A'.bl b) True.intro
theorem t_cmp {o : Cm} (am : Amb Γ k X c) (ha : L2.PE X a (rE X.K Γ k pn ma)) (hb : L2.PE X b (rE X.K Γ k pn mb)) (hm : behindInMarks (cmK o) b = false) : L2.PT X (.Compare a [cmK o] [b] pos) (rT X.K Γ k pn (.cmp o ma mb)) := by
  refine PT.of (pt_cmpR (op_rC am.units o) ha hb hm) fun σ H Q ⟨F, G, td, tv, ρ, A, h⟩ => ?_
  exact cmp_core A h fun b ρ' H' p A' => ⟨b, rfl, p _ A'⟩
/-- a value that must be a bool -/
theorem bol_at {σ : L2.St} {H1 : Hp} {F : Addr → HO → Prop} {G : Addr → Prop} {td : VEnv} {tv : L2.St} {ρ1 : VEnv} {x : Opd} {v : V} {P : Bool → Prop} (A1 : At X.K H1 F G (toO x :: td) (some v :: tv) ρ1 σ) (a1 : atO σ x v) (h : bolOf (look ρ1 x) P) :
    ∃ b, v = .bl b ∧ P b ∧ At X.K H1 F G td tv ρ1 σ := by
  have A2 := A1.frz
  obtain ⟨fp, r⟩ := A2.rel
  unfold bolOf at h
  split at h
  · rename_i i e1
    have hd := look_at (p := 0) (o := x) (v := v) (d := .bl i) A2.len r rfl rfl a1 e1
    cases hd
    exact ⟨i, rfl, h, by simpa using A2.len, Rel.pop ⟨fp, r⟩⟩
  · exact h.elim
theorem e_not (ha : L2.PE X a (rE X.K Γ k pn ma)) : L2.PE X (.UnaryOp .Not a pos) (rE X.K Γ k pn (.not ma)) := by
  refine PE.of (pe_not ha) fun σ H Q ⟨F, G, td, tv, ρ, A, h⟩ => ?_
  refine rE.intro A h fun x ρ1 v H1 h1 A1 a1 => ?_
  obtain ⟨b, rfl, p, A2⟩ := bol_at A1 a1 h1
  exact ⟨b, rfl, p _ _ (A2.bl _) True.intro⟩
theorem and_core {σ : L2.St} {H : Hp} {Q : VK} {F : Addr → HO → Prop} {G : Addr → Prop} {td : VEnv} {tv : L2.St} {ρ : VEnv} {P : Opd → VEnv → Prop} {tb : L2.TE} (A : At X.K H F G td tv ρ σ)
    (h : wpE Γ k pn (.and ma mb) ρ P)
    (hb : ∀ H Q, rE X.K Γ k pn mb σ H Q → tb σ H Q) (hq : ∀ o ρ' v H', P o ρ' → At X.K H' F G (toO o :: td) (some v :: tv) ρ' σ → atO σ o v → Q v H') : tAndV (rE X.K Γ k pn ma) tb σ H Q := by
  refine rE.intro A h fun x ρ1 v H1 h1 A1 a1 => ?_
  obtain ⟨b, rfl, p, A2⟩ := bol_at A1 a1 h1
  refine ⟨b, rfl, ?_⟩
  cases b with
  | true =>
    rw [if_pos rfl] at p ⊢
    refine hb _ _ (rE.intro A2 p fun y ρ2 u H2 h2 A3 a3 => ?_)
    obtain ⟨b2, rfl, p2, A4⟩ := bol_at A3 a3 h2
    exact hq _ _ _ _ p2 (A4.bl _) True.intro
  | false =>
    rw [if_neg Bool.false_ne_true] at p ⊢
    exact hq _ _ _ _ p (A2.bl _) True.intro
theorem or_core {σ : L2.St} {H : Hp} {Q : VK} {F : Addr → HO → Prop} {G : Addr → Prop} {td : VEnv} {tv : L2.St} {ρ : VEnv} {P : Opd → VEnv → Prop} {tb : L2.TE} (A : At X.K H F G td tv ρ σ)
    (h : wpE Γ k pn (.or ma mb) ρ P)
    (hb : ∀ H Q, rE X.K Γ k pn mb σ H Q → tb σ H Q) (hq : ∀ o ρ' v H', P o ρ' → At X.K H' F G (toO o :: td) (some v :: tv) ρ' σ → atO σ o v → Q v H') : tOrV (rE X.K Γ k pn ma) tb σ H Q := by
  refine rE.intro A h fun x ρ1 v H1 h1 A1 a1 => ?_
  obtain ⟨b, rfl, p, A2⟩ := bol_at A1 a1 h1
  refine ⟨b, rfl, ?_⟩
  cases b with
  | true =>
    rw [if_pos rfl] at p ⊢
    exact hq _ _ _ _ p (A2.bl _) True.intro
  | false =>
    rw [if_neg Bool.false_ne_true] at p ⊢
    refine hb _ _ (rE.intro A2 p fun y ρ2 u H2 h2 A3 a3 => ?_)
    obtain ⟨b2, rfl, p2, A4⟩ := bol_at A3 a3 h2
    exact hq _ _ _ _ p2 (A4.bl _) True.intro
theorem e_and (ha : L2.PE X a (rE X.K Γ k pn ma)) (hb : L2.PE X b (rE X.K Γ k pn mb)) : L2.PE X (.BoolOp .And [a, b] pos) (rE X.K Γ k pn (.and ma mb)) :=
  PE.of (pe_and ha (pe_one hb)) fun σ H Q ⟨F, G, td, tv, ρ, A, h⟩ => and_core A h (fun _ _ z => z) fun o ρ' v H' p A' a' => p v H' A' a'
theorem e_or (ha : L2.PE X a (rE X.K Γ k pn ma)) (hb : L2.PE X b (rE X.K Γ k pn mb)) : L2.PE X (.BoolOp .Or [a, b] pos) (rE X.K Γ k pn (.or ma mb)) :=
  PE.of (pe_or ha (pe_one hb)) fun σ H Q ⟨F, G, td, tv, ρ, A, h⟩ => or_core A h (fun _ _ z => z) fun o ρ' v H' p A' a' => p v H' A' a'
theorem e_andC {e1 e2 : Expr} {es : List Expr} (ha : L2.PE X a (rE X.K Γ k pn ma)) (hb : L2.PE X (.BoolOp .And (e1 :: e2 :: es) pos) (rE X.K Γ k pn mb)) : L2.PE X (.BoolOp .And (a :: e1 :: e2 :: es) pos) (rE X.K Γ k pn (.andC ma mb)) :=
  PE.of (pe_and ha hb) fun σ H Q ⟨F, G, td, tv, ρ, A, h⟩ => and_core (P := fun o ρ' => ∀ v H', At X.K H' F G (toO o :: td) (some v :: tv) ρ' σ → atO σ o v → Q v H') A h (fun _ _ z => z) fun o ρ' v H' p A' a' => p v H' A' a'
theorem e_orC {e1 e2 : Expr} {es : List Expr} (ha : L2.PE X a (rE X.K Γ k pn ma)) (hb : L2.PE X (.BoolOp .Or (e1 :: e2 :: es) pos) (rE X.K Γ k pn mb)) : L2.PE X (.BoolOp .Or (a :: e1 :: e2 :: es) pos) (rE X.K Γ k pn (.orC ma mb)) :=
  PE.of (pe_or ha hb) fun σ H Q ⟨F, G, td, tv, ρ, A, h⟩ => or_core (P := fun o ρ' => ∀ v H', At X.K H' F G (toO o :: td) (some v :: tv) ρ' σ → atO σ o v → Q v H') A h (fun _ _ z => z) fun o ρ' v H' p A' a' => p v H' A' a'
theorem t_not (ha : L2.PT X a (rT X.K Γ k pn ma)) : L2.PT X (.UnaryOp .Not a pos) (rT X.K Γ k pn (.not ma)) := by
  refine PT.of (pt_not ha) fun σ H Q ⟨F, G, td, tv, ρ, A, h⟩ => ?_
  exact rT.intro A h fun b ρ1 H1 p A1 => p H1 A1
theorem t_and1 {es : List Expr} (ha : L2.PT X a (rT X.K Γ k pn ma)) (hb : L2.PW X (.BoolOp .And (b :: es) pos) (rT X.K Γ k pn mb)) : L2.PW X (.BoolOp .And (a :: b :: es) pos) (rT X.K Γ k pn (.and ma mb)) := by
  have z := pw_and ha hb
  refine ⟨fun wh pins s σ H Q I h => z.run wh pins s σ H Q I ?_⟩
  obtain ⟨F, G, td, tv, ρ, A, h⟩ := h
  refine rT.intro A h fun b ρ1 H1 p A1 => ?_
  cases b with
  | true =>
    rw [if_pos rfl] at p ⊢
    exact rT.intro A1 p fun b ρ2 H2 p A2 => p H2 A2
  | false =>
    rw [if_neg Bool.false_ne_true] at p ⊢
    exact p H1 A1
theorem t_or1 {es : List Expr} (ha : L2.PT X a (rT X.K Γ k pn ma)) (hb : L2.PW X (.BoolOp .Or (b :: es) pos) (rT X.K Γ k pn mb)) : L2.PW X (.BoolOp .Or (a :: b :: es) pos) (rT X.K Γ k pn (.or ma mb)) := by
  have z := pw_or ha hb
  refine ⟨fun wh pins s σ H Q I h => z.run wh pins s σ H Q I ?_⟩
  obtain ⟨F, G, td, tv, ρ, A, h⟩ := h
  refine rT.intro A h fun b ρ1 H1 p A1 => ?_
  cases b with
  | true =>
    rw [if_pos rfl] at p ⊢
    exact p H1 A1
  | false =>
    rw [if_neg Bool.false_ne_true] at p ⊢
    exact rT.intro A1 p fun b ρ2 H2 p A2 => p H2 A2
theorem e_ife {t : Expr} {mt : E} (ht : L2.PT X t (rT X.K Γ k pn mt)) (ha : L2.PE X a (rE X.K Γ k pn ma)) (hb : L2.PE X b (rE X.K Γ k pn mb)) : L2.PE X (.IfExp t a b pos) (rE X.K Γ k pn (.ife mt ma mb)) := by
  refine PE.of (pe_ifExp ht ha hb) fun σ H Q ⟨F, G, td, tv, ρ, A, h⟩ => ?_
  refine rT.intro A h fun b ρ1 H1 p A1 => ?_
  cases b with
  | true =>
    rw [if_pos rfl] at p ⊢
    exact rE.intro A1 p fun o ρ' v H' p A' a' => p v H' A' a'
  | false =>
    rw [if_neg Bool.false_ne_true] at p ⊢
    exact rE.intro A1 p fun o ρ' v H' p A' a' => p v H' A' a'
theorem idx_core {σ : L2.St} {H : Hp} {Q : VK} {P : D → VEnv → Prop} {F : Addr → HO → Prop} {G : Addr → Prop} {td : VEnv} {tv : L2.St} {ρ : VEnv} (A : At X.K H F G td tv ρ σ)
    (h : wpE Γ k pn ma ρ fun x ρ1 => wpE Γ k pn mb ρ1 fun y ρ2 => lk2 (look ρ2 x) (look ρ2 y) fun d e => idxS d e fun r => P r ρ2)
    (hq : ∀ d ρ' v H', P d ρ' → At X.K H' F G (some (.im d) :: td) (some v :: tv) ρ' σ → Q v H') : tOp (rIx X.K) (rE X.K Γ k pn ma) (rE X.K Γ k pn mb) σ H Q := by
  refine rE.intro A h fun x ρ1 v H1 h1 A1 a1 => rE.intro A1.frz h1 fun y ρ2 u H2 h2 A2 a2 => ?_
  have A2 := A2.frz
  obtain ⟨fp, r⟩ := A2.rel
  cases e1 : look ρ2 x with
  | none => rw [e1] at h2; exact h2.elim
  | some d =>
    cases e2 : look ρ2 y with
    | none => rw [e1, e2] at h2; exact h2.elim
    | some e =>
      rw [e1, e2] at h2
      have hd := look_at (p := 1) (o := x) (v := v) (d := d) A2.len r rfl rfl a1 e1
      have he := look_at (p := 0) (o := y) (v := u) (d := e) A2.len r rfl rfl a2 e2
      exact idx_ok hd he h2 fun b z p q => hq b _ _ _ p (At.res (mid := [frO y, frO x]) (mv := [some u, some v]) rfl A.len r q)
theorem e_idx (ha : L2.PE X a (rE X.K Γ k pn ma)) (hb : L2.PE X b (rE X.K Γ k pn mb)) (hs : L2.PlainIx b) : L2.PE X (.Subscript a b pos) (rE X.K Γ k pn (.idx ma mb)) := by
  refine PE.of (pe_ix ix_seq ha hb hs) fun σ H Q ⟨F, G, td, tv, ρ, A, h⟩ => ?_
  exact idx_core A h fun d ρ' v H' p A' => p v H' A' True.intro
/-- a truth of a value, as a test -/
theorem t_val {e : Expr} {m : E} {P : E} (he : L2.PE X e (rE X.K Γ k pn m)) (hi : ∀ whole, isTrue e X.env whole = (do let v ← whole; standAt e.pos; holding [v] (truthy v)))
    (hm : ∀ ρ Q, wpT Γ k pn m ρ Q → wpE Γ k pn m ρ fun o ρ' => lk1 (look ρ' o) fun d => truS d fun b => Q b ρ') : L2.PT X e (rT X.K Γ k pn m) := by
  refine PT.of (pt_truth he hi) fun σ H Q ⟨F, G, td, tv, ρ, A, h⟩ => ?_
  refine rE.intro A (hm _ _ h) fun o ρ' v H' p A' a' => ?_
  have A2 := A'.frz
  obtain ⟨fp, r⟩ := A2.rel
  cases e1 : look ρ' o with
  | none => rw [e1] at p; exact p.elim
  | some d =>
    rw [e1] at p
    have hd := look_at (p := 0) (o := o) (v := v) (d := d) A2.len r rfl rfl a' e1
    obtain ⟨b, q1, q2⟩ := tru_val hd p
    exact ⟨b, q1, q2 _ ⟨A.len, Rel.pop ⟨fp, r⟩⟩⟩
end
end MP

/-! MiniPy, part 10: argument lists, displays, calls, built-ins. -/
namespace MP
open PySem PySem.Spec PyProof.Rows L2
section
variable {X : Cx} {c : Ctx} {Γ : Tab} {k : Nat} {pn : List Nat} {pos : Pos}
theorem a_nil : L2.PA X [] (rA X.K Γ k pn .nil) :=
  PA.of pa_nil fun σ H Q ⟨F, G, td, tv, ρ, A, h⟩ => h [] H A rfl
theorem a_cons {e : Expr} {es : List Expr} {m : E} {ms : Es} (he : L2.PE X e (rE X.K Γ k pn m)) (hs : L2.PA X es (rA X.K Γ k pn ms)) (h : starEach (e :: es) X.env = (false, eval e X.env) :: starEach es X.env) : L2.PA X (e :: es) (rA X.K Γ k pn (.cons m ms)) := by
  refine PA.of (pa_cons he hs h) fun σ H Q ⟨F, G, td, tv, ρ, A, h⟩ => ?_
  refine rE.intro A h fun x ρ1 v H1 h1 A1 a1 => rA.intro A1 h1 fun xs ρ2 vs H2 h2 A2 a2 => ?_
  refine h2 (v :: vs) H2 ⟨by have := A2.len; simp at this ⊢; omega, ?_⟩ ⟨v, vs, rfl, a1, a2⟩
  have := A2.rel
  rw [List.append_assoc, List.append_assoc, List.cons_append, List.cons_append] at this
  have z := Rel.rot (by simp [a2.length]) this
  simpa using z
theorem lent_none : ∀ {os : List Opd} {n : Nat}, lent os n = [] → ∀ o ∈ os, ∃ x, o = .v x
  | [], _, _, o, h => nomatch h
  | .v x :: os, n, h, o, ho => by
    rcases List.mem_cons.mp ho with rfl | ho
    · exact ⟨x, rfl⟩
    · exact lent_none (n := n + 1) h o ho
  | .bor i :: os, n, h, o, ho => by cases h
/-- the items of a display -/
theorem items_at {K : PySem.W.Frag} {H : Hp} {F : Addr → HO → Prop} {G : Addr → Prop} {td : VEnv} {tv σ : L2.St} {ρ : VEnv} {fp : Fpt} : ∀ {os : List Opd} {vs : List V} {ds : List D} {pre : VEnv} {pre' : L2.St}, pre.length = pre'.length → RelF K H F G (pre ++ (os.map frO ++ (td ++ ρ))) (pre' ++ (vs.map some ++ (tv ++ σ))) fp →
    (∀ o ∈ os, ∃ x, o = .v x) → looks ρ os = some ds → vs.length = os.length → RepDs K H (Shr fp G) ds vs
  | [], vs, ds, pre, pre', _, _, _, e, hl => by
    cases e
    cases vs with
    | nil => rfl
    | cons => simp at hl
  | o :: os, vs, ds, pre, pre', hp, r, ho, e, hl => by
    cases vs with
    | nil => simp at hl
    | cons v vs =>
      obtain ⟨x, rfl⟩ := ho _ (List.mem_cons_self ..)
      unfold looks at e
      split at e
      · rename_i d ds' e1 e2
        cases e
        cases (show some (frz x) = some d from e1)
        obtain ⟨v', e3, q⟩ := r.rep pre.length (.im (frz x)) (by simp [frO])
        rw [hp] at e3
        simp at e3
        subst e3
        refine ⟨v, vs, rfl, q.1, items_at (pre := pre ++ [frO (.v x)]) (pre' := pre' ++ [some v]) (by simp [hp]) (by simpa using r) (fun o h => ho o (List.mem_cons_of_mem _ h)) e2 (by simpa using hl)⟩
      · cases e
theorem disp_core {H : Hp} {F : Addr → HO → Prop} {G : Addr → Prop} {td : VEnv} {tv σ : L2.St} {ρ : VEnv} {os : List Opd} {vs : List V} {ds : List D} (hl : td.length = tv.length) (A : At X.K H F G (os.map toO ++ td) (vs.map some ++ tv) ρ σ) (ha : atOs σ os vs) (hn : lent os 0 = []) (e : looks ρ os = some ds) :
    ∃ fp, RelF X.K H F G ((os.map frO ++ td) ++ ρ) ((vs.map some ++ tv) ++ σ) fp ∧ RepDs X.K H (Shr fp G) ds vs := by
  have A2 := A.frzs ha.length.symm
  obtain ⟨fp, r⟩ := A2.rel
  refine ⟨fp, r, items_at (pre := []) (pre' := []) rfl (by simpa using r) (lent_none hn) e ha.length⟩
theorem e_tup {es : List Expr} {ms : Es} {x1} (hs : L2.PA X es (rA X.K Γ k pn ms)) : L2.PE X (.Tuple es x1 pos) (rE X.K Γ k pn (.tup ms)) := by
  refine PE.of (pe_tup hs) fun σ H Q ⟨F, G, td, tv, ρ, A, h⟩ => ?_
  refine rA.intro A h fun os ρ1 vs H1 h1 A1 a1 => ?_
  obtain ⟨h0, h1⟩ := h1
  split at h1
  · rename_i ds e1
    obtain ⟨fp, r, q⟩ := disp_core A.len A1 a1 h1.1 e1
    refine ⟨by rw [a1.length, sizeLine_eq]; exact h0, fun p hp => h1.2 _ _ (At.newTup (by simp [a1.length]) A.len r hp q) True.intro⟩
  · exact h1.elim
theorem e_lst {es : List Expr} {ms : Es} (hs : L2.PA X es (rA X.K Γ k pn ms)) : L2.PE X (.List es pos) (rE X.K Γ k pn (.lst ms)) := by
  refine PE.of (pe_lst hs) fun σ H Q ⟨F, G, td, tv, ρ, A, h⟩ => ?_
  refine rA.intro A h fun os ρ1 vs H1 h1 A1 a1 => ?_
  obtain ⟨h0, h1⟩ := h1
  split at h1
  · rename_i ds e1
    obtain ⟨fp, r, q⟩ := disp_core A.len A1 a1 h1.1 e1
    refine ⟨by rw [a1.length, sizeLine_eq]; exact h0, fun p hp => h1.2 _ _ (At.newLst (by simp [a1.length]) A.len r hp q) True.intro⟩
  · exact h1.elim
/-! slices -/
def rO (K : PySem.W.Frag) (Γ : Tab) (k : Nat) (pn : List Nat) (m : E) : L2.TO := fun σ H Q => ∃ F G td tv ρ, At K H F G td tv ρ σ ∧ bnd m (wpE Γ k pn m) ρ fun b ρ' => ∀ H', At K H' F G td tv ρ' σ → Q b H'
theorem rO.intro {K : PySem.W.Frag} {H : Hp} {F : Addr → HO → Prop} {G : Addr → Prop} {td : VEnv} {tv σ : L2.St} {ρ : VEnv} {m : E} {Q : Option Int → Hp → Prop} {P : Option Int → VEnv → Prop} (A : At K H F G td tv ρ σ) (h : bnd m (wpE Γ k pn m) ρ P) (hq : ∀ o ρ' H', P o ρ' → At K H' F G td tv ρ' σ → Q o H') : rO K Γ k pn m σ H Q :=
  ⟨F, G, td, tv, ρ, A, bnd.mono (wpE.mono m) (fun o ρ' p H' a => hq o ρ' H' p a) h⟩
theorem PO.of {X : Cx} {e : Option Expr} {t t' : L2.TO} (h : L2.PO X e t) (w : ∀ σ H Q, t' σ H Q → t σ H Q) : L2.PO X e t' := ⟨fun pins s σ H Q I q => h.run pins s σ H Q I (w σ H Q q)⟩
theorem o_none : L2.PO X none (rO X.K Γ k pn .noE) := PO.of po_none fun σ H Q ⟨F, G, td, tv, ρ, A, h⟩ => h H A
theorem int_at {σ : L2.St} {H1 : Hp} {F : Addr → HO → Prop} {G : Addr → Prop} {td : VEnv} {tv : L2.St} {ρ1 : VEnv} {x : Opd} {v : V} {P : Int → Prop} (A1 : At X.K H1 F G (toO x :: td) (some v :: tv) ρ1 σ) (a1 : atO σ x v) (h : intOf (look ρ1 x) P) :
    ∃ b, v = .int b ∧ P b ∧ At X.K H1 F G td tv ρ1 σ := by
  have A2 := A1.frz
  obtain ⟨fp, r⟩ := A2.rel
  unfold intOf at h
  split at h
  · rename_i i e1
    have hd := look_at (p := 0) (o := x) (v := v) (d := .int i) A2.len r rfl rfl a1 e1
    cases hd
    exact ⟨i, rfl, h, by simpa using A2.len, Rel.pop ⟨fp, r⟩⟩
  · exact h.elim
theorem o_some {e : Expr} {m : E} (he : L2.PE X e (rE X.K Γ k pn m)) (hm : m ≠ .noE) : L2.PO X (some e) (rO X.K Γ k pn m) := by
  refine PO.of (po_some he) fun σ H Q ⟨F, G, td, tv, ρ, A, h⟩ => ?_
  unfold bnd at h
  split at h
  · exact absurd rfl hm
  · refine rE.intro A h fun x ρ1 v H1 h1 A1 a1 => ?_
    obtain ⟨b, rfl, p, A2⟩ := int_at A1 a1 h1
    exact ⟨b, rfl, p _ A2⟩
theorem e_slc {a : Expr} {lo hi : Option Expr} {ma ml mh : E} {p2 : Pos} (ha : L2.PE X a (rE X.K Γ k pn ma)) (hl : L2.PO X lo (rO X.K Γ k pn ml)) (hh : L2.PO X hi (rO X.K Γ k pn mh)) : L2.PE X (.Subscript a (.Slice lo hi none p2) pos) (rE X.K Γ k pn (.slc ma ml mh)) := by
  refine PE.of (pe_slice sl_rSl ha hl hh) fun σ H Q ⟨F, G, td, tv, ρ, A, h⟩ => ?_
  refine rE.intro A h fun x ρ1 v H1 h1 A1 a1 => rO.intro A1.frz h1 fun l ρ2 H2 h2 A2 => rO.intro A2 h2 fun u ρ3 H3 h3 A3 => ?_
  obtain ⟨fp, r⟩ := A3.rel
  cases e1 : look ρ3 x with
  | none => rw [e1] at h3; exact h3.elim
  | some d =>
    rw [e1] at h3
    have hd := look_at (p := 0) (o := x) (v := v) (d := d) A3.len r rfl rfl a1 e1
    exact slc_ok (mid := [frO x]) (mv := [some v]) rfl A.len r hd h3 fun rv z H' p A' => p z H' A' True.intro
/-! calls of defs -/
theorem call_core {f : Str} {ms : Es} {σ : L2.St} {H : Hp} {Q : VK} {F : Addr → HO → Prop} {G : Addr → Prop} {td : VEnv} {tv : L2.St} {ρ : VEnv} {P : Opd → VEnv → Prop} (A : At X.K H F G td tv ρ σ) (h : wpE Γ k pn (.call f ms) ρ P)
    (hq : ∀ r ρ' v H', P (.v r) ρ' → At X.K H' F G (some r :: td) (some v :: tv) ρ' σ → Q v H') :
    rA X.K Γ k pn ms σ H fun vs H1 => ∃ j g, j < k ∧ Γ f j = some g ∧ spOf X.K g vs H1 Q fun _ _ _ => False := by
  refine rA.intro A h fun os ρ1 vs H1 h1 A1 a1 => ?_
  split at h1
  · rename_i ds e
    obtain ⟨j, g, h2, h3, h4, h5, h6⟩ := h1
    refine ⟨j, g, h2, h3, call_sp (A1.frzs a1.length.symm) a1 A.len e h5 h6 hq⟩
  · exact h1.elim
theorem run_tab (am : Amb Γ k X c) {f : Str} {fa : Addr} {pins : List (Addr × Obj)} {s1 : Shared} {σ : L2.St} {H1 : Hp} {Q : VK} {us : List Value} {vs : List V} (hm : X.mg f = some (.ref fa)) (I1 : L2.Inv X pins σ H1 s1) (r : Vals vs us)
    (q : ∃ j g, j < k ∧ Γ f j = some g ∧ spOf X.K g vs H1 Q fun _ _ _ => False) : wpAny (model X.prog X.w) X.A (call (.ref fa) us) (EP X pins σ Q) X.xe s1 := by
  obtain ⟨j, g, h1, h2, h3⟩ := q
  obtain ⟨fd, ps, b, F⟩ := am.tab f j g h1 h2 fa hm
  obtain ⟨kb, rfl, hr⟩ := am.room
  exact run_fn (E := fun _ _ _ => False) F (hr.mono (by omega)) b .nil pass0 I1 r (by rw [List.append_nil]; exact h3)
theorem e_call {f : Str} {es : List Expr} {e : Expr} {ms : Es} {p : Pos} (am : Amb Γ k X c) (hg : glOk c f = true) (hf : f ∈ c.fs) (hs : L2.PA X (e :: es) (rA X.K Γ k pn ms)) (he : starEach (e :: es) X.env = (false, eval e X.env) :: starEach es X.env)
    (hpl : (backTo pos (starEach es X.env)).any (·.1) = false) : L2.PE X (.Call (.Name f p) (e :: es) [] pos) (rE X.K Γ k pn (.call f ms)) := by
  unfold glOk at hg
  simp only [Bool.and_eq_true, Bool.not_eq_true'] at hg
  obtain ⟨fa, hm, hk⟩ := am.fs f hf
  refine ⟨fun pins s σ H Q I h => ?_⟩
  obtain ⟨F, G, td, tv, ρ, A, h⟩ := h
  refine wpAny_Call_Name_kw (ld_glob I (am.glo hg.1) hm ?_ hg.2)
  refine PySem.W.callWith_K (h₀ := X.base) I.ok.mod.kin hk (thn (hs.run pos pins s σ H _ I (call_core A h fun r ρ' v H' p A' => p v H' A' True.intro)) fun us s1 ⟨vs, H1, I1, r, q⟩ => ⟨I1.kIn, ?_⟩) he hpl
  exact run_tab am hm I1 r q
theorem e_call0 {f : Str} {p : Pos} (am : Amb Γ k X c) (hg : glOk c f = true) (hf : f ∈ c.fs) : L2.PE X (.Call (.Name f p) [] [] pos) (rE X.K Γ k pn (.call f .nil)) := by
  unfold glOk at hg
  simp only [Bool.and_eq_true, Bool.not_eq_true'] at hg
  obtain ⟨fa, hm, hk⟩ := am.fs f hf
  refine ⟨fun pins s σ H Q I h => ?_⟩
  obtain ⟨F, G, td, tv, ρ, A, h⟩ := h
  refine wpAny_Call_Name_kw (ld_glob I (am.glo hg.1) hm ?_ hg.2)
  refine PySem.W.callWith_K0 I.kIn hk ?_
  obtain ⟨F', G', td', tv', ρ', A', h'⟩ := call_core (Q := Q) A h fun r ρ' v H' p A' => p v H' A' True.intro
  exact run_tab am hm I .nil (h' [] H A' rfl)
/-! built-ins -/
def rBi (K : PySem.W.Frag) : Bi → List V → Hp → VK → Prop
  | .len => fun xs H Q => ∃ x n, xs = [x] ∧ LenV K x H n ∧ Q (.int n) H
  | .abs => fun xs H Q => ∃ i, xs = [.int i] ∧ Q (.int (if i < 0 then -i else i)) H
  | .max2 => fun xs H Q => ∃ i j, xs = [.int i, .int j] ∧ Q (.int (if j > i then j else i)) H
  | .min2 => fun xs H Q => ∃ i j, xs = [.int i, .int j] ∧ Q (.int (if j < i then j else i)) H
  | .toInt => fun xs H Q => (∃ i, xs = [.int i] ∧ Q (.int i) H) ∨ ∃ k, xs = [.bl k] ∧ Q (.int (if k then 1 else 0)) H
  | .toList => fun xs H Q => ∃ p ys, xs = [.ref p] ∧ (SqL K H p ys ∨ SqT K H p ys) ∧ ∀ l, H l = none → Q (.ref l) (upd H l (.lst ys))
  | .toTuple => fun xs H Q => ∃ p ys, xs = [.ref p] ∧ ((SqL K H p ys ∧ ∀ l, H l = none → Q (.ref l) (upd H l (.tup ys))) ∨ (SqT K H p ys ∧ Q (.ref p) H))
  | .gcd => rGcd
theorem biS_ok {f : Bi} {σ : L2.St} {H : Hp} {Q : VK} {F : Addr → HO → Prop} {G : Addr → Prop} {td : VEnv} {tv : L2.St} {ρ : VEnv} {fp : Fpt} {mid : VEnv} {mv : L2.St} {ds : List D} {vs : List V} {P : Val → Prop} (hm : mid.length = mv.length) (hl : td.length = tv.length)
    (r : RelF X.K H F G ((mid ++ td) ++ ρ) ((mv ++ tv) ++ σ) fp) (hlen : vs.length = ds.length) (hw : ∀ (i : Nat) d v, ds[i]? = some d → vs[i]? = some v → RepW X.K H (Shr fp G) d v) (h : biS f ds P)
    (hq : ∀ rv z H', P rv → At X.K H' F G (some rv :: td) (some z :: tv) ρ σ → Q z H') : rBi X.K f vs H Q := by
  have I : ∀ n, P (.im (.int n)) → Q (.int n) H := fun n hp => hq _ _ _ hp (At.res hm hl r rfl)
  have one : ∀ {d}, ds = [d] → ∃ v, vs = [v] ∧ RepW X.K H (Shr fp G) d v := fun {d} e => by
    subst e
    match vs, hlen with
    | [v], _ => exact ⟨v, rfl, hw 0 d v rfl rfl⟩
  have two : ∀ {d e}, ds = [d, e] → ∃ v u, vs = [v, u] ∧ RepW X.K H (Shr fp G) d v ∧ RepW X.K H (Shr fp G) e u := fun {d e} z => by
    subst z
    match vs, hlen with
    | [v, u], _ => exact ⟨v, u, rfl, hw 0 d v rfl rfl, hw 1 e u rfl rfl⟩
  unfold biS at h
  split at h
  · obtain ⟨v, rfl, a, xs, rfl, h1, h2⟩ := one rfl
    exact ⟨_, _, rfl, .inr ⟨xs, h1, h2.length.symm⟩, I _ h⟩
  · obtain ⟨v, rfl, a, xs, rfl, h1, h2⟩ := one rfl
    exact ⟨_, _, rfl, .inl ⟨xs, h1, h2.length.symm⟩, I _ h⟩
  · obtain ⟨v, rfl, hv⟩ := one rfl
    cases hv
    exact ⟨_, rfl, I _ h⟩
  · obtain ⟨v, u, rfl, hv, hu⟩ := two rfl
    cases hv; cases hu
    exact ⟨_, _, rfl, I _ h⟩
  · obtain ⟨v, u, rfl, hv, hu⟩ := two rfl
    cases hv; cases hu
    exact ⟨_, _, rfl, I _ h⟩
  · obtain ⟨v, rfl, hv⟩ := one rfl
    cases hv
    exact .inl ⟨_, rfl, I _ h⟩
  · obtain ⟨v, rfl, hv⟩ := one rfl
    cases hv
    exact .inr ⟨_, rfl, I _ h⟩
  · obtain ⟨v, rfl, a, xs, rfl, h1, h2⟩ := one rfl
    exact ⟨a, xs, rfl, .inl (h1), fun p hp => hq _ _ _ h (At.newLst hm hl r hp h2)⟩
  · obtain ⟨v, rfl, a, xs, rfl, h1, h2⟩ := one rfl
    exact ⟨a, xs, rfl, .inr h1, fun p hp => hq _ _ _ h (At.newLst hm hl r hp h2)⟩
  · obtain ⟨v, rfl, a, xs, rfl, h1, h2⟩ := one rfl
    exact ⟨a, xs, rfl, .inl ⟨h1, fun p hp => hq _ _ _ h (At.newTup hm hl r hp h2)⟩⟩
  · obtain ⟨v, rfl, a, xs, rfl, h1, h2⟩ := one rfl
    exact ⟨a, xs, rfl, .inr ⟨h1, hq _ _ _ h (At.res hm hl r ⟨a, xs, rfl, h1, h2⟩)⟩⟩
  · obtain ⟨v, u, rfl, hv, hu⟩ := two rfl
    cases hv; cases hu
    exact ⟨_, _, rfl, I _ h⟩
  · exact h.elim
theorem bi_core {f : Bi} {ms : Es} {σ : L2.St} {H : Hp} {Q : VK} {F : Addr → HO → Prop} {G : Addr → Prop} {td : VEnv} {tv : L2.St} {ρ : VEnv} {P : Opd → VEnv → Prop} (A : At X.K H F G td tv ρ σ) (h : wpE Γ k pn (.bi f ms) ρ P)
    (hq : ∀ r ρ' v H', P (.v r) ρ' → At X.K H' F G (some r :: td) (some v :: tv) ρ' σ → Q v H') : tCB (rBi X.K f) (rA X.K Γ k pn ms) σ H Q := by
  refine rA.intro A h fun os ρ1 vs H1 h1 A1 a1 => ?_
  split at h1
  · rename_i ds e
    have A2 := A1.frzs a1.length.symm
    obtain ⟨fp, r⟩ := A2.rel
    obtain ⟨l1, w1⟩ := looks_at (pre := []) (pre' := []) rfl A.len r a1 e
    exact biS_ok (by simp [a1.length]) A.len r (by rw [a1.length, l1]) w1 h1 fun rv z H' p A' => hq _ _ _ _ p A'
  · exact h1.elim
theorem e_bi {f : Bi} {es : List Expr} {e : Expr} {ms : Es} {p : Pos} {x : Str} (am : Amb Γ k X c) (hg : (match f with | .gcd => c.gc && glOk c x && decide (x = biN .gcd) | f => bnOk c x (biN f)) = true) (hs : L2.PA X (e :: es) (rA X.K Γ k pn ms))
    (he : starEach (e :: es) X.env = (false, eval e X.env) :: starEach es X.env) (hpl : (backTo pos (starEach es X.env)).any (·.1) = false) : L2.PE X (.Call (.Name x p) (e :: es) [] pos) (rE X.K Γ k pn (.bi f ms)) := by
  have hq : ∀ σ H Q, rE X.K Γ k pn (.bi f ms) σ H Q → tCB (rBi X.K f) (rA X.K Γ k pn ms) σ H Q := fun σ H Q ⟨F, G, td, tv, ρ, A, h⟩ => bi_core A h fun r ρ' v H' p A' => p v H' A' True.intro
  cases f with
  | gcd =>
    simp only [Bool.and_eq_true, decide_eq_true_eq] at hg
    obtain ⟨⟨h1, h2⟩, rfl⟩ := hg
    unfold glOk at h2
    simp only [Bool.and_eq_true, Bool.not_eq_true'] at h2
    exact PE.of (pe_callBfun cr_gcd (am.glo h2.1) (am.gc h1) hs h2.2 he hpl) hq
  | len => obtain ⟨h1, rfl, h2⟩ := bn_parts hg; exact PE.of (pe_callB call_len (am.glo h1) (am.bn _ h2) (by decide +kernel) hs (by decide) (by decide) he hpl) hq
  | abs => obtain ⟨h1, rfl, h2⟩ := bn_parts hg; exact PE.of (pe_callB call_abs (am.glo h1) (am.bn _ h2) (by decide +kernel) hs (by decide) (by decide) he hpl) hq
  | max2 => obtain ⟨h1, rfl, h2⟩ := bn_parts hg; exact PE.of (pe_callB (call_max2 am.calm) (am.glo h1) (am.bn _ h2) (by decide +kernel) hs (by decide) (by decide) he hpl) hq
  | min2 => obtain ⟨h1, rfl, h2⟩ := bn_parts hg; exact PE.of (pe_callB (call_min2 am.calm) (am.glo h1) (am.bn _ h2) (by decide +kernel) hs (by decide) (by decide) he hpl) hq
  | toInt => obtain ⟨h1, rfl, h2⟩ := bn_parts hg; exact PE.of (pe_callTy call_int1 (am.glo h1) (am.bn _ h2) (by decide +kernel) hs (by decide) (by decide) he hpl) hq
  | toList => obtain ⟨h1, rfl, h2⟩ := bn_parts hg; exact PE.of (pe_callTy call_list_of (am.glo h1) (am.bn _ h2) (by decide +kernel) hs (by decide) (by decide) he hpl) hq
  | toTuple => obtain ⟨h1, rfl, h2⟩ := bn_parts hg; exact PE.of (pe_callTy call_tuple_of (am.glo h1) (am.bn _ h2) (by decide +kernel) hs (by decide) (by decide) he hpl) hq
end
end MP

/-! MiniPy, part 11: isinstance, methods of lists. -/
namespace MP
open PySem PySem.Spec PyProof.Rows L2
def tyD : D → String
  | .tup _ => "tuple" | .lst _ => "list" | .bl _ => "bool" | .int _ => "int" | .str _ => "str" | .non => "NoneType"
theorem kit_tb (K : PySem.W.Frag) (d : D) (t : Ty) : PySem.W.kitOne K (.type (tyD d)) (.type (tyS t)) = some (isT d t) := by
  cases d <;> cases t <;> first | rfl | kernel_rfl
theorem kit_any (K : PySem.W.Frag) (d : D) : ∀ ts : List Ty, PySem.W.kitAny K (.type (tyD d)) (ts.map fun t => Value.type (tyS t)) = some (ts.any (isT d))
  | [] => rfl
  | t :: ts => by
    rw [List.map_cons, PySem.W.kitAny, kit_tb, kit_any K d ts, List.any_cons]
    cases isT d t <;> rfl
section
variable {K : PySem.W.Frag} {H : Hp} {S : Addr → Prop} {d : D} {v : V}
theorem ty_at (h : RepW K H S d v) : TyX K H v (.type (tyD d)) := by
  cases d with
  | non => cases h; exact .base .non
  | bl b => cases h; exact .base (.bl b)
  | int b => cases h; exact .base (.int b)
  | str b => cases h; exact .base (.str b)
  | tup l =>
    obtain ⟨a, vs, rfl, h1, _⟩ := h
    rcases h1 with (h1 | ⟨o, h1⟩) | ⟨o, its, n, h1, h2, _⟩
    · exact .base (.tup h1)
    · exact .fTuple h1
    · exact .kTuple h1 h2
  | lst l =>
    obtain ⟨a, vs, rfl, h1, _⟩ := h
    rcases h1 with (h1 | ⟨o, h1⟩) | ⟨o, its, n, h1, h2, _⟩
    · exact .base (.lst h1)
    · exact .base (.frz h1)
    · exact .kList h1 h2
end
section
variable {X : Cx} {c : Ctx} {Γ : Tab} {k : Nat} {pn : List Nat} {pos : Pos}
theorem e_ty (am : Amb Γ k X c) {t : Ty} {y : Str} {p : Pos} (h : bnOk c y (tyN t) = true) : L2.PE X (.Name y p) (tC (.ty (tyS t))) := by
  obtain ⟨h1, rfl, h2⟩ := bn_parts h
  cases t <;> exact pe_bltn (am.glo h1) (am.bn _ h2) (by decide +kernel) rfl
theorem a_tys (am : Amb Γ k X c) : ∀ {ts : List Ty} {es : List Expr}, mTys c ts es = true → ∃ t, L2.PA X es t ∧ ∀ σ H Q, Q (ts.map fun t => V.ty (tyS t)) H → t σ H Q
  | [], [], _ => ⟨_, pa_nil, fun σ H Q h => h⟩
  | t :: ts, .Name x p :: es, h => by
    simp only [mTys, Bool.and_eq_true] at h
    obtain ⟨u, hu, hq⟩ := a_tys am h.2
    exact ⟨_, pa_cons (e_ty am h.1) hu, fun σ H Q q => hq _ _ _ q⟩
theorem isi_at {ma : E} {ts : List Ty} {b : Bool} {σ : L2.St} {H : Hp} {Q : VK} {tc : L2.TA} {r0 : List V → Hp → VK → Prop} (h : rE X.K Γ k pn (.isi ma ts b) σ H Q)
    (hq : ∀ v d H1 (P : Hp → Prop), RepW X.K H1 (fun _ => True) d v → (∀ H2, (∀ b o, H1 b = some o → H2 b = some o) → RepW X.K H2 (fun _ => True) d v) → (∀ H2, (∀ b o, H1 b = some o → H2 b = some o) → Q (.bl (ts.any (isT d))) H2) → tc σ H1 fun vs H2 => r0 (v :: vs) H2 Q) :
    tCB r0 (tCons (rE X.K Γ k pn ma) tc) σ H Q := by
  obtain ⟨F, G, td, tv, ρ, A, h⟩ := h
  refine rE.intro A h fun o ρ1 v H1 h1 A1 a1 => ?_
  have A2 := A1.frz
  obtain ⟨fp, r⟩ := A2.rel
  cases e1 : look ρ1 o with
  | none => rw [e1] at h1; exact h1.elim
  | some d =>
    rw [e1] at h1
    have weak : ∀ {H : Hp} {S : Addr → Prop}, RepW X.K H S d v → RepW X.K H (fun _ => True) d v := fun {H S} q => by
      cases d with
      | lst l => obtain ⟨a, vs, e, q1, q2⟩ := q; exact ⟨a, vs, e, q1, RepDs.mono keepT (fun _ _ _ z => ⟨True.intro, z⟩) _ _ q2⟩
      | _ => exact RepD.mono (S := S) keepT (fun _ _ _ z => ⟨True.intro, z⟩) _ _ q
    have at_ : ∀ H2, (∀ b o, H1 b = some o → H2 b = some o) → RelF X.K H2 F G _ _ fp := fun H2 g => r.grow g
    refine hq v d H1 (fun _ => True) (weak (look_at (p := 0) (o := o) (v := v) (d := d) A2.len r rfl rfl a1 e1)) (fun H2 g => weak (look_at (p := 0) (o := o) (v := v) (d := d) A2.len (at_ H2 g) rfl rfl a1 e1)) fun H2 g => ?_
    exact h1 _ _ (At.res (mid := [frO o]) (mv := [some v]) rfl A.len (at_ H2 g) rfl) True.intro
theorem e_isi1 {a : Expr} {ma : E} {t : Ty} {x y : Str} {p p2 : Pos} (am : Amb Γ k X c) (hx : bnOk c x "isinstance" = true) (ha : L2.PE X a (rE X.K Γ k pn ma)) (ht : bnOk c y (tyN t) = true)
    (hs1 : starEach [a, .Name y p2] X.env = (false, eval a X.env) :: starEach [.Name y p2] X.env) : L2.PE X (.Call (.Name x p) [a, .Name y p2] [] pos) (rE X.K Γ k pn (.isi ma [t] false)) := by
  obtain ⟨h1, rfl, h2⟩ := bn_parts hx
  refine PE.of (pe_callB call_isi (am.glo h1) (am.bn _ h2) (by decide +kernel) (pa_cons ha (pa_cons (e_ty am ht) pa_nil rfl) hs1) (by decide) (by decide) hs1 rfl) fun σ H Q h => ?_
  refine isi_at h fun v d H1 _ w _ q => ?_
  refine ⟨v, _, _, _, _, rfl, .ty _, ty_at w, kit_tb _ d t, ?_⟩
  have e : [t].any (isT d) = isT d t := by simp
  rw [← e]
  exact q H1 fun _ _ z => z
theorem e_isiT {a : Expr} {ma : E} {ts : List Ty} {x : Str} {p p2 : Pos} {es : List Expr} {x1 : Nat} (am : Amb Γ k X c) (hx : bnOk c x "isinstance" = true) (ha : L2.PE X a (rE X.K Γ k pn ma)) (ht : mTys c ts es = true) (hn : ts.length ≤ 1000)
    (hs1 : starEach [a, .Tuple es x1 p2] X.env = (false, eval a X.env) :: starEach [.Tuple es x1 p2] X.env) : L2.PE X (.Call (.Name x p) [a, .Tuple es x1 p2] [] pos) (rE X.K Γ k pn (.isi ma ts true)) := by
  obtain ⟨h1, rfl, h2⟩ := bn_parts hx
  obtain ⟨u, hu, hq⟩ := a_tys am ht
  refine PE.of (pe_callB call_isiT (am.glo h1) (am.bn _ h2) (by decide +kernel) (pa_cons ha (pa_cons (pe_tup hu) pa_nil rfl) hs1) (by decide) (by decide) hs1 rfl) fun σ H Q h => ?_
  refine isi_at h fun v d H1 _ _ w q => ?_
  refine hq _ _ _ ⟨by rw [List.length_map, sizeLine_eq]; omega, fun tp hp => ?_⟩
  have g : ∀ b o, H1 b = some o → upd H1 tp (.tup (ts.map fun t => V.ty (tyS t))) b = some o := grow_upd hp
  refine ⟨v, tp, _, _, ts.map fun t => Value.type (tyS t), _, rfl, upd_same, ?_, ty_at (w _ g), kit_any _ d ts, q _ g⟩
  have : ∀ l : List Ty, Paired ClsV (l.map fun t => V.ty (tyS t)) (l.map fun t => Value.type (tyS t)) := by
    intro l
    induction l with
    | nil => exact .nil
    | cons t l ih => exact .cons (.ty _) ih
  exact this ts
/-! methods of an own list -/
theorem At.setOwn {K : PySem.W.Frag} {H : Hp} {F : Addr → HO → Prop} {G : Addr → Prop} {td : VEnv} {tv σ : L2.St} {ρ : VEnv} {fp : Fpt} {i : Nat} {l l' : List D} {a : Addr} {vs vs' : List V} (hl : td.length = tv.length)
    (r : RelF K H F G (td ++ ρ) (tv ++ σ) fp) (hs : slotV ρ i = some (.ml l)) (hσ : σ[i]? = some (some (.ref a))) (h1 : H a = some (.lst vs)) (q : RepDs K H (Shr fp G) l' vs') :
    ∃ fp2, RelF K (upd H a (.lst vs')) F G (td ++ ρ.set i (some (.ml l'))) (tv ++ σ) fp2 ∧ ∀ d z, RepD K H (Shr fp G) d z → RepD K (upd H a (.lst vs')) (Shr fp2 G) d z := by
  have hs' : (td ++ ρ)[td.length + i]? = some (some (.ml l)) := by rw [List.getElem?_append_right (by omega)]; simpa using slotV_some hs
  have hi : i < ρ.length := (List.getElem?_eq_some_iff.mp (slotV_some hs)).1
  obtain ⟨v, e, q1, t⟩ := r.take hs'
  have hv : (tv ++ σ)[td.length + i]? = some (some (.ref a)) := by rw [List.getElem?_append_right (by omega), show td.length + i - tv.length = i by omega]; exact hσ
  rw [hv] at e; cases e
  obtain ⟨a', ws, e2, _, _, e3⟩ := q1
  cases e2
  rw [e3] at t
  -- the heap changes at a alone
  have na : ∀ b o, H b = some o → b ≠ a → upd H a (.lst vs') b = some o := fun b o e n => by rw [upd_ne n]; exact e
  have tk : ∀ b, upd H a (.lst vs') b = none → H b = none := fun b e => by
    by_cases z : b = a
    · rw [z, upd_same] at e; cases e
    · rwa [upd_ne z] at e
  have hT : ∀ b xs, SqT K H b xs → SqT K (upd H a (.lst vs')) b xs := fun b xs s => by
    rcases s with (s | ⟨o, s⟩) | s
    · exact .inl (.inl (na _ _ s fun z => by rw [z, h1] at s; cases s))
    · exact .inl (.inr ⟨o, na _ _ s fun z => by rw [z, h1] at s; cases s⟩)
    · exact .inr s
  have hR : ∀ {fp' : Fpt} b xs, Shr fp' (GA G [a]) b → Rd H b (.lst xs) → Rd (upd H a (.lst vs')) b (.lst xs) := fun {fp'} b xs s z => by
    have n : b ≠ a := fun z => s.2 (.inr (by simp [z]))
    rcases z with z | ⟨o, z⟩
    · exact .inl (na _ _ z n)
    · exact .inr ⟨o, na _ _ z n⟩
  have t2 : RelF K (upd H a (.lst vs')) F (GA G [a]) ((td ++ ρ).set (td.length + i) none) (tv ++ σ) (fset fp (td.length + i) []) := by
    refine t.heap hT (fun b xs s z => hR b xs s z) (fun j b xs m z => na _ _ z fun e => ?_) (fun b o f z => na _ _ z fun e => ?_) fun b g n e => n (tk b e)
    · subst e
      unfold fset at m
      split at m
      · cases m
      · rename_i hj
        exact hj (r.dis j (td.length + i) b m (by rw [e3]; simp))
    · subst e
      exact (r.fr b o f).2 (td.length + i) (by rw [e3]; simp)
  have q2 : RepDs K (upd H a (.lst vs')) (Shr (fset fp (td.length + i) []) (GA G [a])) l' vs' := by
    refine RepDs.mono hT (fun b xs s z => ?_) l' vs' q
    have s' : Shr (fset fp (td.length + i) []) (GA G [a]) b := ⟨fun j m => by
      unfold fset at m
      split at m
      · cases m
      · exact s.1 j m, fun h => h.elim s.2 fun h => s.1 (td.length + i) (by rw [e3]; exact h)⟩
    exact ⟨s', hR b xs s' z⟩
  have lt : td.length + i < (td ++ ρ).length := by simp; omega
  have z := t2.put (i := td.length + i) (d := .ml l') (v := .ref a) (f := [a]) (List.getElem?_set_self lt) hv ⟨a, vs', rfl, upd_same, q2, rfl⟩ (by simp) (fun b hb => ?_) fun b o f m => ?_
  · rw [List.set_set, List.set_append_right _ _ (by omega), show td.length + i - td.length = i by omega] at z
    refine ⟨_, z, fun d w q => RepD.mono hT (fun b xs s z => ?_) d w q⟩
    have n : b ≠ a := fun e => s.1 (td.length + i) (by rw [e3, e]; simp)
    refine ⟨⟨fun j m => ?_, s.2⟩, ?_⟩
    · unfold fset at m
      split at m
      · exact n (List.mem_singleton.mp m)
      · exact s.1 j m
    · rcases z with z | ⟨o, z⟩
      · exact .inl (na _ _ z n)
      · exact .inr ⟨o, na _ _ z n⟩
  · rw [List.mem_singleton.mp hb]
    exact r.gf (td.length + i) a (by rw [e3]; simp)
  · rw [List.mem_singleton.mp m] at f
    exact (r.fr a o f).2 (td.length + i) (by rw [e3]; simp)
def mtId : Mt → String
  | .append => "list.append" | .pop => "list.pop" | .reverse => "list.reverse"
def rMt : Mt → V → List V → Hp → VK → Prop
  | .append => rAppend
  | .pop => rPop
  | .reverse => rReverse
theorem last_get {l : List D} {vs : List V} {K : PySem.W.Frag} {H : Hp} {S : Addr → Prop} {d : D} (h : RepDs K H S l vs) (e : l.getLast? = some d) : ∃ v, vs[vs.length - 1]? = some v ∧ RepD K H S d v ∧ RepDs K H S l.dropLast vs.dropLast := by
  have hl := h.length
  rw [List.getLast?_eq_getElem?] at e
  obtain ⟨v, e1, q⟩ := h.get e
  refine ⟨v, by rw [hl]; exact e1, q, ?_⟩
  rw [List.dropLast_eq_take, List.dropLast_eq_take, hl]
  exact h.take _
theorem mtS_ok {m : Mt} {H : Hp} {Q : VK} {S : Addr → Prop} {a : Addr} {l : List D} {vs ws : List V} {ds : List D} {P : List D → D → Prop} (h1 : H a = some (.lst vs)) (h2 : RepDs X.K H S l vs) (hw : RepDs X.K H S ds ws) (h : mtS m l ds P)
    (hq : ∀ l' vs' d z, P l' d → RepDs X.K H S l' vs' → RepD X.K H S d z → Q z (upd H a (.lst vs'))) : rMt m (.ref a) ws H Q := by
  unfold mtS at h
  split at h
  · rename_i d
    obtain ⟨w, wr, rfl, q1, q2⟩ := hw
    cases q2
    exact ⟨a, vs, w, rfl, rfl, h1, by rw [h2.length, sizeLine_eq]; exact h.1, hq _ _ _ _ h.2 (h2.append ⟨w, [], rfl, q1, rfl⟩) rfl⟩
  · cases hw
    split at h
    · rename_i d e
      obtain ⟨v, e1, q, q2⟩ := last_get h2 e
      exact ⟨a, vs, v, rfl, rfl, h1, e1, hq _ _ _ _ h q2 q⟩
    · exact h.elim
  · cases hw
    exact ⟨a, vs, rfl, rfl, h1, hq _ _ _ _ h h2.reverse rfl⟩
  · exact h.elim
theorem mt_r {X : Cx} : ∀ m : Mt, MtR X (mtId m) (rMt m)
  | .append => mt_append
  | .pop => mt_pop
  | .reverse => mt_reverse
theorem mt_slot (m : Mt) : Slot "list" (mtN m) (mtId m) := by
  cases m
  · exact PySem.F.slot_list_append
  · exact PySem.F.slot_list_pop
  · exact PySem.F.slot_list_reverse
theorem mt_type (m : Mt) : typeOf (.builtin (mtId m)) = pure (.type "method_descriptor") := by
  cases m
  · exact PySem.F.type_list_append
  · exact PySem.F.type_list_pop
  · exact PySem.F.type_list_reverse
/-- behind the arguments -/
theorem mt_end {m : Mt} {i : Nat} {σ : L2.St} {H1 : Hp} {Q : VK} {F : Addr → HO → Prop} {G : Addr → Prop} {td : VEnv} {tv : L2.St} {ρ1 : VEnv} {os : List Opd} {vs : List V} {P : Opd → VEnv → Prop} {a : Addr} (hl : td.length = tv.length) (A1 : At X.K H1 F G (os.map toO ++ td) (vs.map some ++ tv) ρ1 σ) (a1 : atOs σ os vs)
    (hσ : σ[i]? = some (some (.ref a))) (h1 : match looks ρ1 os, slotV ρ1 i with | some ds, some (.ml l) => lent os 0 = [] ∧ mtS m l ds fun l' r => P (.v (.im r)) (ρ1.set i (some (.ml l'))) | _, _ => False)
    (hq : ∀ d ρ' v H', P (.v (.im d)) ρ' → At X.K H' F G (some (.im d) :: td) (some v :: tv) ρ' σ → Q v H') : rMt m (.ref a) vs H1 Q := by
  split at h1
  · rename_i ds l e1 e2
    obtain ⟨fp, r, q⟩ := disp_core hl A1 a1 h1.1 e1
    have hs' : ((os.map frO ++ td) ++ ρ1)[(os.map frO ++ td).length + i]? = some (some (.ml l)) := by
      rw [List.getElem?_append_right (by omega)]; simpa using slotV_some e2
    obtain ⟨v, e3, q1⟩ := r.rep _ _ hs'
    have L : (List.map frO os ++ td).length = (List.map some vs ++ tv).length := by simp [a1.length]; omega
    rw [List.getElem?_append_right (by omega), show (List.map frO os ++ td).length + i - (List.map some vs ++ tv).length = i by omega, hσ] at e3
    cases e3
    obtain ⟨a', xs, e4, e5, e6, _⟩ := q1
    cases e4
    refine mtS_ok e5 e6 q h1.2 fun l' vs' d z p q2 q3 => hq _ _ _ _ p ?_
    obtain ⟨fp2, r2, q4⟩ := At.setOwn (td := os.map frO ++ td) (tv := vs.map some ++ tv) L r e2 hσ e5 q2
    exact At.res (mid := os.map frO) (mv := vs.map some) (by simp [a1.length]) hl r2 (q4 _ _ q3)
  · exact h1.elim
theorem mt_ty {H : Hp} {F : Addr → HO → Prop} {G : Addr → Prop} {td : VEnv} {tv σ : L2.St} {ρ : VEnv} {i : Nat} {l : List D} (A : At X.K H F G td tv ρ σ) (e : slotV ρ i = some (.ml l)) : ∃ a, σ[i]? = some (some (.ref a)) ∧ tyV X.K "list" (.ref a) H := by
  obtain ⟨fp, r⟩ := A.rel
  obtain ⟨v, e1, a, vs, rfl, h, _⟩ := r.rep (td.length + i) _ (by rw [List.getElem?_append_right (by omega)]; simpa using slotV_some e)
  rw [List.getElem?_append_right (by have := A.len; omega), show td.length + i - tv.length = i by have := A.len; omega] at e1
  exact ⟨a, e1, .inl ⟨rfl, vs, .inl (.inl h)⟩⟩
theorem e_mt0 {m : Mt} {i : Nat} {x nm : Str} {a p q : Pos} (am : Amb Γ k X c) (hx : nmOk c i x = true) (hn : nm = mtN m) (hl : (p.endLine == q.line) = true) : L2.PE X (.Call (.Attribute (.Name x a) nm p) [] [] q) (rE X.K Γ k pn (.mt m i .nil)) := by
  subst hn
  refine PE.of (pe_bm0 PySem.F.plainAttrs_list (mt_slot m) (mt_type m) (mt_r m) (e_name am hx) rfl hl) fun σ H Q ⟨F, G, td, tv, ρ, A, h⟩ => ?_
  have h := h.2
  have h : (match looks ρ [], slotV ρ i with | some ds, some (.ml l) => lent [] 0 = [] ∧ mtS m l ds fun l' r => ∀ v H', At X.K H' F G (toO (.v (.im r)) :: td) (some v :: tv) (ρ.set i (some (.ml l'))) σ → atO σ (.v (.im r)) v → Q v H' | _, _ => False) := h
  cases e : slotV ρ i with
  | none => rw [e] at h; exact h.elim
  | some d =>
    cases d with
    | ml l =>
      obtain ⟨b, e1, ty⟩ := mt_ty A e
      refine ⟨_, e1, ty, ?_⟩
      exact mt_end (os := []) (vs := []) (P := fun o ρ' => ∀ v H', At X.K H' F G (toO o :: td) (some v :: tv) ρ' σ → atO σ o v → Q v H') A.len A rfl e1 h fun d ρ' v H' p A' => p v H' A' True.intro
    | im d => rw [e] at h; exact h.elim
    | mm d => rw [e] at h; exact h.elim
theorem e_mt1 {m : Mt} {i : Nat} {x nm : Str} {a p q : Pos} {e1 : Expr} {m1 : E} (am : Amb Γ k X c) (hx : nmOk c i x = true) (hn : nm = mtN m) (hl : (p.endLine == q.line) = true) (ha : L2.PE X e1 (rE X.K Γ k pn m1)) (hs : starEach [e1] X.env = (false, eval e1 X.env) :: starEach [] X.env) :
    L2.PE X (.Call (.Attribute (.Name x a) nm p) [e1] [] q) (rE X.K Γ k pn (.mt m i (.cons m1 .nil))) := by
  subst hn
  refine PE.of (pe_bm PySem.F.plainAttrs_list (mt_slot m) (mt_type m) (mt_r m) (e_name am hx) (a_cons ha a_nil hs) rfl (by rw [hs]; rfl) hl hs rfl) fun σ H Q ⟨F, G, td, tv, ρ, A, h⟩ => ?_
  obtain ⟨h0, h⟩ := h
  unfold isMl at h0
  split at h0
  · rename_i l e
    obtain ⟨b, e1, ty⟩ := mt_ty A e
    refine ⟨_, e1, ty, ?_⟩
    refine rA.intro A h fun os ρ1 vs H1 h1 A1 a1 => ?_
    exact mt_end (P := fun o ρ' => ∀ v H', At X.K H' F G (toO o :: td) (some v :: tv) ρ' σ → atO σ o v → Q v H') A.len A1 a1 e1 h1 fun d ρ' v H' p A' => p v H' A' True.intro
  · exact h0.elim
end
end MP

/-! MiniPy, part 12: targets, walks, comprehensions. -/
namespace MP
open PySem PySem.Spec PyProof.Rows L2
/-- only slots of l have changed, none of pn -/
structure Agr (pn l : List Nat) (σ σ' : L2.St) : Prop where
  len : σ'.length = σ.length
  out : ∀ i, i ∉ l → σ'[i]? = σ[i]?
  pin : ∀ i ∈ pn, σ'[i]? = σ[i]?
theorem Agr.refl {pn l : List Nat} {σ : L2.St} : Agr pn l σ σ := ⟨rfl, fun _ _ => rfl, fun _ _ => rfl⟩
theorem Agr.trans {pn l l' : List Nat} {σ σ' σ'' : L2.St} (a : Agr pn l σ σ') (b : Agr pn l' σ' σ'') : Agr pn (l ++ l') σ σ'' :=
  ⟨b.len.trans a.len, fun i h => (b.out i fun z => h (List.mem_append_right _ z)).trans (a.out i fun z => h (List.mem_append_left _ z)), fun i h => (b.pin i h).trans (a.pin i h)⟩
section
variable (K : PySem.W.Frag) (Γ : Tab) (k : Nat) (pn : List Nat)
def rG (t : Tg) : L2.TG := fun v σ H Q => ∃ F G td tv ρ x, td.length = tv.length ∧ Rel K H F G (some x :: (td ++ ρ)) (some v :: (tv ++ σ)) ∧ wpG Γ k pn t x ρ fun ρ' => ∀ σ' H', Agr pn (tgS t) σ σ' → At K H' F G td tv ρ' σ' → Q σ' H'
def rGs (t : Tgs) : L2.TGs := fun vs σ H Q => ∃ F G td tv ρ ds, td.length = tv.length ∧ vs.length = ds.length ∧ Rel K H F G (ds.map (fun d => some (.im d)) ++ (td ++ ρ)) (vs.map some ++ (tv ++ σ)) ∧ wpGs Γ k pn t ds ρ fun ρ' => ∀ σ' H', Agr pn (tgsS t) σ σ' → At K H' F G td tv ρ' σ' → Q σ' H'
end
theorem PG.of {X : Cx} {e : Expr} {t t' : L2.TG} (h : L2.PG X e t) (w : ∀ v σ H Q, σ.length = X.N.length → t' v σ H Q → t v σ H Q) : L2.PG X e t' := ⟨fun pins s σ H v u Q I r q => h.run pins s σ H v u Q I r (w v σ H Q I.len q)⟩
theorem PGs.of {X : Cx} {e : List Expr} {t t' : L2.TGs} (h : L2.PGs X e t) (w : ∀ v σ H Q, σ.length = X.N.length → t' v σ H Q → t v σ H Q) : L2.PGs X e t' := ⟨fun pins s σ H v u Q I r q => h.run pins s σ H v u Q I r (w v σ H Q I.len q)⟩
section
variable {X : Cx} {c : Ctx} {Γ : Tab} {k : Nat} {pn : List Nat} {pos : Pos}
theorem g_nm (am : Amb Γ k X c) {i : Nat} {x : Str} (h : stOk c i x = true) : L2.PG X (.Name x pos) (rG X.K Γ k pn (.nm i)) := by
  unfold stOk at h
  simp only [Bool.and_eq_true, decide_eq_true_eq] at h
  obtain ⟨h1, h2⟩ := am.st x h.2
  have hN : X.N[i]? = some x := by rw [am.N]; exact h.1
  refine PG.of (pg_name am.nd hN h1 h2) fun v σ H Q hl ⟨F, G, td, tv, ρ, y, hlt, R, hw⟩ => ?_
  have hi : i < σ.length := by rw [hl]; exact (List.getElem?_eq_some_iff.mp hN).1
  have hρ : ρ.length = σ.length := by have := R.len; simp at this; omega
  refine hw.2 _ _ ⟨by simp, fun j hj => ?_, fun j hj => ?_⟩ ⟨hlt, ?_⟩
  · rw [List.getElem?_set_ne (by intro z; subst z; exact hj (by simp [tgS]))]
  · rw [List.getElem?_set_ne (by intro z; subst z; exact hw.1 hj)]
  · have z := R.store (i := td.length + i) (by simp; omega)
    rw [List.set_append_right _ _ (by omega), List.set_append_right _ _ (by omega), show td.length + i - td.length = i by omega, show td.length + i - tv.length = i by omega] at z
    exact z
theorem g_tup (am : Amb Γ k X c) {es : List Expr} {ts : Tgs} {x1 : Nat} (h : L2.PGs X es (rGs X.K Γ k pn ts)) (hn : (assignEach es X.env).length = es.length) (hst : (assignEach es X.env).findIdx? (·.1) = none) (hl : tgsLen ts = es.length) :
    L2.PG X (.Tuple es x1 pos) (rG X.K Γ k pn (.tup ts)) := by
  refine PG.of (pg_tup (n := es.length) am.calm h hn hst) fun v σ H Q _ ⟨F, G, td, tv, ρ, y, hlt, R, hw⟩ => ?_
  have hw : tupOf y fun ds => ds.length = tgsLen ts ∧ wpGs Γ k pn ts ds ρ _ := hw
  unfold tupOf at hw
  split at hw
  · rename_i l _
    obtain ⟨fp, r⟩ := R
    obtain ⟨v', e1, ⟨a, vs, e2, h1, h2⟩, _⟩ := r.rep 0 _ rfl
    simp at e1
    subst e1 e2
    refine ⟨a, vs, rfl, h1, by rw [h2.length, hw.1, hl], F, G, td, tv, ρ, l, hlt, h2.length, ?_, hw.2⟩
    -- the items stand by themselves
    have z := r.pushs h2
    exact (Rel.rot (by simp [h2.length]) z).pop
  · exact hw.elim
theorem g_nil : L2.PGs X [] (rGs X.K Γ k pn .nil) := by
  refine PGs.of pgs_nil fun vs σ H Q _ ⟨F, G, td, tv, ρ, ds, hlt, hl, R, hw⟩ => ?_
  cases ds with
  | nil =>
    cases vs with
    | nil => exact ⟨rfl, hw σ H Agr.refl ⟨hlt, by simpa using R⟩⟩
    | cons => simp at hl
  | cons d ds => exact hw.elim
theorem g_cons {e : Expr} {es : List Expr} {t : Tg} {ts : Tgs} (h1 : L2.PG X e (rG X.K Γ k pn t)) (h2 : L2.PGs X es (rGs X.K Γ k pn ts)) (hs : (assignEach (e :: es) X.env).map (·.2) = assign e X.env :: (assignEach es X.env).map (·.2)) : L2.PGs X (e :: es) (rGs X.K Γ k pn (.cons t ts)) := by
  refine PGs.of (pgs_cons h1 h2 hs) fun vs σ H Q _ ⟨F, G, td, tv, ρ, ds, hlt, hl, R, hw⟩ => ?_
  cases ds with
  | nil => exact hw.elim
  | cons d ds =>
    cases vs with
    | nil => simp at hl
    | cons v vs =>
      refine ⟨v, vs, rfl, F, G, ds.map (fun d => some (.im d)) ++ td, vs.map some ++ tv, ρ, .im d, by simp at hl ⊢; omega, by simpa using R, ?_⟩
      refine wpG.mono t _ ρ _ _ (fun ρ1 z σ1 H1 a1 A1 => ?_) hw
      refine ⟨F, G, td, tv, ρ1, ds, hlt, by simpa using hl, by have := A1.rel; rw [List.append_assoc, List.append_assoc] at this; exact this, ?_⟩
      exact wpGs.mono ts _ _ _ _ (fun ρ2 z σ2 H2 a2 A2 => z σ2 H2 (a1.trans a2) A2) z
theorem g_sub (am : Amb Γ k X c) {i : Nat} {x : Str} {p : Pos} {e : Expr} {m : E} (hx : nmOk c i x = true) (he : L2.PE X e (rE X.K Γ k pn m)) (hs : ∀ a b d f, e ≠ .Slice a b d f) : L2.PG X (.Subscript (.Name x p) e pos) (rG X.K Γ k pn (.sub i m)) := by
  refine PG.of (pg_sub (e_name am hx) he set_list (fun v => ?_)) fun v σ H Q _ ⟨F, G, td, tv, ρ, y, hlt, R, hw⟩ => ?_
  · cases e with
    | Slice a b d f => exact absurd rfl (hs a b d f)
    | _ => rfl
  · -- the value waits above; the slot's list is known behind the index
    have A0 : At X.K H F G (some y :: td) (some v :: tv) ρ σ := ⟨by simp [hlt], R⟩
    -- where the slot's object stands
    obtain ⟨h0, hw⟩ := hw
    have hσ : ∃ w, σ[i]? = some (some w) := by
      unfold isMl at h0
      split at h0
      · rename_i l e0
        obtain ⟨w, e⟩ := A0.slot e0
        exact ⟨w, e⟩
      · exact h0.elim
    obtain ⟨w, hσ⟩ := hσ
    refine ⟨w, hσ, ?_⟩
    refine rE.intro (A0.frz (o := .v y)) hw fun o ρ1 u H1 h1 A1 a1 => ?_
    obtain ⟨n, rfl, h2, A2⟩ := int_at A1 a1 h1
    unfold subS at h2
    split at h2
    · rename_i l e1
      split at h2
      · rename_i j ej
        obtain ⟨fp, r⟩ := A2.rel
        obtain ⟨v1, e3, q1, _⟩ := r.rep 0 _ rfl
        simp at e3; subst e3
        have L : (frO (.v y) :: td).length = (some v :: tv).length := by simp [hlt]
        obtain ⟨w', e4, a, vs, rfl, h5, h6, _⟩ := r.rep ((frO (.v y) :: td).length + i) (.ml l) (by rw [List.getElem?_append_right (by omega)]; simpa using slotV_some e1)
        rw [List.getElem?_append_right (by omega), show (frO (.v y) :: td).length + i - (some v :: tv).length = i by simp at L ⊢; omega, hσ] at e4
        cases e4
        refine ⟨a, vs, n, j, rfl, rfl, h5, by rw [h6.length]; exact ej, ?_⟩
        obtain ⟨fp2, r2, _⟩ := At.setOwn (td := frO (.v y) :: td) (tv := some v :: tv) L r e1 hσ h5 (h6.set j q1)
        exact h2 _ _ Agr.refl ⟨hlt, Rel.pop ⟨fp2, r2⟩⟩
      · exact h2.elim
    · exact h2.elim
/-! walks -/
/-- what J yields: the items, one after another -/
def Feed (K : PySem.W.Frag) (J : L2.It) (sd : VEnv) (sv : L2.St) (items : List D) : Prop :=
  ∀ {H : Hp} {F : Addr → HO → Prop} {G : Addr → Prop} {td : VEnv} {tv : L2.St} {ρ : VEnv} {σ : L2.St}, At K H F G (sd ++ td) (sv ++ tv) ρ σ →
    J.stop items.length H ∧ ∀ (i : Nat) d, items[i]? = some d → J.go i H ∧ ∀ x H', J.yld i H x H' → At K H' F G (some (.im d) :: (sd ++ td)) (some x :: (sv ++ tv)) ρ σ
end
section
variable (K : PySem.W.Frag) (Γ : Tab) (k : Nat) (pn : List Nat)
def rI (m : It) : L2.TI := fun σ H R => ∃ F G td tv ρ, At K H F G td tv ρ σ ∧ wpI Γ k pn m ρ fun items ρ' => ∀ J H' sd sv, sd.length = sv.length → At K H' F G (sd ++ td) (sv ++ tv) ρ' σ → Feed K J sd sv items → R J H'
end
theorem PI.of {X : Cx} {tg e : Expr} {t t' : L2.TI} (h : L2.PI X tg e t) (w : ∀ σ H Q, t' σ H Q → t σ H Q) : L2.PI X tg e t' := ⟨fun pins s σ H Q I q => h.run pins s σ H Q I (w σ H Q q)⟩
section
variable {X : Cx} {c : Ctx} {Γ : Tab} {k : Nat} {pn : List Nat} {pos : Pos}
theorem RepDs.sget {K : PySem.W.Frag} {H : Hp} {S : Addr → Prop} {l : List D} {vs : List V} {i : Nat} {d : D} (h : RepDs K H S l vs) (e : l[i]? = some d) : ∃ v, vs[i]? = some v ∧ RepD K H S d v := h.get e
theorem i_e {tg e : Expr} {m : E} (he : L2.PE X e (rE X.K Γ k pn m)) : L2.PI X tg e (rI X.K Γ k pn (.e m)) := by
  refine PI.of (pi_seqA he) fun σ H R ⟨F, G, td, tv, ρ, A, h⟩ => ?_
  refine rE.intro A h fun o ρ1 v H1 h1 A1 a1 => ?_
  cases o with
  | bor i => exact h1.elim
  | v x =>
    have h1 : seqOf (some (frz x)) _ := h1
    have A2 := A1.frz
    have A2 : At X.K H1 F G ([some (.im (frz x))] ++ td) ([some v] ++ tv) ρ1 σ := A2
    obtain ⟨fp, r⟩ := A2.rel
    obtain ⟨v', e1, q, _⟩ := r.rep 0 (.im (frz x)) rfl
    simp at e1; subst e1
    unfold seqOf at h1
    split at h1
    · rename_i l hx
      have hx := Option.some.inj hx
      rw [hx] at q A2
      obtain ⟨a, vs, rfl, q1, q2⟩ := q
      refine ⟨a, rfl, .inl ⟨⟨vs, q1.elim (fun z => .inl z.2) KL.sq⟩, h1 _ H1 _ _ rfl A2 fun {H F G td tv ρ σ} B => ?_⟩⟩
      obtain ⟨fp, r⟩ := B.rel
      obtain ⟨v', e1, ⟨a', vs, e2, q1, q2⟩, _⟩ := r.rep 0 (.im (.lst l)) rfl
      simp at e1; subst e1; cases e2
      have q1 : SqL X.K H a vs := q1.elim (fun z => .inl z.2) KL.sq
      refine ⟨⟨vs, q1, Nat.le_of_eq q2.length⟩, fun i d hd => ?_⟩
      obtain ⟨w, e3, q3⟩ := q2.get hd
      refine ⟨⟨vs, w, q1, e3⟩, fun y H' hy => ?_⟩
      obtain ⟨rfl, hy⟩ := hy
      have := (hy vs q1).symm.trans e3
      cases this
      exact ⟨by have := B.len; simp at this ⊢; omega, r.push q3⟩
    · rename_i l hx
      have hx := Option.some.inj hx
      rw [hx] at q A2
      obtain ⟨a, vs, rfl, q1, q2⟩ := q
      refine ⟨a, rfl, .inr ⟨⟨vs, q1⟩, h1 _ H1 _ _ rfl A2 fun {H F G td tv ρ σ} B => ?_⟩⟩
      obtain ⟨fp, r⟩ := B.rel
      obtain ⟨v', e1, ⟨a', vs, e2, q1, q2⟩, _⟩ := r.rep 0 (.im (.tup l)) rfl
      simp at e1; subst e1; cases e2
      refine ⟨⟨vs, q1, Nat.le_of_eq q2.length⟩, fun i d hd => ?_⟩
      obtain ⟨w, e3, q3⟩ := q2.get hd
      refine ⟨⟨vs, w, q1, e3⟩, fun y H' hy => ?_⟩
      obtain ⟨rfl, hy⟩ := hy
      have := (hy vs q1).symm.trans e3
      cases this
      exact ⟨by have := B.len; simp at this ⊢; omega, r.push q3⟩
    · exact h1.elim
theorem rng_get {lo : Int} {n i : Nat} {d : D} (h : (rngD lo n)[i]? = some d) : i < n ∧ d = .int (lo + i) := by
  unfold rngD at h
  rw [List.getElem?_map] at h
  by_cases z : i < n
  · rw [List.getElem?_range z] at h
    exact ⟨z, (Option.some.inj h).symm⟩
  · rw [List.getElem?_eq_none (by simp; omega)] at h
    cases h
theorem feed_rng {K : PySem.W.Frag} {lo : Int} {n : Nat} : Feed K (Itr lo n) [] [] (rngD lo n) := fun {H F G td tv ρ σ} B => by
  refine ⟨by simp [rngD, Itr], fun i d hd => ?_⟩
  obtain ⟨h1, rfl⟩ := rng_get hd
  refine ⟨h1, fun x H' hy => ?_⟩
  obtain ⟨rfl, rfl⟩ := hy
  obtain ⟨fp, r⟩ := B.rel
  exact ⟨by have := B.len; simp at this ⊢; omega, r.push rfl⟩
theorem i_rng {tg a : Expr} {m : E} {x : Str} {p : Pos} (am : Amb Γ k X c) (hx : bnOk c x "range" = true) (ha : L2.PE X a (rE X.K Γ k pn m)) (hs : starEach [a] X.env = (false, eval a X.env) :: starEach [] X.env) : L2.PI X tg (.Call (.Name x p) [a] [] pos) (rI X.K Γ k pn (.rng m)) := by
  obtain ⟨h1, rfl, h2⟩ := bn_parts hx
  refine PI.of (pi_range1 (am.glo h1) (am.bn _ h2) (pa_cons ha pa_nil hs) (by rw [hs]; rfl)) fun σ H R ⟨F, G, td, tv, ρ, A, h⟩ => ?_
  refine rE.intro A h fun o ρ1 v H1 h1 A1 a1 => ?_
  obtain ⟨n, rfl, h2, A2⟩ := int_at A1 a1 h1
  exact ⟨n, rfl, h2.1.1, h2.1.2, h2.2 _ H1 [] [] rfl A2 feed_rng⟩
theorem i_rng2 {tg a b : Expr} {m m2 : E} {x : Str} {p : Pos} (am : Amb Γ k X c) (hx : bnOk c x "range" = true) (ha : L2.PE X a (rE X.K Γ k pn m)) (hb : L2.PE X b (rE X.K Γ k pn m2)) (hs : starEach [a, b] X.env = (false, eval a X.env) :: starEach [b] X.env) (hs2 : starEach [b] X.env = (false, eval b X.env) :: starEach [] X.env) :
    L2.PI X tg (.Call (.Name x p) [a, b] [] pos) (rI X.K Γ k pn (.rng2 m m2)) := by
  obtain ⟨h1, rfl, h2⟩ := bn_parts hx
  refine PI.of (pi_range2 (am.glo h1) (am.bn _ h2) (pa_cons ha (pa_cons hb pa_nil hs2) hs) (by rw [hs, hs2]; rfl) (by rw [hs2]; rfl)) fun σ H R ⟨F, G, td, tv, ρ, A, h⟩ => ?_
  refine rE.intro A h fun o ρ1 v H1 h1 A1 a1 => rE.intro A1.frz h1 fun o2 ρ2 w H2 h2 A2 a2 => ?_
  unfold intOf at h2
  split at h2
  · rename_i i e1
    obtain ⟨fp, r⟩ := A2.frz.rel
    have hd := look_at (p := 1) (o := o) (v := v) (d := .int i) A2.frz.len r rfl rfl a1 e1
    cases hd
    obtain ⟨n, rfl, h3, A3⟩ := int_at A2 a2 h2
    exact ⟨i, n, rfl, h3.1, h3.2 _ H2 [] [] rfl ⟨A.len, A3.rel.pop⟩ feed_rng⟩
  · exact h2.elim
end
end MP

/-! MiniPy, part 13: comprehensions. -/
namespace MP
open PySem PySem.Spec PyProof.Rows L2
theorem wipe_get {σ : L2.St} {i : Nat} : ∀ {vs : List Nat}, (wipe σ vs)[i]? = if i ∈ vs then (σ[i]?).map (fun _ => none) else σ[i]?
  | [] => by simp [wipe]
  | v :: vs => by
    unfold wipe
    by_cases h : v = i
    · subst h
      rw [if_pos (List.mem_cons_self ..)]
      by_cases hl : v < σ.length
      · rw [List.getElem?_set_self (by rw [wipe_length]; exact hl), List.getElem?_eq_getElem hl]; rfl
      · rw [List.getElem?_eq_none (by simp [wipe_length]; omega), List.getElem?_eq_none (by omega)]; rfl
    · rw [List.getElem?_set_ne h, wipe_get (vs := vs)]
      have : (i ∈ v :: vs) ↔ i ∈ vs := by simp [Ne.symm h]
      by_cases hm : i ∈ vs
      · rw [if_pos hm, if_pos (this.mpr hm)]
      · rw [if_neg hm, if_neg fun z => hm (this.mp z)]
theorem wipeV_len {ρ : VEnv} : ∀ {vs : List Nat}, (wipeV ρ vs).length = ρ.length
  | [] => rfl
  | v :: vs => by unfold wipeV; rw [List.length_set, wipeV_len]
theorem wipeV_get {ρ : VEnv} {i : Nat} : ∀ {vs : List Nat}, (wipeV ρ vs)[i]? = if i ∈ vs then (ρ[i]?).map (fun _ => none) else ρ[i]?
  | [] => by simp [wipeV]
  | v :: vs => by
    unfold wipeV
    by_cases h : v = i
    · subst h
      rw [if_pos (List.mem_cons_self ..)]
      by_cases hl : v < ρ.length
      · rw [List.getElem?_set_self (by rw [wipeV_len]; exact hl), List.getElem?_eq_getElem hl]; rfl
      · rw [List.getElem?_eq_none (by simp [wipeV_len]; omega), List.getElem?_eq_none (by omega)]; rfl
    · rw [List.getElem?_set_ne h, wipeV_get (vs := vs)]
      have : (i ∈ v :: vs) ↔ i ∈ vs := by simp [Ne.symm h]
      by_cases hm : i ∈ vs
      · rw [if_pos hm, if_pos (this.mpr hm)]
      · rw [if_neg hm, if_neg fun z => hm (this.mp z)]
theorem wipeV_some {ρ : VEnv} {i : Nat} {d : Val} {vs : List Nat} (h : (wipeV ρ vs)[i]? = some (some d)) : i ∉ vs ∧ ρ[i]? = some (some d) := by
  rw [wipeV_get] at h
  split at h
  · cases q : ρ[i]? with
    | none => rw [q] at h; cases h
    | some x => rw [q] at h; cases h
  · rename_i z; exact ⟨z, h⟩
/-- from one state to another that agrees on what is kept -/
theorem At.wiped {K : PySem.W.Frag} {H : Hp} {F : Addr → HO → Prop} {G : Addr → Prop} {td : VEnv} {tv σ σ' : L2.St} {ρ : VEnv} {ow : List Nat} (A : At K H F G td tv ρ σ) (hl : σ'.length = σ.length) (h : ∀ i, i ∉ ow → σ'[i]? = σ[i]?) : At K H F G td tv (wipeV ρ ow) σ' := by
  refine ⟨A.len, A.rel.forget (by have := A.rel.len; simp [wipeV_len] at this ⊢; omega) fun i d e => ?_⟩
  have L := A.len
  by_cases hi : i < td.length
  · rw [List.getElem?_append_left hi] at e
    rw [List.getElem?_append_left hi, List.getElem?_append_left (by omega), List.getElem?_append_left (by omega)]
    exact ⟨e, rfl⟩
  · rw [List.getElem?_append_right (by omega)] at e
    obtain ⟨e1, e2⟩ := wipeV_some e
    rw [List.getElem?_append_right (by omega), List.getElem?_append_right (by omega), List.getElem?_append_right (by omega)]
    exact ⟨e2, h _ (by rw [← L]; exact e1)⟩
theorem wipe_agr {pn l ow : List Nat} {σ σ2 : L2.St} (a : Agr pn l (wipe σ ow) σ2) (hs : ∀ i ∈ l, i ∈ ow) : wipe σ2 ow = wipe σ ow := by
  apply List.ext_getElem?
  intro i
  rw [wipe_get, wipe_get]
  split
  · have hl := a.len
    rw [wipe_length] at hl
    by_cases z : i < σ.length
    · rw [List.getElem?_eq_getElem z, List.getElem?_eq_getElem (by omega)]; rfl
    · rw [List.getElem?_eq_none (by omega), List.getElem?_eq_none (by omega)]
  · rename_i h
    rw [a.out i fun z => h (hs i z), wipe_get, if_neg h]
theorem Rel.unrot {K : PySem.W.Frag} {H : Hp} {F : Addr → HO → Prop} {G : Addr → Prop} {ds a : VEnv} {vs a' : L2.St} {x : Option Val} {y : Option V} (hl : a.length = a'.length) (R : Rel K H F G (x :: (a ++ ds)) (y :: (a' ++ vs))) : Rel K H F G (a ++ x :: ds) (a' ++ y :: vs) := by
  have L := R.len
  refine R.reindex (fun i => if i < a.length then i + 1 else if i = a.length then 0 else i) (by simp at L ⊢; omega) (fun i d e => ?_) fun i j _ _ _ _ h => ?_
  · by_cases h1 : i < a.length
    · rw [if_pos h1]
      rw [List.getElem?_append_left h1] at e
      rw [List.getElem?_cons_succ, List.getElem?_cons_succ, List.getElem?_append_left h1, List.getElem?_append_left (by omega), List.getElem?_append_left (by omega)]
      exact ⟨e, rfl⟩
    · rw [if_neg h1]
      rw [List.getElem?_append_right (by omega)] at e ⊢
      by_cases h2 : i = a.length
      · subst h2
        rw [if_pos rfl]
        rw [Nat.sub_self] at e
        rw [show a.length - a'.length = 0 by omega]
        exact ⟨e, rfl⟩
      · rw [if_neg h2]
        obtain ⟨j, rfl⟩ : ∃ j, i = a.length + 1 + j := ⟨i - (a.length + 1), by omega⟩
        rw [show a.length + 1 + j - a.length = j + 1 by omega, List.getElem?_cons_succ] at e
        rw [show a.length + 1 + j - a'.length = j + 1 by omega, show a.length + 1 + j = (a.length + j) + 1 by omega, List.getElem?_cons_succ, List.getElem?_cons_succ, List.getElem?_cons_succ,
          List.getElem?_append_right (by omega), List.getElem?_append_right (by omega), show a.length + j - a.length = j by omega, show a.length + j - a'.length = j by omega]
        exact ⟨e, rfl⟩
  · split at h <;> split at h <;> (try split at h) <;> (try split at h) <;> omega
/-- a clause's test -/
def rTs (K : PySem.W.Frag) (Γ : Tab) (k : Nat) (pn : List Nat) (m : E) : L2.TT := fun σ H Q => ∃ F G td tv ρ, At K H F G td tv ρ σ ∧ cnd m (wpT Γ k pn m) ρ fun b ρ' => ∀ H', At K H' F G td tv ρ' σ → Q b H'
section
variable {X : Cx} {c : Ctx} {Γ : Tab} {k : Nat} {pn : List Nat} {pos : Pos}
theorem PTs.of {X : Cx} {e : List Expr} {t t' : L2.TT} (h : L2.PTs X e t) (w : ∀ σ H Q, t' σ H Q → t σ H Q) : L2.PTs X e t' := ⟨fun pins s σ H Q I q => h.run pins s σ H Q I (w σ H Q q)⟩
theorem ts_nil : L2.PTs X [] (rTs X.K Γ k pn .noE) := PTs.of pts_nil fun σ H Q ⟨F, G, td, tv, ρ, A, h⟩ => h H A
theorem ts_one {e : Expr} {m : E} (he : L2.PT X e (rT X.K Γ k pn m)) (hm : m ≠ .noE) : L2.PTs X [e] (rTs X.K Γ k pn m) := by
  refine PTs.of (pts_one he) fun σ H Q ⟨F, G, td, tv, ρ, A, h⟩ => ?_
  unfold cnd at h
  split at h
  · exact absurd rfl hm
  · exact rT.intro A h fun b ρ' H' p A' => p H' A'
theorem cnd_mono {e : E} {ρ : VEnv} {P Q : Bool → VEnv → Prop} (h : ∀ a b, P a b → Q a b) : cnd e (wpT Γ k pn e) ρ P → cnd e (wpT Γ k pn e) ρ Q := cnd.mono (wpT.mono e) h
/-- the reading of a comprehension -/
theorem lc_read {elt : E} {tg : Tg} {it : MP.It} {cn : E} {ow : List Nat} {σ : L2.St} {H : Hp} {Q : VK} (ht : ∀ i ∈ tgS tg, i ∈ ow) (h : rE X.K Γ k pn (.lc elt tg it cn ow) σ H Q) :
    tLc (rI X.K Γ k pn it) (rG X.K Γ k pn tg) (rTs X.K Γ k pn cn) (rE X.K Γ k pn elt) ow σ H Q := by
  obtain ⟨F, G, td, tv, ρ, A, h⟩ := h
  refine ⟨F, G, td, tv, ρ, A, wpI.mono it ρ _ _ (fun items ρ1 hlc J H1 sd sv hsv A1 feed => ?_) h⟩
  intro D hD
  generalize hstep : (fun d ρ2 (R : Option MP.D → VEnv → Prop) => wpG Γ k pn tg (.im d) ρ2 fun ρ3 => cnd cn (wpT Γ k pn cn) ρ3 fun t ρ4 => if t = true then wpE Γ k pn elt ρ4 fun o ρ5 => (match o with
      | .v x => R (some (frz x)) ρ5
      | .bor _ => False) else R none ρ4) = step at hlc
  generalize hP : (fun (acc : List MP.D) ρ' => ∀ v H', At X.K H' F G (toO (.v (.ml acc)) :: td) (some v :: tv) (wipeV ρ' ow) σ → atO σ (.v (.ml acc)) v → Q v H') = PP at hlc
  have hlt := A.len
  -- the invariant
  let W : Nat → Nat → Hp → Prop := fun i m H => m = items.length - i ∧ i ≤ items.length ∧ ∃ ρi acc, At X.K H F G (sd ++ some (.ml acc) :: td) (sv ++ some (.ref D) :: tv) (wipeV ρi ow) (wipe σ ow) ∧ lcL step ow (items.drop i) ρi acc PP
  refine ⟨W, ⟨items.length, by simp, Nat.zero_le _, ρ1, [], ?_, hlc⟩, ?_⟩
  · have A1' : At X.K H1 F G (sd ++ td) (sv ++ tv) (wipeV ρ1 ow) (wipe σ ow) := A1.wiped (wipe_length _ _) fun i hi => by rw [wipe_get, if_neg hi]
    obtain ⟨fp, r⟩ := A1'.rel
    have z := r.pushOwn (l := []) (ws := []) hD rfl
    refine ⟨by simp; omega, ?_⟩
    have z2 := Rel.unrot hsv (by simpa using z)
    simpa using z2
  · rintro i m H2 ⟨rfl, hi, ρi, acc, A2, hL⟩
    by_cases hlt2 : i < items.length
    · -- a turn
      refine .inr ?_
      have hd : items.drop i = items[i] :: items.drop (i + 1) := (List.drop_eq_getElem_cons hlt2)
      rw [hd] at hL
      obtain ⟨_, fd⟩ := feed A2
      obtain ⟨go, yl⟩ := fd i items[i] (List.getElem?_eq_getElem hlt2)
      refine ⟨go, fun H' => ∃ ρ' acc', At X.K H' F G (sd ++ some (.ml acc') :: td) (sv ++ some (.ref D) :: tv) (wipeV ρ' ow) (wipe σ ow) ∧ lcL step ow (items.drop (i + 1)) ρ' acc' PP,
        fun H' ⟨ρ', acc', A', h'⟩ => ⟨items.length - (i + 1), by omega, rfl, hlt2, ρ', acc', A', h'⟩, fun x H3 hy => ?_⟩
      have A3 := yl x H3 hy
      have hL : step items[i] (wipeV ρi ow) fun r ρ' => acc.length < 16777216 ∧ lcL step ow (items.drop (i + 1)) ρ' (acc ++ r.toList) PP := hL
      generalize hR0 : (fun (r : Option MP.D) ρ' => acc.length < 16777216 ∧ lcL step ow (items.drop (i + 1)) ρ' (acc ++ r.toList) PP) = R0 at hL
      rw [← hstep] at hL
      refine ⟨F, G, sd ++ some (.ml acc) :: td, sv ++ some (.ref D) :: tv, wipeV ρi ow, .im items[i], by simp; omega, A3.rel, ?_⟩
      refine wpG.mono tg _ _ _ _ (fun ρ3 hc σ3 H4 ag A4 => ?_) hL
      have hw := wipe_agr ag ht
      refine ⟨hw, F, G, _, _, ρ3, A4, cnd_mono (fun b ρ4 hb H5 A5 => ?_) hc⟩
      cases b with
      | true =>
        rw [if_pos rfl] at hb ⊢
        refine rE.intro A5 hb fun o ρ5 y H6 h6 A6 a6 => ?_
        cases o with
        | bor j => exact h6.elim
        | v z =>
          have h6 : R0 (some (frz z)) ρ5 := h6
          rw [← hR0] at h6
          obtain ⟨hsz, hnext⟩ := h6
          have A7 := A6.frz
          obtain ⟨fp, r⟩ := A7.rel
          -- the new list stands at D
          have hpos : (frO (.v z) :: sd).length = (some y :: sv).length := by simp [hsv]
          have r' : RelF X.K H6 F G ((frO (.v z) :: sd) ++ (some (.ml acc) :: (td ++ ρ5))) ((some y :: sv) ++ (some (.ref D) :: (tv ++ σ3))) fp := by simpa using r
          obtain ⟨w, e1, a, vs, e2, h7, h8, _⟩ := r'.rep (frO (.v z) :: sd).length (.ml acc) (by rw [List.getElem?_append_right (Nat.le_refl _)]; simp)
          rw [List.getElem?_append_right (by omega), hpos] at e1
          simp at e1
          subst e1; cases e2
          obtain ⟨y', e3, q3, _⟩ := r'.rep 0 (.im (frz z)) rfl
          simp at e3; subst e3
          refine ⟨vs, h7, by rw [h8.length, sizeLine_eq]; exact hsz, ρ5, acc ++ [frz z], ?_, hnext⟩
          have S := At.setOwn (l' := acc ++ [frz z]) (vs' := vs ++ [y]) hpos r' (i := 0) (by rfl) (by rfl) h7 (h8.append ⟨y, [], rfl, q3, rfl⟩)
          obtain ⟨fp2, r2, _⟩ := S
          have R3 : Rel X.K (upd H6 D (.lst (vs ++ [y]))) F G (frO (.v z) :: ((sd ++ some (.ml (acc ++ [frz z])) :: td) ++ ρ5)) (some y :: ((sv ++ some (.ref D) :: tv) ++ σ3)) := ⟨fp2, by simpa using r2⟩
          have A8 : At X.K (upd H6 D (.lst (vs ++ [y]))) F G (sd ++ some (.ml (acc ++ [frz z])) :: td) (sv ++ some (.ref D) :: tv) ρ5 σ3 := ⟨by simp; omega, R3.pop⟩
          rw [← hw]
          exact A8.wiped (wipe_length _ _) fun j hj => by rw [wipe_get, if_neg hj]
      | false =>
        rw [if_neg Bool.false_ne_true] at hb ⊢
        rw [← hR0] at hb
        refine ⟨ρ4, acc, ?_, by simpa using hb.2⟩
        rw [← hw]
        exact A5.wiped (wipe_length _ _) fun j hj => by rw [wipe_get, if_neg hj]
    · -- the end
      have e : i = items.length := by omega
      subst e
      refine .inl ⟨(feed A2).1, ?_⟩
      rw [List.drop_length] at hL
      have hL : PP acc ρi := hL
      rw [← hP] at hL
      refine hL _ _ ⟨by simp [hlt], ?_⟩ True.intro
      have z : Rel X.K H2 F G (some (.ml acc) :: (td ++ wipeV ρi ow)) (some (.ref D) :: (tv ++ wipe σ ow)) := Rel.dropAll hsv (by have := A2.rel; simpa using this)
      have B : At X.K H2 F G (some (.ml acc) :: td) (some (.ref D) :: tv) (wipeV ρi ow) (wipe σ ow) := ⟨by simp [hlt], z⟩
      have B2 := B.wiped (σ' := σ) (ow := ow) (wipe_length _ _).symm fun j hj => by rw [wipe_get, if_neg hj]
      have e2 : wipeV (wipeV ρi ow) ow = wipeV ρi ow := by
        apply List.ext_getElem?
        intro j
        rw [wipeV_get, wipeV_get]
        split
        · cases ρi[j]? <;> rfl
        · rfl
      rw [e2] at B2
      exact B2.rel
theorem own_map (c : Ctx) (ow : List Nat) : (ownOf c ow).map (·.2) = ow := by
  unfold ownOf
  rw [List.map_map]
  exact List.map_id' _
end
end MP

/-! MiniPy, part 14: statements: their text, what holds behind them is monotone. -/
namespace MP
open PySem PySem.Spec PyProof.Rows L2
def isComp : Expr → Bool
  | .ListComp .. => true
  | .SetComp .. => true
  | .DictComp .. => true
  | _ => false
def isNm : Expr → Bool
  | .Name .. => true
  | _ => false
def celB (sc : Scope) (x : Str) : Bool := match sc.names.lookup x with
  | some .cell => true
  | _ => false
def lclB (sc : Scope) (x : Str) : Bool := match sc.names.lookup x with
  | some .local => true
  | _ => false
/-- a target and a value that are stored plainly -/
def setOk (c : Ctx) : Expr → Expr → Bool
  | .Name x _, e => !isComp e || celB c.sc x
  | .Tuple (t :: ts) _ _, .Tuple .. => (t :: ts).all fun t => !isNm t
  | .Tuple .., e => !isComp e && (match e with | .Tuple .. => false | _ => true)
  | .Subscript .., e => !isComp e
  | _, _ => false
def mPar (c : Ctx) (i j : Nat) (a b : E) (ts : List Expr) (e' : Expr) : Bool := match ts with
  | [t] => (match t with
    | .Tuple es _ _ => (match es with
      | [t1, t2] => (match t1 with
        | .Name x px => (match t2 with
          | .Name y py => (match e' with
            | .Tuple vs _ _ => (match vs with
              | [a', b'] => decide (c.N[i]? = some x) && decide (c.N[j]? = some y) && lclB c.sc x && lclB c.sc y && decide (i ≠ j) && !(x == y) && mE c a a' && mE c b b' && (px.line == py.line) &&
                !([a', b'].all (foldedForSure 8)) && !([a', b'].all (constantsAlone 8))
              | _ => false)
            | _ => false)
          | _ => false)
        | _ => false)
      | _ => false)
    | _ => false)
  | _ => false
def mSetLc (c : Ctx) (i : Nat) (m : E) (tg : Tg) (ow : List Nat) (ts : List Expr) (e0 : Expr) : Bool := match ts with
  | [t] => (match t with
    | .Name y py => (match e0 with
      | .ListComp e' gs scope p => decide (c.N[i]? = some y) && lclB c.sc y && (py.line == p.line) && !(scope.names.any fun (n, k) => n == y && (k == .local || k == .cell)) && decide (∀ j ∈ tgS tg, j ∈ ow) && mE c m (.ListComp e' gs scope p)
      | _ => false)
    | _ => false)
  | _ => false
mutual
def mS (c : Ctx) : S → Stmt → Bool
  | .set tg e, .Assign [t'] e' _ => mG c tg t' && mE c e e' && setOk c t' e'
  | .par i j a b, .Assign ts e' _ => mPar c i j a b ts e'
  | .setLc i elt tg it cn ow, .Assign ts e' _ => mSetLc c i (.lc elt tg it cn ow) tg ow ts e'
  | .aug i o e, .AugAssign (.Name x _) o' e' _ => stOk c i x && visB c.sc x && (match o, o' with | .add, .Add => true | .sub, .Sub => true | _, _ => false) && mE c e e'
  | .ex e, .Expr e' _ => mE c e e' && !isComp e'
  | .ret e, .Return (some e') _ => mE c e e'
  | .retN, .Return none _ => true
  | .ife t a b, .If t' a' b' _ => mE c t t' && mSs c a a' && mSs c b b'
  | .for tg it b, .For tg' it' b' [] _ => mG c tg tg' && mI c it it' && mSs c b b'
  | .while t b, .While t' b' [] _ => mE c t t' && mSs c b b'
  | .brk, .Break _ => true
  | .cnt, .Continue _ => true
  | .pass, .Pass _ => true
  | _, _ => false
def mSs (c : Ctx) : Ss → List Stmt → Bool
  | .nil, [] => true
  | .cons s ss, s' :: ss' => mS c s s' && mSs c ss ss'
  | _, _ => false
end
structure VEnds.le (Z Z' : VEnds) : Prop where
  nx : ∀ ρ, Z.nx ρ → Z'.nx ρ
  rt : ∀ d ρ, Z.rt d ρ → Z'.rt d ρ
  bk : ∀ ρ, Z.bk ρ → Z'.bk ρ
  ct : ∀ ρ, Z.ct ρ → Z'.ct ρ
theorem forL.mono {step : D → VEnv → VEnds → Prop} (hs : ∀ d ρ Z Z', VEnds.le Z Z' → step d ρ Z → step d ρ Z') : ∀ {ds : List D} {ρ : VEnv} {Z Z' : VEnds}, VEnds.le Z Z' → forL step ds ρ Z → forL step ds ρ Z'
  | [], _, _, _, h, z => h.nx _ z
  | d :: ds, ρ, Z, Z', h, z => by
      refine hs d ρ _ _ ?_ z
      exact ⟨fun ρ' q => forL.mono hs h q, h.rt, h.nx, fun ρ' q => forL.mono hs h q⟩
theorem whlN.mono {c : VEnv → (Bool → VEnv → Prop) → Prop} {b : VEnv → VEnds → Prop} (hc : ∀ ρ P Q, (∀ a b, P a b → Q a b) → c ρ P → c ρ Q) (hb : ∀ ρ Z Z', VEnds.le Z Z' → b ρ Z → b ρ Z') : ∀ {n : Nat} {ρ : VEnv} {Z Z' : VEnds}, VEnds.le Z Z' → whlN c b n ρ Z → whlN c b n ρ Z'
  | 0, _, _, _, _, z => z
  | n + 1, ρ, Z, Z', h, z => hc _ _ _ (fun t ρ' q => by
      split at q
      · rename_i e; rw [if_pos e]
        refine hb _ _ _ ?_ q
        exact ⟨fun ρ' q => whlN.mono hc hb h q, h.rt, h.nx, fun ρ' q => whlN.mono hc hb h q⟩
      · rename_i e; rw [if_neg e]; exact h.nx _ q) z
section
variable {Γ : Tab} {k : Nat} {pn : List Nat}
mutual
theorem wpS.mono : ∀ (s : S) (ρ : VEnv) (Z Z' : VEnds), VEnds.le Z Z' → wpS Γ k pn s ρ Z → wpS Γ k pn s ρ Z'
  | .set tg e, ρ, Z, Z', h, z => wpE.mono e ρ _ _ (fun x ρ1 q => by
      cases x with
      | v d => exact wpG.mono tg _ _ _ _ h.nx q
      | bor i => exact q) z
  | .par i j a b, ρ, Z, Z', h, z => wpE.mono a ρ _ _ (fun x ρ1 q => wpE.mono b ρ1 _ _ (fun y ρ2 q => by
      cases x <;> cases y <;> first | exact ⟨q.1, q.2.1, q.2.2.1, h.nx _ q.2.2.2⟩ | exact q) q) z
  | .setLc i elt tg it c ow, ρ, Z, Z', h, z => by
      unfold wpS at z ⊢
      exact wpE.mono (.lc elt tg it c ow) ρ _ _ (fun x ρ1 q => by
        cases x with
        | v d => exact ⟨q.1, h.nx _ q.2⟩
        | bor i => exact q) z
  | .aug i o e, ρ, Z, Z', h, z => ⟨z.1, intOf.mono (fun _ z => wpE.mono e ρ _ _ (fun x ρ1 q => intOf.mono (fun _ q => by
      cases o <;> first | exact h.nx _ q | exact q) q) z) z.2⟩
  | .ex e, ρ, Z, Z', h, z => wpE.mono e ρ _ _ (fun x ρ1 q => h.nx _ q) z
  | .ret e, ρ, Z, Z', h, z => wpE.mono e ρ _ _ (fun x ρ1 q => by
      cases x with
      | v d => exact h.rt _ _ q
      | bor i =>
        refine ⟨q.1, ?_⟩
        have q := q.2
        split at q
        · exact h.rt _ _ q
        · exact q) z
  | .retN, ρ, Z, Z', h, z => h.rt _ _ z
  | .ife c a b, ρ, Z, Z', h, z => wpT.mono c ρ _ _ (fun t ρ1 q => by
      split at q
      · rename_i e; rw [if_pos e]; exact wpSs.mono a _ _ _ h q
      · rename_i e; rw [if_neg e]; exact wpSs.mono b _ _ _ h q) z
  | .for tg it b, ρ, Z, Z', h, z => by
      unfold wpS at z ⊢
      refine wpI.mono it ρ _ _ (fun items ρ1 q => ?_) z
      exact forL.mono (step := fun d ρ2 Z2 => wpG Γ k pn tg (.im d) ρ2 fun ρ3 => wpSs Γ k pn b ρ3 Z2) (fun d ρ2 Z Z' h q => wpG.mono tg _ _ _ _ (fun ρ3 q => wpSs.mono b _ _ _ h q) q) h q
  | .while c b, ρ, Z, Z', h, z => let ⟨n, z⟩ := z; ⟨n, whlN.mono (fun ρ P Q h q => wpT.mono c ρ _ _ h q) (fun ρ Z Z' h q => wpSs.mono b ρ _ _ h q) h z⟩
  | .brk, ρ, Z, Z', h, z => h.bk _ z
  | .cnt, ρ, Z, Z', h, z => h.ct _ z
  | .pass, ρ, Z, Z', h, z => h.nx _ z
theorem wpSs.mono : ∀ (s : Ss) (ρ : VEnv) (Z Z' : VEnds), VEnds.le Z Z' → wpSs Γ k pn s ρ Z → wpSs Γ k pn s ρ Z'
  | .nil, ρ, Z, Z', h, z => h.nx _ z
  | .cons s ss, ρ, Z, Z', h, z => by
      unfold wpSs at z ⊢
      refine wpS.mono s ρ _ _ ?_ z
      exact ⟨fun ρ1 q => wpSs.mono ss _ _ _ h q, h.rt, h.bk, h.ct⟩
end
end
example (Γ : Tab) (k : Nat) (pn : List Nat) (a b : E) (ρ : VEnv) (Q : Bool → VEnv → Prop) : wpT Γ k pn (.andC a b) ρ Q = wpT Γ k pn (.and a b) ρ Q := rfl
end MP

/-! MiniPy, part 15: readings of statements; each statement. -/
namespace MP
open PySem PySem.Spec PyProof.Rows L2
/-- what is pinned has not moved -/
structure Pin (pn : List Nat) (σ σ' : L2.St) : Prop where
  len : σ'.length = σ.length
  pin : ∀ i ∈ pn, σ'[i]? = σ[i]?
theorem Pin.refl {pn : List Nat} {σ : L2.St} : Pin pn σ σ := ⟨rfl, fun _ _ => rfl⟩
theorem Pin.trans {pn : List Nat} {σ σ' σ'' : L2.St} (a : Pin pn σ σ') (b : Pin pn σ' σ'') : Pin pn σ σ'' := ⟨b.len.trans a.len, fun i h => (b.pin i h).trans (a.pin i h)⟩
theorem Agr.toPin {pn l : List Nat} {σ σ' : L2.St} (a : Agr pn l σ σ') : Pin pn σ σ' := ⟨a.len, a.pin⟩
theorem Pin.set {pn : List Nat} {σ : L2.St} {i : Nat} {x : Option V} (h : i ∉ pn) : Pin pn σ (σ.set i x) := ⟨by simp, fun j hj => List.getElem?_set_ne fun z => by subst z; exact h hj⟩
def endsV (K : PySem.W.Frag) (pn : List Nat) (F : Addr → HO → Prop) (G : Addr → Prop) (td : VEnv) (tv : L2.St) (σ : L2.St) (D : L2.Ends) : VEnds where
  nx := fun ρ' => ∀ σ' H', Pin pn σ σ' → At K H' F G td tv ρ' σ' → D.nx σ' H'
  rt := fun r ρ' => ∀ v σ' H', Pin pn σ σ' → At K H' F G (some r :: td) (some v :: tv) ρ' σ' → D.rt v H'
  bk := fun ρ' => ∀ σ' H', Pin pn σ σ' → At K H' F G td tv ρ' σ' → D.bk σ' H'
  ct := fun ρ' => ∀ σ' H', Pin pn σ σ' → At K H' F G td tv ρ' σ' → D.ct σ' H'
section
variable (K : PySem.W.Frag) (Γ : Tab) (k : Nat) (pn : List Nat)
def rS (m : S) : L2.TS := fun D σ H => ∃ F G td tv ρ, At K H F G td tv ρ σ ∧ wpS Γ k pn m ρ (endsV K pn F G td tv σ D)
def rSs (m : Ss) : L2.TS := fun D σ H => ∃ F G td tv ρ, At K H F G td tv ρ σ ∧ wpSs Γ k pn m ρ (endsV K pn F G td tv σ D)
end
theorem PS.of {X : Cx} {e : Stmt} {t t' : L2.TS} (h : L2.PS X e t) (w : ∀ D σ H, σ.length = X.N.length → t' D σ H → t D σ H) : L2.PS X e t' := ⟨fun pins s σ H D I q => h.run pins s σ H D I (w D σ H I.len q)⟩
theorem PSs.of {X : Cx} {e : List Stmt} {t t' : L2.TS} (h : L2.PSs X e t) (w : ∀ D σ H, σ.length = X.N.length → t' D σ H → t D σ H) : L2.PSs X e t' := ⟨fun pins s σ H D I q => h.run pins s σ H D I (w D σ H I.len q)⟩
section
variable {X : Cx} {c : Ctx} {Γ : Tab} {k : Nat} {pn : List Nat} {pos : Pos}
theorem s_nil : L2.PSs X [] (rSs X.K Γ k pn .nil) := PSs.of pss_nil fun D σ H _ ⟨F, G, td, tv, ρ, A, h⟩ => h σ H Pin.refl A
theorem endsV_pin {K : PySem.W.Frag} {F : Addr → HO → Prop} {G : Addr → Prop} {td : VEnv} {tv σ σ1 : L2.St} {D : L2.Ends} (p : Pin pn σ σ1) : VEnds.le (endsV K pn F G td tv σ D) (endsV K pn F G td tv σ1 D) :=
  ⟨fun ρ h σ' H' q A => h σ' H' (p.trans q) A, fun d ρ h v σ' H' q A => h v σ' H' (p.trans q) A, fun ρ h σ' H' q A => h σ' H' (p.trans q) A, fun ρ h σ' H' q A => h σ' H' (p.trans q) A⟩
theorem s_cons {s : Stmt} {ss : List Stmt} {m : S} {ms : Ss} (h1 : L2.PS X s (rS X.K Γ k pn m)) (h2 : L2.PSs X ss (rSs X.K Γ k pn ms)) : L2.PSs X (s :: ss) (rSs X.K Γ k pn (.cons m ms)) := by
  refine PSs.of (pss_cons h1 h2) fun D σ H _ ⟨F, G, td, tv, ρ, A, h⟩ => ?_
  refine ⟨F, G, td, tv, ρ, A, ?_⟩
  refine wpS.mono m ρ _ _ ?_ h
  refine ⟨fun ρ1 q σ1 H1 p A1 => ⟨F, G, td, tv, ρ1, A1, wpSs.mono ms _ _ _ (endsV_pin p) q⟩, fun _ _ q => q, fun _ q => q, fun _ q => q⟩
theorem s_set {tg e : Expr} {mt : Tg} {m : E} (he : L2.PE X e (rE X.K Γ k pn m)) (hg : L2.PG X tg (rG X.K Γ k pn mt)) (hs : swapsWithSole [tg] e pos.line X.env = pure false) (hw : swappedStores [tg] e X.env = pure none)
    (h1 : (assignEach [tg] X.env).map (·.2) = [assign tg X.env]) : L2.PS X (.Assign [tg] e pos) (rS X.K Γ k pn (.set mt m)) := by
  refine PS.of (ps_asg he hg hs hw h1) fun D σ H _ ⟨F, G, td, tv, ρ, A, h⟩ => ?_
  refine rE.intro A h fun o ρ1 v H1 q A1 a1 => ?_
  cases o with
  | bor i => exact q.elim
  | v d =>
    refine ⟨F, G, td, tv, ρ1, d, A.len, A1.rel, ?_⟩
    exact wpG.mono mt _ _ _ _ (fun ρ2 z σ2 H2 a A2 => z σ2 H2 a.toPin A2) q
/-- a place takes what waits above -/
theorem At.storeTop {K : PySem.W.Frag} {H : Hp} {F : Addr → HO → Prop} {G : Addr → Prop} {td : VEnv} {tv : L2.St} {ρ : VEnv} {σ : L2.St} {x : Option Val} {y : Option V} {i : Nat} (hl : td.length = tv.length) (R : Rel K H F G (x :: (td ++ ρ)) (y :: (tv ++ σ))) (hi : i < σ.length) : At K H F G td tv (ρ.set i x) (σ.set i y) := by
  have hρ := R.len
  simp at hρ
  refine ⟨hl, ?_⟩
  have z := R.store (i := td.length + i) (by simp; omega)
  rw [List.set_append_right _ _ (by omega), List.set_append_right _ _ (by omega), show td.length + i - td.length = i by omega, show td.length + i - tv.length = i by omega] at z
  exact z
theorem s_setLc {i : Nat} {y : Str} {py p : Pos} {elt tg iter : Expr} {ifs : List Expr} {scope : Scope} {me : E} {mt : Tg} {mi : MP.It} {mc : E} {ow : List Nat} (am : Amb Γ k X c) (hy : X.N[i]? = some y) (hyl : X.env.scope.names.lookup y = some .local)
    (ht : ∀ i ∈ tgS mt, i ∈ ow) (hps : L2.PS X (.Assign [.Name y py] (.ListComp elt [⟨tg, iter, ifs, 0⟩] scope p) pos) (tAsg (tLc (rI X.K Γ k pn mi) (rG X.K Γ k pn mt) (rTs X.K Γ k pn mc) (rE X.K Γ k pn me) ow) (gName i))) :
    L2.PS X (.Assign [.Name y py] (.ListComp elt [⟨tg, iter, ifs, 0⟩] scope p) pos) (rS X.K Γ k pn (.setLc i me mt mi mc ow)) := by
  refine PS.of hps fun D σ H hl ⟨F, G, td, tv, ρ, A, h⟩ => ?_
  have hi : i < σ.length := by rw [hl]; exact (List.getElem?_eq_some_iff.mp hy).1
  unfold wpS at h
  refine lc_read (pn := pn) ht (rE.intro A h fun o ρ1 v H1 q A1 a1 => ?_)
  cases o with
  | bor i => exact q.elim
  | v d => exact q.2 _ _ (Pin.set q.1) (At.storeTop A.len A1.rel hi)
theorem s_par {i j : Nat} {x y : Str} {a b : Expr} {ma mb : E} {px py pt : Pos} {kt k2 pt2} (am : Amb Γ k X c) (hi : X.N[i]? = some x) (hj : X.N[j]? = some y) (hij : i ≠ j)
    (hx : X.env.scope.names.lookup x = some .local) (hy : X.env.scope.names.lookup y = some .local) (ha : L2.PA X [a, b] (rA X.K Γ k pn (.cons ma (.cons mb .nil))))
    (hw : swappedStores [.Tuple [.Name x px, .Name y py] kt pt] (.Tuple [a, b] k2 pt2) X.env = pure (some [x, y]))
    (hs : swapsWithSole [.Tuple [.Name x px, .Name y py] kt pt] (.Tuple [a, b] k2 pt2) pos.line X.env = pure false) :
    L2.PS X (.Assign [.Tuple [.Name x px, .Name y py] kt pt] (.Tuple [a, b] k2 pt2) pos) (rS X.K Γ k pn (.par i j ma mb)) := by
  refine PS.of (ps_par am.calm am.nd hi hj hij hx hy ha hw hs) fun D σ H hl ⟨F, G, td, tv, ρ, A, h⟩ => ?_
  have hi' : i < σ.length := by rw [hl]; exact (List.getElem?_eq_some_iff.mp hi).1
  have hj' : j < σ.length := by rw [hl]; exact (List.getElem?_eq_some_iff.mp hj).1
  have h : wpEs Γ k pn (.cons ma (.cons mb .nil)) ρ fun os ρ2 => match os with
    | [.v d, .v e] => i ∉ pn ∧ j ∉ pn ∧ i ≠ j ∧ (endsV X.K pn F G td tv σ D).nx ((ρ2.set i (some (.im (frz d)))).set j (some (.im (frz e))))
    | _ => False := by
    refine wpE.mono ma ρ _ _ (fun o ρ1 q => wpE.mono mb ρ1 _ _ (fun o2 ρ2 q => ?_) q) h
    cases o <;> cases o2 <;> exact q
  refine rA.intro A h fun os ρ1 vs H1 q A1 a1 => ?_
  split at q
  · rename_i d e
    obtain ⟨v, vr, rfl, _, w, vr2, rfl, _, h0⟩ := a1
    cases (show vr2 = [] from h0)
    obtain ⟨h1, h2, _, h4⟩ := q
    refine ⟨v, w, rfl, ?_⟩
    have A2 := A1.frzs (os := [.v d, .v e]) rfl
    have R : Rel X.K H1 F G (some (.im (frz d)) :: some (.im (frz e)) :: (td ++ ρ1)) (some v :: some w :: (tv ++ σ)) := A2.rel
    have hρ := R.len
    have hlt := A.len
    simp at hρ
    -- the one above is stored first
    have z := R.store (i := 1 + td.length + i) (by simp; omega)
    have e1 : (some (Val.im (frz e)) :: (td ++ ρ1)).set (1 + td.length + i) (some (.im (frz d))) = some (.im (frz e)) :: (td ++ ρ1.set i (some (.im (frz d)))) := by
      rw [show 1 + td.length + i = (td.length + i) + 1 by omega, List.set_cons_succ, List.set_append_right _ _ (by omega), show td.length + i - td.length = i by omega]
    have e2 : (some w :: (tv ++ σ)).set (1 + td.length + i) (some v) = some w :: (tv ++ σ.set i (some v)) := by
      have := A.len
      rw [show 1 + td.length + i = (tv.length + i) + 1 by omega, List.set_cons_succ, List.set_append_right _ _ (by omega), show tv.length + i - tv.length = i by omega]
    rw [e1, e2] at z
    exact h4 _ _ ((Pin.set h1).trans (Pin.set h2)) (At.storeTop A.len z (by simpa using hj'))
  · exact q.elim
theorem s_aug {i : Nat} {x : Str} {o : Op} {e : Expr} {m : E} {px : Pos} (am : Amb Γ k X c) (hx : stOk c i x = true) (ho : o = .add ∨ o = .sub) (he : L2.PE X e (rE X.K Γ k pn m)) : L2.PS X (.AugAssign (.Name x px) (opK o) e pos) (rS X.K Γ k pn (.aug i o m)) := by
  unfold stOk at hx
  simp only [Bool.and_eq_true, decide_eq_true_eq] at hx
  obtain ⟨h1, h2⟩ := am.st x hx.2
  have hN : X.N[i]? = some x := by rw [am.N]; exact hx.1
  have key : ∀ (f : Int → Int → Int), PIp X (opK o) (ipI f) → (∀ (Z : VEnds) ρ, wpS Γ k pn (.aug i o m) ρ Z → i ∉ pn ∧ intOf (look ρ (.bor i)) fun a => wpE Γ k pn m ρ fun y ρ1 => intOf (look ρ1 y) fun b => Z.nx (ρ1.set i (some (.im (.int (f a b)))))) →
      L2.PS X (.AugAssign (.Name x px) (opK o) e pos) (rS X.K Γ k pn (.aug i o m)) := fun f hf hw => by
    refine PS.of (ps_aug am.nd hN h1 he hf h2) fun D σ H hl ⟨F, G, td, tv, ρ, A, h⟩ => ?_
    have hi : i < σ.length := by rw [hl]; exact (List.getElem?_eq_some_iff.mp hN).1
    obtain ⟨hp, h⟩ := hw _ _ h
    unfold intOf at h
    split at h
    · rename_i a ea
      -- what stands in the slot
      have hs : slotV ρ i = some (.im (.int a)) := by
        have ea : (match slotV ρ i with | some (.im d) => some d | some (.ml l) => some (.lst l) | _ => none) = some (.int a) := ea
        split at ea
        · rename_i d e; cases ea; exact e
        · cases ea
        · cases ea
      obtain ⟨w, ew⟩ := A.slot hs
      have ew2 : w = .int a := by
        obtain ⟨fp, r⟩ := A.rel
        have hlt := A.len
        obtain ⟨v', e1, q, _⟩ := r.rep (td.length + i) _ (by rw [List.getElem?_append_right (by omega)]; simpa using slotV_some hs)
        rw [List.getElem?_append_right (by omega), show td.length + i - tv.length = i by omega, ew] at e1
        cases e1
        exact q
      subst ew2
      refine ⟨_, ew, rE.intro A h fun y ρ1 v H1 q A1 a1 => ?_⟩
      obtain ⟨b, rfl, q, A2⟩ := int_at A1 a1 q
      refine ⟨a, b, rfl, rfl, ?_⟩
      have A3 : At X.K H1 F G (some (.im (.int (f a b))) :: td) (some (.int (f a b)) :: tv) ρ1 σ := by
        obtain ⟨fp, r⟩ := A2.rel
        exact ⟨by simp [A.len], r.push rfl⟩
      exact q _ _ (Pin.set hp) (At.storeTop A.len A3.rel hi)
    · exact h.elim
  rcases ho with rfl | rfl
  · exact key (fun a b => a + b) ip_add fun Z ρ h => h
  · exact key (fun a b => a - b) ip_sub fun Z ρ h => h
theorem s_ex {e : Expr} {m : E} (he : L2.PE X e (rE X.K Γ k pn m)) (hs : swapsWith e none pos.line X.env = pure false) : L2.PS X (.Expr e pos) (rS X.K Γ k pn (.ex m)) := by
  refine PS.of (ps_expr he hs) fun D σ H hl ⟨F, G, td, tv, ρ, A, h⟩ => ?_
  exact rE.intro A h fun o ρ1 v H1 q A1 a1 => q _ _ Pin.refl ⟨A.len, A1.rel.pop⟩
theorem s_ret {e : Expr} {m : E} (he : L2.PE X e (rE X.K Γ k pn m)) : L2.PS X (.Return (some e) pos) (rS X.K Γ k pn (.ret m)) := by
  refine PS.of (ps_ret he) fun D σ H hl ⟨F, G, td, tv, ρ, A, h⟩ => ?_
  refine rE.intro A h fun o ρ1 v H1 q A1 a1 => ?_
  cases o with
  | v d => exact q _ _ _ Pin.refl A1
  | bor i =>
    obtain ⟨hp, q⟩ := q
    split at q
    · rename_i d e1
      -- the slot's object leaves its slot
      refine q v (σ.set i none) H1 (Pin.set hp) ⟨by simp [A.len], ?_⟩
      have hρ := A1.rel.len
      have hlt := A.len
      have e2 := slotV_some e1
      have hi : i < ρ1.length := (List.getElem?_eq_some_iff.mp e2).1
      simp at hρ
      have a1 : σ[i]? = some (some v) := a1
      -- by the places: 0 from the slot, the slot from nothing
      refine A1.rel.reindex (fun n => if n = 0 then 1 + td.length + i else if n = 1 + td.length + i then 0 else n) (by simp; omega) (fun n d' h => ?_) fun n n' _ _ _ _ h => ?_
      · cases n with
        | zero =>
          simp only [List.cons_append, List.getElem?_cons_zero, Option.some.injEq] at h
          subst h
          rw [if_pos rfl]
          refine ⟨?_, ?_⟩
          · rw [show 1 + td.length + i = (td.length + i) + 1 by omega]
            simp only [List.cons_append, List.getElem?_cons_succ]
            rw [List.getElem?_append_right (by omega), show td.length + i - td.length = i by omega, e2]
          · rw [show 1 + td.length + i = (tv.length + i) + 1 by omega]
            simp only [List.cons_append, List.getElem?_cons_succ, List.getElem?_cons_zero]
            rw [List.getElem?_append_right (by omega), show tv.length + i - tv.length = i by omega, a1]
        | succ n =>
          rw [if_neg (by omega)]
          simp only [List.cons_append, List.getElem?_cons_succ] at h ⊢
          by_cases hn : n = td.length + i
          · subst hn
            rw [List.getElem?_append_right (by omega), show td.length + i - td.length = i by omega, List.getElem?_set_self hi] at h
            cases h
          · rw [if_neg (by omega)]
            simp only [List.getElem?_cons_succ]
            by_cases hn2 : n < td.length
            · rw [List.getElem?_append_left hn2] at h ⊢
              rw [List.getElem?_append_left (by omega), List.getElem?_append_left (by omega)]
              exact ⟨h, rfl⟩
            · rw [List.getElem?_append_right (by omega)] at h ⊢
              rw [List.getElem?_append_right (by omega), List.getElem?_append_right (by omega)]
              rw [List.getElem?_set_ne (by omega)] at h
              exact ⟨h, by rw [List.getElem?_set_ne (by omega)]⟩
      · split at h <;> split at h <;> (try split at h) <;> (try split at h) <;> omega
    · exact q.elim
theorem s_retN : L2.PS X (.Return none pos) (rS X.K Γ k pn .retN) := by
  refine PS.of ps_retN fun D σ H hl ⟨F, G, td, tv, ρ, A, h⟩ => ?_
  obtain ⟨fp, r⟩ := A.rel
  exact h .non σ H Pin.refl ⟨by simp [A.len], r.push rfl⟩
theorem s_if {t : Expr} {a b : List Stmt} {mt : E} {ma mb : Ss} (ht : L2.PT X t (rT X.K Γ k pn mt)) (ha : L2.PSs X a (rSs X.K Γ k pn ma)) (hb : L2.PSs X b (rSs X.K Γ k pn mb)) : L2.PS X (.If t a b pos) (rS X.K Γ k pn (.ife mt ma mb)) := by
  refine PS.of (ps_if ht ha hb) fun D σ H hl ⟨F, G, td, tv, ρ, A, h⟩ => ?_
  refine rT.intro A h fun b ρ1 H1 q A1 => ?_
  cases b with
  | true => exact ⟨F, G, td, tv, ρ1, A1, q⟩
  | false => exact ⟨F, G, td, tv, ρ1, A1, q⟩
theorem s_brk : L2.PS X (.Break pos) (rS X.K Γ k pn .brk) := PS.of ps_break fun D σ H hl ⟨F, G, td, tv, ρ, A, h⟩ => h σ H Pin.refl A
theorem s_cnt : L2.PS X (.Continue pos) (rS X.K Γ k pn .cnt) := PS.of ps_continue fun D σ H hl ⟨F, G, td, tv, ρ, A, h⟩ => h σ H Pin.refl A
theorem s_pass : L2.PS X (.Pass pos) (rS X.K Γ k pn .pass) := PS.of ps_pass fun D σ H hl ⟨F, G, td, tv, ρ, A, h⟩ => h σ H Pin.refl A
/-- what stands between goes -/
theorem At.drop {K : PySem.W.Frag} {H : Hp} {F : Addr → HO → Prop} {G : Addr → Prop} {sd td : VEnv} {sv tv : L2.St} {ρ : VEnv} {σ : L2.St} (hl : td.length = tv.length) (hs : sd.length = sv.length) (A : At K H F G (sd ++ td) (sv ++ tv) ρ σ) : At K H F G td tv ρ σ :=
  ⟨hl, Rel.dropAll hs (by have := A.rel; simpa using this)⟩
theorem At.dropM {K : PySem.W.Frag} {H : Hp} {F : Addr → HO → Prop} {G : Addr → Prop} {sd td : VEnv} {sv tv : L2.St} {ρ : VEnv} {σ : L2.St} {x : Option Val} {y : Option V} (hl : td.length = tv.length) (hs : sd.length = sv.length) (A : At K H F G (x :: (sd ++ td)) (y :: (sv ++ tv)) ρ σ) : At K H F G (x :: td) (y :: tv) ρ σ :=
  ⟨by simp [hl], Rel.dropMid hs (by have := A.rel; simpa using this)⟩
theorem s_for {tg iter : Expr} {body : List Stmt} {mt : Tg} {mi : MP.It} {mb : Ss} (am : Amb Γ k X c) (hp : PassesOwn (model X.prog X.w) X.A X.env X.xe) (hi : L2.PI X tg iter (rI X.K Γ k pn mi)) (hg : L2.PG X tg (rG X.K Γ k pn mt)) (hb : L2.PSs X body (rSs X.K Γ k pn mb)) (hs : ∀ x, foldedSetIterable iter X.env x = pure x) :
    L2.PS X (.For tg iter body [] pos) (rS X.K Γ k pn (.for mt mi mb)) := by
  refine PS.of (ps_for hp am.calm hi hg hb hs) fun D σ H hl ⟨F, G, td, tv, ρ, A, h⟩ => ?_
  have hlt := A.len
  refine ⟨F, G, td, tv, ρ, A, wpI.mono mi ρ _ _ (fun items ρ1 h J H1 sd sv hsv A1 feed => ?_) h⟩
  generalize hstep : (fun (d : MP.D) ρ2 Z2 => wpG Γ k pn mt (.im d) ρ2 fun ρ3 => wpSs Γ k pn mb ρ3 Z2) = step at h
  generalize hZ : endsV X.K pn F G td tv σ D = Z at h
  let W : Nat → Nat → L2.St → Hp → Prop := fun i m σ' H' => m = items.length - i ∧ i ≤ items.length ∧ ∃ ρi, Pin pn σ σ' ∧ At X.K H' F G (sd ++ td) (sv ++ tv) ρi σ' ∧ forL step (items.drop i) ρi Z
  refine ⟨W, ⟨items.length, by simp, Nat.zero_le _, ρ1, Pin.refl, A1, h⟩, ?_⟩
  rintro i m σ2 H2 ⟨rfl, hi2, ρi, pi, A2, hL⟩
  by_cases hlt2 : i < items.length
  · have hd : items.drop i = items[i] :: items.drop (i + 1) := (List.drop_eq_getElem_cons hlt2)
    rw [hd] at hL
    obtain ⟨_, fd⟩ := feed A2
    obtain ⟨go, yl⟩ := fd i items[i] (List.getElem?_eq_getElem hlt2)
    let N : L2.St → Hp → Prop := fun σ' H' => ∃ ρ', Pin pn σ σ' ∧ At X.K H' F G (sd ++ td) (sv ++ tv) ρ' σ' ∧ forL step (items.drop (i + 1)) ρ' Z
    refine .inr ⟨go, N, fun σ' H' ⟨ρ', p', A', h'⟩ => ⟨items.length - (i + 1), by omega, rfl, hlt2, ρ', p', A', h'⟩, fun x H3 hy => ?_⟩
    have A3 := yl x H3 hy
    unfold forL at hL
    rw [← hstep] at hL
    refine ⟨F, G, sd ++ td, sv ++ tv, ρi, .im items[i], by simp; omega, by have := A3.rel; simpa using this, ?_⟩
    refine wpG.mono mt _ _ _ _ (fun ρ3 q σ3 H4 ag A4 => ?_) hL
    refine ⟨F, G, sd ++ td, sv ++ tv, ρ3, A4, wpSs.mono mb _ _ _ ?_ q⟩
    have p3 := pi.trans ag.toPin
    rw [hstep, ← hZ]
    refine ⟨fun ρ4 q σ4 H5 p A5 => ⟨ρ4, p3.trans p, A5, by rw [← hZ]; exact q⟩, fun d ρ4 q v σ4 H5 p A5 => q v σ4 H5 (p3.trans p) (A5.dropM hlt hsv), fun ρ4 q σ4 H5 p A5 => q σ4 H5 (p3.trans p) (A5.drop hlt hsv), fun ρ4 q σ4 H5 p A5 => ⟨ρ4, p3.trans p, A5, by rw [← hZ]; exact q⟩⟩
  · have e : i = items.length := by omega
    subst e
    rw [List.drop_length] at hL
    have hL : Z.nx ρi := hL
    rw [← hZ] at hL
    exact .inl ⟨(feed A2).1, hL _ _ pi (A2.drop hlt hsv)⟩
theorem s_while {t : Expr} {body : List Stmt} {mt : E} {mb : Ss} (hp : PassesOwn (model X.prog X.w) X.A X.env X.xe) (ht : L2.PT X t (rT X.K Γ k pn mt)) (hb : L2.PSs X body (rSs X.K Γ k pn mb)) : L2.PS X (.While t body [] pos) (rS X.K Γ k pn (.while mt mb)) := by
  refine PS.of (ps_while hp ht hb) fun D σ H hl ⟨F, G, td, tv, ρ, A, n, h⟩ => ?_
  generalize hZ : endsV X.K pn F G td tv σ D = Z at h
  let W : Nat → L2.St → Hp → Prop := fun m σ' H' => ∃ ρi, Pin pn σ σ' ∧ At X.K H' F G td tv ρi σ' ∧ whlN (fun ρ1 Q => wpT Γ k pn mt ρ1 Q) (fun ρ1 Z1 => wpSs Γ k pn mb ρ1 Z1) m ρi Z
  refine ⟨W, ⟨n, ρ, Pin.refl, A, h⟩, ?_⟩
  rintro m σ2 H2 ⟨ρi, pi, A2, hL⟩
  cases m with
  | zero => exact hL.elim
  | succ m =>
    unfold whlN at hL
    refine rT.intro A2 hL fun b ρ3 H3 q A3 => ?_
    cases b with
    | false =>
      rw [if_neg Bool.false_ne_true] at q ⊢
      rw [← hZ] at q
      exact q _ _ pi A3
    | true =>
      rw [if_pos rfl] at q ⊢
      refine ⟨fun σ' H' => W m σ' H', fun σ' H' w => ⟨m, Nat.lt_succ_self _, w⟩, F, G, td, tv, ρ3, A3, wpSs.mono mb _ _ _ ?_ q⟩
      rw [← hZ]
      refine ⟨fun ρ4 q σ4 H5 p A5 => ⟨ρ4, pi.trans p, A5, by rw [← hZ]; exact q⟩, fun d ρ4 q v σ4 H5 p A5 => q v σ4 H5 (pi.trans p) A5, fun ρ4 q σ4 H5 p A5 => q σ4 H5 (pi.trans p) A5, fun ρ4 q σ4 H5 p A5 => ⟨ρ4, pi.trans p, A5, by rw [← hZ]; exact q⟩⟩
end
end MP

/-! MiniPy, part 16: whatever matches is sound. -/
namespace MP
open PySem PySem.Spec PyProof.Rows L2
def plainE : Expr → Bool
  | .Starred .. => false
  | .Set .. => false
  | .Slice .. => false
  | _ => true
theorem mE_plain {c : Ctx} {m : E} {e : Expr} (h : mE c m e = true) : plainE e = true := by
  cases e <;> first
    | rfl
    | (cases m <;> exact nomatch (show false = true from h))
theorem star_pl {e : Expr} {es : List Expr} {env : Env} (h : plainE e = true) : starEach (e :: es) env = (false, eval e env) :: starEach es env := by
  cases e <;> first
    | rfl
    | exact nomatch (show false = true from h)
theorem marks_pl {o : CmpOp} {e : Expr} (h : plainE e = true) : behindInMarks o e = false := by
  cases e <;> first
    | rfl
    | exact nomatch (show false = true from h)
theorem fold_pl {e : Expr} {env : Env} (h : plainE e = true) (x : Value) : foldedSetIterable e env x = pure x := by
  cases e <;> first
    | rfl
    | exact nomatch (show false = true from h)
theorem ix_pl {e : Expr} (h : plainE e = true) : L2.PlainIx e := by
  intro o i
  cases e <;> first
    | rfl
    | exact nomatch (show false = true from h)
theorem sl_pl {e : Expr} (h : plainE e = true) : ∀ a b d f, e ≠ .Slice a b d f := by
  intro a b d f z
  subst z
  exact nomatch (show false = true from h)
theorem mEs_star {c : Ctx} {env : Env} {pos : Pos} : ∀ {ms : Es} {es : List Expr}, mEs c ms es = true → (backTo pos (starEach es env)).any (·.1) = false
  | .nil, [], _ => rfl
  | .nil, _ :: _, h => nomatch (show false = true from h)
  | .cons _ _, [], h => nomatch (show false = true from h)
  | .cons m ms, e :: es, h => by
    have h : (mE c m e && mEs c ms es) = true := h
    rw [Bool.and_eq_true] at h
    rw [star_pl (mE_plain h.1)]
    show (false || (backTo pos (starEach es env)).any (·.1)) = false
    rw [mEs_star h.2]
    rfl
def plainG : Expr → Bool
  | .Starred .. => false
  | _ => true
theorem mG_plain {c : Ctx} {m : Tg} {e : Expr} (h : mG c m e = true) : plainG e = true := by
  cases e <;> first
    | rfl
    | (cases m <;> exact nomatch (show false = true from h))
theorem asg_pl {e : Expr} {es : List Expr} {env : Env} (h : plainG e = true) : assignEach (e :: es) env = (false, assign e env) :: assignEach es env := by
  cases e <;> first
    | rfl
    | exact nomatch (show false = true from h)
theorem mGs_asg {c : Ctx} {env : Env} : ∀ {ms : Tgs} {es : List Expr}, mGs c ms es = true → (assignEach es env).length = es.length ∧ (assignEach es env).findIdx? (·.1) = none
  | .nil, [], _ => ⟨rfl, rfl⟩
  | .nil, _ :: _, h => nomatch (show false = true from h)
  | .cons _ _, [], h => nomatch (show false = true from h)
  | .cons m ms, e :: es, h => by
    have h : (mG c m e && mGs c ms es) = true := h
    rw [Bool.and_eq_true] at h
    rw [asg_pl (mG_plain h.1)]
    obtain ⟨h1, h2⟩ := mGs_asg (env := env) h.2
    refine ⟨by simp [h1], ?_⟩
    rw [List.findIdx?_cons]
    simp [h2]
theorem mGs_len {c : Ctx} : ∀ {ms : Tgs} {es : List Expr}, mGs c ms es = true → tgsLen ms = es.length
  | .nil, [], _ => rfl
  | .nil, _ :: _, h => nomatch (show false = true from h)
  | .cons _ _, [], h => nomatch (show false = true from h)
  | .cons m ms, e :: es, h => by
    have h : (mG c m e && mGs c ms es) = true := h
    rw [Bool.and_eq_true] at h
    rw [List.length_cons, ← mGs_len h.2]
    rfl
theorem mI_plain {c : Ctx} {m : It} {e : Expr} (h : mI c m e = true) : plainE e = true := by
  cases m with
  | e a => exact mE_plain h
  | rng a =>
    cases e <;> first
      | rfl
      | exact nomatch (show false = true from h)
  | rng2 a b =>
    cases e <;> first
      | rfl
      | exact nomatch (show false = true from h)
theorem Amb.blk {Γ : Tab} {k : Nat} {X : Cx} {c : Ctx} (am : Amb Γ k X c) (scope : Scope) (s : Shared) (H : Hp) (C : Addr) (cl : List (Str × Addr)) (fp : List Addr) : Amb Γ k (X.blk s H scope (compEnvC scope cl C X.env) fp) (c.blk scope) := by
  refine ⟨am.N, am.nd, ?_, am.calm, am.room, rfl, fun x hx => ?_, am.bn, am.gc, am.fs, am.tab⟩
  · show relS scope X.env.scope = relS scope c.sc
    rw [am.sc]
  · have hx : locB scope x = true := hx
    unfold locB at hx
    split at hx
    · rename_i e
      have z : (relS scope X.env.scope).names.lookup x = some .local := lookup_relS_keep (by decide) e
      exact ⟨.inl z, .inr z⟩
    · rename_i e
      have z : (relS scope X.env.scope).names.lookup x = some .cell := lookup_relS_keep (by decide) e
      exact ⟨.inr z, .inl (by show (scope.names.lookup x == some .cell) = true; rw [e]; rfl)⟩
    · cases hx
end MP

/-! MiniPy, part 17: whatever matches is sound. -/
namespace MP
open PySem PySem.Spec PyProof.Rows L2
section
variable {Γ : Tab} {k : Nat} {pn : List Nat}
theorem t_false {X : Cx} {e : Expr} {m : E} (h : ∀ ρ Q, ¬ wpT Γ k pn m ρ Q) : L2.PT X e (rT X.K Γ k pn m) := ⟨fun _ _ _ _ _ _ ⟨_, _, _, _, _, _, w⟩ => absurd w (h _ _)⟩
mutual
theorem sndE : ∀ (m : E) {X : Cx} {c : Ctx} {e : Expr}, Amb Γ k X c → mE c m e = true → L2.PE X e (rE X.K Γ k pn m)
  | .var i, X, c, e, am, h => by
    cases e with
    | Name x p => exact e_var am h
    | _ => exact nomatch (show false = true from h)
  | .fz i, X, c, e, am, h => by
    cases e with
    | Name x p => exact e_fz am h
    | _ => exact nomatch (show false = true from h)
  | .bor i, X, c, e, am, h => by
    cases e with
    | Name x p => exact e_bor am h
    | _ => exact nomatch (show false = true from h)
  | .int i, X, c, e, am, h => by
    cases e with
    | Constant v a b =>
      cases v with
      | int j =>
        have h : i = j := of_decide_eq_true h
        subst h
        exact e_dat pe_int (fun ρ Q w => w) fun H S => rfl
      | _ => exact nomatch (show false = true from h)
    | _ => exact nomatch (show false = true from h)
  | .bl i, X, c, e, am, h => by
    cases e with
    | Constant v a b =>
      cases v with
      | bool j =>
        have h : i = j := of_decide_eq_true h
        subst h
        exact e_dat pe_bl (fun ρ Q w => w) fun H S => rfl
      | _ => exact nomatch (show false = true from h)
    | _ => exact nomatch (show false = true from h)
  | .non, X, c, e, am, h => by
    cases e with
    | Constant v a b =>
      cases v with
      | none => exact e_dat pe_non (fun ρ Q w => w) fun H S => rfl
      | _ => exact nomatch (show false = true from h)
    | _ => exact nomatch (show false = true from h)
  | .str i, X, c, e, am, h => by
    cases e with
    | Constant v a b =>
      cases v with
      | str j =>
        have h : i = j := of_decide_eq_true h
        subst h
        exact e_dat pe_str (fun ρ Q w => w) fun H S => rfl
      | _ => exact nomatch (show false = true from h)
    | _ => exact nomatch (show false = true from h)
  | .bin o a b, X, c, e, am, h => by
    cases e with
    | BinOp a' o' b' p =>
      have h : (opB o o' && mE c a a' && mE c b b') = true := h
      simp only [Bool.and_eq_true] at h
      cases opB_eq h.1.1
      exact e_bin (sndE a am h.1.2) (sndE b am h.2)
    | _ => exact nomatch (show false = true from h)
  | .neg a, X, c, e, am, h => by
    cases e with
    | UnaryOp o a' p =>
      cases o with
      | USub => exact e_neg (sndE a am h)
      | _ => exact nomatch (show false = true from h)
    | _ => exact nomatch (show false = true from h)
  | .cmp o a b, X, c, e, am, h => by
    cases e with
    | Compare a' os bs p =>
      match os, bs, h with
      | [o'], [b'], h =>
        have h : (cmB o o' && mE c a a' && mE c b b') = true := h
        simp only [Bool.and_eq_true] at h
        cases cmB_eq h.1.1
        exact e_cmp am (sndE a am h.1.2) (sndE b am h.2) (marks_pl (mE_plain h.2))
      | [], _, h => exact nomatch (show false = true from h)
      | _ :: _ :: _, _, h => exact nomatch (show false = true from h)
      | [_], [], h => exact nomatch (show false = true from h)
      | [_], _ :: _ :: _, h => exact nomatch (show false = true from h)
    | _ => exact nomatch (show false = true from h)
  | .not a, X, c, e, am, h => by
    cases e with
    | UnaryOp o a' p =>
      cases o with
      | Not => exact e_not (sndE a am h)
      | _ => exact nomatch (show false = true from h)
    | _ => exact nomatch (show false = true from h)
  | .and a b, X, c, e, am, h => by
    cases e with
    | BoolOp o es p =>
      cases o with
      | And =>
        match es, h with
        | [a', b'], h =>
          have h : (mE c a a' && mE c b b') = true := h
          simp only [Bool.and_eq_true] at h
          exact e_and (sndE a am h.1) (sndE b am h.2)
        | [], h => exact nomatch (show false = true from h)
        | [_], h => exact nomatch (show false = true from h)
        | _ :: _ :: _ :: _, h => exact nomatch (show false = true from h)
      | _ => exact nomatch (show false = true from h)
    | _ => exact nomatch (show false = true from h)
  | .or a b, X, c, e, am, h => by
    cases e with
    | BoolOp o es p =>
      cases o with
      | Or =>
        match es, h with
        | [a', b'], h =>
          have h : (mE c a a' && mE c b b') = true := h
          simp only [Bool.and_eq_true] at h
          exact e_or (sndE a am h.1) (sndE b am h.2)
        | [], h => exact nomatch (show false = true from h)
        | [_], h => exact nomatch (show false = true from h)
        | _ :: _ :: _ :: _, h => exact nomatch (show false = true from h)
      | _ => exact nomatch (show false = true from h)
    | _ => exact nomatch (show false = true from h)
  | .andC a b, X, c, e, am, h => by
    cases e with
    | BoolOp o es p =>
      cases o with
      | And =>
        match es, h with
        | a' :: e1 :: e2 :: es, h =>
          have h : (mE c a a' && mE c b (.BoolOp .And (e1 :: e2 :: es) p)) = true := h
          simp only [Bool.and_eq_true] at h
          exact e_andC (sndE a am h.1) (sndE b am h.2)
        | [], h => exact nomatch (show false = true from h)
        | [_], h => exact nomatch (show false = true from h)
        | [_, _], h => exact nomatch (show false = true from h)
      | _ => exact nomatch (show false = true from h)
    | _ => exact nomatch (show false = true from h)
  | .orC a b, X, c, e, am, h => by
    cases e with
    | BoolOp o es p =>
      cases o with
      | Or =>
        match es, h with
        | a' :: e1 :: e2 :: es, h =>
          have h : (mE c a a' && mE c b (.BoolOp .Or (e1 :: e2 :: es) p)) = true := h
          simp only [Bool.and_eq_true] at h
          exact e_orC (sndE a am h.1) (sndE b am h.2)
        | [], h => exact nomatch (show false = true from h)
        | [_], h => exact nomatch (show false = true from h)
        | [_, _], h => exact nomatch (show false = true from h)
      | _ => exact nomatch (show false = true from h)
    | _ => exact nomatch (show false = true from h)
  | .ife t a b, X, c, e, am, h => by
    cases e with
    | IfExp t' a' b' p =>
      have h : (mE c t t' && mE c a a' && mE c b b') = true := h
      simp only [Bool.and_eq_true] at h
      exact e_ife (sndT t am h.1.1) (sndE a am h.1.2) (sndE b am h.2)
    | _ => exact nomatch (show false = true from h)
  | .idx a b, X, c, e, am, h => by
    cases e with
    | Subscript a' b' p =>
      have h : (mE c a a' && mE c b b') = true := h
      simp only [Bool.and_eq_true] at h
      exact e_idx (sndE a am h.1) (sndE b am h.2) (ix_pl (mE_plain h.2))
    | _ => exact nomatch (show false = true from h)
  | .slc a lo hi, X, c, e, am, h => by
    cases e with
    | Subscript a' b' p =>
      cases b' with
      | Slice lo' hi' st p2 =>
        cases st with
        | none =>
          have h : (mE c a a' && (match (generalizing := false) lo', lo with | none, .noE => true | none, _ => false | some _, .noE => false | some e, _ => mE c lo e) && (match (generalizing := false) hi', hi with | none, .noE => true | none, _ => false | some _, .noE => false | some e, _ => mE c hi e)) = true := h
          simp only [Bool.and_eq_true] at h
          refine e_slc (sndE a am h.1.1) ?_ ?_
          · have h := h.1.2
            split at h
            · exact o_none
            · cases h
            · cases h
            · rename_i hne
              exact o_some (sndE lo am h) hne
          · have h := h.2
            split at h
            · exact o_none
            · cases h
            · cases h
            · rename_i hne
              exact o_some (sndE hi am h) hne
        | some _ => exact nomatch (show false = true from h)
      | _ => exact nomatch (show false = true from h)
    | _ => exact nomatch (show false = true from h)
  | .noE, X, c, e, am, h => nomatch (show false = true from h)
  | .tup es, X, c, e, am, h => by
    cases e with
    | Tuple es' x p => exact e_tup (sndEs es am h)
    | _ => exact nomatch (show false = true from h)
  | .lst es, X, c, e, am, h => by
    cases e with
    | List es' p => exact e_lst (sndEs es am h)
    | _ => exact nomatch (show false = true from h)
  | .call f es, X, c, e, am, h => by
    cases e with
    | Call g as ks p =>
      cases g with
      | Name x px =>
        cases ks with
        | nil =>
          have h : (decide (x = f) && glOk c x && decide (x ∈ c.fs) && mEs c es as) = true := h
          simp only [Bool.and_eq_true, decide_eq_true_eq] at h
          obtain ⟨⟨⟨rfl, h2⟩, h3⟩, h4⟩ := h
          have hs := sndEs es am h4
          cases as with
          | nil =>
            cases es with
            | nil => exact e_call0 am h2 h3
            | cons => exact nomatch (show false = true from h4)
          | cons e1 er =>
            cases es with
            | nil => exact nomatch (show false = true from h4)
            | cons m ms =>
              have h4 : (mE c m e1 && mEs c ms er) = true := h4
              simp only [Bool.and_eq_true] at h4
              exact e_call am h2 h3 hs (star_pl (mE_plain h4.1)) (mEs_star h4.2)
        | cons => exact nomatch (show false = true from h)
      | _ => exact nomatch (show false = true from h)
    | _ => exact nomatch (show false = true from h)
  | .bi f es, X, c, e, am, h => by
    cases e with
    | Call g as ks p =>
      cases g with
      | Name x px =>
        cases ks with
        | nil =>
          have h : ((match (generalizing := false) f with | .gcd => c.gc && glOk c x && decide (x = biN .gcd) | f => bnOk c x (biN f)) && mEs c es as && (match (generalizing := false) as with | [] => false | _ => true)) = true := h
          rw [Bool.and_eq_true, Bool.and_eq_true] at h
          obtain ⟨⟨h1, h4⟩, h5⟩ := h
          have hs := sndEs es am h4
          cases as with
          | nil => cases h5
          | cons e1 er =>
            cases es with
            | nil => exact nomatch (show false = true from h4)
            | cons m ms =>
              have h4 : (mE c m e1 && mEs c ms er) = true := h4
              simp only [Bool.and_eq_true] at h4
              exact e_bi am h1 hs (star_pl (mE_plain h4.1)) (mEs_star h4.2)
        | cons => exact nomatch (show false = true from h)
      | _ => exact nomatch (show false = true from h)
    | _ => exact nomatch (show false = true from h)
  | .isi a ts tp, X, c, e, am, h => by
    cases e with
    | Call g as ks p =>
      cases g with
      | Name x px =>
        match as, ks, h with
        | [a', t'], [], h =>
          have h : (bnOk c x "isinstance" && mE c a a' && (match (generalizing := false) tp, ts, t' with
            | false, [t], .Name y _ => bnOk c y (tyN t)
            | true, ts, .Tuple es _ _ => mTys c ts es && decide (ts.length ≤ 1000)
            | _, _, _ => false)) = true := h
          rw [Bool.and_eq_true, Bool.and_eq_true] at h
          obtain ⟨⟨h1, h2⟩, h3⟩ := h
          have ha := sndE a am h2
          split at h3
          · exact e_isi1 am h1 ha h3 (star_pl (mE_plain h2))
          · rw [Bool.and_eq_true, decide_eq_true_eq] at h3
            exact e_isiT am h1 ha h3.1 h3.2 (star_pl (mE_plain h2))
          · cases h3
        | [], _, h => exact nomatch (show false = true from h)
        | [_], _, h => exact nomatch (show false = true from h)
        | _ :: _ :: _ :: _, _, h => exact nomatch (show false = true from h)
        | [_, _], _ :: _, h => exact nomatch (show false = true from h)
      | _ => exact nomatch (show false = true from h)
    | _ => exact nomatch (show false = true from h)
  | .mt m i es, X, c, e, am, h => by
    cases e with
    | Call g as ks q =>
      cases g with
      | Attribute o a p =>
        cases o with
        | Name x px =>
          cases ks with
          | nil =>
            have h : (nmOk c i x && decide (a = mtN m) && mEs c es as && (p.endLine == q.line) && decide (as.length < 2)) = true := h
            simp only [Bool.and_eq_true, decide_eq_true_eq] at h
            obtain ⟨⟨⟨⟨h1, h2⟩, h3⟩, h4⟩, h5⟩ := h
            cases as with
            | nil =>
              cases es with
              | nil => exact e_mt0 am h1 h2 h4
              | cons => exact nomatch (show false = true from h3)
            | cons e1 er =>
              cases es with
              | nil => exact nomatch (show false = true from h3)
              | cons m1 ms =>
                have h3 : (mE c m1 e1 && mEs c ms er) = true := h3
                simp only [Bool.and_eq_true] at h3
                cases er with
                | cons => simp only [List.length_cons] at h5; omega
                | nil =>
                  cases ms with
                  | cons => exact nomatch (show false = true from h3.2)
                  | nil => exact e_mt1 am h1 h2 h4 (sndE m1 am h3.1) (star_pl (mE_plain h3.1))
          | cons => exact nomatch (show false = true from h)
        | _ => exact nomatch (show false = true from h)
      | _ => exact nomatch (show false = true from h)
    | _ => exact nomatch (show false = true from h)
  | .lc elt tg it cn ow, X, c, e, am, h => by
    cases e with
    | ListComp e' gs scope p =>
      match gs, h with
      | [⟨tg', it', ifs, ia⟩], h =>
        have h : (decide (ia = 0) && blkC c.N c.sc scope (ownOf c ow) && (tgS tg).all (fun j => decide (j ∈ ow)) && mI c it it' && mG (c.blk scope) tg tg' && (match (generalizing := false) ifs with
          | [] => (match (generalizing := false) cn with | .noE => true | _ => false)
          | [t'] => (match (generalizing := false) cn with | .noE => false | _ => mE (c.blk scope) cn t')
          | _ => false) && mE (c.blk scope) elt e') = true := h
        simp only [Bool.and_eq_true] at h
        obtain ⟨⟨⟨⟨⟨⟨h0, h1⟩, h2⟩, h3⟩, h4⟩, h5⟩, h6⟩ := h
        have h0 : ia = 0 := of_decide_eq_true h0
        subst h0
        have hts : ∀ (s : Shared) (H : Hp) (C : Addr) (cl : List (Str × Addr)) (fp : List Addr), L2.PTs (X.blk s H scope (compEnvC scope cl C X.env) fp) ifs (rTs X.K Γ k pn cn) := fun s H C cl fp => by
          have amb := am.blk scope s H C cl fp
          split at h5
          · split at h5
            · exact ts_nil
            · cases h5
          · split at h5
            · cases h5
            · rename_i hne
              exact ts_one (sndT cn amb h5) hne
          · cases h5
        have hb : BlkOk X.N X.env.scope scope (ownOf c ow) := by rw [am.N, am.sc]; exact blkOk_by h1
        have z := pe_lc (pos := p) (g := rG X.K Γ k pn tg) (te := rE X.K Γ k pn elt) am.calm am.nd (sndIt it am h3 tg') hb (fun s H C cl fp => sndTg tg (am.blk scope s H C cl fp) h4) hts (fun s H C cl fp => sndE elt (am.blk scope s H C cl fp) h6) (fold_pl (mI_plain h3))
        rw [own_map] at z
        exact PE.of z fun σ H Q q => lc_read (fun j hj => by
          have := List.all_eq_true.mp h2 j hj
          exact of_decide_eq_true this) q
      | [], h => exact nomatch (show false = true from h)
      | ⟨_, _, _, _⟩ :: ⟨_, _, _, _⟩ :: _, h => exact nomatch (show false = true from h)
    | _ => exact nomatch (show false = true from h)
theorem sndT : ∀ (m : E) {X : Cx} {c : Ctx} {e : Expr}, Amb Γ k X c → mE c m e = true → L2.PT X e (rT X.K Γ k pn m)
  | .var i, X, c, e, am, h => by
    cases e with
    | Name x p =>
      refine t_val (P := .noE) (e_var am h) (fun _ => rfl) ?_
      intro ρ Q w
      unfold wpT at w
      unfold wpE
      split at w
      · exact w
      · exact w.elim
    | _ => exact nomatch (show false = true from h)
  | .not a, X, c, e, am, h => by
    cases e with
    | UnaryOp o a' p =>
      cases o with
      | Not => exact t_not (sndT a am h)
      | _ => exact nomatch (show false = true from h)
    | _ => exact nomatch (show false = true from h)
  | .and a b, X, c, e, am, h => by
    cases e with
    | BoolOp o es p =>
      cases o with
      | And =>
        match es, h with
        | [a', b'], h =>
          have h : (mE c a a' && mE c b b') = true := h
          simp only [Bool.and_eq_true] at h
          exact (t_and1 (sndT a am h.1) (pw_and1 (sndT b am h.2))).pt
        | [], h => exact nomatch (show false = true from h)
        | [_], h => exact nomatch (show false = true from h)
        | _ :: _ :: _ :: _, h => exact nomatch (show false = true from h)
      | _ => exact nomatch (show false = true from h)
    | _ => exact nomatch (show false = true from h)
  | .or a b, X, c, e, am, h => by
    cases e with
    | BoolOp o es p =>
      cases o with
      | Or =>
        match es, h with
        | [a', b'], h =>
          have h : (mE c a a' && mE c b b') = true := h
          simp only [Bool.and_eq_true] at h
          exact (t_or1 (sndT a am h.1) (pw_or1 (sndT b am h.2))).pt
        | [], h => exact nomatch (show false = true from h)
        | [_], h => exact nomatch (show false = true from h)
        | _ :: _ :: _ :: _, h => exact nomatch (show false = true from h)
      | _ => exact nomatch (show false = true from h)
    | _ => exact nomatch (show false = true from h)
  | .andC a b, X, c, e, am, h => by
    cases e with
    | BoolOp o es p =>
      cases o with
      | And =>
        match es, h with
        | a' :: e1 :: e2 :: es, h =>
          have h : (mE c a a' && mE c b (.BoolOp .And (e1 :: e2 :: es) p)) = true := h
          simp only [Bool.and_eq_true] at h
          exact (t_and1 (sndT a am h.1) (sndW b am h.2)).pt
        | [], h => exact nomatch (show false = true from h)
        | [_], h => exact nomatch (show false = true from h)
        | [_, _], h => exact nomatch (show false = true from h)
      | _ => exact nomatch (show false = true from h)
    | _ => exact nomatch (show false = true from h)
  | .orC a b, X, c, e, am, h => by
    cases e with
    | BoolOp o es p =>
      cases o with
      | Or =>
        match es, h with
        | a' :: e1 :: e2 :: es, h =>
          have h : (mE c a a' && mE c b (.BoolOp .Or (e1 :: e2 :: es) p)) = true := h
          simp only [Bool.and_eq_true] at h
          exact (t_or1 (sndT a am h.1) (sndW b am h.2)).pt
        | [], h => exact nomatch (show false = true from h)
        | [_], h => exact nomatch (show false = true from h)
        | [_, _], h => exact nomatch (show false = true from h)
      | _ => exact nomatch (show false = true from h)
    | _ => exact nomatch (show false = true from h)
  | .cmp o a b, X, c, e, am, h => by
    cases e with
    | Compare a' os bs p =>
      match os, bs, h with
      | [o'], [b'], h =>
        have h : (cmB o o' && mE c a a' && mE c b b') = true := h
        simp only [Bool.and_eq_true] at h
        cases cmB_eq h.1.1
        exact t_cmp am (sndE a am h.1.2) (sndE b am h.2) (marks_pl (mE_plain h.2))
      | [], _, h => exact nomatch (show false = true from h)
      | _ :: _ :: _, _, h => exact nomatch (show false = true from h)
      | [_], [], h => exact nomatch (show false = true from h)
      | [_], _ :: _ :: _, h => exact nomatch (show false = true from h)
    | _ => exact nomatch (show false = true from h)
  | .idx a b, X, c, e, am, h => by
    cases e with
    | Subscript a' b' p =>
      have h : (mE c a a' && mE c b b') = true := h
      simp only [Bool.and_eq_true] at h
      refine t_val (P := .noE) (e_idx (sndE a am h.1) (sndE b am h.2) (ix_pl (mE_plain h.2))) (fun _ => rfl) fun ρ Q w => ?_
      exact w
    | _ => exact nomatch (show false = true from h)
  | .isi a ts tp, X, c, e, am, h => by
    cases e with
    | Call g as ks p =>
      cases g with
      | Name x px =>
        match as, ks, h with
        | [a', t'], [], h =>
          have h : (bnOk c x "isinstance" && mE c a a' && (match (generalizing := false) tp, ts, t' with
            | false, [t], .Name y _ => bnOk c y (tyN t)
            | true, ts, .Tuple es _ _ => mTys c ts es && decide (ts.length ≤ 1000)
            | _, _, _ => false)) = true := h
          rw [Bool.and_eq_true, Bool.and_eq_true] at h
          obtain ⟨⟨h1, h2⟩, h3⟩ := h
          have ha := sndE a am h2
          split at h3
          · exact t_val (P := .noE) (e_isi1 am h1 ha h3 (star_pl (mE_plain h2))) (fun _ => rfl) fun ρ Q w => w
          · rw [Bool.and_eq_true, decide_eq_true_eq] at h3
            exact t_val (P := .noE) (e_isiT am h1 ha h3.1 h3.2 (star_pl (mE_plain h2))) (fun _ => rfl) fun ρ Q w => w
          · cases h3
        | [], _, h => exact nomatch (show false = true from h)
        | [_], _, h => exact nomatch (show false = true from h)
        | _ :: _ :: _ :: _, _, h => exact nomatch (show false = true from h)
        | [_, _], _ :: _, h => exact nomatch (show false = true from h)
      | _ => exact nomatch (show false = true from h)
    | _ => exact nomatch (show false = true from h)
  | .call f es, X, c, e, am, h => by
    cases e with
    | Call g as ks p =>
      cases g with
      | Name x px =>
        cases ks with
        | nil =>
          have h : (decide (x = f) && glOk c x && decide (x ∈ c.fs) && mEs c es as) = true := h
          simp only [Bool.and_eq_true, decide_eq_true_eq] at h
          obtain ⟨⟨⟨rfl, h2⟩, h3⟩, h4⟩ := h
          have hs := sndEs es am h4
          have fin : ∀ ρ Q, wpT Γ k pn (.call x es) ρ Q → wpE Γ k pn (.call x es) ρ fun o ρ' => lk1 (look ρ' o) fun d => truS d fun b => Q b ρ' := fun ρ Q w => w
          cases as with
          | nil =>
            cases es with
            | nil => exact t_val (P := .noE) (e_call0 am h2 h3) (fun _ => rfl) fin
            | cons => exact nomatch (show false = true from h4)
          | cons e1 er =>
            cases es with
            | nil => exact nomatch (show false = true from h4)
            | cons m ms =>
              have h4 : (mE c m e1 && mEs c ms er) = true := h4
              simp only [Bool.and_eq_true] at h4
              exact t_val (P := .noE) (e_call am h2 h3 hs (star_pl (mE_plain h4.1)) (mEs_star h4.2)) (fun _ => rfl) fin
        | cons => exact nomatch (show false = true from h)
      | _ => exact nomatch (show false = true from h)
    | _ => exact nomatch (show false = true from h)
  | .fz i, X, c, e, am, h => t_false fun ρ Q w => w
  | .bor i, X, c, e, am, h => t_false fun ρ Q w => w
  | .int i, X, c, e, am, h => t_false fun ρ Q w => w
  | .bl i, X, c, e, am, h => t_false fun ρ Q w => w
  | .non, X, c, e, am, h => t_false fun ρ Q w => w
  | .str i, X, c, e, am, h => t_false fun ρ Q w => w
  | .bin _ _ _, X, c, e, am, h => t_false fun ρ Q w => w
  | .neg _, X, c, e, am, h => t_false fun ρ Q w => w
  | .ife _ _ _, X, c, e, am, h => t_false fun ρ Q w => w
  | .slc _ _ _, X, c, e, am, h => t_false fun ρ Q w => w
  | .noE, X, c, e, am, h => t_false fun ρ Q w => w
  | .tup _, X, c, e, am, h => t_false fun ρ Q w => w
  | .lst _, X, c, e, am, h => t_false fun ρ Q w => w
  | .bi _ _, X, c, e, am, h => t_false fun ρ Q w => w
  | .mt _ _ _, X, c, e, am, h => t_false fun ρ Q w => w
  | .lc _ _ _ _ _, X, c, e, am, h => t_false fun ρ Q w => w
theorem sndW : ∀ (m : E) {X : Cx} {c : Ctx} {o : BoolOp} {es : List Expr} {p : Pos}, Amb Γ k X c → mE c m (.BoolOp o es p) = true → L2.PW X (.BoolOp o es p) (rT X.K Γ k pn m)
  | .and a b, X, c, o, es, p, am, h => by
      cases o with
      | And =>
        match es, h with
        | [a', b'], h =>
          have h : (mE c a a' && mE c b b') = true := h
          simp only [Bool.and_eq_true] at h
          exact t_and1 (sndT a am h.1) (pw_and1 (sndT b am h.2))
        | [], h => exact nomatch (show false = true from h)
        | [_], h => exact nomatch (show false = true from h)
        | _ :: _ :: _ :: _, h => exact nomatch (show false = true from h)
      | _ => exact nomatch (show false = true from h)
  | .or a b, X, c, o, es, p, am, h => by
      cases o with
      | Or =>
        match es, h with
        | [a', b'], h =>
          have h : (mE c a a' && mE c b b') = true := h
          simp only [Bool.and_eq_true] at h
          exact t_or1 (sndT a am h.1) (pw_or1 (sndT b am h.2))
        | [], h => exact nomatch (show false = true from h)
        | [_], h => exact nomatch (show false = true from h)
        | _ :: _ :: _ :: _, h => exact nomatch (show false = true from h)
      | _ => exact nomatch (show false = true from h)
  | .andC a b, X, c, o, es, p, am, h => by
      cases o with
      | And =>
        match es, h with
        | a' :: e1 :: e2 :: es, h =>
          have h : (mE c a a' && mE c b (.BoolOp .And (e1 :: e2 :: es) p)) = true := h
          simp only [Bool.and_eq_true] at h
          exact t_and1 (sndT a am h.1) (sndW b am h.2)
        | [], h => exact nomatch (show false = true from h)
        | [_], h => exact nomatch (show false = true from h)
        | [_, _], h => exact nomatch (show false = true from h)
      | _ => exact nomatch (show false = true from h)
  | .orC a b, X, c, o, es, p, am, h => by
      cases o with
      | Or =>
        match es, h with
        | a' :: e1 :: e2 :: es, h =>
          have h : (mE c a a' && mE c b (.BoolOp .Or (e1 :: e2 :: es) p)) = true := h
          simp only [Bool.and_eq_true] at h
          exact t_or1 (sndT a am h.1) (sndW b am h.2)
        | [], h => exact nomatch (show false = true from h)
        | [_], h => exact nomatch (show false = true from h)
        | [_, _], h => exact nomatch (show false = true from h)
      | _ => exact nomatch (show false = true from h)
  | .var _, X, c, o, es, p, am, h => nomatch (show false = true from h)
  | .fz i, X, c, o, es, p, am, h => nomatch (show false = true from h)
  | .bor i, X, c, o, es, p, am, h => nomatch (show false = true from h)
  | .int i, X, c, o, es, p, am, h => nomatch (show false = true from h)
  | .bl i, X, c, o, es, p, am, h => nomatch (show false = true from h)
  | .non, X, c, o, es, p, am, h => nomatch (show false = true from h)
  | .str i, X, c, o, es, p, am, h => nomatch (show false = true from h)
  | .bin _ _ _, X, c, o, es, p, am, h => nomatch (show false = true from h)
  | .neg _, X, c, o, es, p, am, h => nomatch (show false = true from h)
  | .cmp _ _ _, X, c, o, es, p, am, h => nomatch (show false = true from h)
  | .not _, X, c, o, es, p, am, h => nomatch (show false = true from h)
  | .ife _ _ _, X, c, o, es, p, am, h => nomatch (show false = true from h)
  | .idx _ _, X, c, o, es, p, am, h => nomatch (show false = true from h)
  | .slc _ _ _, X, c, o, es, p, am, h => nomatch (show false = true from h)
  | .noE, X, c, o, es, p, am, h => nomatch (show false = true from h)
  | .tup _, X, c, o, es, p, am, h => nomatch (show false = true from h)
  | .lst _, X, c, o, es, p, am, h => nomatch (show false = true from h)
  | .call _ _, X, c, o, es, p, am, h => nomatch (show false = true from h)
  | .bi _ _, X, c, o, es, p, am, h => nomatch (show false = true from h)
  | .isi _ _ _, X, c, o, es, p, am, h => nomatch (show false = true from h)
  | .mt _ _ _, X, c, o, es, p, am, h => nomatch (show false = true from h)
  | .lc _ _ _ _ _, X, c, o, es, p, am, h => nomatch (show false = true from h)
theorem sndEs : ∀ (ms : Es) {X : Cx} {c : Ctx} {es : List Expr}, Amb Γ k X c → mEs c ms es = true → L2.PA X es (rA X.K Γ k pn ms)
  | .nil, X, c, es, am, h => by
    cases es with
    | nil => exact a_nil
    | cons => exact nomatch (show false = true from h)
  | .cons m ms, X, c, es, am, h => by
    cases es with
    | nil => exact nomatch (show false = true from h)
    | cons e es =>
      have h : (mE c m e && mEs c ms es) = true := h
      simp only [Bool.and_eq_true] at h
      exact a_cons (sndE m am h.1) (sndEs ms am h.2) (star_pl (mE_plain h.1))
theorem sndTg : ∀ (m : Tg) {X : Cx} {c : Ctx} {e : Expr}, Amb Γ k X c → mG c m e = true → L2.PG X e (rG X.K Γ k pn m)
  | .nm i, X, c, e, am, h => by
    cases e with
    | Name x p => exact g_nm am h
    | _ => exact nomatch (show false = true from h)
  | .tup ts, X, c, e, am, h => by
    cases e with
    | Tuple es x p =>
      have h : mGs c ts es = true := h
      obtain ⟨h1, h2⟩ := mGs_asg (env := X.env) h
      exact g_tup am (sndTgs ts am h) h1 h2 (mGs_len h)
    | _ => exact nomatch (show false = true from h)
  | .sub i ix, X, c, e, am, h => by
    cases e with
    | Subscript o e' p =>
      cases o with
      | Name x px =>
        have h : (nmOk c i x && mE c ix e') = true := h
        simp only [Bool.and_eq_true] at h
        exact g_sub am h.1 (sndE ix am h.2) (sl_pl (mE_plain h.2))
      | _ => exact nomatch (show false = true from h)
    | _ => exact nomatch (show false = true from h)
theorem sndTgs : ∀ (ms : Tgs) {X : Cx} {c : Ctx} {es : List Expr}, Amb Γ k X c → mGs c ms es = true → L2.PGs X es (rGs X.K Γ k pn ms)
  | .nil, X, c, es, am, h => by
    cases es with
    | nil => exact g_nil
    | cons => exact nomatch (show false = true from h)
  | .cons m ms, X, c, es, am, h => by
    cases es with
    | nil => exact nomatch (show false = true from h)
    | cons e es =>
      have h : (mG c m e && mGs c ms es) = true := h
      simp only [Bool.and_eq_true] at h
      exact g_cons (sndTg m am h.1) (sndTgs ms am h.2) (by rw [asg_pl (mG_plain h.1)]; rfl)
theorem sndIt : ∀ (m : MP.It) {X : Cx} {c : Ctx} {e : Expr}, Amb Γ k X c → mI c m e = true → ∀ tg, L2.PI X tg e (rI X.K Γ k pn m)
  | .e a, X, c, e, am, h => fun tg => i_e (sndE a am h)
  | .rng a, X, c, e, am, h => fun tg => by
    cases e with
    | Call g as ks p =>
      cases g with
      | Name x px =>
        match as, ks, h with
        | [a'], [], h =>
          have h : (bnOk c x "range" && mE c a a') = true := h
          simp only [Bool.and_eq_true] at h
          exact i_rng am h.1 (sndE a am h.2) (star_pl (mE_plain h.2))
        | [], _, h => exact nomatch (show false = true from h)
        | _ :: _ :: _, _, h => exact nomatch (show false = true from h)
        | [_], _ :: _, h => exact nomatch (show false = true from h)
      | _ => exact nomatch (show false = true from h)
    | _ => exact nomatch (show false = true from h)
  | .rng2 a b, X, c, e, am, h => fun tg => by
    cases e with
    | Call g as ks p =>
      cases g with
      | Name x px =>
        match as, ks, h with
        | [a', b'], [], h =>
          have h : (bnOk c x "range" && mE c a a' && mE c b b') = true := h
          simp only [Bool.and_eq_true] at h
          exact i_rng2 am h.1.1 (sndE a am h.1.2) (sndE b am h.2) (star_pl (mE_plain h.1.2)) (star_pl (mE_plain h.2))
        | [], _, h => exact nomatch (show false = true from h)
        | [_], _, h => exact nomatch (show false = true from h)
        | _ :: _ :: _ :: _, _, h => exact nomatch (show false = true from h)
        | [_, _], _ :: _, h => exact nomatch (show false = true from h)
      | _ => exact nomatch (show false = true from h)
    | _ => exact nomatch (show false = true from h)
end
end
end MP

/-! MiniPy, part 18: statements that match are sound; defs. -/
namespace MP
open PySem PySem.Spec PyProof.Rows L2
theorem swaps_pl {e : Expr} {t : Option Expr} {l : Nat} {env : Env} (h : isComp e = false) : swapsWith e t l env = pure false := by
  cases e <;> first
    | rfl
    | exact nomatch (show true = false from h)
theorem swaps_cel {e : Expr} {x : Str} {p : Pos} {l : Nat} {env : Env} (h : env.scope.names.lookup x = some .cell) : swapsWith e (some (.Name x p)) l env = pure false := by
  have k : (env.kindOf x == some .local) = false := by unfold Env.kindOf; rw [h]; rfl
  cases e <;> first
    | rfl
    | (unfold swapsWith; simp only [k, Bool.and_false, Bool.false_and])
theorem swaps_sub {e : Expr} {a b : Expr} {p : Pos} {l : Nat} {env : Env} : swapsWith e (some (.Subscript a b p)) l env = pure false := by
  cases e <;> rfl
theorem filt_nil {ts : List Expr} {f : Expr → Option Str} (hf : ∀ t, isNm t = false → f t = none) (h : ts.all (fun t => !isNm t) = true) : ts.filterMap f = [] := by
  induction ts with
  | nil => rfl
  | cons t ts ih =>
    simp only [List.all_cons, Bool.and_eq_true, Bool.not_eq_true'] at h
    rw [List.filterMap_cons, hf t h.1]
    exact ih h.2
theorem stores_none {t : Expr} {e : Expr} {env : Env} (h : (match t, e with | .Tuple .., .Tuple .. => false | .List .., .Tuple .. => false | _, _ => true) = true) : swappedStores [t] e env = pure none := by
  cases t <;> first
    | rfl
    | (cases e <;> first
        | rfl
        | exact nomatch (show false = true from h))
theorem stores_subs {t : Expr} {ts vs : List Expr} {a b : Nat} {p q : Pos} {env : Env} (h : (t :: ts).all (fun t => !isNm t) = true) : swappedStores [.Tuple (t :: ts) a p] (.Tuple vs b q) env = pure none := by
  unfold swappedStores
  dsimp only
  split
  · rfl
  split
  · rfl
  have hf : ∀ f : Expr → Option Str, (∀ t, isNm t = false → f t = none) → (t :: ts).filterMap f = [] := fun f hf => filt_nil hf h
  rw [hf _ (fun t ht => by cases t <;> first | rfl | exact nomatch (show true = false from ht))]
  rfl

theorem plain_nostar : ∀ {e : Expr}, plainE e = true → (match e with | .Starred .. => true | _ => false) = false := by
  intro e h
  cases e <;> first
    | rfl
    | exact nomatch (show false = true from h)
theorem stores_par {a' b' : Expr} {x y : Str} {px py p q : Pos} {k1 k2 : Nat} {env : Env} (hk : env.scope.kind = .function) (hx : env.scope.names.lookup x = some .local) (hy : env.scope.names.lookup y = some .local) (hl : (px.line == py.line) = true) (hxy : (x == y) = false)
    (ha : plainE a' = true) (hb : plainE b' = true) (hf : [a', b'].all (foldedForSure 8) = false) (hc : [a', b'].all (constantsAlone 8) = false) :
    swappedStores [.Tuple [.Name x px, .Name y py] k1 p] (.Tuple [a', b'] k2 q) env = pure (some [x, y]) := by
  have kx : (env.kindOf x == some .local) = true := by unfold Env.kindOf; rw [hx]; rfl
  have ky : (env.kindOf y == some .local) = true := by unfold Env.kindOf; rw [hy]; rfl
  have kb : env.blockKind = .function := by unfold Env.blockKind; rw [hk]; rfl
  have hl' : (py.line == px.line) = true := by
    simp only [beq_iff_eq] at hl ⊢
    exact hl.symm
  have hst : ([a', b'].any fun | .Starred .. => true | _ => false) = false := by
    have z1 := plain_nostar ha
    have z2 := plain_nostar hb
    simp only [List.any_cons, List.any_nil, Bool.or_false]
    rw [z1, z2]; rfl
  have hpl : (px.line == px.line) = true := by simp
  have hxy2 : x ≠ y := fun z => by subst z; simp at hxy
  have e1 : ([Expr.Name x px, Expr.Name y py].filterMap fun
    | .Name id pos => if env.kindOf id == some .local && pos.line == px.line then some id else none
    | _ => none) = [x, y] := by
    simp only [List.filterMap_cons, List.filterMap_nil, kx, ky, hpl, hl', Bool.and_self, if_true]
  have e2 : ([x, y].eraseDups).length = 2 := by
    simp [List.eraseDups_cons, Ne.symm hxy2]
  unfold swappedStores
  dsimp only
  rw [kb]
  simp only [List.head?_cons, Option.map_some, Option.getD_some, Expr.pos]
  refine (if_neg (by simp)).trans ?_
  refine (if_neg fun z => Bool.noConfusion (hst.symm.trans z)).trans ?_
  erw [e1]
  rw [e2, hf, hc]
  rfl
end MP

/-! MiniPy, part 19: statements that match are sound; defs. -/
namespace MP
open PySem PySem.Spec PyProof.Rows L2
theorem asg_one {t : Expr} {env : Env} (h : plainG t = true) : (assignEach [t] env).map (·.2) = [assign t env] := by rw [asg_pl h]; rfl
theorem sole_of {t e : Expr} {l : Nat} {env : Env} (h : swapsWith e (some t) l env = pure false) : swapsWithSole [t] e l env = pure false := h
theorem setOk_ok {c : Ctx} {tg : Tg} {t e : Expr} {l : Nat} {X : Cx} (hs : X.env.scope = c.sc) (hg : mG c tg t = true) (h : setOk c t e = true) : swapsWithSole [t] e l X.env = pure false ∧ swappedStores [t] e X.env = pure none := by
  cases t with
  | Name x p =>
    have h : (!isComp e || celB c.sc x) = true := h
    refine ⟨sole_of ?_, by cases e <;> rfl⟩
    rw [Bool.or_eq_true] at h
    rcases h with h | h
    · exact swaps_pl (by simpa using h)
    · refine swaps_cel ?_
      unfold celB at h
      rw [hs]
      split at h
      · assumption
      · cases h
  | Subscript a b p =>
    exact ⟨sole_of swaps_sub, by cases e <;> rfl⟩
  | Tuple ts k p =>
    refine ⟨sole_of ?_, ?_⟩
    · cases e <;> rfl
    · cases ts with
      | nil =>
        cases e <;> first
          | rfl
          | exact nomatch (show false = true from h)
      | cons t ts =>
        cases e with
        | Tuple vs b q => exact stores_subs h
        | _ => rfl
  | _ => cases tg <;> exact nomatch (show false = true from hg)
theorem par_inv {c : Ctx} {i j : Nat} {a b : E} {ts : List Expr} {e' : Expr} {p : Pos} (h : mS c (.par i j a b) (.Assign ts e' p) = true) : ∃ x px y py k1 p1 a' b' k2 p2, ts = [.Tuple [.Name x px, .Name y py] k1 p1] ∧ e' = .Tuple [a', b'] k2 p2 := by
  have h : mPar c i j a b ts e' = true := h
  unfold mPar at h
  split at h
  · split at h
    · split at h
      · split at h
        · split at h
          · split at h
            · split at h
              · exact ⟨_, _, _, _, _, _, _, _, _, _, rfl, rfl⟩
              · cases h
            · cases h
          · cases h
        · cases h
      · cases h
    · cases h
  · cases h
theorem setLc_inv {c : Ctx} {i : Nat} {elt : E} {tg : Tg} {it : MP.It} {cn : E} {ow : List Nat} {ts : List Expr} {e' : Expr} {p : Pos} (h : mS c (.setLc i elt tg it cn ow) (.Assign ts e' p) = true) : ∃ y py a tg' it' ifs ia scope q, ts = [.Name y py] ∧ e' = .ListComp a [⟨tg', it', ifs, ia⟩] scope q := by
  have h : mSetLc c i (.lc elt tg it cn ow) tg ow ts e' = true := h
  match ts, h with
  | [], h => exact nomatch (show false = true from h)
  | _ :: _ :: _, h => exact nomatch (show false = true from h)
  | [t], h =>
    cases t with
    | Name y py =>
      cases e' with
      | ListComp a gs scope q =>
        have h : (decide (c.N[i]? = some y) && lclB c.sc y && (py.line == q.line) && !(scope.names.any fun (n, k) => n == y && (k == .local || k == .cell)) && decide (∀ j ∈ tgS tg, j ∈ ow) && mE c (.lc elt tg it cn ow) (.ListComp a gs scope q)) = true := h
        rw [Bool.and_eq_true] at h
        have h := h.2
        match gs, h with
        | [⟨tg', it', ifs, ia⟩], h => exact ⟨y, py, a, tg', it', ifs, ia, scope, q, rfl, rfl⟩
        | [], h => exact nomatch (show false = true from h)
        | ⟨_, _, _, _⟩ :: ⟨_, _, _, _⟩ :: _, h => exact nomatch (show false = true from h)
      | _ => exact nomatch (show false = true from h)
    | _ => exact nomatch (show false = true from h)
section
variable {Γ : Tab} {k : Nat} {pn : List Nat}
mutual
theorem sndS : ∀ (m : S) {X : Cx} {c : Ctx} {e : Stmt}, Amb Γ k X c → X.env.scope.kind = .function → mS c m e = true → L2.PS X e (rS X.K Γ k pn m)
  | .set tg m, X, c, e, am, hk, h => by
    cases e with
    | Assign ts e' p =>
      match ts, h with
      | [t'], h =>
        have h : (mG c tg t' && mE c m e' && setOk c t' e') = true := h
        simp only [Bool.and_eq_true] at h
        obtain ⟨h1, h2⟩ := setOk_ok (l := p.line) am.sc h.1.1 h.2
        exact s_set (sndE m am h.1.2) (sndTg tg am h.1.1) h1 h2 (asg_one (mG_plain h.1.1))
      | [], h => exact nomatch (show false = true from h)
      | _ :: _ :: _, h => exact nomatch (show false = true from h)
    | _ => exact nomatch (show false = true from h)
  | .par i j a b, X, c, e, am, hk, h => by
    cases e with
    | Assign ts e' p =>
        obtain ⟨x, px, y, py, k1, p1, a', b', k2, p2, rfl, rfl⟩ := par_inv h
        have h : (decide (c.N[i]? = some x) && decide (c.N[j]? = some y) && lclB c.sc x && lclB c.sc y && decide (i ≠ j) && !(x == y) && mE c a a' && mE c b b' && (px.line == py.line) &&
          !([a', b'].all (foldedForSure 8)) && !([a', b'].all (constantsAlone 8))) = true := h
        rw [Bool.and_eq_true, Bool.and_eq_true, Bool.and_eq_true, Bool.and_eq_true, Bool.and_eq_true, Bool.and_eq_true, Bool.and_eq_true, Bool.and_eq_true, Bool.and_eq_true, Bool.and_eq_true] at h
        obtain ⟨⟨⟨⟨⟨⟨⟨⟨⟨⟨h1, h2⟩, h3⟩, h4⟩, h5⟩, h6⟩, h7⟩, h8⟩, h9⟩, h10⟩, h11⟩ := h
        have lcl : ∀ {x}, lclB c.sc x = true → X.env.scope.names.lookup x = some .local := fun {x} z => by
          rw [am.sc]
          unfold lclB at z
          split at z
          · assumption
          · cases z
        have pa := mE_plain h7
        have pb := mE_plain h8
        refine s_par am (by rw [am.N]; exact of_decide_eq_true h1) (by rw [am.N]; exact of_decide_eq_true h2) (of_decide_eq_true h5) (lcl h3) (lcl h4)
          (a_cons (sndE a am h7) (a_cons (sndE b am h8) a_nil (star_pl pb)) (star_pl pa)) (stores_par hk (lcl h3) (lcl h4) h9 (by simpa using h6) pa pb (by simpa only [Bool.not_eq_true'] using h10) (by simpa only [Bool.not_eq_true'] using h11)) rfl
    | _ => exact nomatch (show false = true from h)
  | .setLc i elt tg it cn ow, X, c, e, am, hk, h => by
    cases e with
    | Assign ts e0 p =>
        obtain ⟨y, py, e', tg', it', ifs, ia, scope, q, rfl, rfl⟩ := setLc_inv h
        have h : (decide (c.N[i]? = some y) && lclB c.sc y && (py.line == q.line) && !(scope.names.any fun (n, k) => n == y && (k == .local || k == .cell)) && decide (∀ j ∈ tgS tg, j ∈ ow) && mE c (.lc elt tg it cn ow) (.ListComp e' [⟨tg', it', ifs, ia⟩] scope q)) = true := h
        rw [Bool.and_eq_true, Bool.and_eq_true, Bool.and_eq_true, Bool.and_eq_true, Bool.and_eq_true] at h
        obtain ⟨⟨⟨⟨⟨g1, g2⟩, g3⟩, g4⟩, g5⟩, h⟩ := h
        have h : (decide (ia = 0) && blkC c.N c.sc scope (ownOf c ow) && (tgS tg).all (fun j => decide (j ∈ ow)) && mI c it it' && mG (c.blk scope) tg tg' && (match (generalizing := false) ifs with
          | [] => (match (generalizing := false) cn with | .noE => true | _ => false)
          | [t'] => (match (generalizing := false) cn with | .noE => false | _ => mE (c.blk scope) cn t')
          | _ => false) && mE (c.blk scope) elt e') = true := h
        simp only [Bool.and_eq_true] at h
        obtain ⟨⟨⟨⟨⟨⟨h0, h1⟩, h2⟩, h3⟩, h4⟩, h5⟩, h6⟩ := h
        have h0 : ia = 0 := of_decide_eq_true h0
        subst h0
        have hts : ∀ (s : Shared) (H : Hp) (C : Addr) (cl : List (Str × Addr)) (fp : List Addr), L2.PTs (X.blk s H scope (compEnvC scope cl C X.env) fp) ifs (rTs X.K Γ k pn cn) := fun s H C cl fp => by
          have amb := am.blk scope s H C cl fp
          split at h5
          · split at h5
            · exact ts_nil
            · cases h5
          · split at h5
            · cases h5
            · rename_i hne
              exact ts_one (sndT cn amb h5) hne
          · cases h5
        have hb : BlkOk X.N X.env.scope scope (ownOf c ow) := by rw [am.N, am.sc]; exact blkOk_by h1
        have hyl : X.env.scope.names.lookup y = some .local := by
          rw [am.sc]
          unfold lclB at g2
          split at g2
          · assumption
          · cases g2
        have hN : X.N[i]? = some y := by rw [am.N]; exact of_decide_eq_true g1
        have z := ps_setLc (pos := q) (spos := p) (py := py) (wi := rI X.K Γ k pn it) (g := rG X.K Γ k pn tg) (te := rE X.K Γ k pn elt) am.calm am.nd hN hyl (sw_true hk hyl g3 (by simpa using g4)) (sndIt it am h3 tg') hb (fun s H C cl fp => sndTg tg (am.blk scope s H C cl fp) h4) hts (fun s H C cl fp => sndE elt (am.blk scope s H C cl fp) h6) (fold_pl (mI_plain h3))
        rw [own_map] at z
        exact s_setLc am hN hyl (of_decide_eq_true g5) z
    | _ => exact nomatch (show false = true from h)
  | .aug i o m, X, c, e, am, hk, h => by
    cases e with
    | AugAssign t o' e' p =>
      cases t with
      | Name x px =>
        have h : (stOk c i x && visB c.sc x && (match (generalizing := false) o, o' with | .add, .Add => true | .sub, .Sub => true | _, _ => false) && mE c m e') = true := h
        simp only [Bool.and_eq_true] at h
        obtain ⟨⟨⟨h1, h2⟩, h3⟩, h4⟩ := h
        split at h3
        · exact s_aug am h1 (.inl rfl) (sndE m am h4)
        · exact s_aug am h1 (.inr rfl) (sndE m am h4)
        · cases h3
      | _ => exact nomatch (show false = true from h)
    | _ => exact nomatch (show false = true from h)
  | .ex m, X, c, e, am, hk, h => by
    cases e with
    | Expr e' p =>
      have h : (mE c m e' && !isComp e') = true := h
      simp only [Bool.and_eq_true, Bool.not_eq_true'] at h
      exact s_ex (sndE m am h.1) (swaps_pl h.2)
    | _ => exact nomatch (show false = true from h)
  | .ret m, X, c, e, am, hk, h => by
    cases e with
    | Return v p =>
      cases v with
      | some e' => exact s_ret (sndE m am h)
      | none => exact nomatch (show false = true from h)
    | _ => exact nomatch (show false = true from h)
  | .retN, X, c, e, am, hk, h => by
    cases e with
    | Return v p =>
      cases v with
      | none => exact s_retN
      | some e' => exact nomatch (show false = true from h)
    | _ => exact nomatch (show false = true from h)
  | .ife t a b, X, c, e, am, hk, h => by
    cases e with
    | If t' a' b' p =>
      have h : (mE c t t' && mSs c a a' && mSs c b b') = true := h
      simp only [Bool.and_eq_true] at h
      exact s_if (sndT t am h.1.1) (sndSs a am hk h.1.2) (sndSs b am hk h.2)
    | _ => exact nomatch (show false = true from h)
  | .for tg it b, X, c, e, am, hk, h => by
    cases e with
    | For tg' it' b' o p =>
      cases o with
      | nil =>
        have h : (mG c tg tg' && mI c it it' && mSs c b b') = true := h
        simp only [Bool.and_eq_true] at h
        exact s_for am (by rw [am.xe]; exact PassesOwn.never) (sndIt it am h.1.2 tg') (sndTg tg am h.1.1) (sndSs b am hk h.2) (fold_pl (mI_plain h.1.2))
      | cons => exact nomatch (show false = true from h)
    | _ => exact nomatch (show false = true from h)
  | .while t b, X, c, e, am, hk, h => by
    cases e with
    | While t' b' o p =>
      cases o with
      | nil =>
        have h : (mE c t t' && mSs c b b') = true := h
        simp only [Bool.and_eq_true] at h
        exact s_while (by rw [am.xe]; exact PassesOwn.never) (sndT t am h.1) (sndSs b am hk h.2)
      | cons => exact nomatch (show false = true from h)
    | _ => exact nomatch (show false = true from h)
  | .brk, X, c, e, am, hk, h => by
    cases e with
    | Break p => exact s_brk
    | _ => exact nomatch (show false = true from h)
  | .cnt, X, c, e, am, hk, h => by
    cases e with
    | Continue p => exact s_cnt
    | _ => exact nomatch (show false = true from h)
  | .pass, X, c, e, am, hk, h => by
    cases e with
    | Pass p => exact s_pass
    | _ => exact nomatch (show false = true from h)
theorem sndSs : ∀ (m : Ss) {X : Cx} {c : Ctx} {e : List Stmt}, Amb Γ k X c → X.env.scope.kind = .function → mSs c m e = true → L2.PSs X e (rSs X.K Γ k pn m)
  | .nil, X, c, e, am, hk, h => by
    cases e with
    | nil => exact s_nil
    | cons => exact nomatch (show false = true from h)
  | .cons s ss, X, c, e, am, hk, h => by
    cases e with
    | nil => exact nomatch (show false = true from h)
    | cons e es =>
      have h : (mS c s e && mSs c ss es) = true := h
      simp only [Bool.and_eq_true] at h
      exact s_cons (sndS s am hk h.1) (sndSs ss am hk h.2)
end
end
/-! defs -/
def finV (pn : List Nat) (n : Nat) (ρ : VEnv) : List (Option Val) := (List.range n).map fun i => if i ∈ pn then slotV ρ i else none
def startV (n : Nat) (ds : List Val) : VEnv := ds.map some ++ List.replicate (n - ds.length) none
def endV (g : Sig) (n : Nat) (Q : Val → List (Option Val) → Prop) : VEnds where
  nx := fun ρ' => Q (.im .non) (finV g.pn n ρ')
  rt := fun r ρ' => Q r (finV g.pn n ρ')
  bk := fun _ => False
  ct := fun _ => False
theorem finV_get {pn : List Nat} {n i : Nat} {ρ : VEnv} {d : Val} (h : (finV pn n ρ)[i]? = some (some d)) : i < n ∧ i ∈ pn ∧ ρ[i]? = some (some d) := by
  unfold finV at h
  rw [List.getElem?_map] at h
  by_cases hi : i < n
  · rw [List.getElem?_range hi] at h
    simp only [Option.map_some, Option.some.injEq] at h
    split at h
    · rename_i hp; exact ⟨hi, hp, slotV_some h⟩
    · cases h
  · rw [List.getElem?_eq_none (by simpa using Nat.le_of_not_lt hi)] at h
    cases h
theorem Rel.finish {K : PySem.W.Frag} {H : Hp} {F : Addr → HO → Prop} {G : Addr → Prop} {pn : List Nat} {ρ : VEnv} {σ : L2.St} {N : List Str} {vs : List V} {r : Val} {v : V} (p : Pin pn (L2.start N vs) σ) (R : Rel K H F G (some r :: ρ) (some v :: σ)) : Rel K H F G (some r :: finV pn vs.length ρ) (some v :: vs.map some) := by
  refine R.forget (by simp [finV]) fun i d h => ?_
  cases i with
  | zero => exact ⟨h, rfl⟩
  | succ i =>
    rw [List.getElem?_cons_succ] at h ⊢
    obtain ⟨h1, h2, h3⟩ := finV_get h
    refine ⟨h3, ?_⟩
    show (vs.map some)[i]? = σ[i]?
    rw [p.pin i h2]
    unfold L2.start
    rw [List.getElem?_append_left (by simpa using h1)]
structure DefOk (c : Ctx) (m : Ss) (scope : Scope) (body : List Stmt) : Prop where
  sc : c.sc = scope
  ws : c.ws = scope
  m : mSs c m body = true
/-- the def keeps its promise, given the ones below -/
theorem fn_ok {P : Program} {w : World} {K : PySem.W.Frag} {mg : Str → Option Value} {base : Heap} {x qual : Str} {params : Arguments} {body : List Stmt} {scope : Scope} {f : Addr} {fd : FuncData} {ps : List Str} {Γ : Tab} {k : Nat} {g : Sig} {m : Ss} {c : Ctx}
    (F : FunD K x qual params body scope [] [] f fd) (S : FnScope c.N ps scope) (D : DefOk c m scope body) (hbn : ∀ x ∈ c.bn, mg x = none) (hgc : c.gc = true → mg "gcd" = some (.builtin "math.gcd")) (hfs : ∀ x ∈ c.fs, ∃ fa, mg x = some (.ref fa) ∧ PySem.W.keepIn K (.ref fa) = true)
    (tab : TabOk P w K mg base Γ (k + 1)) (hlen : ∀ ds Q, g.sp ds Q → ds.length = ps.length) (hwp : ∀ ds Q, g.sp ds Q → wpSs Γ (k + 1) g.pn m (startV c.N.length ds) (endV g ps.length Q)) : FnOk P w K mg base CX0 (k + 1) f fd ps (spOf K g) := by
  refine F.ok S (fun vs H Q E ⟨F, G, ds, R, h⟩ => ?_) fun cdv A outer s H vs Q E hr ⟨F', G, ds, R, h⟩ => ?_
  · have := R.len
    simp at this
    rw [← this]; exact hlen _ _ h
  · have hl := R.len
    simp at hl
    have hp := hlen _ _ h
    have am : Amb Γ (k + 1) (cxOf CX0 P w K mg base c.N qual scope f cdv A outer s H E).nox c := by
      refine ⟨rfl, S.nd, D.sc.symm, ?_, ⟨k, rfl, hr⟩, rfl, fun y hy => ?_, hbn, hgc, hfs, tab⟩
      · rfl
      · rw [D.ws] at hy
        unfold locB at hy
        split at hy
        · rename_i e; exact ⟨.inl e, .inr e⟩
        · rename_i e; exact ⟨.inr e, .inl rfl⟩
        · cases hy
    refine ⟨rSs K Γ (k + 1) g.pn m, PSs.nox (sndSs m am S.kind D.m), ?_⟩
    refine ⟨F', G, [], [], startV c.N.length ds, ⟨rfl, ?_⟩, ?_⟩
    · refine R.forget (by unfold startV L2.start; simp [hl]) fun i d e => ?_
      have e : (startV c.N.length ds)[i]? = some (some d) := e
      unfold startV at e
      by_cases hi : i < ds.length
      · rw [List.getElem?_append_left (by simpa using hi)] at e
        refine ⟨e, ?_⟩
        show (L2.start c.N vs)[i]? = _
        unfold L2.start
        rw [List.getElem?_append_left (by simp; omega)]
      · rw [List.getElem?_append_right (by simp; omega)] at e
        have := List.mem_of_getElem? e
        rw [List.mem_replicate] at this
        cases this.2
    · refine wpSs.mono m _ _ _ ?_ (hwp _ _ h)
      have hv : ps.length = vs.length := by omega
      refine ⟨fun ρ q σ' H' p A => ?_, fun r ρ q v σ' H' p A => ?_, fun ρ q => q.elim, fun ρ q => q.elim⟩
      · refine q .non H' ?_
        rw [hv]
        obtain ⟨fp, r⟩ := A.rel
        exact Rel.finish p (r.push rfl)
      · refine q v H' ?_
        rw [hv]
        exact Rel.finish p A.rel
end MP

/-! MiniPy, part 20: small facts for the readings of texts. -/
namespace MP
open PySem PySem.Spec PyProof.Rows L2
theorem atN {l : List D} {n : Nat} {d : D} (h : l[n]? = some d) : atI l (n : Int) = some d := by
  have hn : n < l.length := (List.getElem?_eq_some_iff.mp h).1
  unfold atI ixN
  rw [if_pos (Int.natCast_nonneg n), if_pos (by omega)]
  simpa using h
theorem at0 {a : D} {l : List D} : atI (a :: l) 0 = some a := atN (n := 0) rfl
theorem at1 {a b : D} {l : List D} : atI (a :: b :: l) 1 = some b := atN (n := 1) rfl
theorem at2 {a b c : D} {l : List D} : atI (a :: b :: c :: l) 2 = some c := atN (n := 2) rfl
theorem at3 {a b c d : D} {l : List D} : atI (a :: b :: c :: d :: l) 3 = some d := atN (n := 3) rfl
theorem at4 {a b c d e : D} {l : List D} : atI (a :: b :: c :: d :: e :: l) 4 = some e := atN (n := 4) rfl
theorem at5 {a b c d e f : D} {l : List D} : atI (a :: b :: c :: d :: e :: f :: l) 5 = some f := atN (n := 5) rfl
theorem rngD_zero {lo : Int} : rngD lo 0 = [] := rfl
theorem rngD_succ {lo : Int} {n : Nat} : rngD lo (n + 1) = .int lo :: rngD (lo + 1) n := by
  unfold rngD
  rw [List.range_succ_eq_map, List.map_cons, List.map_map]
  congr 1
  · simp
  · apply List.map_congr_left
    intro i _
    show D.int (lo + ((i + 1 : Nat) : Int)) = .int (lo + 1 + i)
    congr 1
    omega
/-- a comprehension over encoded data -/
theorem lcL_ind {α : Type} {step : D → VEnv → (Option D → VEnv → Prop) → Prop} {ow : List Nat} {Q : List D → VEnv → Prop} (enc : α → D) (f : α → D) (I : VEnv → Prop) : ∀ (xs : List α) (ρ : VEnv) (acc : List D),
    (∀ x ∈ xs, ∀ (ρ : VEnv) (R : Option D → VEnv → Prop), I ρ → (∀ ρ', I ρ' → R (some (f x)) ρ') → step (enc x) (wipeV ρ ow) R) → I ρ → acc.length + xs.length ≤ 16777216 → (∀ ρ', I ρ' → Q (acc ++ xs.map f) ρ') → lcL step ow (xs.map enc) ρ acc Q
  | [], ρ, acc, _, hI, _, hQ => by
    have := hQ ρ hI
    rw [List.map_nil, List.append_nil] at this
    exact this
  | x :: xs, ρ, acc, hs, hI, hl, hQ => by
    refine hs x (List.mem_cons_self ..) ρ _ hI fun ρ' hI' => ⟨by simp at hl; omega, ?_⟩
    refine lcL_ind enc f I xs ρ' _ (fun y hy => hs y (List.mem_cons_of_mem _ hy)) hI' (by simp at hl ⊢; omega) fun ρ2 h2 => ?_
    have := hQ ρ2 h2
    simpa using this
/-- .. each item with a property of its own -/
theorem lcL_rel {α : Type} {step : D → VEnv → (Option D → VEnv → Prop) → Prop} {ow : List Nat} {Q : List D → VEnv → Prop} (I : VEnv → Prop) (enc : α → D) (P : α → Prop) : ∀ (ds : List D) (ρ : VEnv) (acc : List α),
    (∀ d ∈ ds, ∀ (ρ : VEnv) (R : Option D → VEnv → Prop), I ρ → (∀ x ρ', P x → I ρ' → R (some (enc x)) ρ') → step d (wipeV ρ ow) R) → I ρ → (∀ x ∈ acc, P x) → acc.length + ds.length ≤ 16777216 →
    (∀ (l : List α) ρ', l.length = acc.length + ds.length → (∀ x ∈ l, P x) → I ρ' → Q (l.map enc) ρ') → lcL step ow ds ρ (acc.map enc) Q
  | [], ρ, acc, _, hI, ha, _, hQ => hQ acc ρ (by simp) ha hI
  | d :: ds, ρ, acc, hs, hI, ha, hl, hQ => by
    refine hs d (List.mem_cons_self ..) ρ _ hI fun x ρ' hx hI' => ⟨by simp at hl ⊢; omega, ?_⟩
    have z := lcL_rel (Q := Q) I enc P ds ρ' (acc ++ [x]) (fun y hy => hs y (List.mem_cons_of_mem _ hy)) hI' (fun y hy => by
      rcases List.mem_append.mp hy with hy | hy
      · exact ha y hy
      · rw [List.mem_singleton] at hy; subst hy; exact hx) (by simp at hl ⊢; omega) fun l ρ2 h1 h2 h3 => hQ l ρ2 (by simp at h1 ⊢; omega) h2 h3
    simpa using z
/-- a for loop with an invariant -/
theorem forL_inv {step : D → VEnv → VEnds → Prop} {Z : VEnds} (J : List D → VEnv → Prop) (hs : ∀ d ds ρ, J (d :: ds) ρ → step d ρ { nx := J ds, ct := J ds, rt := Z.rt, bk := Z.nx })
    (mono : ∀ d ρ Z Z', VEnds.le Z Z' → step d ρ Z → step d ρ Z') (he : ∀ ρ, J [] ρ → Z.nx ρ) : ∀ (ds : List D) (ρ : VEnv), J ds ρ → forL step ds ρ Z
  | [], ρ, h => he ρ h
  | d :: ds, ρ, h => by
    unfold forL
    refine mono d ρ _ _ ?_ (hs d ds ρ h)
    exact ⟨fun ρ' q => forL_inv J hs mono he ds ρ' q, fun _ _ q => q, fun _ q => q, fun ρ' q => forL_inv J hs mono he ds ρ' q⟩
theorem cutD_all {l : List D} : cutD l none none = l := by
  unfold cutD HT.sIx
  simp

/-! shapes, equality -/
def Shn (n : Nat) (d : D) : Prop := (toP d).canLay0 = true ∧ (toP d).depth ≤ n
theorem Shn.shp {n : Nat} {d : D} (h : Shn n d) (hn : n ≤ 64) : MP.shp d := by
  unfold MP.shp SeqAt.shaped
  rw [h.1, Bool.true_and]
  exact decide_eq_true (Nat.le_trans h.2 hn)
theorem Shn.mono {a b : Nat} {d : D} (h : Shn a d) (l : a ≤ b) : Shn b d := ⟨h.1, Nat.le_trans h.2 l⟩
theorem Shn.int {n : Nat} {i : Int} : Shn n (.int i) := ⟨rfl, Nat.zero_le _⟩
theorem Shn.bl {n : Nat} {i : Bool} : Shn n (.bl i) := ⟨rfl, Nat.zero_le _⟩
theorem Shn.non {n : Nat} : Shn n .non := ⟨rfl, Nat.zero_le _⟩
theorem Shn.all {n : Nat} : ∀ {l : List D}, (∀ d ∈ l, Shn n d) → PyData.canLayAll0 (toPs l) = true ∧ PyData.depthAll (toPs l) ≤ n
  | [], _ => ⟨rfl, Nat.zero_le _⟩
  | d :: l, h => by
    have h1 := h d (List.mem_cons_self ..)
    have h2 := Shn.all (l := l) fun x hx => h x (List.mem_cons_of_mem _ hx)
    refine ⟨?_, ?_⟩
    · show ((toP d).canLay0 && PyData.canLayAll0 (toPs l)) = true
      rw [h1.1, h2.1]; rfl
    · show max (toP d).depth (PyData.depthAll (toPs l)) ≤ n
      exact Nat.max_le.mpr ⟨h1.2, h2.2⟩
theorem Shn.tup {n : Nat} {l : List D} (h : ∀ d ∈ l, Shn n d) : Shn (n + 1) (.tup l) := ⟨(Shn.all h).1, Nat.succ_le_succ (Shn.all h).2⟩
theorem Shn.lst {n : Nat} {l : List D} (h : ∀ d ∈ l, Shn n d) : Shn (n + 1) (.lst l) := ⟨(Shn.all h).1, Nat.succ_le_succ (Shn.all h).2⟩
theorem shp_int {i : Int} : MP.shp (.int i) = True := eq_true ((Shn.int (n := 0)).shp (by decide))
theorem shp_bl {i : Bool} : MP.shp (.bl i) = True := eq_true ((Shn.bl (n := 0)).shp (by decide))
theorem shp_non : MP.shp .non = True := eq_true ((Shn.non (n := 0)).shp (by decide))
theorem deq_int {i j : Int} : MP.deq (.int i) (.int j) = decide (i = j) := by
  show (i == j) = _
  by_cases h : i = j
  · subst h; simp
  · simp [h]
theorem deq_bl {i j : Bool} : MP.deq (.bl i) (.bl j) = (i == j) := rfl
theorem deq_nil : MP.deq (.tup []) (.tup []) = true := rfl
theorem deq_cons {a b : D} {l m : List D} : MP.deq (.tup (a :: l)) (.tup (b :: m)) = (MP.deq a b && MP.deq (.tup l) (.tup m)) := rfl
theorem wipeV_nil {ρ : VEnv} : wipeV ρ [] = ρ := rfl
theorem wipeV_cons {ρ : VEnv} {v : Nat} {vs : List Nat} : wipeV ρ (v :: vs) = (wipeV ρ vs).set v none := rfl
theorem at_pos {l : List D} {v : Int} (h0 : 0 ≤ v) (h1 : v < l.length) : ∃ d, atI l v = some d ∧ d ∈ l := by
  obtain ⟨n, rfl⟩ := Int.eq_ofNat_of_zero_le h0
  have hn : n < l.length := by omega
  exact ⟨l[n], atN (List.getElem?_eq_getElem hn), List.getElem_mem hn⟩
/-- a block without its first statements -/
def ssDrop : Nat → Ss → Ss
  | 0, s => s
  | _ + 1, .nil => .nil
  | n + 1, .cons _ s => ssDrop n s
/-- a for statement with an invariant over what is still to come -/
theorem for_inv {Γ : Tab} {k : Nat} {pn : List Nat} {tg : Tg} {it : MP.It} {b : Ss} {ρ : VEnv} {Z : VEnds} (J : List D → VEnv → Prop) (hi : MP.wpI Γ k pn it ρ J)
    (hs : ∀ d ds ρ, J (d :: ds) ρ → MP.wpG Γ k pn tg (.im d) ρ fun ρ3 => MP.wpSs Γ k pn b ρ3 { nx := J ds, ct := J ds, rt := Z.rt, bk := Z.nx }) (he : ∀ ρ, J [] ρ → Z.nx ρ) : MP.wpS Γ k pn (.for tg it b) ρ Z := by
  unfold MP.wpS
  refine wpI.mono it ρ _ _ (fun items ρ1 h => ?_) hi
  exact forL_inv (step := fun d ρ2 Z2 => MP.wpG Γ k pn tg (.im d) ρ2 fun ρ3 => MP.wpSs Γ k pn b ρ3 Z2) J hs (fun d ρ Z Z' h q => wpG.mono tg _ _ _ _ (fun ρ3 q => wpSs.mono b _ _ _ h q) q) he items ρ1 h
/-- a while statement with an invariant and a measure -/
theorem while_inv {Γ : Tab} {k : Nat} {pn : List Nat} {c : E} {b : Ss} {ρ : VEnv} {Z : VEnds} (J : Nat → VEnv → Prop) (n : Nat) (h : J n ρ)
    (hs : ∀ n ρ, J n ρ → MP.wpT Γ k pn c ρ fun t ρ' => if t = true then MP.wpSs Γ k pn b ρ' { nx := fun ρ2 => ∃ m, m < n ∧ J m ρ2, ct := fun ρ2 => ∃ m, m < n ∧ J m ρ2, rt := Z.rt, bk := Z.nx } else Z.nx ρ') : MP.wpS Γ k pn (.while c b) ρ Z := by
  unfold MP.wpS
  refine ⟨n + 1, ?_⟩
  have key : ∀ N n ρ, n < N → J n ρ → whlN (fun ρ1 Q => MP.wpT Γ k pn c ρ1 Q) (fun ρ1 Z1 => MP.wpSs Γ k pn b ρ1 Z1) N ρ Z := by
    intro N
    induction N with
    | zero => intro n ρ h; omega
    | succ N ih =>
      intro n ρ hn hJ
      unfold whlN
      refine wpT.mono c ρ _ _ (fun t ρ' q => ?_) (hs n ρ hJ)
      cases t with
      | false => simpa using q
      | true =>
        simp only [if_true] at q ⊢
        refine wpSs.mono b _ _ _ ?_ q
        exact ⟨fun ρ2 ⟨m, h1, h2⟩ => ih m ρ2 (by omega) h2, fun _ _ q => q, fun _ q => q, fun ρ2 ⟨m, h1, h2⟩ => ih m ρ2 (by omega) h2⟩
  exact key _ n ρ (Nat.lt_succ_self n) h
end MP

/-! MiniPy, part 21: what the head tells, built-ins by import too. -/
namespace MP
open PySem PySem.Spec PyProof.Rows L2
abbrev AlB : Type := He.AlD × List (Option (Option Value))
def obsB (fa : List He.Fa) (fn : List He.DefD) (bs : List (Str × Value)) (K : PySem.W.Frag) : AlB := (He.obsD fa fn K, bs.map fun b => PySem.W.nsIn K mainGlobals b.1)
def valB (fn : List He.DefD) (bs : List (Str × Value)) : AlB := (He.valD fn, bs.map fun b => some (some b.2))
def SaysB (fa : List He.Fa) (fn : List He.DefD) (bs : List (Str × Value)) (K : PySem.W.Frag) : Prop := obsB fa fn bs K = valB fn bs
def obsBG (n : Nat) (fa : List He.Fa) (fn : List He.DefD) (bs : List (Str × Value)) (g : Addr → Option Obj) : AlB := obsB fa fn bs (He.frG g (He.asD g n))
def hookB (n : Nat) (fa : List He.Fa) (fn : List He.DefD) (bs : List (Str × Value)) : PySem.W.Hook where
  α := AlB
  obs := fun s => obsBG n fa fn bs s.heap.get?
  val := fun _ => valB fn bs
  says := fun _ h => ∃ K : PySem.W.Frag, K.In h ∧ SaysB fa fn bs K
  of := fun _ _ e => ⟨_, He.frG_in, e⟩
  keeps := fun _ _ _ ⟨K, hK, c⟩ k => ⟨K, PySem.W.Frag.In.keeps hK k, c⟩
theorem obsBG_eq {n : Nat} {fa : List He.Fa} {fn : List He.DefD} {bs : List (Str × Value)} {g : Addr → Option Obj} {s : Shared} (h : ∀ a, g a = s.heap.get? a) : obsBG n fa fn bs g = (hookB n fa fn bs).obs s := by
  have e : g = s.heap.get? := funext h
  rw [e] <;> rfl
section
variable {fa : List He.Fa} {fn : List He.DefD} {bs : List (Str × Value)} {K : PySem.W.Frag}
theorem SaysB.toD (c : SaysB fa fn bs K) : He.SaysD fa fn K := congrArg (fun z : AlB => z.1) c
theorem SaysB.blt (c : SaysB fa fn bs K) {x : Str} {v : Value} (h : (x, v) ∈ bs) : PySem.W.nsIn K mainGlobals x = some (some v) := by
  have e : bs.map (fun b => PySem.W.nsIn K mainGlobals b.1) = bs.map fun b => some (some b.2) := congrArg (fun z : AlB => z.2) c
  obtain ⟨i, hi⟩ := List.getElem?_of_mem h
  have e2 : (bs.map (fun b => PySem.W.nsIn K mainGlobals b.1))[i]? = (bs.map fun b => some (some b.2))[i]? := by rw [e]
  rw [List.getElem?_map, List.getElem?_map, hi] at e2
  exact Option.some.inj e2
end
/-- all defs of the table, level by level -/
theorem tab_ok {P : Program} {w : World} {K : PySem.W.Frag} {mg : Str → Option Value} {base : Heap} {Γ : Tab} (h : ∀ f j g, Γ f j = some g → TabOk P w K mg base Γ j → ∀ fa, mg f = some (.ref fa) → ∃ (fd : FuncData) (ps : List Str), Binds K fd ps [] ∧ FnOk P w K mg base CX0 j fa fd ps (spOf K g)) : ∀ k, TabOk P w K mg base Γ k
  | 0 => fun f j g hj => absurd hj (Nat.not_lt_zero _)
  | k + 1 => fun f j g hj hg fa hfa => by
    have ih := tab_ok h k
    by_cases e : j < k
    · exact ih f j g e hg fa hfa
    · have : j = k := by omega
      subst this
      exact h f j g hg ih fa hfa
theorem ints_rep {K : PySem.W.Frag} {H : Hp} {S : Addr → Prop} : ∀ ns : List Int, RepDs K H S (ns.map D.int) (ns.map V.int)
  | [] => rfl
  | n :: ns => ⟨_, _, rfl, rfl, ints_rep ns⟩
/-- the script, as it comes -/
theorem script_rel {K : PySem.W.Frag} {H : Hp} {a : Addr} {ns : List Int} (h : SqL K H a (ns.map V.int)) : Rel K H (fun _ _ => False) (fun _ => False) [some (.im (.lst (ns.map D.int)))] [some (.ref a)] := by
  refine ⟨fun _ => [], rfl, fun i d e => ?_, fun i j a h => (List.not_mem_nil h).elim, fun _ => List.nodup_nil, fun _ _ => rfl, fun _ _ z => z.elim, fun _ z => z.elim, fun _ _ h => (List.not_mem_nil h).elim⟩
  cases i with
  | zero =>
    simp only [List.getElem?_cons_zero, Option.some.injEq] at e
    subst e
    refine ⟨_, rfl, ⟨a, _, rfl, ?_, ints_rep ns⟩, rfl⟩
    exact (KL.of h).imp_left fun z => ⟨⟨fun _ => List.not_mem_nil, fun z => z⟩, z⟩
  | succ i => simp at e
/-- the law's promise, as the head wants it -/
def spLaw (K : PySem.W.Frag) : Sp := fun vs H Q _ => ∃ (a : Addr) (ns : List Int), vs = [.ref a] ∧ ns.length ≤ 63 ∧ SqL K H a (ns.map V.int) ∧ ∀ H', Q (.bl true) H'
theorem law_imp {K : PySem.W.Frag} {g : MP.Sig} (hg : ∀ (ns : List Int) (Q : Val → List (Option Val) → Prop), ns.length ≤ 63 → (∀ ms, Q (.im (.bl true)) ms) → g.sp [.im (.lst (ns.map D.int))] Q) : ∀ vs H Q E, spLaw K vs H Q E → spOf K g vs H Q E := by
  rintro vs H Q E ⟨a, ns, rfl, hn, hs, hq⟩
  refine ⟨_, _, _, script_rel hs, hg ns _ hn fun ms v H' R => ?_⟩
  obtain ⟨fp, r⟩ := R
  obtain ⟨v', e1, q, _⟩ := r.rep 0 _ rfl
  simp only [List.getElem?_cons_zero, Option.some.injEq] at e1
  subst e1
  have q : v = .bl true := q
  subst q
  exact hq H'
end MP

/-! k76: the defs' texts. -/
namespace K76
open PySem PySem.Spec PyProof.Rows L2 MP
def top (i : Nat) : Stmt := PySem.Challenge.pw_planelaidout_k76_images_of_segments.main.body.getD i (.Pass ⟨0, 0, 0, 0⟩)
def N_fraction : List Str := ["n", "d", "divisor"]
def P_fraction : List Str := ["n", "d"]
def c_fraction : MP.Ctx := ⟨N_fraction, defScope (top 2), defScope (top 2), [], [], true⟩
def m_fraction : MP.Ss := .cons (.ife (.cmp .lt (.var 1) (.int 0)) (.cons (.par 0 1 (.neg (.var 0)) (.neg (.var 1))) (.nil)) (.nil)) (.cons (.set (.nm 2) (.bi .gcd (.cons (.var 0) (.cons (.var 1) (.nil))))) (.cons (.ret (.tup (.cons (.bin .fdiv (.var 0) (.var 2)) (.cons (.bin .fdiv (.var 1) (.var 2)) (.nil))))) (.nil)))
theorem sc_fraction : FnScope N_fraction P_fraction (defScope (top 2)) := ⟨rfl, rfl, rfl, by decide +kernel, rfl, by decide +kernel, by decide +kernel⟩
theorem d_fraction : DefOk c_fraction m_fraction (defScope (top 2)) (defBody (top 2)) := ⟨rfl, rfl, by decide +kernel⟩
def N_add : List Str := ["f", "g"]
def P_add : List Str := ["f", "g"]
def c_add : MP.Ctx := ⟨N_add, defScope (top 3), defScope (top 3), [], ["fraction"], false⟩
def m_add : MP.Ss := .cons (.ret (.call "fraction" (.cons (.bin .add (.bin .mul (.idx (.var 0) (.int 0)) (.idx (.var 1) (.int 1))) (.bin .mul (.idx (.var 1) (.int 0)) (.idx (.var 0) (.int 1)))) (.cons (.bin .mul (.idx (.var 0) (.int 1)) (.idx (.var 1) (.int 1))) (.nil))))) (.nil)
theorem sc_add : FnScope N_add P_add (defScope (top 3)) := ⟨rfl, rfl, rfl, by decide +kernel, rfl, by decide +kernel, by decide +kernel⟩
theorem d_add : DefOk c_add m_add (defScope (top 3)) (defBody (top 3)) := ⟨rfl, rfl, by decide +kernel⟩
def N_multiply : List Str := ["f", "g"]
def P_multiply : List Str := ["f", "g"]
def c_multiply : MP.Ctx := ⟨N_multiply, defScope (top 4), defScope (top 4), [], ["fraction"], false⟩
def m_multiply : MP.Ss := .cons (.ret (.call "fraction" (.cons (.bin .mul (.idx (.var 0) (.int 0)) (.idx (.var 1) (.int 0))) (.cons (.bin .mul (.idx (.var 0) (.int 1)) (.idx (.var 1) (.int 1))) (.nil))))) (.nil)
theorem sc_multiply : FnScope N_multiply P_multiply (defScope (top 4)) := ⟨rfl, rfl, rfl, by decide +kernel, rfl, by decide +kernel, by decide +kernel⟩
theorem d_multiply : DefOk c_multiply m_multiply (defScope (top 4)) (defBody (top 4)) := ⟨rfl, rfl, by decide +kernel⟩
def N_sign : List Str := ["n"]
def P_sign : List Str := ["n"]
def c_sign : MP.Ctx := ⟨N_sign, defScope (top 5), defScope (top 5), [], [], false⟩
def m_sign : MP.Ss := .cons (.ife (.cmp .eq (.var 0) (.int 0)) (.cons (.ret (.int 0)) (.nil)) (.nil)) (.cons (.ret (.ife (.cmp .gt (.var 0) (.int 0)) (.int 1) (.neg (.int 1)))) (.nil))
theorem sc_sign : FnScope N_sign P_sign (defScope (top 5)) := ⟨rfl, rfl, rfl, by decide +kernel, rfl, by decide +kernel, by decide +kernel⟩
theorem d_sign : DefOk c_sign m_sign (defScope (top 5)) (defBody (top 5)) := ⟨rfl, rfl, by decide +kernel⟩
def N_compare_fractions : List Str := ["f", "g"]
def P_compare_fractions : List Str := ["f", "g"]
def c_compare_fractions : MP.Ctx := ⟨N_compare_fractions, defScope (top 6), defScope (top 6), [], ["sign"], false⟩
def m_compare_fractions : MP.Ss := .cons (.ret (.call "sign" (.cons (.bin .sub (.bin .mul (.idx (.var 0) (.int 0)) (.idx (.var 1) (.int 1))) (.bin .mul (.idx (.var 1) (.int 0)) (.idx (.var 0) (.int 1)))) (.nil)))) (.nil)
theorem sc_compare_fractions : FnScope N_compare_fractions P_compare_fractions (defScope (top 6)) := ⟨rfl, rfl, rfl, by decide +kernel, rfl, by decide +kernel, by decide +kernel⟩
theorem d_compare_fractions : DefOk c_compare_fractions m_compare_fractions (defScope (top 6)) (defBody (top 6)) := ⟨rfl, rfl, by decide +kernel⟩
def N_compare_points : List Str := ["p", "q", "first"]
def P_compare_points : List Str := ["p", "q"]
def c_compare_points : MP.Ctx := ⟨N_compare_points, defScope (top 8), defScope (top 8), [], ["compare_fractions"], false⟩
def m_compare_points : MP.Ss := .cons (.set (.nm 2) (.call "compare_fractions" (.cons (.idx (.var 0) (.int 0)) (.cons (.idx (.var 1) (.int 0)) (.nil))))) (.cons (.ife (.cmp .ne (.var 2) (.int 0)) (.cons (.ret (.var 2)) (.nil)) (.nil)) (.cons (.ret (.call "compare_fractions" (.cons (.idx (.var 0) (.int 1)) (.cons (.idx (.var 1) (.int 1)) (.nil))))) (.nil)))
theorem sc_compare_points : FnScope N_compare_points P_compare_points (defScope (top 8)) := ⟨rfl, rfl, rfl, by decide +kernel, rfl, by decide +kernel, by decide +kernel⟩
theorem d_compare_points : DefOk c_compare_points m_compare_points (defScope (top 8)) (defBody (top 8)) := ⟨rfl, rfl, by decide +kernel⟩
def N_segment : List Str := ["p", "q"]
def P_segment : List Str := ["p", "q"]
def c_segment : MP.Ctx := ⟨N_segment, defScope (top 10), defScope (top 10), [], ["compare_points"], false⟩
def m_segment : MP.Ss := .cons (.ret (.ife (.cmp .lt (.call "compare_points" (.cons (.var 0) (.cons (.var 1) (.nil)))) (.int 0)) (.tup (.cons (.var 0) (.cons (.var 1) (.nil)))) (.tup (.cons (.var 1) (.cons (.var 0) (.nil)))))) (.nil)
theorem sc_segment : FnScope N_segment P_segment (defScope (top 10)) := ⟨rfl, rfl, rfl, by decide +kernel, rfl, by decide +kernel, by decide +kernel⟩
theorem d_segment : DefOk c_segment m_segment (defScope (top 10)) (defBody (top 10)) := ⟨rfl, rfl, by decide +kernel⟩
def N_image_of_point : List Str := ["matrix", "point", "a", "b", "c"]
def P_image_of_point : List Str := ["matrix", "point"]
def c_image_of_point : MP.Ctx := ⟨N_image_of_point, defScope (top 12), defScope (top 12), ["tuple"], ["add", "multiply"], false⟩
def m_image_of_point : MP.Ss := .cons (.ret (.bi .toTuple (.cons (.lc (.call "add" (.cons (.call "add" (.cons (.call "multiply" (.cons (.var 2) (.cons (.idx (.var 1) (.int 0)) (.nil)))) (.cons (.call "multiply" (.cons (.var 3) (.cons (.idx (.var 1) (.int 1)) (.nil)))) (.nil)))) (.cons (.var 4) (.nil)))) (.tup (.cons (.nm 2) (.cons (.nm 3) (.cons (.nm 4) (.nil))))) (.e (.var 0)) (.noE) [2, 3, 4]) (.nil)))) (.nil)
theorem sc_image_of_point : FnScope N_image_of_point P_image_of_point (defScope (top 12)) := ⟨rfl, rfl, rfl, by decide +kernel, rfl, by decide +kernel, by decide +kernel⟩
theorem d_image_of_point : DefOk c_image_of_point m_image_of_point (defScope (top 12)) (defBody (top 12)) := ⟨rfl, rfl, by decide +kernel⟩
def N_image_of_segments : List Str := ["matrix", "segments", "low", "high"]
def P_image_of_segments : List Str := ["matrix", "segments"]
def c_image_of_segments : MP.Ctx := ⟨N_image_of_segments, defScope (top 13), defScope (top 13), ["tuple"], ["image_of_point", "segment"], false⟩
def m_image_of_segments : MP.Ss := .cons (.ret (.bi .toTuple (.cons (.lc (.call "segment" (.cons (.call "image_of_point" (.cons (.var 0) (.cons (.var 2) (.nil)))) (.cons (.call "image_of_point" (.cons (.var 0) (.cons (.var 3) (.nil)))) (.nil)))) (.tup (.cons (.nm 2) (.cons (.nm 3) (.nil)))) (.e (.var 1)) (.noE) [2, 3]) (.nil)))) (.nil)
theorem sc_image_of_segments : FnScope N_image_of_segments P_image_of_segments (defScope (top 13)) := ⟨rfl, rfl, rfl, by decide +kernel, rfl, by decide +kernel, by decide +kernel⟩
theorem d_image_of_segments : DefOk c_image_of_segments m_image_of_segments (defScope (top 13)) (defBody (top 13)) := ⟨rfl, rfl, by decide +kernel⟩
def N_law_draws : List Str := ["script", "many", "cells", "left", "draws", "k", "place", "cell", "mixed"]
def P_law_draws : List Str := ["script", "many"]
def c_law_draws : MP.Ctx := ⟨N_law_draws, defScope (top 15), defScope (top 15), ["int", "len", "list", "range"], [], false⟩
def m_law_draws : MP.Ss := .cons (.setLc 2 (.bin .mod (.bi .toInt (.cons (.var 7) (.nil))) (.bin .shl (.int 1) (.int 7200))) (.nm 7) (.e (.slc (.var 0) (.noE) (.int 63))) (.noE) [7]) (.cons (.ife (.cmp .eq (.bi .len (.cons (.bor 2) (.nil))) (.int 0)) (.cons (.ex (.mt .append 2 (.cons (.int 0) (.nil)))) (.nil)) (.nil)) (.cons (.set (.nm 3) (.bi .toList (.cons (.bor 2) (.nil)))) (.cons (.set (.nm 4) (.lst (.nil))) (.cons (.for (.nm 5) (.rng (.var 1)) (.cons (.set (.nm 6) (.bin .mod (.bi .toInt (.cons (.var 5) (.nil))) (.bi .len (.cons (.bor 2) (.nil))))) (.cons (.ife (.and (.cmp .ge (.idx (.bor 2) (.var 6)) (.bin .pow (.int 10) (.int 18))) (.cmp .gt (.idx (.bor 3) (.var 6)) (.int 0))) (.cons (.ex (.mt .append 4 (.cons (.bin .mod (.bi .toInt (.cons (.idx (.bor 3) (.var 6)) (.nil))) (.int 1000)) (.nil)))) (.cons (.set (.sub 3 (.var 6)) (.bin .fdiv (.idx (.bor 3) (.var 6)) (.int 1000))) (.nil))) (.cons (.set (.nm 8) (.bin .mod (.bi .toInt (.cons (.bin .add (.bin .add (.bin .mul (.idx (.bor 2) (.var 6)) (.int 48271)) (.bin .mul (.var 5) (.int 69621))) (.int 11)) (.nil))) (.int 2147483647))) (.cons (.ex (.mt .append 4 (.cons (.bin .mod (.bi .toInt (.cons (.bin .add (.bin .add (.bin .mul (.var 8) (.var 8)) (.bin .mul (.int 3) (.var 8))) (.var 5)) (.nil))) (.int 1000003)) (.nil)))) (.nil)))) (.nil)))) (.cons (.ex (.mt .reverse 4 (.nil))) (.cons (.ret (.bor 4)) (.nil)))))))
theorem sc_law_draws : FnScope N_law_draws P_law_draws (defScope (top 15)) := ⟨rfl, rfl, rfl, by decide +kernel, rfl, by decide +kernel, by decide +kernel⟩
theorem d_law_draws : DefOk c_law_draws m_law_draws (defScope (top 15)) (defBody (top 15)) := ⟨rfl, rfl, by decide +kernel⟩
def N_law_take : List Str := ["draws", "many"]
def P_law_take : List Str := ["draws", "many"]
def c_law_take : MP.Ctx := ⟨N_law_take, defScope (top 16), defScope (top 16), ["int", "len"], [], false⟩
def m_law_take : MP.Ss := .cons (.ife (.cmp .eq (.bi .len (.cons (.bor 0) (.nil))) (.int 0)) (.cons (.ret (.int 0)) (.nil)) (.nil)) (.cons (.ret (.bin .mod (.bi .toInt (.cons (.mt .pop 0 (.nil)) (.nil))) (.var 1))) (.nil))
theorem sc_law_take : FnScope N_law_take P_law_take (defScope (top 16)) := ⟨rfl, rfl, rfl, by decide +kernel, rfl, by decide +kernel, by decide +kernel⟩
theorem d_law_take : DefOk c_law_take m_law_take (defScope (top 16)) (defBody (top 16)) := ⟨rfl, rfl, by decide +kernel⟩
def N_law_pick : List Str := ["draws", "row"]
def P_law_pick : List Str := ["draws", "row"]
def c_law_pick : MP.Ctx := ⟨N_law_pick, defScope (top 17), defScope (top 17), ["len"], ["_law_take"], false⟩
def m_law_pick : MP.Ss := .cons (.ret (.idx (.var 1) (.call "_law_take" (.cons (.bor 0) (.cons (.bi .len (.cons (.var 1) (.nil))) (.nil)))))) (.nil)
theorem sc_law_pick : FnScope N_law_pick P_law_pick (defScope (top 17)) := ⟨rfl, rfl, rfl, by decide +kernel, rfl, by decide +kernel, by decide +kernel⟩
theorem d_law_pick : DefOk c_law_pick m_law_pick (defScope (top 17)) (defBody (top 17)) := ⟨rfl, rfl, by decide +kernel⟩
def N_law_same : List Str := ["actual", "due", "k"]
def P_law_same : List Str := ["actual", "due"]
def c_law_same : MP.Ctx := ⟨N_law_same, defScope (top 18), defScope (top 18), ["bool", "int", "isinstance", "len", "list", "range", "str", "tuple"], ["_law_same"], false⟩
def m_law_same : MP.Ss := .cons (.ife (.isi (.var 1) [.tuple, .list] true) (.cons (.ife (.or (.cmp .ne (.isi (.var 0) [.tuple] false) (.isi (.var 1) [.tuple] false)) (.cmp .ne (.isi (.var 0) [.list] false) (.isi (.var 1) [.list] false))) (.cons (.ret (.bl false)) (.nil)) (.nil)) (.cons (.ife (.cmp .ne (.bi .len (.cons (.var 0) (.nil))) (.bi .len (.cons (.var 1) (.nil)))) (.cons (.ret (.bl false)) (.nil)) (.nil)) (.cons (.ret (.cmp .notin (.bl false) (.lc (.call "_law_same" (.cons (.idx (.var 0) (.var 2)) (.cons (.idx (.var 1) (.var 2)) (.nil)))) (.nm 2) (.rng (.bi .len (.cons (.var 1) (.nil)))) (.noE) [2]))) (.nil)))) (.nil)) (.cons (.ife (.or (.cmp .ne (.isi (.var 0) [.bool] false) (.isi (.var 1) [.bool] false)) (.cmp .ne (.isi (.var 0) [.int] false) (.isi (.var 1) [.int] false))) (.cons (.ret (.bl false)) (.nil)) (.nil)) (.cons (.ife (.or (.cmp .ne (.isi (.var 0) [.str] false) (.isi (.var 1) [.str] false)) (.cmp .ne (.cmp .isN (.var 0) (.non)) (.cmp .isN (.var 1) (.non)))) (.cons (.ret (.bl false)) (.nil)) (.nil)) (.cons (.ret (.cmp .eq (.var 0) (.var 1))) (.nil))))
theorem sc_law_same : FnScope N_law_same P_law_same (defScope (top 18)) := ⟨rfl, rfl, rfl, by decide +kernel, rfl, by decide +kernel, by decide +kernel⟩
theorem d_law_same : DefOk c_law_same m_law_same (defScope (top 18)) (defBody (top 18)) := ⟨rfl, rfl, by decide +kernel⟩
def N_law_gcd : List Str := ["one", "other", "a", "b", "turn", "c"]
def P_law_gcd : List Str := ["one", "other"]
def c_law_gcd : MP.Ctx := ⟨N_law_gcd, defScope (top 19), defScope (top 19), ["abs", "int", "range"], [], false⟩
def m_law_gcd : MP.Ss := .cons (.set (.nm 2) (.bi .abs (.cons (.var 0) (.nil)))) (.cons (.set (.nm 3) (.bi .abs (.cons (.var 1) (.nil)))) (.cons (.for (.nm 4) (.rng (.int 20000)) (.cons (.ife (.cmp .eq (.var 3) (.int 0)) (.cons (.brk) (.nil)) (.nil)) (.cons (.set (.nm 5) (.bin .mod (.bi .toInt (.cons (.var 2) (.nil))) (.var 3))) (.cons (.set (.nm 2) (.var 3)) (.cons (.set (.nm 3) (.var 5)) (.nil)))))) (.cons (.ret (.var 2)) (.nil))))
theorem sc_law_gcd : FnScope N_law_gcd P_law_gcd (defScope (top 19)) := ⟨rfl, rfl, rfl, by decide +kernel, rfl, by decide +kernel, by decide +kernel⟩
theorem d_law_gcd : DefOk c_law_gcd m_law_gcd (defScope (top 19)) (defBody (top 19)) := ⟨rfl, rfl, by decide +kernel⟩
def N_law_frac : List Str := ["n", "d", "c"]
def P_law_frac : List Str := ["n", "d"]
def c_law_frac : MP.Ctx := ⟨N_law_frac, defScope (top 20), defScope (top 20), ["max"], ["_law_gcd"], false⟩
def m_law_frac : MP.Ss := .cons (.set (.nm 2) (.bi .max2 (.cons (.int 1) (.cons (.call "_law_gcd" (.cons (.var 0) (.cons (.var 1) (.nil)))) (.nil))))) (.cons (.ife (.cmp .lt (.var 1) (.int 0)) (.cons (.set (.nm 2) (.bin .sub (.int 0) (.var 2))) (.nil)) (.nil)) (.cons (.ret (.tup (.cons (.bin .fdiv (.var 0) (.var 2)) (.cons (.bin .fdiv (.var 1) (.var 2)) (.nil))))) (.nil)))
theorem sc_law_frac : FnScope N_law_frac P_law_frac (defScope (top 20)) := ⟨rfl, rfl, rfl, by decide +kernel, rfl, by decide +kernel, by decide +kernel⟩
theorem d_law_frac : DefOk c_law_frac m_law_frac (defScope (top 20)) (defBody (top 20)) := ⟨rfl, rfl, by decide +kernel⟩
def N_law_plus : List Str := ["one", "other"]
def P_law_plus : List Str := ["one", "other"]
def c_law_plus : MP.Ctx := ⟨N_law_plus, defScope (top 21), defScope (top 21), [], ["_law_frac"], false⟩
def m_law_plus : MP.Ss := .cons (.ret (.call "_law_frac" (.cons (.bin .add (.bin .mul (.idx (.var 0) (.int 0)) (.idx (.var 1) (.int 1))) (.bin .mul (.idx (.var 1) (.int 0)) (.idx (.var 0) (.int 1)))) (.cons (.bin .mul (.idx (.var 0) (.int 1)) (.idx (.var 1) (.int 1))) (.nil))))) (.nil)
theorem sc_law_plus : FnScope N_law_plus P_law_plus (defScope (top 21)) := ⟨rfl, rfl, rfl, by decide +kernel, rfl, by decide +kernel, by decide +kernel⟩
theorem d_law_plus : DefOk c_law_plus m_law_plus (defScope (top 21)) (defBody (top 21)) := ⟨rfl, rfl, by decide +kernel⟩
def N_law_minus : List Str := ["one", "other"]
def P_law_minus : List Str := ["one", "other"]
def c_law_minus : MP.Ctx := ⟨N_law_minus, defScope (top 22), defScope (top 22), [], ["_law_frac"], false⟩
def m_law_minus : MP.Ss := .cons (.ret (.call "_law_frac" (.cons (.bin .sub (.bin .mul (.idx (.var 0) (.int 0)) (.idx (.var 1) (.int 1))) (.bin .mul (.idx (.var 1) (.int 0)) (.idx (.var 0) (.int 1)))) (.cons (.bin .mul (.idx (.var 0) (.int 1)) (.idx (.var 1) (.int 1))) (.nil))))) (.nil)
theorem sc_law_minus : FnScope N_law_minus P_law_minus (defScope (top 22)) := ⟨rfl, rfl, rfl, by decide +kernel, rfl, by decide +kernel, by decide +kernel⟩
theorem d_law_minus : DefOk c_law_minus m_law_minus (defScope (top 22)) (defBody (top 22)) := ⟨rfl, rfl, by decide +kernel⟩
def N_law_product : List Str := ["one", "other"]
def P_law_product : List Str := ["one", "other"]
def c_law_product : MP.Ctx := ⟨N_law_product, defScope (top 23), defScope (top 23), [], ["_law_frac"], false⟩
def m_law_product : MP.Ss := .cons (.ret (.call "_law_frac" (.cons (.bin .mul (.idx (.var 0) (.int 0)) (.idx (.var 1) (.int 0))) (.cons (.bin .mul (.idx (.var 0) (.int 1)) (.idx (.var 1) (.int 1))) (.nil))))) (.nil)
theorem sc_law_product : FnScope N_law_product P_law_product (defScope (top 23)) := ⟨rfl, rfl, rfl, by decide +kernel, rfl, by decide +kernel, by decide +kernel⟩
theorem d_law_product : DefOk c_law_product m_law_product (defScope (top 23)) (defBody (top 23)) := ⟨rfl, rfl, by decide +kernel⟩
def N_law_less : List Str := ["one", "other"]
def P_law_less : List Str := ["one", "other"]
def c_law_less : MP.Ctx := ⟨N_law_less, defScope (top 24), defScope (top 24), [], [], false⟩
def m_law_less : MP.Ss := .cons (.ret (.cmp .lt (.bin .mul (.idx (.var 0) (.int 0)) (.idx (.var 1) (.int 1))) (.bin .mul (.idx (.var 1) (.int 0)) (.idx (.var 0) (.int 1))))) (.nil)
theorem sc_law_less : FnScope N_law_less P_law_less (defScope (top 24)) := ⟨rfl, rfl, rfl, by decide +kernel, rfl, by decide +kernel, by decide +kernel⟩
theorem d_law_less : DefOk c_law_less m_law_less (defScope (top 24)) (defBody (top 24)) := ⟨rfl, rfl, by decide +kernel⟩
def N_law_ahead : List Str := ["p", "q"]
def P_law_ahead : List Str := ["p", "q"]
def c_law_ahead : MP.Ctx := ⟨N_law_ahead, defScope (top 25), defScope (top 25), [], ["_law_less"], false⟩
def m_law_ahead : MP.Ss := .cons (.ife (.cmp .ne (.idx (.var 0) (.int 0)) (.idx (.var 1) (.int 0))) (.cons (.ret (.call "_law_less" (.cons (.idx (.var 0) (.int 0)) (.cons (.idx (.var 1) (.int 0)) (.nil))))) (.nil)) (.nil)) (.cons (.ret (.call "_law_less" (.cons (.idx (.var 0) (.int 1)) (.cons (.idx (.var 1) (.int 1)) (.nil))))) (.nil))
theorem sc_law_ahead : FnScope N_law_ahead P_law_ahead (defScope (top 25)) := ⟨rfl, rfl, rfl, by decide +kernel, rfl, by decide +kernel, by decide +kernel⟩
theorem d_law_ahead : DefOk c_law_ahead m_law_ahead (defScope (top 25)) (defBody (top 25)) := ⟨rfl, rfl, by decide +kernel⟩
def N_law_joining : List Str := ["p", "q"]
def P_law_joining : List Str := ["p", "q"]
def c_law_joining : MP.Ctx := ⟨N_law_joining, defScope (top 26), defScope (top 26), [], ["_law_ahead"], false⟩
def m_law_joining : MP.Ss := .cons (.ret (.ife (.call "_law_ahead" (.cons (.var 0) (.cons (.var 1) (.nil)))) (.tup (.cons (.var 0) (.cons (.var 1) (.nil)))) (.tup (.cons (.var 1) (.cons (.var 0) (.nil)))))) (.nil)
theorem sc_law_joining : FnScope N_law_joining P_law_joining (defScope (top 26)) := ⟨rfl, rfl, rfl, by decide +kernel, rfl, by decide +kernel, by decide +kernel⟩
theorem d_law_joining : DefOk c_law_joining m_law_joining (defScope (top 26)) (defBody (top 26)) := ⟨rfl, rfl, by decide +kernel⟩
def N_law_step : List Str := ["a", "n"]
def P_law_step : List Str := ["a", "n"]
def c_law_step : MP.Ctx := ⟨N_law_step, defScope (top 27), defScope (top 27), [], [], false⟩
def m_law_step : MP.Ss := .cons (.ret (.tup (.cons (.bin .add (.idx (.var 0) (.int 0)) (.bin .mul (.var 1) (.idx (.var 0) (.int 1)))) (.cons (.idx (.var 0) (.int 1)) (.nil))))) (.nil)
theorem sc_law_step : FnScope N_law_step P_law_step (defScope (top 27)) := ⟨rfl, rfl, rfl, by decide +kernel, rfl, by decide +kernel, by decide +kernel⟩
theorem d_law_step : DefOk c_law_step m_law_step (defScope (top 27)) (defBody (top 27)) := ⟨rfl, rfl, by decide +kernel⟩
def N_law_corner : List Str := ["draws", "size", "den", "x"]
def P_law_corner : List Str := ["draws", "size", "den"]
def c_law_corner : MP.Ctx := ⟨N_law_corner, defScope (top 28), defScope (top 28), [], ["_law_frac", "_law_take"], false⟩
def m_law_corner : MP.Ss := .cons (.set (.nm 3) (.call "_law_frac" (.cons (.call "_law_take" (.cons (.bor 0) (.cons (.bin .add (.bin .mul (.var 1) (.var 2)) (.int 1)) (.nil)))) (.cons (.var 2) (.nil))))) (.cons (.ret (.tup (.cons (.var 3) (.cons (.call "_law_frac" (.cons (.call "_law_take" (.cons (.bor 0) (.cons (.bin .add (.bin .mul (.var 1) (.var 2)) (.int 1)) (.nil)))) (.cons (.var 2) (.nil)))) (.nil))))) (.nil))
theorem sc_law_corner : FnScope N_law_corner P_law_corner (defScope (top 28)) := ⟨rfl, rfl, rfl, by decide +kernel, rfl, by decide +kernel, by decide +kernel⟩
theorem d_law_corner : DefOk c_law_corner m_law_corner (defScope (top 28)) (defBody (top 28)) := ⟨rfl, rfl, by decide +kernel⟩
def N_law_drawn_one : List Str := ["draws", "size", "den", "p", "q"]
def P_law_drawn_one : List Str := ["draws", "size", "den"]
def c_law_drawn_one : MP.Ctx := ⟨N_law_drawn_one, defScope (top 29), defScope (top 29), [], ["_law_corner", "_law_joining", "_law_step"], false⟩
def m_law_drawn_one : MP.Ss := .cons (.set (.nm 3) (.call "_law_corner" (.cons (.bor 0) (.cons (.var 1) (.cons (.var 2) (.nil)))))) (.cons (.set (.nm 4) (.call "_law_corner" (.cons (.bor 0) (.cons (.var 1) (.cons (.var 2) (.nil)))))) (.cons (.ife (.cmp .eq (.var 3) (.var 4)) (.cons (.set (.nm 4) (.tup (.cons (.call "_law_step" (.cons (.idx (.var 4) (.int 0)) (.cons (.int 1) (.nil)))) (.cons (.idx (.var 4) (.int 1)) (.nil))))) (.nil)) (.nil)) (.cons (.ret (.call "_law_joining" (.cons (.var 3) (.cons (.var 4) (.nil))))) (.nil))))
theorem sc_law_drawn_one : FnScope N_law_drawn_one P_law_drawn_one (defScope (top 29)) := ⟨rfl, rfl, rfl, by decide +kernel, rfl, by decide +kernel, by decide +kernel⟩
theorem d_law_drawn_one : DefOk c_law_drawn_one m_law_drawn_one (defScope (top 29)) (defBody (top 29)) := ⟨rfl, rfl, by decide +kernel⟩
def N_law_moved_spot : List Str := ["point", "factor", "shift", "x"]
def P_law_moved_spot : List Str := ["point", "factor", "shift"]
def c_law_moved_spot : MP.Ctx := ⟨N_law_moved_spot, defScope (top 30), defScope (top 30), [], ["_law_plus", "_law_product"], false⟩
def m_law_moved_spot : MP.Ss := .cons (.set (.nm 3) (.call "_law_plus" (.cons (.call "_law_product" (.cons (.idx (.var 0) (.int 0)) (.cons (.tup (.cons (.var 1) (.cons (.int 1) (.nil)))) (.nil)))) (.cons (.tup (.cons (.var 2) (.cons (.int 1) (.nil)))) (.nil))))) (.cons (.ret (.tup (.cons (.var 3) (.cons (.call "_law_plus" (.cons (.call "_law_product" (.cons (.idx (.var 0) (.int 1)) (.cons (.tup (.cons (.var 1) (.cons (.int 1) (.nil)))) (.nil)))) (.cons (.tup (.cons (.bin .sub (.int 0) (.var 2)) (.cons (.int 1) (.nil)))) (.nil)))) (.nil))))) (.nil))
theorem sc_law_moved_spot : FnScope N_law_moved_spot P_law_moved_spot (defScope (top 30)) := ⟨rfl, rfl, rfl, by decide +kernel, rfl, by decide +kernel, by decide +kernel⟩
theorem d_law_moved_spot : DefOk c_law_moved_spot m_law_moved_spot (defScope (top 30)) (defBody (top 30)) := ⟨rfl, rfl, by decide +kernel⟩
def N_law_drawn : List Str := ["draws", "many", "size", "den", "told", "factor", "shift", "k", "one"]
def P_law_drawn : List Str := ["draws", "many"]
def c_law_drawn : MP.Ctx := ⟨N_law_drawn, defScope (top 31), defScope (top 31), ["range", "tuple"], ["_law_drawn_one", "_law_moved_spot", "_law_pick", "_law_take"], false⟩
def m_law_drawn : MP.Ss := .cons (.set (.nm 2) (.call "_law_pick" (.cons (.bor 0) (.cons (.lst (.cons (.int 2) (.cons (.int 3) (.cons (.int 3) (.cons (.int 5) (.nil)))))) (.nil))))) (.cons (.set (.nm 3) (.call "_law_pick" (.cons (.bor 0) (.cons (.lst (.cons (.int 1) (.cons (.int 1) (.cons (.int 2) (.cons (.int 3) (.nil)))))) (.nil))))) (.cons (.setLc 4 (.call "_law_drawn_one" (.cons (.bor 0) (.cons (.var 2) (.cons (.var 3) (.nil))))) (.nm 7) (.rng (.var 1)) (.noE) [7]) (.cons (.set (.nm 5) (.int 1)) (.cons (.ife (.cmp .eq (.call "_law_take" (.cons (.bor 0) (.cons (.int 6) (.nil)))) (.int 0)) (.cons (.set (.nm 5) (.call "_law_pick" (.cons (.bor 0) (.cons (.lst (.cons (.int 7) (.cons (.bin .add (.bin .pow (.int 10) (.int 9)) (.int 7)) (.cons (.bin .add (.bin .pow (.int 10) (.int 20)) (.int 39)) (.nil))))) (.nil))))) (.nil)) (.nil)) (.cons (.set (.nm 6) (.call "_law_pick" (.cons (.bor 0) (.cons (.lst (.cons (.int 0) (.cons (.int 0) (.cons (.neg (.int 2)) (.cons (.neg (.int 1)) (.cons (.bin .pow (.int 10) (.int 6)) (.nil))))))) (.nil))))) (.cons (.ife (.and (.cmp .eq (.var 5) (.int 1)) (.cmp .eq (.var 6) (.int 0))) (.cons (.ret (.bi .toTuple (.cons (.bor 4) (.nil)))) (.nil)) (.nil)) (.cons (.ret (.bi .toTuple (.cons (.lc (.tup (.cons (.call "_law_moved_spot" (.cons (.idx (.var 8) (.int 0)) (.cons (.var 5) (.cons (.var 6) (.nil))))) (.cons (.call "_law_moved_spot" (.cons (.idx (.var 8) (.int 1)) (.cons (.var 5) (.cons (.var 6) (.nil))))) (.nil)))) (.nm 8) (.e (.fz 4)) (.noE) [8]) (.nil)))) (.nil))))))))
theorem sc_law_drawn : FnScope N_law_drawn P_law_drawn (defScope (top 31)) := ⟨rfl, rfl, rfl, by decide +kernel, rfl, by decide +kernel, by decide +kernel⟩
theorem d_law_drawn : DefOk c_law_drawn m_law_drawn (defScope (top 31)) (defBody (top 31)) := ⟨rfl, rfl, by decide +kernel⟩
def N_law_drawn_matrix : List Str := ["draws", "row", "way", "k"]
def P_law_drawn_matrix : List Str := ["draws"]
def c_law_drawn_matrix : MP.Ctx := ⟨N_law_drawn_matrix, defScope (top 32), defScope (top 32), ["range", "tuple"], ["_law_frac", "_law_minus", "_law_product", "_law_take"], false⟩
def m_law_drawn_matrix : MP.Ss := .cons (.setLc 1 (.call "_law_frac" (.cons (.bin .sub (.call "_law_take" (.cons (.bor 0) (.cons (.int 7) (.nil)))) (.int 3)) (.cons (.bin .add (.int 1) (.call "_law_take" (.cons (.bor 0) (.cons (.int 2) (.nil))))) (.nil)))) (.nm 3) (.rng (.int 6)) (.noE) [3]) (.cons (.ife (.cmp .eq (.call "_law_take" (.cons (.bor 0) (.cons (.int 5) (.nil)))) (.int 0)) (.cons (.set (.sub 1 (.int 2)) (.tup (.cons (.bin .add (.bin .pow (.int 10) (.int 12)) (.int 39)) (.cons (.int 7) (.nil))))) (.nil)) (.nil)) (.cons (.ife (.cmp .eq (.idx (.call "_law_minus" (.cons (.call "_law_product" (.cons (.idx (.bor 1) (.int 0)) (.cons (.idx (.bor 1) (.int 4)) (.nil)))) (.cons (.call "_law_product" (.cons (.idx (.bor 1) (.int 1)) (.cons (.idx (.bor 1) (.int 3)) (.nil)))) (.nil)))) (.int 0)) (.int 0)) (.cons (.set (.nm 2) (.call "_law_take" (.cons (.bor 0) (.cons (.int 2) (.nil))))) (.cons (.set (.tup (.cons (.sub 1 (.int 0)) (.cons (.sub 1 (.int 1)) (.nil)))) (.tup (.cons (.tup (.cons (.bin .sub (.int 1) (.var 2)) (.cons (.int 1) (.nil)))) (.cons (.tup (.cons (.var 2) (.cons (.int 1) (.nil)))) (.nil))))) (.cons (.set (.tup (.cons (.sub 1 (.int 3)) (.cons (.sub 1 (.int 4)) (.nil)))) (.tup (.cons (.tup (.cons (.var 2) (.cons (.int 1) (.nil)))) (.cons (.tup (.cons (.bin .sub (.var 2) (.int 1)) (.cons (.int 1) (.nil)))) (.nil))))) (.nil)))) (.nil)) (.cons (.ret (.tup (.cons (.bi .toTuple (.cons (.slc (.bor 1) (.noE) (.int 3)) (.nil))) (.cons (.bi .toTuple (.cons (.slc (.bor 1) (.int 3) (.noE)) (.nil))) (.nil))))) (.nil))))
theorem sc_law_drawn_matrix : FnScope N_law_drawn_matrix P_law_drawn_matrix (defScope (top 32)) := ⟨rfl, rfl, rfl, by decide +kernel, rfl, by decide +kernel, by decide +kernel⟩
theorem d_law_drawn_matrix : DefOk c_law_drawn_matrix m_law_drawn_matrix (defScope (top 32)) (defBody (top 32)) := ⟨rfl, rfl, by decide +kernel⟩
def N_law_imaged : List Str := ["matrix", "point", "told", "a", "b", "c"]
def P_law_imaged : List Str := ["matrix", "point"]
def c_law_imaged : MP.Ctx := ⟨N_law_imaged, defScope (top 33), defScope (top 33), ["tuple"], ["_law_plus", "_law_product"], false⟩
def m_law_imaged : MP.Ss := .cons (.set (.nm 2) (.lst (.nil))) (.cons (.for (.tup (.cons (.nm 3) (.cons (.nm 4) (.cons (.nm 5) (.nil))))) (.e (.var 0)) (.cons (.ex (.mt .append 2 (.cons (.call "_law_plus" (.cons (.call "_law_plus" (.cons (.call "_law_product" (.cons (.var 3) (.cons (.idx (.var 1) (.int 0)) (.nil)))) (.cons (.call "_law_product" (.cons (.var 4) (.cons (.idx (.var 1) (.int 1)) (.nil)))) (.nil)))) (.cons (.var 5) (.nil)))) (.nil)))) (.nil))) (.cons (.ret (.bi .toTuple (.cons (.bor 2) (.nil)))) (.nil)))
theorem sc_law_imaged : FnScope N_law_imaged P_law_imaged (defScope (top 33)) := ⟨rfl, rfl, rfl, by decide +kernel, rfl, by decide +kernel, by decide +kernel⟩
theorem d_law_imaged : DefOk c_law_imaged m_law_imaged (defScope (top 33)) (defBody (top 33)) := ⟨rfl, rfl, by decide +kernel⟩
def N_law_imaged_all : List Str := ["matrix", "segments", "one"]
def P_law_imaged_all : List Str := ["matrix", "segments"]
def c_law_imaged_all : MP.Ctx := ⟨N_law_imaged_all, defScope (top 34), defScope (top 34), ["tuple"], ["_law_imaged", "_law_joining"], false⟩
def m_law_imaged_all : MP.Ss := .cons (.ret (.bi .toTuple (.cons (.lc (.call "_law_joining" (.cons (.call "_law_imaged" (.cons (.var 0) (.cons (.idx (.var 2) (.int 0)) (.nil)))) (.cons (.call "_law_imaged" (.cons (.var 0) (.cons (.idx (.var 2) (.int 1)) (.nil)))) (.nil)))) (.nm 2) (.e (.var 1)) (.noE) [2]) (.nil)))) (.nil)
theorem sc_law_imaged_all : FnScope N_law_imaged_all P_law_imaged_all (defScope (top 34)) := ⟨rfl, rfl, rfl, by decide +kernel, rfl, by decide +kernel, by decide +kernel⟩
theorem d_law_imaged_all : DefOk c_law_imaged_all m_law_imaged_all (defScope (top 34)) (defBody (top 34)) := ⟨rfl, rfl, by decide +kernel⟩
def N_law : List Str := ["script", "draws", "many", "one", "matrix", "segments", "turn"]
def P_law : List Str := ["script"]
def c_law : MP.Ctx := ⟨N_law, defScope (top 35), defScope (top 35), ["range"], ["_law_drawn", "_law_drawn_matrix", "_law_draws", "_law_imaged_all", "_law_same", "_law_take", "image_of_segments"], false⟩
def m_law : MP.Ss := .cons (.set (.nm 1) (.call "_law_draws" (.cons (.var 0) (.cons (.int 400) (.nil))))) (.cons (.for (.nm 2) (.e (.lst (.cons (.int 0) (.cons (.int 1) (.cons (.int 3) (.cons (.bin .add (.int 1) (.call "_law_take" (.cons (.bor 1) (.cons (.int 8) (.nil))))) (.nil))))))) (.cons (.set (.nm 5) (.call "_law_drawn" (.cons (.bor 1) (.cons (.var 2) (.nil))))) (.cons (.set (.nm 5) (.bin .add (.var 5) (.slc (.var 5) (.noE) (.int 1)))) (.cons (.for (.nm 6) (.rng (.int 2)) (.cons (.set (.nm 4) (.call "_law_drawn_matrix" (.cons (.bor 1) (.nil)))) (.cons (.ife (.not (.call "_law_same" (.cons (.call "image_of_segments" (.cons (.var 4) (.cons (.var 5) (.nil)))) (.cons (.call "_law_imaged_all" (.cons (.var 4) (.cons (.var 5) (.nil)))) (.nil))))) (.cons (.ret (.bl false)) (.nil)) (.nil)) (.nil)))) (.nil))))) (.cons (.set (.nm 3) (.tup (.cons (.tup (.cons (.tup (.cons (.int 0) (.cons (.int 1) (.nil)))) (.cons (.tup (.cons (.int 0) (.cons (.int 1) (.nil)))) (.nil)))) (.cons (.tup (.cons (.tup (.cons (.int 2) (.cons (.int 1) (.nil)))) (.cons (.tup (.cons (.int 1) (.cons (.int 1) (.nil)))) (.nil)))) (.nil))))) (.cons (.set (.nm 4) (.tup (.cons (.tup (.cons (.tup (.cons (.neg (.int 1)) (.cons (.int 2) (.nil)))) (.cons (.tup (.cons (.int 0) (.cons (.int 1) (.nil)))) (.cons (.tup (.cons (.int 1) (.cons (.int 1) (.nil)))) (.nil))))) (.cons (.tup (.cons (.tup (.cons (.int 0) (.cons (.int 1) (.nil)))) (.cons (.tup (.cons (.int 3) (.cons (.int 1) (.nil)))) (.cons (.tup (.cons (.int 0) (.cons (.int 1) (.nil)))) (.nil))))) (.nil))))) (.cons (.ret (.call "_law_same" (.cons (.call "image_of_segments" (.cons (.var 4) (.cons (.tup (.cons (.var 3) (.nil))) (.nil)))) (.cons (.tup (.cons (.tup (.cons (.tup (.cons (.tup (.cons (.int 0) (.cons (.int 1) (.nil)))) (.cons (.tup (.cons (.int 3) (.cons (.int 1) (.nil)))) (.nil)))) (.cons (.tup (.cons (.tup (.cons (.int 1) (.cons (.int 1) (.nil)))) (.cons (.tup (.cons (.int 0) (.cons (.int 1) (.nil)))) (.nil)))) (.nil)))) (.nil))) (.nil))))) (.nil)))))
theorem sc_law : FnScope N_law P_law (defScope (top 35)) := ⟨rfl, rfl, rfl, by decide +kernel, rfl, by decide +kernel, by decide +kernel⟩
theorem d_law : DefOk c_law m_law (defScope (top 35)) (defBody (top 35)) := ⟨rfl, rfl, by decide +kernel⟩
end K76

/-! k76: plain data, promises. -/
namespace K76
open PySem PySem.Spec PyProof.Rows L2 MP
/-- a promise, by typed data -/
def sgOf {α : Type} (pn : List Nat) (enc : α → List Val) (Pre : α → Prop) (Post : α → Val → List (Option Val) → Prop) : MP.Sig :=
  ⟨pn, fun ds Q => ∃ x, ds = enc x ∧ Pre x ∧ ∀ r ms, Post x r ms → Q r ms, fun _ _ _ h ⟨x, e, p, q⟩ => ⟨x, e, p, fun r ms z => h r ms (q r ms z)⟩⟩
abbrev Fr := Int × Int
abbrev Pt := Fr × Fr
abbrev Sg := Pt × Pt
abbrev Rw := Fr × Fr × Fr
abbrev Mx := Rw × Rw
def fr (f : Fr) : D := .tup [.int f.1, .int f.2]
def pt (p : Pt) : D := .tup [fr p.1, fr p.2]
def sg (s : Sg) : D := .tup [pt s.1, pt s.2]
def rw3 (r : Rw) : D := .tup [fr r.1, fr r.2.1, fr r.2.2]
def mx (m : Mx) : D := .tup [rw3 m.1, rw3 m.2]
def sgs (l : List Sg) : D := .tup (l.map sg)
def dints (l : List Int) : List D := l.map D.int
def gcdI (n d : Int) : Int := (Nat.gcd n.natAbs d.natAbs : Nat)
def fracF (n d : Int) : Fr := if d < 0 then ((-n).fdiv (gcdI (-n) (-d)), (-d).fdiv (gcdI (-n) (-d))) else (n.fdiv (gcdI n d), d.fdiv (gcdI n d))
def addF (f g : Fr) : Fr := fracF (f.1 * g.2 + g.1 * f.2) (f.2 * g.2)
def subF (f g : Fr) : Fr := fracF (f.1 * g.2 - g.1 * f.2) (f.2 * g.2)
def mulF (f g : Fr) : Fr := fracF (f.1 * g.1) (f.2 * g.2)
def sgnI (n : Int) : Int := if n = 0 then 0 else if 0 < n then 1 else -1
def cmpF (f g : Fr) : Int := sgnI (f.1 * g.2 - g.1 * f.2)
def cmpP (p q : Pt) : Int := if cmpF p.1 q.1 ≠ 0 then cmpF p.1 q.1 else cmpF p.2 q.2
def segF (p q : Pt) : Sg := if cmpP p q < 0 then (p, q) else (q, p)
def lessF (f g : Fr) : Bool := decide (f.1 * g.2 < g.1 * f.2)
def aheadF (p q : Pt) : Bool := if p.1 ≠ q.1 then lessF p.1 q.1 else lessF p.2 q.2
def joinF (p q : Pt) : Sg := if aheadF p q = true then (p, q) else (q, p)
def rowF (r : Rw) (p : Pt) : Fr := addF (addF (mulF r.1 p.1) (mulF r.2.1 p.2)) r.2.2
def imgF (m : Mx) (p : Pt) : Pt := (rowF m.1 p, rowF m.2 p)
/-- a fraction in lowest terms, of bounded size -/
structure FB (n : Nat) (f : Fr) : Prop where
  num : f.1.natAbs < 2 ^ n
  pos : 0 < f.2
  den : f.2.natAbs < 2 ^ n
  cop : Nat.gcd f.1.natAbs f.2.natAbs = 1
def PB (n : Nat) (p : Pt) : Prop := FB n p.1 ∧ FB n p.2
def SB (n : Nat) (s : Sg) : Prop := PB n s.1 ∧ PB n s.2
def RB (n : Nat) (r : Rw) : Prop := FB n r.1 ∧ FB n r.2.1 ∧ FB n r.2.2
def MB (n : Nat) (m : Mx) : Prop := RB n m.1 ∧ RB n m.2
theorem pow_le {a b : Nat} (h : a ≤ b) : 2 ^ a ≤ 2 ^ b := Nat.pow_le_pow_right (by decide) h
theorem FB.mono {a b : Nat} {f : Fr} (h : FB a f) (l : a ≤ b) : FB b f := ⟨Nat.lt_of_lt_of_le h.num (pow_le l), h.pos, Nat.lt_of_lt_of_le h.den (pow_le l), h.cop⟩
theorem PB.mono {a b : Nat} {f : Pt} (h : PB a f) (l : a ≤ b) : PB b f := ⟨h.1.mono l, h.2.mono l⟩
theorem lg {x a : Nat} (h : x < 2 ^ a) : x.log2 ≤ a := by
  by_cases z : x = 0
  · subst z; rw [Nat.log2_zero]; exact Nat.zero_le _
  · exact Nat.le_of_lt ((Nat.log2_lt z).mpr h)
theorem mul_lt {x y : Int} {a b : Nat} (h1 : x.natAbs < 2 ^ a) (h2 : y.natAbs < 2 ^ b) : (x * y).natAbs < 2 ^ (a + b) := by
  rw [Int.natAbs_mul, Nat.pow_add]
  exact Nat.mul_lt_mul'' h1 h2
theorem add_lt {x y : Int} {a : Nat} (h1 : x.natAbs < 2 ^ a) (h2 : y.natAbs < 2 ^ a) : (x + y).natAbs < 2 ^ (a + 1) := by
  have := Int.natAbs_add_le x y
  rw [Nat.pow_succ]
  omega
theorem sub_lt {x y : Int} {a : Nat} (h1 : x.natAbs < 2 ^ a) (h2 : y.natAbs < 2 ^ a) : (x - y).natAbs < 2 ^ (a + 1) := by
  have : (x - y).natAbs ≤ x.natAbs + y.natAbs := by omega
  rw [Nat.pow_succ]
  omega
theorem gcdI_pos {n d : Int} (h : d ≠ 0) : 0 < gcdI n d := by
  unfold gcdI
  have : 0 < Nat.gcd n.natAbs d.natAbs := Nat.gcd_pos_of_pos_right _ (by omega)
  omega
theorem gcdI_le {n d : Int} (h : d ≠ 0) : (gcdI n d).natAbs ≤ d.natAbs := by
  unfold gcdI
  simpa using Nat.gcd_le_right n.natAbs (by omega : 0 < d.natAbs)
theorem fdiv_nat {x g : Int} (hg : 0 < g) (hd : g ∣ x) : (x.fdiv g).natAbs = x.natAbs / g.natAbs := by
  rw [Int.fdiv_eq_ediv_of_dvd hd]
  exact Int.natAbs_ediv_of_dvd hd
theorem gcdI_dvd1 {n d : Int} : gcdI n d ∣ n := by unfold gcdI; exact Int.ofNat_dvd_left.mpr (Nat.gcd_dvd_left _ _)
theorem gcdI_dvd2 {n d : Int} : gcdI n d ∣ d := by unfold gcdI; exact Int.ofNat_dvd_left.mpr (Nat.gcd_dvd_right _ _)
theorem low {a : Nat} {n d : Int} (hd : 0 < d) (hn : n.natAbs < 2 ^ a) (hd2 : d.natAbs < 2 ^ a) : FB a (n.fdiv (gcdI n d), d.fdiv (gcdI n d)) := by
  have g := gcdI_pos (n := n) (d := d) (by omega)
  have e1 := fdiv_nat g (gcdI_dvd1 (n := n) (d := d))
  have e2 := fdiv_nat g (gcdI_dvd2 (n := n) (d := d))
  have hG : (gcdI n d).natAbs = Nat.gcd n.natAbs d.natAbs := by unfold gcdI; simp
  have hgp : 0 < Nat.gcd n.natAbs d.natAbs := by omega
  refine ⟨?_, ?_, ?_, ?_⟩
  · show (n.fdiv (gcdI n d)).natAbs < _
    rw [e1]; exact Nat.lt_of_le_of_lt (Nat.div_le_self _ _) hn
  · show 0 < d.fdiv (gcdI n d)
    rw [Int.fdiv_eq_ediv_of_dvd gcdI_dvd2]
    exact Int.ediv_pos_of_pos_of_dvd hd (Int.le_of_lt g) gcdI_dvd2
  · show (d.fdiv (gcdI n d)).natAbs < _
    rw [e2]; exact Nat.lt_of_le_of_lt (Nat.div_le_self _ _) hd2
  · show Nat.gcd (n.fdiv (gcdI n d)).natAbs (d.fdiv (gcdI n d)).natAbs = 1
    rw [e1, e2, hG]
    rw [Nat.gcd_div (Nat.gcd_dvd_left _ _) (Nat.gcd_dvd_right _ _)]
    exact Nat.div_self hgp
theorem FB.frac {a : Nat} {n d : Int} (hd : d ≠ 0) (hn : n.natAbs < 2 ^ a) (hd2 : d.natAbs < 2 ^ a) : FB a (fracF n d) := by
  unfold fracF
  split
  · exact low (by omega) (by simpa using hn) (by simpa using hd2)
  · exact low (by omega) hn hd2
theorem FB.add {a b : Nat} {f g : Fr} (h1 : FB a f) (h2 : FB b g) : FB (a + b + 1) (addF f g) := by
  have p1 := mul_lt h1.num h2.den
  have p2 := mul_lt h2.num h1.den
  have p3 := mul_lt h1.den h2.den
  rw [Nat.add_comm b a] at p2
  refine FB.frac ?_ (add_lt p1 p2) (Nat.lt_of_lt_of_le p3 (pow_le (Nat.le_succ _)))
  exact Int.ne_of_gt (Int.mul_pos h1.pos h2.pos)
theorem FB.sub {a b : Nat} {f g : Fr} (h1 : FB a f) (h2 : FB b g) : FB (a + b + 1) (subF f g) := by
  have p1 := mul_lt h1.num h2.den
  have p2 := mul_lt h2.num h1.den
  have p3 := mul_lt h1.den h2.den
  rw [Nat.add_comm b a] at p2
  refine FB.frac ?_ (sub_lt p1 p2) (Nat.lt_of_lt_of_le p3 (pow_le (Nat.le_succ _)))
  exact Int.ne_of_gt (Int.mul_pos h1.pos h2.pos)
theorem FB.mul {a b : Nat} {f g : Fr} (h1 : FB a f) (h2 : FB b g) : FB (a + b) (mulF f g) :=
  FB.frac (Int.ne_of_gt (Int.mul_pos h1.pos h2.pos)) (mul_lt h1.num h2.num) (mul_lt h1.den h2.den)
/-- in lowest terms, the cross product tells equality -/
theorem cross {a b : Nat} {f g : Fr} (h1 : FB a f) (h2 : FB b g) (h : f.1 * g.2 = g.1 * f.2) : f = g := by
  have p1 := h1.pos
  have p2 := h2.pos
  have hN : f.1.natAbs * g.2.natAbs = g.1.natAbs * f.2.natAbs := by rw [← Int.natAbs_mul, ← Int.natAbs_mul, h]
  have d1 : f.2.natAbs ∣ g.2.natAbs := by
    have c := h1.cop
    rw [Nat.gcd_comm] at c
    exact Nat.Coprime.dvd_of_dvd_mul_left c ⟨g.1.natAbs, by rw [hN, Nat.mul_comm]⟩
  have d2 : g.2.natAbs ∣ f.2.natAbs := by
    have c := h2.cop
    rw [Nat.gcd_comm] at c
    exact Nat.Coprime.dvd_of_dvd_mul_left c ⟨f.1.natAbs, by rw [← hN, Nat.mul_comm]⟩
  have e : f.2.natAbs = g.2.natAbs := Nat.dvd_antisymm d1 d2
  have e2 : f.2 = g.2 := by omega
  have e1 : f.1 = g.1 := by
    rw [e2] at h
    exact Int.eq_of_mul_eq_mul_right (by omega) h
  exact Prod.ext e1 e2
theorem sgn_neg {n : Int} : sgnI n < 0 ↔ n < 0 := by unfold sgnI; split <;> (try split) <;> omega
theorem sgn_zero {n : Int} : sgnI n = 0 ↔ n = 0 := by unfold sgnI; split <;> (try split) <;> omega
theorem seg_join {a b : Nat} {p q : Pt} (h1 : PB a p) (h2 : PB b q) : segF p q = joinF p q := by
  have e : (cmpP p q < 0) ↔ aheadF p q = true := by
    unfold cmpP aheadF cmpF lessF
    by_cases z : p.1 = q.1
    · rw [if_neg (by rw [z]; simp [sgnI]), if_neg (by simpa using z), sgn_neg, decide_eq_true_eq]; omega
    · rw [if_pos z, if_pos (fun y => z (cross h1.1 h2.1 (by rw [sgn_zero] at y; omega))), sgn_neg, decide_eq_true_eq]; omega
  unfold segF joinF
  by_cases z : cmpP p q < 0
  · rw [if_pos z, if_pos (e.mp z)]
  · rw [if_neg z, if_neg fun y => z (e.mpr y)]
/-! the law's own way -/
def lfracF (n d : Int) : Fr := let c := if d < 0 then 0 - (if gcdI n d > 1 then gcdI n d else 1) else (if gcdI n d > 1 then gcdI n d else 1); (n.fdiv c, d.fdiv c)
theorem fdiv_neg2 {x g : Int} (hg : 0 < g) (hd : g ∣ x) : x.fdiv (0 - g) = (-x).fdiv g := by
  rw [Int.fdiv_eq_ediv_of_dvd (by rw [Int.zero_sub]; exact Int.neg_dvd.mpr hd), Int.fdiv_eq_ediv_of_dvd (Int.dvd_neg.mpr hd), Int.zero_sub, Int.ediv_neg]
  exact (Int.neg_ediv_of_dvd hd).symm
theorem lfrac_eq {n d : Int} (h : d ≠ 0) : lfracF n d = fracF n d := by
  have g := gcdI_pos (n := n) h
  have e : (if gcdI n d > 1 then gcdI n d else 1) = gcdI n d := by split <;> omega
  have en : gcdI (-n) (-d) = gcdI n d := by unfold gcdI; simp
  unfold lfracF fracF
  rw [e, en]
  by_cases z : d < 0
  · simp only [if_pos z]
    rw [fdiv_neg2 g gcdI_dvd1, fdiv_neg2 g gcdI_dvd2]
  · simp only [if_neg z]
end K76

/-! k76: the promises. -/
namespace K76
open PySem PySem.Spec PyProof.Rows L2 MP
abbrev iD (i : Int) : Val := .im (.int i)
abbrev dr (l : List Int) : Val := .ml (dints l)
def gFraction : MP.Sig := sgOf (α := Int × Int) [] (fun x => [iD x.1, iD x.2]) (fun x => x.2 ≠ 0 ∧ x.1.natAbs < 2 ^ 8000 ∧ x.2.natAbs < 2 ^ 8000) fun x r ms => r = .im (fr (fracF x.1 x.2)) ∧ ms = [none, none]
def gF2 (f : Fr → Fr → Fr) : MP.Sig := sgOf (α := Fr × Fr) [] (fun x => [.im (fr x.1), .im (fr x.2)]) (fun x => ∃ a b, FB a x.1 ∧ FB b x.2 ∧ a + b + 1 ≤ 8000) fun x r ms => r = .im (fr (f x.1 x.2)) ∧ ms = [none, none]
def gSign : MP.Sig := sgOf (α := Int) [] (fun n => [iD n]) (fun _ => True) fun n r ms => r = iD (sgnI n) ∧ ms = [none]
def gCmpF : MP.Sig := sgOf (α := Fr × Fr) [] (fun x => [.im (fr x.1), .im (fr x.2)]) (fun x => ∃ a b, FB a x.1 ∧ FB b x.2 ∧ a + b + 1 ≤ 8000) fun x r ms => r = iD (cmpF x.1 x.2) ∧ ms = [none, none]
def gLess : MP.Sig := sgOf (α := Fr × Fr) [] (fun x => [.im (fr x.1), .im (fr x.2)]) (fun x => ∃ a b, FB a x.1 ∧ FB b x.2 ∧ a + b + 1 ≤ 8000) fun x r ms => r = .im (.bl (lessF x.1 x.2)) ∧ ms = [none, none]
def gP2 (f : Pt → Pt → D) : MP.Sig := sgOf (α := Pt × Pt) [] (fun x => [.im (pt x.1), .im (pt x.2)]) (fun x => ∃ a b, PB a x.1 ∧ PB b x.2 ∧ a + b + 1 ≤ 8000) fun x r ms => r = .im (f x.1 x.2) ∧ ms = [none, none]
def gImg : MP.Sig := sgOf (α := Mx × Pt) [] (fun x => [.im (mx x.1), .im (pt x.2)]) (fun x => MB 500 x.1 ∧ PB 500 x.2) fun x r ms => r = .im (pt (imgF x.1 x.2)) ∧ ms = [none, none]
def allF (m : Mx) (l : List Sg) : List Sg := l.map fun s => segF (imgF m s.1) (imgF m s.2)
def gAll : MP.Sig := sgOf (α := Mx × List Sg) [] (fun x => [.im (mx x.1), .im (sgs x.2)]) (fun x => MB 500 x.1 ∧ (∀ s ∈ x.2, SB 500 s) ∧ x.2.length ≤ 100) fun x r ms => r = .im (sgs (allF x.1 x.2)) ∧ ms = [none, none]
def gDraws : MP.Sig := sgOf (α := List Int) [] (fun l => [.im (.lst (dints l)), iD 400]) (fun l => l.length ≤ 63) fun l r ms => ∃ l', r = dr l' ∧ ms = [none, none]
def gTake : MP.Sig := sgOf (α := List Int × Int) [0] (fun x => [dr x.1, iD x.2]) (fun x => 0 < x.2) fun x r ms => ∃ v l', r = iD v ∧ 0 ≤ v ∧ v < x.2 ∧ ms = [some (dr l'), none]
def gPick : MP.Sig := sgOf (α := List Int × List D) [0] (fun x => [dr x.1, .im (.lst x.2)]) (fun x => x.2 ≠ []) fun x r ms => ∃ d l', d ∈ x.2 ∧ r = .im d ∧ ms = [some (dr l'), none]
def okD : Nat → D → Prop
  | 0, x => ∃ i, x = .int i
  | n + 1, x => (∃ i, x = .int i) ∨ ∃ l, x = .tup l ∧ l.length ≤ 1000 ∧ ∀ y ∈ l, okD n y
def gSame (n : Nat) : MP.Sig := sgOf (α := D) [] (fun x => [.im x, .im x]) (okD n) fun x r ms => r = .im (.bl true) ∧ ms = [none, none]
def gGcd : MP.Sig := sgOf (α := Int × Int) [] (fun x => [iD x.1, iD x.2]) (fun x => x.1.natAbs < 2 ^ 8000 ∧ x.2.natAbs < 2 ^ 8000) fun x r ms => r = iD (gcdI x.1 x.2) ∧ ms = [none, none]
def gStep : MP.Sig := sgOf (α := Fr × Int) [] (fun x => [.im (fr x.1), iD x.2]) (fun x => ∃ a b, FB a x.1 ∧ x.2.natAbs < 2 ^ b ∧ a + b + 1 ≤ 8000) fun x r ms => r = .im (fr (x.1.1 + x.2 * x.1.2, x.1.2)) ∧ ms = [none, none]
def gCorner : MP.Sig := sgOf (α := List Int × Int × Int) [0] (fun x => [dr x.1, iD x.2.1, iD x.2.2]) (fun x => 1 ≤ x.2.1 ∧ x.2.1 ≤ 5 ∧ 1 ≤ x.2.2 ∧ x.2.2 ≤ 3) fun x r ms => ∃ p l', r = .im (pt p) ∧ PB 10 p ∧ ms = [some (dr l'), none, none]
def gOne : MP.Sig := sgOf (α := List Int × Int × Int) [0] (fun x => [dr x.1, iD x.2.1, iD x.2.2]) (fun x => 1 ≤ x.2.1 ∧ x.2.1 ≤ 5 ∧ 1 ≤ x.2.2 ∧ x.2.2 ≤ 3) fun x r ms => ∃ s l', r = .im (sg s) ∧ SB 12 s ∧ ms = [some (dr l'), none, none]
def gMoved : MP.Sig := sgOf (α := Pt × Int × Int) [] (fun x => [.im (pt x.1), iD x.2.1, iD x.2.2]) (fun x => PB 20 x.1 ∧ x.2.1.natAbs < 2 ^ 70 ∧ x.2.2.natAbs < 2 ^ 30) fun x r ms => ∃ p, r = .im (pt p) ∧ PB 500 p ∧ ms = [none, none, none]
def gDrawn : MP.Sig := sgOf (α := List Int × Int) [0] (fun x => [dr x.1, iD x.2]) (fun x => 0 ≤ x.2 ∧ x.2 ≤ 10) fun x r ms => ∃ s l', r = .im (sgs s) ∧ (∀ y ∈ s, SB 500 y) ∧ s.length ≤ 10 ∧ ms = [some (dr l'), none]
def gMatrix : MP.Sig := sgOf (α := List Int) [0] (fun x => [dr x]) (fun x => True) fun x r ms => ∃ m l', r = .im (mx m) ∧ MB 500 m ∧ ms = [some (dr l')]
def gLaw : MP.Sig := sgOf (α := List Int) [] (fun l => [.im (.lst (dints l))]) (fun l => l.length ≤ 63) fun l r ms => r = .im (.bl true)
def ptab : List (Str × Nat × MP.Sig) := [("fraction", 1, gFraction), ("add", 2, gF2 addF), ("multiply", 2, gF2 mulF), ("sign", 1, gSign), ("compare_fractions", 2, gCmpF), ("compare_points", 3, gP2 fun p q => .int (cmpP p q)), ("segment", 4, gP2 fun p q => sg (segF p q)), ("image_of_point", 3, gImg), ("image_of_segments", 5, gAll),
  ("_law_draws", 1, gDraws), ("_law_take", 1, gTake), ("_law_pick", 2, gPick), ("_law_gcd", 1, gGcd), ("_law_frac", 2, gFraction), ("_law_plus", 3, gF2 addF), ("_law_minus", 3, gF2 subF), ("_law_product", 3, gF2 mulF), ("_law_less", 1, gLess), ("_law_ahead", 2, gP2 fun p q => .bl (aheadF p q)), ("_law_joining", 3, gP2 fun p q => sg (joinF p q)),
  ("_law_step", 1, gStep), ("_law_corner", 3, gCorner), ("_law_drawn_one", 4, gOne), ("_law_moved_spot", 4, gMoved), ("_law_drawn", 5, gDrawn), ("_law_drawn_matrix", 4, gMatrix), ("_law_imaged", 4, gImg), ("_law_imaged_all", 5, gAll)]
def Γ : Tab := fun f j => if f = "_law_same" then (if j = 0 then none else some (gSame (j - 1))) else match ptab.lookup f with
  | some (l, g) => if j = l then some g else none
  | none => none
theorem g_add : Γ "add" 2 = some (gF2 addF) := rfl
theorem g_same (n : Nat) : Γ "_law_same" (n + 1) = some (gSame n) := rfl
theorem g_ia : Γ "_law_imaged_all" 5 = some gAll := rfl
end K76

/-! k76: each def, once. -/
namespace K76
open PySem PySem.Spec PyProof.Rows L2 MP
theorem w_fraction (ds : List Val) (Q) (h : gFraction.sp ds Q) : MP.wpSs Γ 1 [] m_fraction (MP.startV 3 ds) (MP.endV gFraction 2 Q) := by
  obtain ⟨⟨n, d⟩, rfl, ⟨hd, hn, hd2⟩, hQ⟩ := h
  dsimp only at hd hn hd2
  simp only [m_fraction, MP.wpSs, MP.wpS, MP.wpT, MP.wpE, MP.wpEs, MP.wpG, MP.wpGs, MP.wpI, List.map_cons, List.map_nil, List.length_cons, List.length_nil, List.cons_append, List.nil_append, MP.slotV, List.getElem?_cons_zero, List.getElem?_cons_succ, Option.join_some, MP.look, MP.frz, MP.lk1, MP.lk2, MP.cmpS, MP.biS, MP.binS, MP.idxS, MP.slcS, MP.truS, MP.mtS, MP.isT, MP.looks, MP.argsV, MP.lent, MP.intOf, MP.bolOf, MP.seqOf, MP.tupOf, MP.isMl, MP.cnd, MP.bnd, MP.subS, MP.backV, MP.tgsLen, List.set_cons_zero, List.set_cons_succ, Nat.zero_add, Nat.reduceAdd, Nat.reduceSub, List.replicate, List.all_nil, List.all_cons, List.nodup_nil, Bool.and_self, true_and, and_true, ite_true, ite_false, Bool.false_eq_true, if_true, if_false, reduceIte, not_false_eq_true, List.not_mem_nil, MP.startV, MP.at0, MP.at1, MP.at2, MP.at3, MP.at4, MP.at5, MP.shp_int, MP.shp_bl, MP.shp_non, MP.deq_int, MP.deq_bl, decide_eq_true_eq, Bool.not_eq_true', decide_eq_false_iff_not, MP.wipeV_nil, MP.wipeV_cons]
  have g1 := gcdI_le (n := n) hd
  have g2 := gcdI_pos (n := n) hd
  have en : gcdI (-n) (-d) = gcdI n d := by unfold gcdI; simp
  have l1 : (gcdI n d).natAbs.log2 ≤ 8000 := lg (Nat.lt_of_le_of_lt g1 hd2)
  have l2 : (gcdI (-n) (-d)).natAbs.log2 ≤ 8000 := by rw [en]; exact l1
  have g3 : gcdI (-n) (-d) ≠ 0 := by rw [en]; omega
  by_cases z : d < 0
  · rw [if_pos z]
    exact ⟨by decide, g3, Nat.lt_of_le_of_lt l2 (by decide), g3, Nat.lt_of_le_of_lt l2 (by decide), by decide, hQ _ _ ⟨by unfold fracF; rw [if_pos z]; rfl, rfl⟩⟩
  · rw [if_neg z]
    exact ⟨Int.ne_of_gt g2, Nat.lt_of_le_of_lt l1 (by decide), Int.ne_of_gt g2, Nat.lt_of_le_of_lt l1 (by decide), by decide, hQ _ _ ⟨by unfold fracF; rw [if_neg z]; rfl, rfl⟩⟩
theorem lm {x y : Int} {a b : Nat} (h1 : x.natAbs < 2 ^ a) (h2 : y.natAbs < 2 ^ b) (h : a + b + 1 ≤ 8000) : x.natAbs.log2 + y.natAbs.log2 < 1000000 := by
  have := lg h1
  have := lg h2
  omega
theorem w_add (ds : List Val) (Q) (h : (gF2 addF).sp ds Q) : MP.wpSs Γ 2 [] m_add (MP.startV 2 ds) (MP.endV (gF2 addF) 2 Q) := by
  obtain ⟨⟨⟨f1, f2⟩, ⟨g1, g2⟩⟩, rfl, ⟨a, b, hf, hg, hb⟩, hQ⟩ := h
  simp only [m_add, fr, MP.wpSs, MP.wpS, MP.wpT, MP.wpE, MP.wpEs, MP.wpG, MP.wpGs, MP.wpI, List.map_cons, List.map_nil, List.length_cons, List.length_nil, List.cons_append, List.nil_append, MP.slotV, List.getElem?_cons_zero, List.getElem?_cons_succ, Option.join_some, MP.look, MP.frz, MP.lk1, MP.lk2, MP.cmpS, MP.biS, MP.binS, MP.idxS, MP.slcS, MP.truS, MP.mtS, MP.isT, MP.looks, MP.argsV, MP.lent, MP.intOf, MP.bolOf, MP.seqOf, MP.tupOf, MP.isMl, MP.cnd, MP.bnd, MP.subS, MP.backV, MP.tgsLen, List.set_cons_zero, List.set_cons_succ, Nat.zero_add, Nat.reduceAdd, Nat.reduceSub, List.replicate, List.all_nil, List.all_cons, List.nodup_nil, Bool.and_self, true_and, and_true, ite_true, ite_false, Bool.false_eq_true, if_true, if_false, reduceIte, not_false_eq_true, List.not_mem_nil, MP.startV, MP.at0, MP.at1, MP.at2, MP.at3, MP.at4, MP.at5, MP.shp_int, MP.shp_bl, MP.shp_non, MP.deq_int, MP.deq_bl, decide_eq_true_eq, Bool.not_eq_true', decide_eq_false_iff_not, MP.wipeV_nil, MP.wipeV_cons]
  have p1 := mul_lt hf.num hg.den
  have p2 := mul_lt hg.num hf.den
  have p3 := mul_lt hf.den hg.den
  rw [Nat.add_comm b a] at p2
  refine ⟨lm hf.num hg.den hb, lm hg.num hf.den (by omega), lm hf.den hg.den hb, 1, gFraction, by decide, rfl, (_, _), rfl, ⟨?_, ?_, ?_⟩, ?_⟩
  · exact Int.ne_of_gt (Int.mul_pos hf.pos hg.pos)
  · exact Nat.lt_of_lt_of_le (add_lt p1 p2) (pow_le hb)
  · exact Nat.lt_of_lt_of_le p3 (pow_le (by omega))
  · rintro r ms ⟨rfl, rfl⟩
    exact hQ _ _ ⟨rfl, rfl⟩
theorem w_multiply (ds : List Val) (Q) (h : (gF2 mulF).sp ds Q) : MP.wpSs Γ 2 [] m_multiply (MP.startV 2 ds) (MP.endV (gF2 mulF) 2 Q) := by
  obtain ⟨⟨⟨f1, f2⟩, ⟨g1, g2⟩⟩, rfl, ⟨a, b, hf, hg, hb⟩, hQ⟩ := h
  simp only [m_multiply, fr, MP.wpSs, MP.wpS, MP.wpT, MP.wpE, MP.wpEs, MP.wpG, MP.wpGs, MP.wpI, List.map_cons, List.map_nil, List.length_cons, List.length_nil, List.cons_append, List.nil_append, MP.slotV, List.getElem?_cons_zero, List.getElem?_cons_succ, Option.join_some, MP.look, MP.frz, MP.lk1, MP.lk2, MP.cmpS, MP.biS, MP.binS, MP.idxS, MP.slcS, MP.truS, MP.mtS, MP.isT, MP.looks, MP.argsV, MP.lent, MP.intOf, MP.bolOf, MP.seqOf, MP.tupOf, MP.isMl, MP.cnd, MP.bnd, MP.subS, MP.backV, MP.tgsLen, List.set_cons_zero, List.set_cons_succ, Nat.zero_add, Nat.reduceAdd, Nat.reduceSub, List.replicate, List.all_nil, List.all_cons, List.nodup_nil, Bool.and_self, true_and, and_true, ite_true, ite_false, Bool.false_eq_true, if_true, if_false, reduceIte, not_false_eq_true, List.not_mem_nil, MP.startV, MP.at0, MP.at1, MP.at2, MP.at3, MP.at4, MP.at5, MP.shp_int, MP.shp_bl, MP.shp_non, MP.deq_int, MP.deq_bl, decide_eq_true_eq, Bool.not_eq_true', decide_eq_false_iff_not, MP.wipeV_nil, MP.wipeV_cons]
  have p1 := mul_lt hf.num hg.num
  have p3 := mul_lt hf.den hg.den
  refine ⟨lm hf.num hg.num hb, lm hf.den hg.den hb, 1, gFraction, by decide, rfl, (_, _), rfl, ⟨?_, ?_, ?_⟩, ?_⟩
  · exact Int.ne_of_gt (Int.mul_pos hf.pos hg.pos)
  · exact Nat.lt_of_lt_of_le p1 (pow_le (by omega))
  · exact Nat.lt_of_lt_of_le p3 (pow_le (by omega))
  · rintro r ms ⟨rfl, rfl⟩
    exact hQ _ _ ⟨rfl, rfl⟩
theorem w_sign (ds : List Val) (Q) (h : gSign.sp ds Q) : MP.wpSs Γ 1 [] m_sign (MP.startV 1 ds) (MP.endV gSign 1 Q) := by
  obtain ⟨n, rfl, _, hQ⟩ := h
  simp only [m_sign, MP.wpSs, MP.wpS, MP.wpT, MP.wpE, MP.wpEs, MP.wpG, MP.wpGs, MP.wpI, List.map_cons, List.map_nil, List.length_cons, List.length_nil, List.cons_append, List.nil_append, MP.slotV, List.getElem?_cons_zero, List.getElem?_cons_succ, Option.join_some, MP.look, MP.frz, MP.lk1, MP.lk2, MP.cmpS, MP.biS, MP.binS, MP.idxS, MP.slcS, MP.truS, MP.mtS, MP.isT, MP.looks, MP.argsV, MP.lent, MP.intOf, MP.bolOf, MP.seqOf, MP.tupOf, MP.isMl, MP.cnd, MP.bnd, MP.subS, MP.backV, MP.tgsLen, List.set_cons_zero, List.set_cons_succ, Nat.zero_add, Nat.reduceAdd, Nat.reduceSub, List.replicate, List.all_nil, List.all_cons, List.nodup_nil, Bool.and_self, true_and, and_true, ite_true, ite_false, Bool.false_eq_true, if_true, if_false, reduceIte, not_false_eq_true, List.not_mem_nil, MP.startV, MP.at0, MP.at1, MP.at2, MP.at3, MP.at4, MP.at5, MP.shp_int, MP.shp_bl, MP.shp_non, MP.deq_int, MP.deq_bl, decide_eq_true_eq, Bool.not_eq_true', decide_eq_false_iff_not, MP.wipeV_nil, MP.wipeV_cons]
  have go : ∀ x, x = sgnI n → (MP.endV gSign 1 Q).rt (.im (.int x)) [some (iD n)] := fun x e => hQ _ _ ⟨by rw [e], rfl⟩
  split
  · exact go _ (by unfold sgnI; rw [if_pos ‹_›])
  · split
    · exact go _ (by unfold sgnI; rw [if_neg ‹_›, if_pos ‹_›])
    · exact go _ (by unfold sgnI; rw [if_neg ‹_›, if_neg ‹_›])
theorem w_compare_fractions (ds : List Val) (Q) (h : gCmpF.sp ds Q) : MP.wpSs Γ 2 [] m_compare_fractions (MP.startV 2 ds) (MP.endV gCmpF 2 Q) := by
  obtain ⟨⟨⟨f1, f2⟩, ⟨g1, g2⟩⟩, rfl, ⟨a, b, hf, hg, hb⟩, hQ⟩ := h
  simp only [m_compare_fractions, fr, MP.wpSs, MP.wpS, MP.wpT, MP.wpE, MP.wpEs, MP.wpG, MP.wpGs, MP.wpI, List.map_cons, List.map_nil, List.length_cons, List.length_nil, List.cons_append, List.nil_append, MP.slotV, List.getElem?_cons_zero, List.getElem?_cons_succ, Option.join_some, MP.look, MP.frz, MP.lk1, MP.lk2, MP.cmpS, MP.biS, MP.binS, MP.idxS, MP.slcS, MP.truS, MP.mtS, MP.isT, MP.looks, MP.argsV, MP.lent, MP.intOf, MP.bolOf, MP.seqOf, MP.tupOf, MP.isMl, MP.cnd, MP.bnd, MP.subS, MP.backV, MP.tgsLen, List.set_cons_zero, List.set_cons_succ, Nat.zero_add, Nat.reduceAdd, Nat.reduceSub, List.replicate, List.all_nil, List.all_cons, List.nodup_nil, Bool.and_self, true_and, and_true, ite_true, ite_false, Bool.false_eq_true, if_true, if_false, reduceIte, not_false_eq_true, List.not_mem_nil, MP.startV, MP.at0, MP.at1, MP.at2, MP.at3, MP.at4, MP.at5, MP.shp_int, MP.shp_bl, MP.shp_non, MP.deq_int, MP.deq_bl, decide_eq_true_eq, Bool.not_eq_true', decide_eq_false_iff_not, MP.wipeV_nil, MP.wipeV_cons]
  refine ⟨lm hf.num hg.den hb, lm hg.num hf.den (by omega), 1, gSign, by decide, rfl, _, rfl, trivial, ?_⟩
  rintro r ms ⟨rfl, rfl⟩
  exact hQ _ _ ⟨rfl, rfl⟩
theorem w_compare_points (ds : List Val) (Q) (h : (gP2 fun p q => .int (cmpP p q)).sp ds Q) : MP.wpSs Γ 3 [] m_compare_points (MP.startV 3 ds) (MP.endV (gP2 fun p q => .int (cmpP p q)) 2 Q) := by
  obtain ⟨⟨⟨p1, p2⟩, ⟨q1, q2⟩⟩, rfl, ⟨a, b, hf, hg, hb⟩, hQ⟩ := h
  simp only [m_compare_points, pt, MP.wpSs, MP.wpS, MP.wpT, MP.wpE, MP.wpEs, MP.wpG, MP.wpGs, MP.wpI, List.map_cons, List.map_nil, List.length_cons, List.length_nil, List.cons_append, List.nil_append, MP.slotV, List.getElem?_cons_zero, List.getElem?_cons_succ, Option.join_some, MP.look, MP.frz, MP.lk1, MP.lk2, MP.cmpS, MP.biS, MP.binS, MP.idxS, MP.slcS, MP.truS, MP.mtS, MP.isT, MP.looks, MP.argsV, MP.lent, MP.intOf, MP.bolOf, MP.seqOf, MP.tupOf, MP.isMl, MP.cnd, MP.bnd, MP.subS, MP.backV, MP.tgsLen, List.set_cons_zero, List.set_cons_succ, Nat.zero_add, Nat.reduceAdd, Nat.reduceSub, List.replicate, List.all_nil, List.all_cons, List.nodup_nil, Bool.and_self, true_and, and_true, ite_true, ite_false, Bool.false_eq_true, if_true, if_false, reduceIte, not_false_eq_true, List.not_mem_nil, MP.startV, MP.at0, MP.at1, MP.at2, MP.at3, MP.at4, MP.at5, MP.shp_int, MP.shp_bl, MP.shp_non, MP.deq_int, MP.deq_bl, decide_eq_true_eq, Bool.not_eq_true', decide_eq_false_iff_not, MP.wipeV_nil, MP.wipeV_cons]
  refine ⟨2, gCmpF, by decide, rfl, (_, _), rfl, ⟨a, b, hf.1, hg.1, hb⟩, ?_⟩
  rintro r ms ⟨rfl, rfl⟩
  simp only [MP.wpSs, MP.wpS, MP.wpT, MP.wpE, MP.wpEs, MP.wpG, MP.wpGs, MP.wpI, List.map_cons, List.map_nil, List.length_cons, List.length_nil, List.cons_append, List.nil_append, MP.slotV, List.getElem?_cons_zero, List.getElem?_cons_succ, Option.join_some, MP.look, MP.frz, MP.lk1, MP.lk2, MP.cmpS, MP.biS, MP.binS, MP.idxS, MP.slcS, MP.truS, MP.mtS, MP.isT, MP.looks, MP.argsV, MP.lent, MP.intOf, MP.bolOf, MP.seqOf, MP.tupOf, MP.isMl, MP.cnd, MP.bnd, MP.subS, MP.backV, MP.tgsLen, List.set_cons_zero, List.set_cons_succ, Nat.zero_add, Nat.reduceAdd, Nat.reduceSub, List.replicate, List.all_nil, List.all_cons, List.nodup_nil, Bool.and_self, true_and, and_true, ite_true, ite_false, Bool.false_eq_true, if_true, if_false, reduceIte, not_false_eq_true, List.not_mem_nil, MP.startV, MP.at0, MP.at1, MP.at2, MP.at3, MP.at4, MP.at5, MP.shp_int, MP.shp_bl, MP.shp_non, MP.deq_int, MP.deq_bl, decide_eq_true_eq, Bool.not_eq_true', decide_eq_false_iff_not, MP.wipeV_nil, MP.wipeV_cons]
  split
  · refine hQ _ _ ⟨?_, rfl⟩
    show Val.im (.int _) = .im (.int (cmpP _ _))
    unfold cmpP
    rw [if_pos (by simpa using ‹_›)]
  · refine ⟨2, gCmpF, by decide, rfl, (_, _), rfl, ⟨a, b, hf.2, hg.2, hb⟩, ?_⟩
    rintro r ms ⟨rfl, rfl⟩
    refine hQ _ _ ⟨?_, rfl⟩
    show Val.im (.int _) = .im (.int (cmpP _ _))
    unfold cmpP
    rw [if_neg ‹_›]
theorem w_segment (ds : List Val) (Q) (h : (gP2 fun p q => sg (segF p q)).sp ds Q) : MP.wpSs Γ 4 [] m_segment (MP.startV 2 ds) (MP.endV (gP2 fun p q => sg (segF p q)) 2 Q) := by
  obtain ⟨⟨p, q⟩, rfl, ⟨a, b, hf, hg, hb⟩, hQ⟩ := h
  simp only [m_segment, MP.wpSs, MP.wpS, MP.wpT, MP.wpE, MP.wpEs, MP.wpG, MP.wpGs, MP.wpI, List.map_cons, List.map_nil, List.length_cons, List.length_nil, List.cons_append, List.nil_append, MP.slotV, List.getElem?_cons_zero, List.getElem?_cons_succ, Option.join_some, MP.look, MP.frz, MP.lk1, MP.lk2, MP.cmpS, MP.biS, MP.binS, MP.idxS, MP.slcS, MP.truS, MP.mtS, MP.isT, MP.looks, MP.argsV, MP.lent, MP.intOf, MP.bolOf, MP.seqOf, MP.tupOf, MP.isMl, MP.cnd, MP.bnd, MP.subS, MP.backV, MP.tgsLen, List.set_cons_zero, List.set_cons_succ, Nat.zero_add, Nat.reduceAdd, Nat.reduceSub, List.replicate, List.all_nil, List.all_cons, List.nodup_nil, Bool.and_self, true_and, and_true, ite_true, ite_false, Bool.false_eq_true, if_true, if_false, reduceIte, not_false_eq_true, List.not_mem_nil, MP.startV, MP.at0, MP.at1, MP.at2, MP.at3, MP.at4, MP.at5, MP.shp_int, MP.shp_bl, MP.shp_non, MP.deq_int, MP.deq_bl, decide_eq_true_eq, Bool.not_eq_true', decide_eq_false_iff_not, MP.wipeV_nil, MP.wipeV_cons]
  refine ⟨3, _, by decide, rfl, (_, _), rfl, ⟨a, b, hf, hg, hb⟩, ?_⟩
  rintro r ms ⟨rfl, rfl⟩
  simp only [MP.wpSs, MP.wpS, MP.wpT, MP.wpE, MP.wpEs, MP.wpG, MP.wpGs, MP.wpI, List.map_cons, List.map_nil, List.length_cons, List.length_nil, List.cons_append, List.nil_append, MP.slotV, List.getElem?_cons_zero, List.getElem?_cons_succ, Option.join_some, MP.look, MP.frz, MP.lk1, MP.lk2, MP.cmpS, MP.biS, MP.binS, MP.idxS, MP.slcS, MP.truS, MP.mtS, MP.isT, MP.looks, MP.argsV, MP.lent, MP.intOf, MP.bolOf, MP.seqOf, MP.tupOf, MP.isMl, MP.cnd, MP.bnd, MP.subS, MP.backV, MP.tgsLen, List.set_cons_zero, List.set_cons_succ, Nat.zero_add, Nat.reduceAdd, Nat.reduceSub, List.replicate, List.all_nil, List.all_cons, List.nodup_nil, Bool.and_self, true_and, and_true, ite_true, ite_false, Bool.false_eq_true, if_true, if_false, reduceIte, not_false_eq_true, List.not_mem_nil, MP.startV, MP.at0, MP.at1, MP.at2, MP.at3, MP.at4, MP.at5, MP.shp_int, MP.shp_bl, MP.shp_non, MP.deq_int, MP.deq_bl, decide_eq_true_eq, Bool.not_eq_true', decide_eq_false_iff_not, MP.wipeV_nil, MP.wipeV_cons]
  split
  · refine ⟨by decide, hQ _ _ ⟨?_, rfl⟩⟩
    show _ = Val.im (sg (segF _ _))
    unfold segF
    rw [if_pos ‹_›]; rfl
  · refine ⟨by decide, hQ _ _ ⟨?_, rfl⟩⟩
    show _ = Val.im (sg (segF _ _))
    unfold segF
    rw [if_neg ‹_›]; rfl
theorem w_image_of_point (ds : List Val) (Q) (h : gImg.sp ds Q) : MP.wpSs Γ 3 [] m_image_of_point (MP.startV 5 ds) (MP.endV gImg 2 Q) := by
  obtain ⟨⟨⟨⟨a1, b1, c1⟩, ⟨a2, b2, c2⟩⟩, ⟨x, y⟩⟩, rfl, ⟨hm, hp⟩, hQ⟩ := h
  simp only [m_image_of_point, mx, rw3, pt, MP.lcL, MP.wpSs, MP.wpS, MP.wpT, MP.wpE, MP.wpEs, MP.wpG, MP.wpGs, MP.wpI, List.map_cons, List.map_nil, List.length_cons, List.length_nil, List.cons_append, List.nil_append, MP.slotV, List.getElem?_cons_zero, List.getElem?_cons_succ, Option.join_some, MP.look, MP.frz, MP.lk1, MP.lk2, MP.cmpS, MP.biS, MP.binS, MP.idxS, MP.slcS, MP.truS, MP.mtS, MP.isT, MP.looks, MP.argsV, MP.lent, MP.intOf, MP.bolOf, MP.seqOf, MP.tupOf, MP.isMl, MP.cnd, MP.bnd, MP.subS, MP.backV, MP.tgsLen, List.set_cons_zero, List.set_cons_succ, Nat.zero_add, Nat.reduceAdd, Nat.reduceSub, List.replicate, List.all_nil, List.all_cons, List.nodup_nil, Bool.and_self, true_and, and_true, ite_true, ite_false, Bool.false_eq_true, if_true, if_false, reduceIte, not_false_eq_true, List.not_mem_nil, MP.startV, MP.at0, MP.at1, MP.at2, MP.at3, MP.at4, MP.at5, MP.shp_int, MP.shp_bl, MP.shp_non, MP.deq_int, MP.deq_bl, decide_eq_true_eq, Bool.not_eq_true', decide_eq_false_iff_not, MP.wipeV_nil, MP.wipeV_cons]
  obtain ⟨⟨ha1, hb1, hc1⟩, ⟨ha2, hb2, hc2⟩⟩ := hm
  obtain ⟨hx, hy⟩ := hp
  refine ⟨2, gF2 mulF, by decide, rfl, (_, _), rfl, ⟨_, _, ha1, hx, by decide⟩, ?_⟩
  rintro r ms ⟨rfl, rfl⟩
  refine ⟨2, gF2 mulF, by decide, rfl, (_, _), rfl, ⟨_, _, hb1, hy, by decide⟩, ?_⟩
  rintro r ms ⟨rfl, rfl⟩
  refine ⟨2, gF2 addF, by decide, rfl, (_, _), rfl, ⟨_, _, ha1.mul hx, hb1.mul hy, by decide⟩, ?_⟩
  rintro r ms ⟨rfl, rfl⟩
  refine ⟨2, gF2 addF, by decide, rfl, (_, _), rfl, ⟨_, _, (ha1.mul hx).add (hb1.mul hy), hc1, by decide⟩, ?_⟩
  rintro r ms ⟨rfl, rfl⟩
  refine ⟨by simp, 2, gF2 mulF, by decide, rfl, (_, _), rfl, ⟨_, _, ha2, hx, by decide⟩, ?_⟩
  rintro r ms ⟨rfl, rfl⟩
  refine ⟨2, gF2 mulF, by decide, rfl, (_, _), rfl, ⟨_, _, hb2, hy, by decide⟩, ?_⟩
  rintro r ms ⟨rfl, rfl⟩
  refine ⟨2, gF2 addF, by decide, rfl, (_, _), rfl, ⟨_, _, ha2.mul hx, hb2.mul hy, by decide⟩, ?_⟩
  rintro r ms ⟨rfl, rfl⟩
  refine ⟨2, gF2 addF, by decide, rfl, (_, _), rfl, ⟨_, _, (ha2.mul hx).add (hb2.mul hy), hc2, by decide⟩, ?_⟩
  rintro r ms ⟨rfl, rfl⟩
  exact ⟨by simp, hQ _ _ ⟨rfl, rfl⟩⟩
theorem FB.row {r : Rw} {p : Pt} (h : RB 500 r) (hp : PB 500 p) : FB 2502 (rowF r p) := ((h.1.mul hp.1).add (h.2.1.mul hp.2)).add h.2.2
theorem PB.img {m : Mx} {p : Pt} (h : MB 500 m) (hp : PB 500 p) : PB 2502 (imgF m p) := ⟨FB.row h.1 hp, FB.row h.2 hp⟩
theorem w_image_of_segments (ds : List Val) (Q) (h : gAll.sp ds Q) : MP.wpSs Γ 5 [] m_image_of_segments (MP.startV 4 ds) (MP.endV gAll 2 Q) := by
  obtain ⟨⟨m, l⟩, rfl, ⟨hm, hl, hn⟩, hQ⟩ := h
  simp only [m_image_of_segments, sgs, MP.wpSs, MP.wpS, MP.wpT, MP.wpE, MP.wpEs, MP.wpG, MP.wpGs, MP.wpI, List.map_cons, List.map_nil, List.length_cons, List.length_nil, List.cons_append, List.nil_append, MP.slotV, List.getElem?_cons_zero, List.getElem?_cons_succ, Option.join_some, MP.look, MP.frz, MP.lk1, MP.lk2, MP.cmpS, MP.biS, MP.binS, MP.idxS, MP.slcS, MP.truS, MP.mtS, MP.isT, MP.looks, MP.argsV, MP.lent, MP.intOf, MP.bolOf, MP.seqOf, MP.tupOf, MP.isMl, MP.cnd, MP.bnd, MP.subS, MP.backV, MP.tgsLen, List.set_cons_zero, List.set_cons_succ, Nat.zero_add, Nat.reduceAdd, Nat.reduceSub, List.replicate, List.all_nil, List.all_cons, List.nodup_nil, Bool.and_self, true_and, and_true, ite_true, ite_false, Bool.false_eq_true, if_true, if_false, reduceIte, not_false_eq_true, List.not_mem_nil, MP.startV, MP.at0, MP.at1, MP.at2, MP.at3, MP.at4, MP.at5, MP.shp_int, MP.shp_bl, MP.shp_non, MP.deq_int, MP.deq_bl, decide_eq_true_eq, Bool.not_eq_true', decide_eq_false_iff_not, MP.wipeV_nil, MP.wipeV_cons]
  refine lcL_ind sg (fun s => sg (segF (imgF m s.1) (imgF m s.2))) (fun ρ => ∃ x y, ρ = [some (.im (mx m)), some (.im (.tup (l.map sg))), x, y]) l _ [] ?_ ⟨_, _, rfl⟩ (by simp; dsimp only at hn; omega) ?_
  · rintro ⟨p, q⟩ hs ρ R ⟨x, y, rfl⟩ hR
    obtain ⟨h1, h2⟩ := hl _ hs
    simp only [sg, MP.wpSs, MP.wpS, MP.wpT, MP.wpE, MP.wpEs, MP.wpG, MP.wpGs, MP.wpI, List.map_cons, List.map_nil, List.length_cons, List.length_nil, List.cons_append, List.nil_append, MP.slotV, List.getElem?_cons_zero, List.getElem?_cons_succ, Option.join_some, MP.look, MP.frz, MP.lk1, MP.lk2, MP.cmpS, MP.biS, MP.binS, MP.idxS, MP.slcS, MP.truS, MP.mtS, MP.isT, MP.looks, MP.argsV, MP.lent, MP.intOf, MP.bolOf, MP.seqOf, MP.tupOf, MP.isMl, MP.cnd, MP.bnd, MP.subS, MP.backV, MP.tgsLen, List.set_cons_zero, List.set_cons_succ, Nat.zero_add, Nat.reduceAdd, Nat.reduceSub, List.replicate, List.all_nil, List.all_cons, List.nodup_nil, Bool.and_self, true_and, and_true, ite_true, ite_false, Bool.false_eq_true, if_true, if_false, reduceIte, not_false_eq_true, List.not_mem_nil, MP.startV, MP.at0, MP.at1, MP.at2, MP.at3, MP.at4, MP.at5, MP.shp_int, MP.shp_bl, MP.shp_non, MP.deq_int, MP.deq_bl, decide_eq_true_eq, Bool.not_eq_true', decide_eq_false_iff_not, MP.wipeV_nil, MP.wipeV_cons]
    refine ⟨3, gImg, by decide, rfl, (_, _), rfl, ⟨hm, h1⟩, ?_⟩
    rintro r ms ⟨rfl, rfl⟩
    simp only [MP.wpSs, MP.wpS, MP.wpT, MP.wpE, MP.wpEs, MP.wpG, MP.wpGs, MP.wpI, List.map_cons, List.map_nil, List.length_cons, List.length_nil, List.cons_append, List.nil_append, MP.slotV, List.getElem?_cons_zero, List.getElem?_cons_succ, Option.join_some, MP.look, MP.frz, MP.lk1, MP.lk2, MP.cmpS, MP.biS, MP.binS, MP.idxS, MP.slcS, MP.truS, MP.mtS, MP.isT, MP.looks, MP.argsV, MP.lent, MP.intOf, MP.bolOf, MP.seqOf, MP.tupOf, MP.isMl, MP.cnd, MP.bnd, MP.subS, MP.backV, MP.tgsLen, List.set_cons_zero, List.set_cons_succ, Nat.zero_add, Nat.reduceAdd, Nat.reduceSub, List.replicate, List.all_nil, List.all_cons, List.nodup_nil, Bool.and_self, true_and, and_true, ite_true, ite_false, Bool.false_eq_true, if_true, if_false, reduceIte, not_false_eq_true, List.not_mem_nil, MP.startV, MP.at0, MP.at1, MP.at2, MP.at3, MP.at4, MP.at5, MP.shp_int, MP.shp_bl, MP.shp_non, MP.deq_int, MP.deq_bl, decide_eq_true_eq, Bool.not_eq_true', decide_eq_false_iff_not, MP.wipeV_nil, MP.wipeV_cons]
    refine ⟨3, gImg, by decide, rfl, (_, _), rfl, ⟨hm, h2⟩, ?_⟩
    rintro r ms ⟨rfl, rfl⟩
    simp only [MP.wpSs, MP.wpS, MP.wpT, MP.wpE, MP.wpEs, MP.wpG, MP.wpGs, MP.wpI, List.map_cons, List.map_nil, List.length_cons, List.length_nil, List.cons_append, List.nil_append, MP.slotV, List.getElem?_cons_zero, List.getElem?_cons_succ, Option.join_some, MP.look, MP.frz, MP.lk1, MP.lk2, MP.cmpS, MP.biS, MP.binS, MP.idxS, MP.slcS, MP.truS, MP.mtS, MP.isT, MP.looks, MP.argsV, MP.lent, MP.intOf, MP.bolOf, MP.seqOf, MP.tupOf, MP.isMl, MP.cnd, MP.bnd, MP.subS, MP.backV, MP.tgsLen, List.set_cons_zero, List.set_cons_succ, Nat.zero_add, Nat.reduceAdd, Nat.reduceSub, List.replicate, List.all_nil, List.all_cons, List.nodup_nil, Bool.and_self, true_and, and_true, ite_true, ite_false, Bool.false_eq_true, if_true, if_false, reduceIte, not_false_eq_true, List.not_mem_nil, MP.startV, MP.at0, MP.at1, MP.at2, MP.at3, MP.at4, MP.at5, MP.shp_int, MP.shp_bl, MP.shp_non, MP.deq_int, MP.deq_bl, decide_eq_true_eq, Bool.not_eq_true', decide_eq_false_iff_not, MP.wipeV_nil, MP.wipeV_cons]
    refine ⟨4, _, by decide, rfl, (_, _), rfl, ⟨_, _, PB.img hm h1, PB.img hm h2, by decide⟩, ?_⟩
    rintro r ms ⟨rfl, rfl⟩
    exact hR _ ⟨_, _, rfl⟩
  · rintro ρ ⟨x, y, rfl⟩
    simp only [MP.wpSs, MP.wpS, MP.wpT, MP.wpE, MP.wpEs, MP.wpG, MP.wpGs, MP.wpI, List.map_cons, List.map_nil, List.length_cons, List.length_nil, List.cons_append, List.nil_append, MP.slotV, List.getElem?_cons_zero, List.getElem?_cons_succ, Option.join_some, MP.look, MP.frz, MP.lk1, MP.lk2, MP.cmpS, MP.biS, MP.binS, MP.idxS, MP.slcS, MP.truS, MP.mtS, MP.isT, MP.looks, MP.argsV, MP.lent, MP.intOf, MP.bolOf, MP.seqOf, MP.tupOf, MP.isMl, MP.cnd, MP.bnd, MP.subS, MP.backV, MP.tgsLen, List.set_cons_zero, List.set_cons_succ, Nat.zero_add, Nat.reduceAdd, Nat.reduceSub, List.replicate, List.all_nil, List.all_cons, List.nodup_nil, Bool.and_self, true_and, and_true, ite_true, ite_false, Bool.false_eq_true, if_true, if_false, reduceIte, not_false_eq_true, List.not_mem_nil, MP.startV, MP.at0, MP.at1, MP.at2, MP.at3, MP.at4, MP.at5, MP.shp_int, MP.shp_bl, MP.shp_non, MP.deq_int, MP.deq_bl, decide_eq_true_eq, Bool.not_eq_true', decide_eq_false_iff_not, MP.wipeV_nil, MP.wipeV_cons]
    refine hQ _ _ ⟨?_, rfl⟩
    unfold sgs allF
    rw [List.map_map]
    rfl
end K76

/-! k76: the law's own defs. -/
namespace K76
open PySem PySem.Spec PyProof.Rows L2 MP
theorem w_take (ds : List Val) (Q) (h : gTake.sp ds Q) : MP.wpSs Γ 1 [0] m_law_take (MP.startV 2 ds) (MP.endV gTake 2 Q) := by
  obtain ⟨⟨l, m⟩, rfl, hm, hQ⟩ := h
  dsimp only at hm
  simp only [m_law_take, dr, MP.wpSs, MP.wpS, MP.wpT, MP.wpE, MP.wpEs, MP.wpG, MP.wpGs, MP.wpI, List.map_cons, List.map_nil, List.length_cons, List.length_nil, List.cons_append, List.nil_append, MP.slotV, List.getElem?_cons_zero, List.getElem?_cons_succ, Option.join_some, MP.look, MP.frz, MP.lk1, MP.lk2, MP.cmpS, MP.biS, MP.binS, MP.idxS, MP.slcS, MP.truS, MP.mtS, MP.isT, MP.looks, MP.argsV, MP.lent, MP.intOf, MP.bolOf, MP.seqOf, MP.tupOf, MP.isMl, MP.cnd, MP.bnd, MP.subS, MP.backV, MP.tgsLen, List.set_cons_zero, List.set_cons_succ, Nat.zero_add, Nat.reduceAdd, Nat.reduceSub, List.replicate, List.all_nil, List.all_cons, List.nodup_nil, Bool.and_self, true_and, and_true, ite_true, ite_false, Bool.false_eq_true, if_true, if_false, reduceIte, not_false_eq_true, List.not_mem_nil, MP.startV, MP.at0, MP.at1, MP.at2, MP.at3, MP.at4, MP.at5, MP.shp_int, MP.shp_bl, MP.shp_non, MP.deq_int, MP.deq_bl, decide_eq_true_eq, Bool.not_eq_true', decide_eq_false_iff_not, MP.wipeV_nil, MP.wipeV_cons]
  split
  · exact hQ _ _ ⟨0, l, rfl, Int.le_refl _, hm, rfl⟩
  · rename_i hl
    cases e : l.getLast? with
    | none => rw [List.getLast?_eq_none_iff] at e; subst e; exact absurd rfl hl
    | some v =>
      have e2 : (dints l).getLast? = some (.int v) := by unfold dints; rw [List.getLast?_map, e]; rfl
      rw [e2]
      simp only [MP.wpSs, MP.wpS, MP.wpT, MP.wpE, MP.wpEs, MP.wpG, MP.wpGs, MP.wpI, List.map_cons, List.map_nil, List.length_cons, List.length_nil, List.cons_append, List.nil_append, MP.slotV, List.getElem?_cons_zero, List.getElem?_cons_succ, Option.join_some, MP.look, MP.frz, MP.lk1, MP.lk2, MP.cmpS, MP.biS, MP.binS, MP.idxS, MP.slcS, MP.truS, MP.mtS, MP.isT, MP.looks, MP.argsV, MP.lent, MP.intOf, MP.bolOf, MP.seqOf, MP.tupOf, MP.isMl, MP.cnd, MP.bnd, MP.subS, MP.backV, MP.tgsLen, List.set_cons_zero, List.set_cons_succ, Nat.zero_add, Nat.reduceAdd, Nat.reduceSub, List.replicate, List.all_nil, List.all_cons, List.nodup_nil, Bool.and_self, true_and, and_true, ite_true, ite_false, Bool.false_eq_true, if_true, if_false, reduceIte, not_false_eq_true, List.not_mem_nil, MP.startV, MP.at0, MP.at1, MP.at2, MP.at3, MP.at4, MP.at5, MP.shp_int, MP.shp_bl, MP.shp_non, MP.deq_int, MP.deq_bl, decide_eq_true_eq, Bool.not_eq_true', decide_eq_false_iff_not, MP.wipeV_nil, MP.wipeV_cons]
      refine ⟨Int.ne_of_gt hm, hQ _ _ ⟨v.fmod m, l.dropLast, rfl, Int.fmod_nonneg_of_pos _ hm, Int.fmod_lt_of_pos _ hm, ?_⟩⟩
      have e3 : (dints l).dropLast = dints l.dropLast := by unfold dints; rw [List.map_dropLast]
      rw [e3]; rfl
theorem w_pick (ds : List Val) (Q) (h : gPick.sp ds Q) : MP.wpSs Γ 2 [0] m_law_pick (MP.startV 2 ds) (MP.endV gPick 2 Q) := by
  obtain ⟨⟨l, row⟩, rfl, hm, hQ⟩ := h
  dsimp only at hm
  simp only [m_law_pick, dr, MP.wpSs, MP.wpS, MP.wpT, MP.wpE, MP.wpEs, MP.wpG, MP.wpGs, MP.wpI, List.map_cons, List.map_nil, List.length_cons, List.length_nil, List.cons_append, List.nil_append, MP.slotV, List.getElem?_cons_zero, List.getElem?_cons_succ, Option.join_some, MP.look, MP.frz, MP.lk1, MP.lk2, MP.cmpS, MP.biS, MP.binS, MP.idxS, MP.slcS, MP.truS, MP.mtS, MP.isT, MP.looks, MP.argsV, MP.lent, MP.intOf, MP.bolOf, MP.seqOf, MP.tupOf, MP.isMl, MP.cnd, MP.bnd, MP.subS, MP.backV, MP.tgsLen, List.set_cons_zero, List.set_cons_succ, Nat.zero_add, Nat.reduceAdd, Nat.reduceSub, List.replicate, List.all_nil, List.all_cons, List.nodup_nil, Bool.and_self, true_and, and_true, ite_true, ite_false, Bool.false_eq_true, if_true, if_false, reduceIte, not_false_eq_true, List.not_mem_nil, MP.startV, MP.at0, MP.at1, MP.at2, MP.at3, MP.at4, MP.at5, MP.shp_int, MP.shp_bl, MP.shp_non, MP.deq_int, MP.deq_bl, decide_eq_true_eq, Bool.not_eq_true', decide_eq_false_iff_not, MP.wipeV_nil, MP.wipeV_cons]
  have hp : (0 : Int) < row.length := by
    have : 0 < row.length := List.length_pos_iff.mpr hm
    omega
  refine ⟨1, gTake, by decide, rfl, by decide, by decide, (l, row.length), rfl, hp, ?_⟩
  rintro r ms ⟨v, l', rfl, h0, h1, rfl⟩
  simp only [MP.wpSs, MP.wpS, MP.wpT, MP.wpE, MP.wpEs, MP.wpG, MP.wpGs, MP.wpI, List.map_cons, List.map_nil, List.length_cons, List.length_nil, List.cons_append, List.nil_append, MP.slotV, List.getElem?_cons_zero, List.getElem?_cons_succ, Option.join_some, MP.look, MP.frz, MP.lk1, MP.lk2, MP.cmpS, MP.biS, MP.binS, MP.idxS, MP.slcS, MP.truS, MP.mtS, MP.isT, MP.looks, MP.argsV, MP.lent, MP.intOf, MP.bolOf, MP.seqOf, MP.tupOf, MP.isMl, MP.cnd, MP.bnd, MP.subS, MP.backV, MP.tgsLen, List.set_cons_zero, List.set_cons_succ, Nat.zero_add, Nat.reduceAdd, Nat.reduceSub, List.replicate, List.all_nil, List.all_cons, List.nodup_nil, Bool.and_self, true_and, and_true, ite_true, ite_false, Bool.false_eq_true, if_true, if_false, reduceIte, not_false_eq_true, List.not_mem_nil, MP.startV, MP.at0, MP.at1, MP.at2, MP.at3, MP.at4, MP.at5, MP.shp_int, MP.shp_bl, MP.shp_non, MP.deq_int, MP.deq_bl, decide_eq_true_eq, Bool.not_eq_true', decide_eq_false_iff_not, MP.wipeV_nil, MP.wipeV_cons]
  obtain ⟨d, e, hd⟩ := MP.at_pos (l := row) h0 h1
  rw [e]
  exact hQ _ _ ⟨d, l', hd, rfl, rfl⟩
theorem w_less (ds : List Val) (Q) (h : gLess.sp ds Q) : MP.wpSs Γ 1 [] m_law_less (MP.startV 2 ds) (MP.endV gLess 2 Q) := by
  obtain ⟨⟨⟨f1, f2⟩, ⟨g1, g2⟩⟩, rfl, ⟨a, b, hf, hg, hb⟩, hQ⟩ := h
  simp only [m_law_less, fr, MP.wpSs, MP.wpS, MP.wpT, MP.wpE, MP.wpEs, MP.wpG, MP.wpGs, MP.wpI, List.map_cons, List.map_nil, List.length_cons, List.length_nil, List.cons_append, List.nil_append, MP.slotV, List.getElem?_cons_zero, List.getElem?_cons_succ, Option.join_some, MP.look, MP.frz, MP.lk1, MP.lk2, MP.cmpS, MP.biS, MP.binS, MP.idxS, MP.slcS, MP.truS, MP.mtS, MP.isT, MP.looks, MP.argsV, MP.lent, MP.intOf, MP.bolOf, MP.seqOf, MP.tupOf, MP.isMl, MP.cnd, MP.bnd, MP.subS, MP.backV, MP.tgsLen, List.set_cons_zero, List.set_cons_succ, Nat.zero_add, Nat.reduceAdd, Nat.reduceSub, List.replicate, List.all_nil, List.all_cons, List.nodup_nil, Bool.and_self, true_and, and_true, ite_true, ite_false, Bool.false_eq_true, if_true, if_false, reduceIte, not_false_eq_true, List.not_mem_nil, MP.startV, MP.at0, MP.at1, MP.at2, MP.at3, MP.at4, MP.at5, MP.shp_int, MP.shp_bl, MP.shp_non, MP.deq_int, MP.deq_bl, decide_eq_true_eq, Bool.not_eq_true', decide_eq_false_iff_not, MP.wipeV_nil, MP.wipeV_cons]
  exact ⟨lm hf.num hg.den hb, lm hg.num hf.den (by omega), hQ _ _ ⟨rfl, rfl⟩⟩
theorem w_step (ds : List Val) (Q) (h : gStep.sp ds Q) : MP.wpSs Γ 1 [] m_law_step (MP.startV 2 ds) (MP.endV gStep 2 Q) := by
  obtain ⟨⟨⟨f1, f2⟩, n⟩, rfl, ⟨a, b, hf, hn, hb⟩, hQ⟩ := h
  simp only [m_law_step, fr, MP.wpSs, MP.wpS, MP.wpT, MP.wpE, MP.wpEs, MP.wpG, MP.wpGs, MP.wpI, List.map_cons, List.map_nil, List.length_cons, List.length_nil, List.cons_append, List.nil_append, MP.slotV, List.getElem?_cons_zero, List.getElem?_cons_succ, Option.join_some, MP.look, MP.frz, MP.lk1, MP.lk2, MP.cmpS, MP.biS, MP.binS, MP.idxS, MP.slcS, MP.truS, MP.mtS, MP.isT, MP.looks, MP.argsV, MP.lent, MP.intOf, MP.bolOf, MP.seqOf, MP.tupOf, MP.isMl, MP.cnd, MP.bnd, MP.subS, MP.backV, MP.tgsLen, List.set_cons_zero, List.set_cons_succ, Nat.zero_add, Nat.reduceAdd, Nat.reduceSub, List.replicate, List.all_nil, List.all_cons, List.nodup_nil, Bool.and_self, true_and, and_true, ite_true, ite_false, Bool.false_eq_true, if_true, if_false, reduceIte, not_false_eq_true, List.not_mem_nil, MP.startV, MP.at0, MP.at1, MP.at2, MP.at3, MP.at4, MP.at5, MP.shp_int, MP.shp_bl, MP.shp_non, MP.deq_int, MP.deq_bl, decide_eq_true_eq, Bool.not_eq_true', decide_eq_false_iff_not, MP.wipeV_nil, MP.wipeV_cons]
  exact ⟨lm hn hf.den (by omega), by decide, hQ _ _ ⟨rfl, rfl⟩⟩
theorem w_plus (ds : List Val) (Q) (h : (gF2 addF).sp ds Q) : MP.wpSs Γ 3 [] m_law_plus (MP.startV 2 ds) (MP.endV (gF2 addF) 2 Q) := by
  obtain ⟨⟨⟨f1, f2⟩, ⟨g1, g2⟩⟩, rfl, ⟨a, b, hf, hg, hb⟩, hQ⟩ := h
  simp only [m_law_plus, fr, MP.wpSs, MP.wpS, MP.wpT, MP.wpE, MP.wpEs, MP.wpG, MP.wpGs, MP.wpI, List.map_cons, List.map_nil, List.length_cons, List.length_nil, List.cons_append, List.nil_append, MP.slotV, List.getElem?_cons_zero, List.getElem?_cons_succ, Option.join_some, MP.look, MP.frz, MP.lk1, MP.lk2, MP.cmpS, MP.biS, MP.binS, MP.idxS, MP.slcS, MP.truS, MP.mtS, MP.isT, MP.looks, MP.argsV, MP.lent, MP.intOf, MP.bolOf, MP.seqOf, MP.tupOf, MP.isMl, MP.cnd, MP.bnd, MP.subS, MP.backV, MP.tgsLen, List.set_cons_zero, List.set_cons_succ, Nat.zero_add, Nat.reduceAdd, Nat.reduceSub, List.replicate, List.all_nil, List.all_cons, List.nodup_nil, Bool.and_self, true_and, and_true, ite_true, ite_false, Bool.false_eq_true, if_true, if_false, reduceIte, not_false_eq_true, List.not_mem_nil, MP.startV, MP.at0, MP.at1, MP.at2, MP.at3, MP.at4, MP.at5, MP.shp_int, MP.shp_bl, MP.shp_non, MP.deq_int, MP.deq_bl, decide_eq_true_eq, Bool.not_eq_true', decide_eq_false_iff_not, MP.wipeV_nil, MP.wipeV_cons]
  have p1 := mul_lt hf.num hg.den
  have p2 := mul_lt hg.num hf.den
  have p3 := mul_lt hf.den hg.den
  rw [Nat.add_comm b a] at p2
  refine ⟨lm hf.num hg.den hb, lm hg.num hf.den (by omega), lm hf.den hg.den hb, 2, gFraction, by decide, rfl, (_, _), rfl, ⟨?_, ?_, ?_⟩, ?_⟩
  · exact Int.ne_of_gt (Int.mul_pos hf.pos hg.pos)
  · exact Nat.lt_of_lt_of_le (add_lt p1 p2) (pow_le hb)
  · exact Nat.lt_of_lt_of_le p3 (pow_le (by omega))
  · rintro r ms ⟨rfl, rfl⟩
    exact hQ _ _ ⟨rfl, rfl⟩
theorem w_minus (ds : List Val) (Q) (h : (gF2 subF).sp ds Q) : MP.wpSs Γ 3 [] m_law_minus (MP.startV 2 ds) (MP.endV (gF2 subF) 2 Q) := by
  obtain ⟨⟨⟨f1, f2⟩, ⟨g1, g2⟩⟩, rfl, ⟨a, b, hf, hg, hb⟩, hQ⟩ := h
  simp only [m_law_minus, fr, MP.wpSs, MP.wpS, MP.wpT, MP.wpE, MP.wpEs, MP.wpG, MP.wpGs, MP.wpI, List.map_cons, List.map_nil, List.length_cons, List.length_nil, List.cons_append, List.nil_append, MP.slotV, List.getElem?_cons_zero, List.getElem?_cons_succ, Option.join_some, MP.look, MP.frz, MP.lk1, MP.lk2, MP.cmpS, MP.biS, MP.binS, MP.idxS, MP.slcS, MP.truS, MP.mtS, MP.isT, MP.looks, MP.argsV, MP.lent, MP.intOf, MP.bolOf, MP.seqOf, MP.tupOf, MP.isMl, MP.cnd, MP.bnd, MP.subS, MP.backV, MP.tgsLen, List.set_cons_zero, List.set_cons_succ, Nat.zero_add, Nat.reduceAdd, Nat.reduceSub, List.replicate, List.all_nil, List.all_cons, List.nodup_nil, Bool.and_self, true_and, and_true, ite_true, ite_false, Bool.false_eq_true, if_true, if_false, reduceIte, not_false_eq_true, List.not_mem_nil, MP.startV, MP.at0, MP.at1, MP.at2, MP.at3, MP.at4, MP.at5, MP.shp_int, MP.shp_bl, MP.shp_non, MP.deq_int, MP.deq_bl, decide_eq_true_eq, Bool.not_eq_true', decide_eq_false_iff_not, MP.wipeV_nil, MP.wipeV_cons]
  have p1 := mul_lt hf.num hg.den
  have p2 := mul_lt hg.num hf.den
  have p3 := mul_lt hf.den hg.den
  rw [Nat.add_comm b a] at p2
  refine ⟨lm hf.num hg.den hb, lm hg.num hf.den (by omega), lm hf.den hg.den hb, 2, gFraction, by decide, rfl, (_, _), rfl, ⟨?_, ?_, ?_⟩, ?_⟩
  · exact Int.ne_of_gt (Int.mul_pos hf.pos hg.pos)
  · exact Nat.lt_of_lt_of_le (sub_lt p1 p2) (pow_le hb)
  · exact Nat.lt_of_lt_of_le p3 (pow_le (by omega))
  · rintro r ms ⟨rfl, rfl⟩
    exact hQ _ _ ⟨rfl, rfl⟩
theorem w_product (ds : List Val) (Q) (h : (gF2 mulF).sp ds Q) : MP.wpSs Γ 3 [] m_law_product (MP.startV 2 ds) (MP.endV (gF2 mulF) 2 Q) := by
  obtain ⟨⟨⟨f1, f2⟩, ⟨g1, g2⟩⟩, rfl, ⟨a, b, hf, hg, hb⟩, hQ⟩ := h
  simp only [m_law_product, fr, MP.wpSs, MP.wpS, MP.wpT, MP.wpE, MP.wpEs, MP.wpG, MP.wpGs, MP.wpI, List.map_cons, List.map_nil, List.length_cons, List.length_nil, List.cons_append, List.nil_append, MP.slotV, List.getElem?_cons_zero, List.getElem?_cons_succ, Option.join_some, MP.look, MP.frz, MP.lk1, MP.lk2, MP.cmpS, MP.biS, MP.binS, MP.idxS, MP.slcS, MP.truS, MP.mtS, MP.isT, MP.looks, MP.argsV, MP.lent, MP.intOf, MP.bolOf, MP.seqOf, MP.tupOf, MP.isMl, MP.cnd, MP.bnd, MP.subS, MP.backV, MP.tgsLen, List.set_cons_zero, List.set_cons_succ, Nat.zero_add, Nat.reduceAdd, Nat.reduceSub, List.replicate, List.all_nil, List.all_cons, List.nodup_nil, Bool.and_self, true_and, and_true, ite_true, ite_false, Bool.false_eq_true, if_true, if_false, reduceIte, not_false_eq_true, List.not_mem_nil, MP.startV, MP.at0, MP.at1, MP.at2, MP.at3, MP.at4, MP.at5, MP.shp_int, MP.shp_bl, MP.shp_non, MP.deq_int, MP.deq_bl, decide_eq_true_eq, Bool.not_eq_true', decide_eq_false_iff_not, MP.wipeV_nil, MP.wipeV_cons]
  have p1 := mul_lt hf.num hg.num
  have p3 := mul_lt hf.den hg.den
  refine ⟨lm hf.num hg.num hb, lm hf.den hg.den hb, 2, gFraction, by decide, rfl, (_, _), rfl, ⟨?_, ?_, ?_⟩, ?_⟩
  · exact Int.ne_of_gt (Int.mul_pos hf.pos hg.pos)
  · exact Nat.lt_of_lt_of_le p1 (pow_le (by omega))
  · exact Nat.lt_of_lt_of_le p3 (pow_le (by omega))
  · rintro r ms ⟨rfl, rfl⟩
    exact hQ _ _ ⟨rfl, rfl⟩
theorem deq_fr {f g : Fr} : MP.deq (fr f) (fr g) = decide (f = g) := by
  obtain ⟨a, b⟩ := f
  obtain ⟨c, d⟩ := g
  unfold fr
  rw [deq_cons, deq_cons, deq_nil, deq_int, deq_int]
  by_cases h1 : a = c <;> by_cases h2 : b = d <;> simp [h1, h2]
theorem deq_pt {f g : Pt} : MP.deq (pt f) (pt g) = decide (f = g) := by
  obtain ⟨a, b⟩ := f
  obtain ⟨c, d⟩ := g
  unfold pt
  rw [deq_cons, deq_cons, deq_nil, deq_fr, deq_fr]
  by_cases h1 : a = c <;> by_cases h2 : b = d <;> simp [h1, h2]
theorem sh_fr {f : Fr} : Shn 1 (fr f) := Shn.tup fun d h => by
  rcases List.mem_cons.mp h with rfl | h
  · exact Shn.int
  · rw [List.mem_singleton] at h; subst h; exact Shn.int
theorem sh_pt {f : Pt} : Shn 2 (pt f) := Shn.tup fun d h => by
  rcases List.mem_cons.mp h with rfl | h
  · exact sh_fr
  · rw [List.mem_singleton] at h; subst h; exact sh_fr
theorem shp_fr {f : Fr} : MP.shp (fr f) = True := eq_true (sh_fr.shp (by decide))
theorem shp_pt {f : Pt} : MP.shp (pt f) = True := eq_true (sh_pt.shp (by decide))
theorem w_ahead (ds : List Val) (Q) (h : (gP2 fun p q => .bl (aheadF p q)).sp ds Q) : MP.wpSs Γ 2 [] m_law_ahead (MP.startV 2 ds) (MP.endV (gP2 fun p q => .bl (aheadF p q)) 2 Q) := by
  obtain ⟨⟨⟨p1, p2⟩, ⟨q1, q2⟩⟩, rfl, ⟨a, b, hf, hg, hb⟩, hQ⟩ := h
  simp only [m_law_ahead, pt, shp_fr, deq_fr, MP.wpSs, MP.wpS, MP.wpT, MP.wpE, MP.wpEs, MP.wpG, MP.wpGs, MP.wpI, List.map_cons, List.map_nil, List.length_cons, List.length_nil, List.cons_append, List.nil_append, MP.slotV, List.getElem?_cons_zero, List.getElem?_cons_succ, Option.join_some, MP.look, MP.frz, MP.lk1, MP.lk2, MP.cmpS, MP.biS, MP.binS, MP.idxS, MP.slcS, MP.truS, MP.mtS, MP.isT, MP.looks, MP.argsV, MP.lent, MP.intOf, MP.bolOf, MP.seqOf, MP.tupOf, MP.isMl, MP.cnd, MP.bnd, MP.subS, MP.backV, MP.tgsLen, List.set_cons_zero, List.set_cons_succ, Nat.zero_add, Nat.reduceAdd, Nat.reduceSub, List.replicate, List.all_nil, List.all_cons, List.nodup_nil, Bool.and_self, true_and, and_true, ite_true, ite_false, Bool.false_eq_true, if_true, if_false, reduceIte, not_false_eq_true, List.not_mem_nil, MP.startV, MP.at0, MP.at1, MP.at2, MP.at3, MP.at4, MP.at5, MP.shp_int, MP.shp_bl, MP.shp_non, MP.deq_int, MP.deq_bl, decide_eq_true_eq, Bool.not_eq_true', decide_eq_false_iff_not, MP.wipeV_nil, MP.wipeV_cons]
  split
  · refine ⟨1, gLess, by decide, rfl, (_, _), rfl, ⟨a, b, hf.1, hg.1, hb⟩, ?_⟩
    rintro r ms ⟨rfl, rfl⟩
    refine hQ _ _ ⟨?_, rfl⟩
    show Val.im (.bl _) = .im (.bl (aheadF _ _))
    unfold aheadF
    rw [if_pos ‹_›]
  · refine ⟨1, gLess, by decide, rfl, (_, _), rfl, ⟨a, b, hf.2, hg.2, hb⟩, ?_⟩
    rintro r ms ⟨rfl, rfl⟩
    refine hQ _ _ ⟨?_, rfl⟩
    show Val.im (.bl _) = .im (.bl (aheadF _ _))
    unfold aheadF
    rw [if_neg ‹_›]
theorem w_joining (ds : List Val) (Q) (h : (gP2 fun p q => sg (joinF p q)).sp ds Q) : MP.wpSs Γ 3 [] m_law_joining (MP.startV 2 ds) (MP.endV (gP2 fun p q => sg (joinF p q)) 2 Q) := by
  obtain ⟨⟨p, q⟩, rfl, ⟨a, b, hf, hg, hb⟩, hQ⟩ := h
  simp only [m_law_joining, MP.wpSs, MP.wpS, MP.wpT, MP.wpE, MP.wpEs, MP.wpG, MP.wpGs, MP.wpI, List.map_cons, List.map_nil, List.length_cons, List.length_nil, List.cons_append, List.nil_append, MP.slotV, List.getElem?_cons_zero, List.getElem?_cons_succ, Option.join_some, MP.look, MP.frz, MP.lk1, MP.lk2, MP.cmpS, MP.biS, MP.binS, MP.idxS, MP.slcS, MP.truS, MP.mtS, MP.isT, MP.looks, MP.argsV, MP.lent, MP.intOf, MP.bolOf, MP.seqOf, MP.tupOf, MP.isMl, MP.cnd, MP.bnd, MP.subS, MP.backV, MP.tgsLen, List.set_cons_zero, List.set_cons_succ, Nat.zero_add, Nat.reduceAdd, Nat.reduceSub, List.replicate, List.all_nil, List.all_cons, List.nodup_nil, Bool.and_self, true_and, and_true, ite_true, ite_false, Bool.false_eq_true, if_true, if_false, reduceIte, not_false_eq_true, List.not_mem_nil, MP.startV, MP.at0, MP.at1, MP.at2, MP.at3, MP.at4, MP.at5, MP.shp_int, MP.shp_bl, MP.shp_non, MP.deq_int, MP.deq_bl, decide_eq_true_eq, Bool.not_eq_true', decide_eq_false_iff_not, MP.wipeV_nil, MP.wipeV_cons]
  refine ⟨2, _, by decide, rfl, (_, _), rfl, ⟨a, b, hf, hg, hb⟩, ?_⟩
  rintro r ms ⟨rfl, rfl⟩
  simp only [MP.wpSs, MP.wpS, MP.wpT, MP.wpE, MP.wpEs, MP.wpG, MP.wpGs, MP.wpI, List.map_cons, List.map_nil, List.length_cons, List.length_nil, List.cons_append, List.nil_append, MP.slotV, List.getElem?_cons_zero, List.getElem?_cons_succ, Option.join_some, MP.look, MP.frz, MP.lk1, MP.lk2, MP.cmpS, MP.biS, MP.binS, MP.idxS, MP.slcS, MP.truS, MP.mtS, MP.isT, MP.looks, MP.argsV, MP.lent, MP.intOf, MP.bolOf, MP.seqOf, MP.tupOf, MP.isMl, MP.cnd, MP.bnd, MP.subS, MP.backV, MP.tgsLen, List.set_cons_zero, List.set_cons_succ, Nat.zero_add, Nat.reduceAdd, Nat.reduceSub, List.replicate, List.all_nil, List.all_cons, List.nodup_nil, Bool.and_self, true_and, and_true, ite_true, ite_false, Bool.false_eq_true, if_true, if_false, reduceIte, not_false_eq_true, List.not_mem_nil, MP.startV, MP.at0, MP.at1, MP.at2, MP.at3, MP.at4, MP.at5, MP.shp_int, MP.shp_bl, MP.shp_non, MP.deq_int, MP.deq_bl, decide_eq_true_eq, Bool.not_eq_true', decide_eq_false_iff_not, MP.wipeV_nil, MP.wipeV_cons]
  split
  · refine ⟨by decide, hQ _ _ ⟨?_, rfl⟩⟩
    show _ = Val.im (sg (joinF _ _))
    unfold joinF
    rw [if_pos ‹_›]; rfl
  · refine ⟨by decide, hQ _ _ ⟨?_, rfl⟩⟩
    show _ = Val.im (sg (joinF _ _))
    unfold joinF
    rw [if_neg ‹_›]; rfl
theorem gcd_step (a b : Nat) : Nat.gcd b (a % b) = Nat.gcd a b := by rw [Nat.gcd_comm b (a % b), ← Nat.gcd_rec, Nat.gcd_comm]
theorem half {b r m : Nat} (hb : b < 2 ^ (m + 1)) (h0 : 0 < r) (hr : r < b) : b % r < 2 ^ m := by
  rw [Nat.pow_succ] at hb
  have h1 := Nat.mod_lt b h0
  by_cases z : 2 * r ≤ b
  · omega
  · have : b % r = b - r := by
      rw [Nat.mod_eq_sub_mod (by omega), Nat.mod_eq_of_lt (by omega)]
    omega
theorem eucl {step : D → VEnv → VEnds → Prop} {Z : VEnds} {p q : Option Val}
    (hs : ∀ d (a b : Nat) t u Z2, (if b = 0 then Z2.bk [p, q, some (iD a), some (iD b), some (.im d), u] else Z2.nx [p, q, some (iD b), some (iD ((a % b : Nat) : Int)), some (.im d), some (iD ((a % b : Nat) : Int))]) → step d [p, q, some (iD a), some (iD b), t, u] Z2) :
    ∀ (m n : Nat) (lo : Int) (a b : Nat) t u, b < 2 ^ m → 2 * m + 1 ≤ n → (∀ b' t u, Z.nx [p, q, some (iD (Nat.gcd a b : Nat)), b', t, u]) → forL step (rngD lo n) [p, q, some (iD a), some (iD b), t, u] Z
  | 0, n, lo, a, b, t, u, hb, hn, hQ => by
    have hb : b = 0 := by simpa using hb
    subst hb
    obtain ⟨n, rfl⟩ : ∃ k, n = k + 1 := ⟨n - 1, by omega⟩
    rw [rngD_succ]
    refine hs _ _ _ _ _ _ ?_
    rw [if_pos rfl]
    have := hQ (some (iD (0 : Nat))) (some (.im (.int lo))) u
    rw [Nat.gcd_zero_right] at this
    exact this
  | m + 1, n, lo, a, b, t, u, hb, hn, hQ => by
    obtain ⟨n, rfl⟩ : ∃ k, n = k + 2 := ⟨n - 2, by omega⟩
    rw [rngD_succ]
    refine hs _ _ _ _ _ _ ?_
    by_cases z : b = 0
    · subst z
      rw [if_pos rfl]
      have := hQ (some (iD (0 : Nat))) (some (.im (.int lo))) u
      rw [Nat.gcd_zero_right] at this
      exact this
    · rw [if_neg z]
      show forL step (rngD (lo + 1) (n + 1)) _ Z
      rw [rngD_succ]
      refine hs _ _ _ _ _ _ ?_
      have hr := Nat.mod_lt a (by omega : 0 < b)
      have e := gcd_step a b
      by_cases z2 : a % b = 0
      · rw [if_pos z2]
        rw [z2, Nat.gcd_zero_right] at e
        have := hQ (some (iD ((a % b : Nat) : Int))) (some (.im (.int (lo + 1)))) (some (iD ((a % b : Nat) : Int)))
        rw [← e] at this
        exact this
      · rw [if_neg z2]
        have e2 := gcd_step b (a % b)
        refine eucl hs m n _ _ _ _ _ (half hb (by omega) hr) (by omega) fun b' t u => ?_
        rw [e2, e]
        exact hQ b' t u
theorem abs_nat (x : Int) : (if x < 0 then -x else x) = ((x.natAbs : Nat) : Int) := by split <;> omega
theorem w_gcd (ds : List Val) (Q) (h : gGcd.sp ds Q) : MP.wpSs Γ 1 [] m_law_gcd (MP.startV 6 ds) (MP.endV gGcd 2 Q) := by
  obtain ⟨⟨x, y⟩, rfl, ⟨hx, hy⟩, hQ⟩ := h
  dsimp only at hx hy
  simp only [m_law_gcd, MP.wpSs, MP.wpS, MP.wpT, MP.wpE, MP.wpEs, MP.wpG, MP.wpGs, MP.wpI, List.map_cons, List.map_nil, List.length_cons, List.length_nil, List.cons_append, List.nil_append, MP.slotV, List.getElem?_cons_zero, List.getElem?_cons_succ, Option.join_some, MP.look, MP.frz, MP.lk1, MP.lk2, MP.cmpS, MP.biS, MP.binS, MP.idxS, MP.slcS, MP.truS, MP.mtS, MP.isT, MP.looks, MP.argsV, MP.lent, MP.intOf, MP.bolOf, MP.seqOf, MP.tupOf, MP.isMl, MP.cnd, MP.bnd, MP.subS, MP.backV, MP.tgsLen, List.set_cons_zero, List.set_cons_succ, Nat.zero_add, Nat.reduceAdd, Nat.reduceSub, List.replicate, List.all_nil, List.all_cons, List.nodup_nil, Bool.and_self, true_and, and_true, ite_true, ite_false, Bool.false_eq_true, if_true, if_false, reduceIte, not_false_eq_true, List.not_mem_nil, MP.startV, MP.at0, MP.at1, MP.at2, MP.at3, MP.at4, MP.at5, MP.shp_int, MP.shp_bl, MP.shp_non, MP.deq_int, MP.deq_bl, decide_eq_true_eq, Bool.not_eq_true', decide_eq_false_iff_not, MP.wipeV_nil, MP.wipeV_cons]
  refine ⟨by decide, ?_⟩
  rw [abs_nat, abs_nat]
  refine eucl ?_ 8000 _ _ _ _ _ _ hy (by decide) fun b' t u => ?_
  · intro d a b t u Z2 hZ
    simp only [MP.wpSs, MP.wpS, MP.wpT, MP.wpE, MP.wpEs, MP.wpG, MP.wpGs, MP.wpI, List.map_cons, List.map_nil, List.length_cons, List.length_nil, List.cons_append, List.nil_append, MP.slotV, List.getElem?_cons_zero, List.getElem?_cons_succ, Option.join_some, MP.look, MP.frz, MP.lk1, MP.lk2, MP.cmpS, MP.biS, MP.binS, MP.idxS, MP.slcS, MP.truS, MP.mtS, MP.isT, MP.looks, MP.argsV, MP.lent, MP.intOf, MP.bolOf, MP.seqOf, MP.tupOf, MP.isMl, MP.cnd, MP.bnd, MP.subS, MP.backV, MP.tgsLen, List.set_cons_zero, List.set_cons_succ, Nat.zero_add, Nat.reduceAdd, Nat.reduceSub, List.replicate, List.all_nil, List.all_cons, List.nodup_nil, Bool.and_self, true_and, and_true, ite_true, ite_false, Bool.false_eq_true, if_true, if_false, reduceIte, not_false_eq_true, List.not_mem_nil, MP.startV, MP.at0, MP.at1, MP.at2, MP.at3, MP.at4, MP.at5, MP.shp_int, MP.shp_bl, MP.shp_non, MP.deq_int, MP.deq_bl, decide_eq_true_eq, Bool.not_eq_true', decide_eq_false_iff_not, MP.wipeV_nil, MP.wipeV_cons]
    by_cases z : b = 0
    · subst z
      rw [if_pos rfl] at hZ
      rw [if_pos (by rfl)]
      exact hZ
    · rw [if_neg z] at hZ
      have zi : (b : Int) ≠ 0 := by omega
      rw [if_neg zi]
      refine ⟨zi, ?_⟩
      have e : Int.fmod (a : Int) (b : Int) = ((a % b : Nat) : Int) := by
        rw [Int.fmod_eq_emod_of_nonneg _ (by omega)]; rfl
      rw [e]
      exact hZ
  · simp only [MP.wpSs, MP.wpS, MP.wpT, MP.wpE, MP.wpEs, MP.wpG, MP.wpGs, MP.wpI, List.map_cons, List.map_nil, List.length_cons, List.length_nil, List.cons_append, List.nil_append, MP.slotV, List.getElem?_cons_zero, List.getElem?_cons_succ, Option.join_some, MP.look, MP.frz, MP.lk1, MP.lk2, MP.cmpS, MP.biS, MP.binS, MP.idxS, MP.slcS, MP.truS, MP.mtS, MP.isT, MP.looks, MP.argsV, MP.lent, MP.intOf, MP.bolOf, MP.seqOf, MP.tupOf, MP.isMl, MP.cnd, MP.bnd, MP.subS, MP.backV, MP.tgsLen, List.set_cons_zero, List.set_cons_succ, Nat.zero_add, Nat.reduceAdd, Nat.reduceSub, List.replicate, List.all_nil, List.all_cons, List.nodup_nil, Bool.and_self, true_and, and_true, ite_true, ite_false, Bool.false_eq_true, if_true, if_false, reduceIte, not_false_eq_true, List.not_mem_nil, MP.startV, MP.at0, MP.at1, MP.at2, MP.at3, MP.at4, MP.at5, MP.shp_int, MP.shp_bl, MP.shp_non, MP.deq_int, MP.deq_bl, decide_eq_true_eq, Bool.not_eq_true', decide_eq_false_iff_not, MP.wipeV_nil, MP.wipeV_cons]
    exact hQ _ _ ⟨rfl, rfl⟩
theorem w_frac (ds : List Val) (Q) (h : gFraction.sp ds Q) : MP.wpSs Γ 2 [] m_law_frac (MP.startV 3 ds) (MP.endV gFraction 2 Q) := by
  obtain ⟨⟨n, d⟩, rfl, ⟨hd, hn, hd2⟩, hQ⟩ := h
  dsimp only at hd hn hd2
  simp only [m_law_frac, MP.wpSs, MP.wpS, MP.wpT, MP.wpE, MP.wpEs, MP.wpG, MP.wpGs, MP.wpI, List.map_cons, List.map_nil, List.length_cons, List.length_nil, List.cons_append, List.nil_append, MP.slotV, List.getElem?_cons_zero, List.getElem?_cons_succ, Option.join_some, MP.look, MP.frz, MP.lk1, MP.lk2, MP.cmpS, MP.biS, MP.binS, MP.idxS, MP.slcS, MP.truS, MP.mtS, MP.isT, MP.looks, MP.argsV, MP.lent, MP.intOf, MP.bolOf, MP.seqOf, MP.tupOf, MP.isMl, MP.cnd, MP.bnd, MP.subS, MP.backV, MP.tgsLen, List.set_cons_zero, List.set_cons_succ, Nat.zero_add, Nat.reduceAdd, Nat.reduceSub, List.replicate, List.all_nil, List.all_cons, List.nodup_nil, Bool.and_self, true_and, and_true, ite_true, ite_false, Bool.false_eq_true, if_true, if_false, reduceIte, not_false_eq_true, List.not_mem_nil, MP.startV, MP.at0, MP.at1, MP.at2, MP.at3, MP.at4, MP.at5, MP.shp_int, MP.shp_bl, MP.shp_non, MP.deq_int, MP.deq_bl, decide_eq_true_eq, Bool.not_eq_true', decide_eq_false_iff_not, MP.wipeV_nil, MP.wipeV_cons]
  refine ⟨1, gGcd, by decide, rfl, (_, _), rfl, ⟨hn, hd2⟩, ?_⟩
  rintro r ms ⟨rfl, rfl⟩
  simp only [MP.wpSs, MP.wpS, MP.wpT, MP.wpE, MP.wpEs, MP.wpG, MP.wpGs, MP.wpI, List.map_cons, List.map_nil, List.length_cons, List.length_nil, List.cons_append, List.nil_append, MP.slotV, List.getElem?_cons_zero, List.getElem?_cons_succ, Option.join_some, MP.look, MP.frz, MP.lk1, MP.lk2, MP.cmpS, MP.biS, MP.binS, MP.idxS, MP.slcS, MP.truS, MP.mtS, MP.isT, MP.looks, MP.argsV, MP.lent, MP.intOf, MP.bolOf, MP.seqOf, MP.tupOf, MP.isMl, MP.cnd, MP.bnd, MP.subS, MP.backV, MP.tgsLen, List.set_cons_zero, List.set_cons_succ, Nat.zero_add, Nat.reduceAdd, Nat.reduceSub, List.replicate, List.all_nil, List.all_cons, List.nodup_nil, Bool.and_self, true_and, and_true, ite_true, ite_false, Bool.false_eq_true, if_true, if_false, reduceIte, not_false_eq_true, List.not_mem_nil, MP.startV, MP.at0, MP.at1, MP.at2, MP.at3, MP.at4, MP.at5, MP.shp_int, MP.shp_bl, MP.shp_non, MP.deq_int, MP.deq_bl, decide_eq_true_eq, Bool.not_eq_true', decide_eq_false_iff_not, MP.wipeV_nil, MP.wipeV_cons]
  have g1 := gcdI_le (n := n) hd
  have g2 := gcdI_pos (n := n) hd
  have e : (if gcdI n d > 1 then gcdI n d else 1) = gcdI n d := by split <;> omega
  have q := lfrac_eq (n := n) hd
  unfold lfracF at q
  rw [e] at q ⊢
  have l1 : (gcdI n d).natAbs.log2 < 9000 := Nat.lt_of_le_of_lt (lg (Nat.lt_of_le_of_lt g1 hd2)) (by decide)
  have l2 : (0 - gcdI n d).natAbs.log2 < 9000 := by
    have : (0 - gcdI n d).natAbs = (gcdI n d).natAbs := by omega
    rw [this]; exact l1
  by_cases z : d < 0
  · rw [if_pos z]
    simp only [if_pos z] at q
    exact ⟨by omega, l2, by omega, l2, by decide, hQ _ _ ⟨by rw [← q]; rfl, rfl⟩⟩
  · rw [if_neg z]
    simp only [if_neg z] at q
    exact ⟨by omega, l1, by omega, l1, by decide, hQ _ _ ⟨by rw [← q]; rfl, rfl⟩⟩
theorem w_imaged (ds : List Val) (Q) (h : gImg.sp ds Q) : MP.wpSs Γ 4 [] m_law_imaged (MP.startV 6 ds) (MP.endV gImg 2 Q) := by
  obtain ⟨⟨⟨⟨a1, b1, c1⟩, ⟨a2, b2, c2⟩⟩, ⟨x, y⟩⟩, rfl, ⟨hm, hp⟩, hQ⟩ := h
  simp only [m_law_imaged, mx, rw3, pt, MP.forL, MP.wpSs, MP.wpS, MP.wpT, MP.wpE, MP.wpEs, MP.wpG, MP.wpGs, MP.wpI, List.map_cons, List.map_nil, List.length_cons, List.length_nil, List.cons_append, List.nil_append, MP.slotV, List.getElem?_cons_zero, List.getElem?_cons_succ, Option.join_some, MP.look, MP.frz, MP.lk1, MP.lk2, MP.cmpS, MP.biS, MP.binS, MP.idxS, MP.slcS, MP.truS, MP.mtS, MP.isT, MP.looks, MP.argsV, MP.lent, MP.intOf, MP.bolOf, MP.seqOf, MP.tupOf, MP.isMl, MP.cnd, MP.bnd, MP.subS, MP.backV, MP.tgsLen, List.set_cons_zero, List.set_cons_succ, Nat.zero_add, Nat.reduceAdd, Nat.reduceSub, List.replicate, List.all_nil, List.all_cons, List.nodup_nil, Bool.and_self, true_and, and_true, ite_true, ite_false, Bool.false_eq_true, if_true, if_false, reduceIte, not_false_eq_true, List.not_mem_nil, MP.startV, MP.at0, MP.at1, MP.at2, MP.at3, MP.at4, MP.at5, MP.shp_int, MP.shp_bl, MP.shp_non, MP.deq_int, MP.deq_bl, decide_eq_true_eq, Bool.not_eq_true', decide_eq_false_iff_not, MP.wipeV_nil, MP.wipeV_cons]
  obtain ⟨⟨ha1, hb1, hc1⟩, ⟨ha2, hb2, hc2⟩⟩ := hm
  obtain ⟨hx, hy⟩ := hp
  refine ⟨by decide, 3, gF2 mulF, by decide, rfl, (_, _), rfl, ⟨_, _, ha1, hx, by decide⟩, ?_⟩
  rintro r ms ⟨rfl, rfl⟩
  refine ⟨3, gF2 mulF, by decide, rfl, (_, _), rfl, ⟨_, _, hb1, hy, by decide⟩, ?_⟩
  rintro r ms ⟨rfl, rfl⟩
  refine ⟨3, gF2 addF, by decide, rfl, (_, _), rfl, ⟨_, _, ha1.mul hx, hb1.mul hy, by decide⟩, ?_⟩
  rintro r ms ⟨rfl, rfl⟩
  refine ⟨3, gF2 addF, by decide, rfl, (_, _), rfl, ⟨_, _, (ha1.mul hx).add (hb1.mul hy), hc1, by decide⟩, ?_⟩
  rintro r ms ⟨rfl, rfl⟩
  refine ⟨by simp, 3, gF2 mulF, by decide, rfl, (_, _), rfl, ⟨_, _, ha2, hx, by decide⟩, ?_⟩
  rintro r ms ⟨rfl, rfl⟩
  refine ⟨3, gF2 mulF, by decide, rfl, (_, _), rfl, ⟨_, _, hb2, hy, by decide⟩, ?_⟩
  rintro r ms ⟨rfl, rfl⟩
  refine ⟨3, gF2 addF, by decide, rfl, (_, _), rfl, ⟨_, _, ha2.mul hx, hb2.mul hy, by decide⟩, ?_⟩
  rintro r ms ⟨rfl, rfl⟩
  refine ⟨3, gF2 addF, by decide, rfl, (_, _), rfl, ⟨_, _, (ha2.mul hx).add (hb2.mul hy), hc2, by decide⟩, ?_⟩
  rintro r ms ⟨rfl, rfl⟩
  exact ⟨by simp, hQ _ _ ⟨rfl, rfl⟩⟩
theorem w_imaged_all (ds : List Val) (Q) (h : gAll.sp ds Q) : MP.wpSs Γ 5 [] m_law_imaged_all (MP.startV 3 ds) (MP.endV gAll 2 Q) := by
  obtain ⟨⟨m, l⟩, rfl, ⟨hm, hl, hn⟩, hQ⟩ := h
  simp only [m_law_imaged_all, sgs, MP.wpSs, MP.wpS, MP.wpT, MP.wpE, MP.wpEs, MP.wpG, MP.wpGs, MP.wpI, List.map_cons, List.map_nil, List.length_cons, List.length_nil, List.cons_append, List.nil_append, MP.slotV, List.getElem?_cons_zero, List.getElem?_cons_succ, Option.join_some, MP.look, MP.frz, MP.lk1, MP.lk2, MP.cmpS, MP.biS, MP.binS, MP.idxS, MP.slcS, MP.truS, MP.mtS, MP.isT, MP.looks, MP.argsV, MP.lent, MP.intOf, MP.bolOf, MP.seqOf, MP.tupOf, MP.isMl, MP.cnd, MP.bnd, MP.subS, MP.backV, MP.tgsLen, List.set_cons_zero, List.set_cons_succ, Nat.zero_add, Nat.reduceAdd, Nat.reduceSub, List.replicate, List.all_nil, List.all_cons, List.nodup_nil, Bool.and_self, true_and, and_true, ite_true, ite_false, Bool.false_eq_true, if_true, if_false, reduceIte, not_false_eq_true, List.not_mem_nil, MP.startV, MP.at0, MP.at1, MP.at2, MP.at3, MP.at4, MP.at5, MP.shp_int, MP.shp_bl, MP.shp_non, MP.deq_int, MP.deq_bl, decide_eq_true_eq, Bool.not_eq_true', decide_eq_false_iff_not, MP.wipeV_nil, MP.wipeV_cons]
  refine lcL_ind sg (fun s => sg (segF (imgF m s.1) (imgF m s.2))) (fun ρ => ∃ x, ρ = [some (.im (mx m)), some (.im (.tup (l.map sg))), x]) l _ [] ?_ ⟨_, rfl⟩ (by simp; dsimp only at hn; omega) ?_
  · rintro ⟨p, q⟩ hs ρ R ⟨x, rfl⟩ hR
    obtain ⟨h1, h2⟩ := hl _ hs
    simp only [sg, MP.wpSs, MP.wpS, MP.wpT, MP.wpE, MP.wpEs, MP.wpG, MP.wpGs, MP.wpI, List.map_cons, List.map_nil, List.length_cons, List.length_nil, List.cons_append, List.nil_append, MP.slotV, List.getElem?_cons_zero, List.getElem?_cons_succ, Option.join_some, MP.look, MP.frz, MP.lk1, MP.lk2, MP.cmpS, MP.biS, MP.binS, MP.idxS, MP.slcS, MP.truS, MP.mtS, MP.isT, MP.looks, MP.argsV, MP.lent, MP.intOf, MP.bolOf, MP.seqOf, MP.tupOf, MP.isMl, MP.cnd, MP.bnd, MP.subS, MP.backV, MP.tgsLen, List.set_cons_zero, List.set_cons_succ, Nat.zero_add, Nat.reduceAdd, Nat.reduceSub, List.replicate, List.all_nil, List.all_cons, List.nodup_nil, Bool.and_self, true_and, and_true, ite_true, ite_false, Bool.false_eq_true, if_true, if_false, reduceIte, not_false_eq_true, List.not_mem_nil, MP.startV, MP.at0, MP.at1, MP.at2, MP.at3, MP.at4, MP.at5, MP.shp_int, MP.shp_bl, MP.shp_non, MP.deq_int, MP.deq_bl, decide_eq_true_eq, Bool.not_eq_true', decide_eq_false_iff_not, MP.wipeV_nil, MP.wipeV_cons]
    refine ⟨4, gImg, by decide, rfl, (_, _), rfl, ⟨hm, h1⟩, ?_⟩
    rintro r ms ⟨rfl, rfl⟩
    simp only [MP.wpSs, MP.wpS, MP.wpT, MP.wpE, MP.wpEs, MP.wpG, MP.wpGs, MP.wpI, List.map_cons, List.map_nil, List.length_cons, List.length_nil, List.cons_append, List.nil_append, MP.slotV, List.getElem?_cons_zero, List.getElem?_cons_succ, Option.join_some, MP.look, MP.frz, MP.lk1, MP.lk2, MP.cmpS, MP.biS, MP.binS, MP.idxS, MP.slcS, MP.truS, MP.mtS, MP.isT, MP.looks, MP.argsV, MP.lent, MP.intOf, MP.bolOf, MP.seqOf, MP.tupOf, MP.isMl, MP.cnd, MP.bnd, MP.subS, MP.backV, MP.tgsLen, List.set_cons_zero, List.set_cons_succ, Nat.zero_add, Nat.reduceAdd, Nat.reduceSub, List.replicate, List.all_nil, List.all_cons, List.nodup_nil, Bool.and_self, true_and, and_true, ite_true, ite_false, Bool.false_eq_true, if_true, if_false, reduceIte, not_false_eq_true, List.not_mem_nil, MP.startV, MP.at0, MP.at1, MP.at2, MP.at3, MP.at4, MP.at5, MP.shp_int, MP.shp_bl, MP.shp_non, MP.deq_int, MP.deq_bl, decide_eq_true_eq, Bool.not_eq_true', decide_eq_false_iff_not, MP.wipeV_nil, MP.wipeV_cons]
    refine ⟨4, gImg, by decide, rfl, (_, _), rfl, ⟨hm, h2⟩, ?_⟩
    rintro r ms ⟨rfl, rfl⟩
    simp only [MP.wpSs, MP.wpS, MP.wpT, MP.wpE, MP.wpEs, MP.wpG, MP.wpGs, MP.wpI, List.map_cons, List.map_nil, List.length_cons, List.length_nil, List.cons_append, List.nil_append, MP.slotV, List.getElem?_cons_zero, List.getElem?_cons_succ, Option.join_some, MP.look, MP.frz, MP.lk1, MP.lk2, MP.cmpS, MP.biS, MP.binS, MP.idxS, MP.slcS, MP.truS, MP.mtS, MP.isT, MP.looks, MP.argsV, MP.lent, MP.intOf, MP.bolOf, MP.seqOf, MP.tupOf, MP.isMl, MP.cnd, MP.bnd, MP.subS, MP.backV, MP.tgsLen, List.set_cons_zero, List.set_cons_succ, Nat.zero_add, Nat.reduceAdd, Nat.reduceSub, List.replicate, List.all_nil, List.all_cons, List.nodup_nil, Bool.and_self, true_and, and_true, ite_true, ite_false, Bool.false_eq_true, if_true, if_false, reduceIte, not_false_eq_true, List.not_mem_nil, MP.startV, MP.at0, MP.at1, MP.at2, MP.at3, MP.at4, MP.at5, MP.shp_int, MP.shp_bl, MP.shp_non, MP.deq_int, MP.deq_bl, decide_eq_true_eq, Bool.not_eq_true', decide_eq_false_iff_not, MP.wipeV_nil, MP.wipeV_cons]
    refine ⟨3, _, by decide, rfl, (_, _), rfl, ⟨_, _, PB.img hm h1, PB.img hm h2, by decide⟩, ?_⟩
    rintro r ms ⟨rfl, rfl⟩
    have e : segF (imgF m p) (imgF m q) = joinF (imgF m p) (imgF m q) := seg_join (PB.img hm h1) (PB.img hm h2)
    show R (some (sg (joinF (imgF m p) (imgF m q)))) _
    rw [← e]
    exact hR _ ⟨_, rfl⟩
  · rintro ρ ⟨x, rfl⟩
    simp only [MP.wpSs, MP.wpS, MP.wpT, MP.wpE, MP.wpEs, MP.wpG, MP.wpGs, MP.wpI, List.map_cons, List.map_nil, List.length_cons, List.length_nil, List.cons_append, List.nil_append, MP.slotV, List.getElem?_cons_zero, List.getElem?_cons_succ, Option.join_some, MP.look, MP.frz, MP.lk1, MP.lk2, MP.cmpS, MP.biS, MP.binS, MP.idxS, MP.slcS, MP.truS, MP.mtS, MP.isT, MP.looks, MP.argsV, MP.lent, MP.intOf, MP.bolOf, MP.seqOf, MP.tupOf, MP.isMl, MP.cnd, MP.bnd, MP.subS, MP.backV, MP.tgsLen, List.set_cons_zero, List.set_cons_succ, Nat.zero_add, Nat.reduceAdd, Nat.reduceSub, List.replicate, List.all_nil, List.all_cons, List.nodup_nil, Bool.and_self, true_and, and_true, ite_true, ite_false, Bool.false_eq_true, if_true, if_false, reduceIte, not_false_eq_true, List.not_mem_nil, MP.startV, MP.at0, MP.at1, MP.at2, MP.at3, MP.at4, MP.at5, MP.shp_int, MP.shp_bl, MP.shp_non, MP.deq_int, MP.deq_bl, decide_eq_true_eq, Bool.not_eq_true', decide_eq_false_iff_not, MP.wipeV_nil, MP.wipeV_cons]
    refine hQ _ _ ⟨?_, rfl⟩
    unfold sgs allF
    rw [List.map_map]
    rfl
end K76

/-! k76: the law's drawing. -/
namespace K76
open PySem PySem.Spec PyProof.Rows L2 MP
theorem w_same (n : Nat) (ds : List Val) (Q) (h : (gSame n).sp ds Q) : MP.wpSs Γ (n + 1) [] m_law_same (MP.startV 3 ds) (MP.endV (gSame n) 2 Q) := by
  obtain ⟨x, rfl, hx, hQ⟩ := h
  have hx' : (∃ i, x = .int i) ∨ ∃ l m, n = m + 1 ∧ x = .tup l ∧ l.length ≤ 1000 ∧ ∀ y ∈ l, okD m y := by
    cases n with
    | zero => exact .inl hx
    | succ n =>
      rcases hx with h | ⟨l, h⟩
      · exact .inl h
      · exact .inr ⟨l, n, rfl, h⟩
  rcases hx' with ⟨i, rfl⟩ | ⟨l, m, rfl, rfl, hl, hy⟩
  · simp only [m_law_same, List.any_nil, List.any_cons, Bool.or_self, Bool.or_false, beq_self_eq_true, Bool.true_eq_false, decide_true, MP.wpSs, MP.wpS, MP.wpT, MP.wpE, MP.wpEs, MP.wpG, MP.wpGs, MP.wpI, List.map_cons, List.map_nil, List.length_cons, List.length_nil, List.cons_append, List.nil_append, MP.slotV, List.getElem?_cons_zero, List.getElem?_cons_succ, Option.join_some, MP.look, MP.frz, MP.lk1, MP.lk2, MP.cmpS, MP.biS, MP.binS, MP.idxS, MP.slcS, MP.truS, MP.mtS, MP.isT, MP.looks, MP.argsV, MP.lent, MP.intOf, MP.bolOf, MP.seqOf, MP.tupOf, MP.isMl, MP.cnd, MP.bnd, MP.subS, MP.backV, MP.tgsLen, List.set_cons_zero, List.set_cons_succ, Nat.zero_add, Nat.reduceAdd, Nat.reduceSub, List.replicate, List.all_nil, List.all_cons, List.nodup_nil, Bool.and_self, true_and, and_true, ite_true, ite_false, Bool.false_eq_true, if_true, if_false, reduceIte, not_false_eq_true, List.not_mem_nil, MP.startV, MP.at0, MP.at1, MP.at2, MP.at3, MP.at4, MP.at5, MP.shp_int, MP.shp_bl, MP.shp_non, MP.deq_int, MP.deq_bl, decide_eq_true_eq, Bool.not_eq_true', decide_eq_false_iff_not, MP.wipeV_nil, MP.wipeV_cons]
    exact hQ _ _ ⟨rfl, rfl⟩
  · simp only [m_law_same, List.any_nil, List.any_cons, Bool.or_self, Bool.or_false, beq_self_eq_true, Bool.true_eq_false, decide_true, not_true_eq_false, MP.wpSs, MP.wpS, MP.wpT, MP.wpE, MP.wpEs, MP.wpG, MP.wpGs, MP.wpI, List.map_cons, List.map_nil, List.length_cons, List.length_nil, List.cons_append, List.nil_append, MP.slotV, List.getElem?_cons_zero, List.getElem?_cons_succ, Option.join_some, MP.look, MP.frz, MP.lk1, MP.lk2, MP.cmpS, MP.biS, MP.binS, MP.idxS, MP.slcS, MP.truS, MP.mtS, MP.isT, MP.looks, MP.argsV, MP.lent, MP.intOf, MP.bolOf, MP.seqOf, MP.tupOf, MP.isMl, MP.cnd, MP.bnd, MP.subS, MP.backV, MP.tgsLen, List.set_cons_zero, List.set_cons_succ, Nat.zero_add, Nat.reduceAdd, Nat.reduceSub, List.replicate, List.all_nil, List.all_cons, List.nodup_nil, Bool.and_self, true_and, and_true, ite_true, ite_false, Bool.false_eq_true, if_true, if_false, reduceIte, not_false_eq_true, List.not_mem_nil, MP.startV, MP.at0, MP.at1, MP.at2, MP.at3, MP.at4, MP.at5, MP.shp_int, MP.shp_bl, MP.shp_non, MP.deq_int, MP.deq_bl, decide_eq_true_eq, Bool.not_eq_true', decide_eq_false_iff_not, MP.wipeV_nil, MP.wipeV_cons]
    refine ⟨by omega, ?_⟩
    refine lcL_rel (α := Unit) (fun ρ => ∃ z, ρ = [some (Val.im (D.tup l)), some (Val.im (D.tup l)), z]) (fun _ => .bl true) (fun _ => True) _ _ [] ?_ ⟨_, rfl⟩ (by simp) (by simp [MP.rngD]; omega) ?_
    · rintro d hd ρ R ⟨z, rfl⟩ hR
      obtain ⟨j, hj⟩ := List.getElem?_of_mem hd
      obtain ⟨h1, rfl⟩ := rng_get hj
      have h2 : j < l.length := by omega
      simp only [MP.wpSs, MP.wpS, MP.wpT, MP.wpE, MP.wpEs, MP.wpG, MP.wpGs, MP.wpI, List.map_cons, List.map_nil, List.length_cons, List.length_nil, List.cons_append, List.nil_append, MP.slotV, List.getElem?_cons_zero, List.getElem?_cons_succ, Option.join_some, MP.look, MP.frz, MP.lk1, MP.lk2, MP.cmpS, MP.biS, MP.binS, MP.idxS, MP.slcS, MP.truS, MP.mtS, MP.isT, MP.looks, MP.argsV, MP.lent, MP.intOf, MP.bolOf, MP.seqOf, MP.tupOf, MP.isMl, MP.cnd, MP.bnd, MP.subS, MP.backV, MP.tgsLen, List.set_cons_zero, List.set_cons_succ, Nat.zero_add, Nat.reduceAdd, Nat.reduceSub, List.replicate, List.all_nil, List.all_cons, List.nodup_nil, Bool.and_self, true_and, and_true, ite_true, ite_false, Bool.false_eq_true, if_true, if_false, reduceIte, not_false_eq_true, List.not_mem_nil, MP.startV, MP.at0, MP.at1, MP.at2, MP.at3, MP.at4, MP.at5, MP.shp_int, MP.shp_bl, MP.shp_non, MP.deq_int, MP.deq_bl, decide_eq_true_eq, Bool.not_eq_true', decide_eq_false_iff_not, MP.wipeV_nil, MP.wipeV_cons]
      have e : atI l (0 + (j : Int)) = some l[j] := by rw [Int.zero_add]; exact atN (List.getElem?_eq_getElem h2)
      rw [e]
      refine ⟨m + 1, gSame m, by omega, rfl, _, rfl, hy _ (List.getElem_mem h2), ?_⟩
      rintro r ms ⟨rfl, rfl⟩
      exact hR () _ trivial ⟨_, rfl⟩
    · rintro acc ρ hlen _ ⟨z, rfl⟩
      have hb : ∀ x ∈ acc.map (fun _ => D.bl true), x = .bl true := fun x hx => by
        obtain ⟨_, _, rfl⟩ := List.mem_map.mp hx
        rfl
      refine ⟨(Shn.lst (n := 0) fun d hd => by rw [hb d hd]; exact Shn.bl).shp (by decide), hQ _ _ ⟨?_, rfl⟩⟩
      have e : ((acc.map fun _ => D.bl true).any fun z => MP.deq z (.bl false)) = false := by
        rw [List.any_eq_false]
        intro x hx
        rw [hb x hx]
        decide
      rw [e]; rfl
theorem w_corner (ds : List Val) (Q) (h : gCorner.sp ds Q) : MP.wpSs Γ 3 [0] m_law_corner (MP.startV 4 ds) (MP.endV gCorner 3 Q) := by
  obtain ⟨⟨l, size, den⟩, rfl, ⟨h1, h2, h3, h4⟩, hQ⟩ := h
  dsimp only at h1 h2 h3 h4
  have hs : size = 1 ∨ size = 2 ∨ size = 3 ∨ size = 4 ∨ size = 5 := by omega
  have hd : den = 1 ∨ den = 2 ∨ den = 3 := by omega
  have hm : 0 ≤ size * den ∧ size * den ≤ 15 := by
    rcases hs with rfl | rfl | rfl | rfl | rfl <;> rcases hd with rfl | rfl | rfl <;> decide
  have lz : size.natAbs.log2 + den.natAbs.log2 < 1000000 := by
    rcases hs with rfl | rfl | rfl | rfl | rfl <;> rcases hd with rfl | rfl | rfl <;> decide
  have fr : ∀ v : Int, 0 ≤ v → v < size * den + 1 → den ≠ 0 ∧ v.natAbs < 2 ^ 8000 ∧ den.natAbs < 2 ^ 8000 := fun v a b =>
    ⟨by omega, Nat.lt_of_lt_of_le (show v.natAbs < 2 ^ 10 by omega) (pow_le (by decide)), Nat.lt_of_lt_of_le (show den.natAbs < 2 ^ 10 by omega) (pow_le (by decide))⟩
  have fb : ∀ v : Int, 0 ≤ v → v < size * den + 1 → FB 10 (fracF v den) := fun v a b => FB.frac (by omega) (by omega) (by omega)
  simp only [m_law_corner, dr, MP.wpSs, MP.wpS, MP.wpT, MP.wpE, MP.wpEs, MP.wpG, MP.wpGs, MP.wpI, List.map_cons, List.map_nil, List.length_cons, List.length_nil, List.cons_append, List.nil_append, MP.slotV, List.getElem?_cons_zero, List.getElem?_cons_succ, Option.join_some, MP.look, MP.frz, MP.lk1, MP.lk2, MP.cmpS, MP.biS, MP.binS, MP.idxS, MP.slcS, MP.truS, MP.mtS, MP.isT, MP.looks, MP.argsV, MP.lent, MP.intOf, MP.bolOf, MP.seqOf, MP.tupOf, MP.isMl, MP.cnd, MP.bnd, MP.subS, MP.backV, MP.tgsLen, List.set_cons_zero, List.set_cons_succ, Nat.zero_add, Nat.reduceAdd, Nat.reduceSub, List.replicate, List.all_nil, List.all_cons, List.nodup_nil, Bool.and_self, true_and, and_true, ite_true, ite_false, Bool.false_eq_true, if_true, if_false, reduceIte, not_false_eq_true, List.not_mem_nil, MP.startV, MP.at0, MP.at1, MP.at2, MP.at3, MP.at4, MP.at5, MP.shp_int, MP.shp_bl, MP.shp_non, MP.deq_int, MP.deq_bl, decide_eq_true_eq, Bool.not_eq_true', decide_eq_false_iff_not, MP.wipeV_nil, MP.wipeV_cons]
  refine ⟨lz, 1, gTake, by decide, rfl, by decide, by decide, (l, _), rfl, by dsimp only; omega, ?_⟩
  rintro r ms ⟨v, l1, rfl, a1, b1, rfl⟩
  simp only [MP.wpSs, MP.wpS, MP.wpT, MP.wpE, MP.wpEs, MP.wpG, MP.wpGs, MP.wpI, List.map_cons, List.map_nil, List.length_cons, List.length_nil, List.cons_append, List.nil_append, MP.slotV, List.getElem?_cons_zero, List.getElem?_cons_succ, Option.join_some, MP.look, MP.frz, MP.lk1, MP.lk2, MP.cmpS, MP.biS, MP.binS, MP.idxS, MP.slcS, MP.truS, MP.mtS, MP.isT, MP.looks, MP.argsV, MP.lent, MP.intOf, MP.bolOf, MP.seqOf, MP.tupOf, MP.isMl, MP.cnd, MP.bnd, MP.subS, MP.backV, MP.tgsLen, List.set_cons_zero, List.set_cons_succ, Nat.zero_add, Nat.reduceAdd, Nat.reduceSub, List.replicate, List.all_nil, List.all_cons, List.nodup_nil, Bool.and_self, true_and, and_true, ite_true, ite_false, Bool.false_eq_true, if_true, if_false, reduceIte, not_false_eq_true, List.not_mem_nil, MP.startV, MP.at0, MP.at1, MP.at2, MP.at3, MP.at4, MP.at5, MP.shp_int, MP.shp_bl, MP.shp_non, MP.deq_int, MP.deq_bl, decide_eq_true_eq, Bool.not_eq_true', decide_eq_false_iff_not, MP.wipeV_nil, MP.wipeV_cons]
  refine ⟨2, gFraction, by decide, rfl, (_, _), rfl, fr _ a1 b1, ?_⟩
  rintro r ms ⟨rfl, rfl⟩
  simp only [dr, MP.wpSs, MP.wpS, MP.wpT, MP.wpE, MP.wpEs, MP.wpG, MP.wpGs, MP.wpI, List.map_cons, List.map_nil, List.length_cons, List.length_nil, List.cons_append, List.nil_append, MP.slotV, List.getElem?_cons_zero, List.getElem?_cons_succ, Option.join_some, MP.look, MP.frz, MP.lk1, MP.lk2, MP.cmpS, MP.biS, MP.binS, MP.idxS, MP.slcS, MP.truS, MP.mtS, MP.isT, MP.looks, MP.argsV, MP.lent, MP.intOf, MP.bolOf, MP.seqOf, MP.tupOf, MP.isMl, MP.cnd, MP.bnd, MP.subS, MP.backV, MP.tgsLen, List.set_cons_zero, List.set_cons_succ, Nat.zero_add, Nat.reduceAdd, Nat.reduceSub, List.replicate, List.all_nil, List.all_cons, List.nodup_nil, Bool.and_self, true_and, and_true, ite_true, ite_false, Bool.false_eq_true, if_true, if_false, reduceIte, not_false_eq_true, List.not_mem_nil, MP.startV, MP.at0, MP.at1, MP.at2, MP.at3, MP.at4, MP.at5, MP.shp_int, MP.shp_bl, MP.shp_non, MP.deq_int, MP.deq_bl, decide_eq_true_eq, Bool.not_eq_true', decide_eq_false_iff_not, MP.wipeV_nil, MP.wipeV_cons]
  refine ⟨by decide, lz, 1, gTake, by decide, rfl, by decide, by decide, (l1, _), rfl, by dsimp only; omega, ?_⟩
  rintro r ms ⟨v2, l2, rfl, a2, b2, rfl⟩
  simp only [MP.wpSs, MP.wpS, MP.wpT, MP.wpE, MP.wpEs, MP.wpG, MP.wpGs, MP.wpI, List.map_cons, List.map_nil, List.length_cons, List.length_nil, List.cons_append, List.nil_append, MP.slotV, List.getElem?_cons_zero, List.getElem?_cons_succ, Option.join_some, MP.look, MP.frz, MP.lk1, MP.lk2, MP.cmpS, MP.biS, MP.binS, MP.idxS, MP.slcS, MP.truS, MP.mtS, MP.isT, MP.looks, MP.argsV, MP.lent, MP.intOf, MP.bolOf, MP.seqOf, MP.tupOf, MP.isMl, MP.cnd, MP.bnd, MP.subS, MP.backV, MP.tgsLen, List.set_cons_zero, List.set_cons_succ, Nat.zero_add, Nat.reduceAdd, Nat.reduceSub, List.replicate, List.all_nil, List.all_cons, List.nodup_nil, Bool.and_self, true_and, and_true, ite_true, ite_false, Bool.false_eq_true, if_true, if_false, reduceIte, not_false_eq_true, List.not_mem_nil, MP.startV, MP.at0, MP.at1, MP.at2, MP.at3, MP.at4, MP.at5, MP.shp_int, MP.shp_bl, MP.shp_non, MP.deq_int, MP.deq_bl, decide_eq_true_eq, Bool.not_eq_true', decide_eq_false_iff_not, MP.wipeV_nil, MP.wipeV_cons]
  refine ⟨2, gFraction, by decide, rfl, (_, _), rfl, fr _ a2 b2, ?_⟩
  rintro r ms ⟨rfl, rfl⟩
  exact ⟨by simp, hQ _ _ ⟨(_, _), l2, rfl, ⟨fb _ a1 b1, fb _ a2 b2⟩, rfl⟩⟩
theorem FB.stepped {n : Nat} {f : Fr} (h : FB n f) : FB (n + 1) (f.1 + 1 * f.2, f.2) := by
  refine ⟨?_, h.pos, Nat.lt_of_lt_of_le h.den (pow_le (Nat.le_succ _)), ?_⟩
  · rw [Int.one_mul]; exact add_lt h.num h.den
  · have c := h.cop
    have e : Int.gcd (f.1 + 1 * f.2) f.2 = Int.gcd f.1 f.2 := by
      rw [Int.one_mul]
      simp
    exact e.trans c
theorem w_one (ds : List Val) (Q) (h : gOne.sp ds Q) : MP.wpSs Γ 4 [0] m_law_drawn_one (MP.startV 5 ds) (MP.endV gOne 3 Q) := by
  obtain ⟨⟨l, size, den⟩, rfl, hp, hQ⟩ := h
  simp only [m_law_drawn_one, dr, MP.wpSs, MP.wpS, MP.wpT, MP.wpE, MP.wpEs, MP.wpG, MP.wpGs, MP.wpI, List.map_cons, List.map_nil, List.length_cons, List.length_nil, List.cons_append, List.nil_append, MP.slotV, List.getElem?_cons_zero, List.getElem?_cons_succ, Option.join_some, MP.look, MP.frz, MP.lk1, MP.lk2, MP.cmpS, MP.biS, MP.binS, MP.idxS, MP.slcS, MP.truS, MP.mtS, MP.isT, MP.looks, MP.argsV, MP.lent, MP.intOf, MP.bolOf, MP.seqOf, MP.tupOf, MP.isMl, MP.cnd, MP.bnd, MP.subS, MP.backV, MP.tgsLen, List.set_cons_zero, List.set_cons_succ, Nat.zero_add, Nat.reduceAdd, Nat.reduceSub, List.replicate, List.all_nil, List.all_cons, List.nodup_nil, Bool.and_self, true_and, and_true, ite_true, ite_false, Bool.false_eq_true, if_true, if_false, reduceIte, not_false_eq_true, List.not_mem_nil, MP.startV, MP.at0, MP.at1, MP.at2, MP.at3, MP.at4, MP.at5, MP.shp_int, MP.shp_bl, MP.shp_non, MP.deq_int, MP.deq_bl, decide_eq_true_eq, Bool.not_eq_true', decide_eq_false_iff_not, MP.wipeV_nil, MP.wipeV_cons]
  refine ⟨3, gCorner, by decide, rfl, by decide, by decide, (l, size, den), rfl, hp, ?_⟩
  rintro r ms ⟨p, l1, rfl, hp1, rfl⟩
  simp only [dr, MP.wpSs, MP.wpS, MP.wpT, MP.wpE, MP.wpEs, MP.wpG, MP.wpGs, MP.wpI, List.map_cons, List.map_nil, List.length_cons, List.length_nil, List.cons_append, List.nil_append, MP.slotV, List.getElem?_cons_zero, List.getElem?_cons_succ, Option.join_some, MP.look, MP.frz, MP.lk1, MP.lk2, MP.cmpS, MP.biS, MP.binS, MP.idxS, MP.slcS, MP.truS, MP.mtS, MP.isT, MP.looks, MP.argsV, MP.lent, MP.intOf, MP.bolOf, MP.seqOf, MP.tupOf, MP.isMl, MP.cnd, MP.bnd, MP.subS, MP.backV, MP.tgsLen, List.set_cons_zero, List.set_cons_succ, Nat.zero_add, Nat.reduceAdd, Nat.reduceSub, List.replicate, List.all_nil, List.all_cons, List.nodup_nil, Bool.and_self, true_and, and_true, ite_true, ite_false, Bool.false_eq_true, if_true, if_false, reduceIte, not_false_eq_true, List.not_mem_nil, MP.startV, MP.at0, MP.at1, MP.at2, MP.at3, MP.at4, MP.at5, MP.shp_int, MP.shp_bl, MP.shp_non, MP.deq_int, MP.deq_bl, decide_eq_true_eq, Bool.not_eq_true', decide_eq_false_iff_not, MP.wipeV_nil, MP.wipeV_cons]
  refine ⟨by decide, 3, gCorner, by decide, rfl, by decide, by decide, (l1, size, den), rfl, hp, ?_⟩
  rintro r ms ⟨q, l2, rfl, hq1, rfl⟩
  simp only [shp_pt, deq_pt, MP.wpSs, MP.wpS, MP.wpT, MP.wpE, MP.wpEs, MP.wpG, MP.wpGs, MP.wpI, List.map_cons, List.map_nil, List.length_cons, List.length_nil, List.cons_append, List.nil_append, MP.slotV, List.getElem?_cons_zero, List.getElem?_cons_succ, Option.join_some, MP.look, MP.frz, MP.lk1, MP.lk2, MP.cmpS, MP.biS, MP.binS, MP.idxS, MP.slcS, MP.truS, MP.mtS, MP.isT, MP.looks, MP.argsV, MP.lent, MP.intOf, MP.bolOf, MP.seqOf, MP.tupOf, MP.isMl, MP.cnd, MP.bnd, MP.subS, MP.backV, MP.tgsLen, List.set_cons_zero, List.set_cons_succ, Nat.zero_add, Nat.reduceAdd, Nat.reduceSub, List.replicate, List.all_nil, List.all_cons, List.nodup_nil, Bool.and_self, true_and, and_true, ite_true, ite_false, Bool.false_eq_true, if_true, if_false, reduceIte, not_false_eq_true, List.not_mem_nil, MP.startV, MP.at0, MP.at1, MP.at2, MP.at3, MP.at4, MP.at5, MP.shp_int, MP.shp_bl, MP.shp_non, MP.deq_int, MP.deq_bl, decide_eq_true_eq, Bool.not_eq_true', decide_eq_false_iff_not, MP.wipeV_nil, MP.wipeV_cons]
  have fin : ∀ (q : Pt) (x y : Option Val), PB 11 q → ∃ j g, j < 4 ∧ Γ (Str.ofString "_law_joining") j = some g ∧ g.sp [Val.im (pt p), Val.im (pt q)] fun r ms => (endV gOne 3 Q).rt r [some (dr l2), some (iD size), some (iD den), x, y] := fun q x y hq => by
    refine ⟨3, _, by decide, rfl, (_, _), rfl, ⟨_, _, hp1, hq, by decide⟩, ?_⟩
    rintro r ms ⟨rfl, rfl⟩
    refine hQ _ _ ⟨_, l2, rfl, ?_, rfl⟩
    have hp2 : PB 12 p := hp1.mono (by decide)
    have hq2 : PB 12 q := hq.mono (by decide)
    unfold joinF
    split
    · exact ⟨hp2, hq2⟩
    · exact ⟨hq2, hp2⟩
  split
  · obtain ⟨q1, q2⟩ := q
    simp only [pt, MP.wpSs, MP.wpS, MP.wpT, MP.wpE, MP.wpEs, MP.wpG, MP.wpGs, MP.wpI, List.map_cons, List.map_nil, List.length_cons, List.length_nil, List.cons_append, List.nil_append, MP.slotV, List.getElem?_cons_zero, List.getElem?_cons_succ, Option.join_some, MP.look, MP.frz, MP.lk1, MP.lk2, MP.cmpS, MP.biS, MP.binS, MP.idxS, MP.slcS, MP.truS, MP.mtS, MP.isT, MP.looks, MP.argsV, MP.lent, MP.intOf, MP.bolOf, MP.seqOf, MP.tupOf, MP.isMl, MP.cnd, MP.bnd, MP.subS, MP.backV, MP.tgsLen, List.set_cons_zero, List.set_cons_succ, Nat.zero_add, Nat.reduceAdd, Nat.reduceSub, List.replicate, List.all_nil, List.all_cons, List.nodup_nil, Bool.and_self, true_and, and_true, ite_true, ite_false, Bool.false_eq_true, if_true, if_false, reduceIte, not_false_eq_true, List.not_mem_nil, MP.startV, MP.at0, MP.at1, MP.at2, MP.at3, MP.at4, MP.at5, MP.shp_int, MP.shp_bl, MP.shp_non, MP.deq_int, MP.deq_bl, decide_eq_true_eq, Bool.not_eq_true', decide_eq_false_iff_not, MP.wipeV_nil, MP.wipeV_cons]
    refine ⟨by decide, 1, gStep, by decide, rfl, (q1, 1), rfl, ⟨10, 1, hq1.1, by show (1 : Int).natAbs < _; decide, by decide⟩, ?_⟩
    rintro r ms ⟨rfl, rfl⟩
    simp only [MP.wpSs, MP.wpS, MP.wpT, MP.wpE, MP.wpEs, MP.wpG, MP.wpGs, MP.wpI, List.map_cons, List.map_nil, List.length_cons, List.length_nil, List.cons_append, List.nil_append, MP.slotV, List.getElem?_cons_zero, List.getElem?_cons_succ, Option.join_some, MP.look, MP.frz, MP.lk1, MP.lk2, MP.cmpS, MP.biS, MP.binS, MP.idxS, MP.slcS, MP.truS, MP.mtS, MP.isT, MP.looks, MP.argsV, MP.lent, MP.intOf, MP.bolOf, MP.seqOf, MP.tupOf, MP.isMl, MP.cnd, MP.bnd, MP.subS, MP.backV, MP.tgsLen, List.set_cons_zero, List.set_cons_succ, Nat.zero_add, Nat.reduceAdd, Nat.reduceSub, List.replicate, List.all_nil, List.all_cons, List.nodup_nil, Bool.and_self, true_and, and_true, ite_true, ite_false, Bool.false_eq_true, if_true, if_false, reduceIte, not_false_eq_true, List.not_mem_nil, MP.startV, MP.at0, MP.at1, MP.at2, MP.at3, MP.at4, MP.at5, MP.shp_int, MP.shp_bl, MP.shp_non, MP.deq_int, MP.deq_bl, decide_eq_true_eq, Bool.not_eq_true', decide_eq_false_iff_not, MP.wipeV_nil, MP.wipeV_cons]
    refine ⟨by simp, by decide, ?_⟩
    exact fin (_, _) _ _ ⟨hq1.1.stepped, hq1.2.mono (by decide)⟩
  · exact ⟨by decide, fin q _ _ (hq1.mono (by decide))⟩
theorem w_moved (ds : List Val) (Q) (h : gMoved.sp ds Q) : MP.wpSs Γ 4 [] m_law_moved_spot (MP.startV 4 ds) (MP.endV gMoved 3 Q) := by
  obtain ⟨⟨⟨x, y⟩, f, s⟩, rfl, ⟨hp, hf, hs⟩, hQ⟩ := h
  dsimp only at hf hs
  have ff : FB 70 (f, 1) := ⟨hf, Int.one_pos, by show (1 : Int).natAbs < _; decide, by simp⟩
  have fs : FB 31 (s, 1) := ⟨Nat.lt_of_lt_of_le hs (pow_le (by decide)), Int.one_pos, by show (1 : Int).natAbs < _; decide, by simp⟩
  have fs2 : FB 31 (0 - s, 1) := ⟨by show (0 - s).natAbs < _; have : (0 - s).natAbs = s.natAbs := by omega
                                     rw [this]; exact Nat.lt_of_lt_of_le hs (pow_le (by decide)), Int.one_pos, by show (1 : Int).natAbs < _; decide, by simp⟩
  simp only [m_law_moved_spot, pt, MP.wpSs, MP.wpS, MP.wpT, MP.wpE, MP.wpEs, MP.wpG, MP.wpGs, MP.wpI, List.map_cons, List.map_nil, List.length_cons, List.length_nil, List.cons_append, List.nil_append, MP.slotV, List.getElem?_cons_zero, List.getElem?_cons_succ, Option.join_some, MP.look, MP.frz, MP.lk1, MP.lk2, MP.cmpS, MP.biS, MP.binS, MP.idxS, MP.slcS, MP.truS, MP.mtS, MP.isT, MP.looks, MP.argsV, MP.lent, MP.intOf, MP.bolOf, MP.seqOf, MP.tupOf, MP.isMl, MP.cnd, MP.bnd, MP.subS, MP.backV, MP.tgsLen, List.set_cons_zero, List.set_cons_succ, Nat.zero_add, Nat.reduceAdd, Nat.reduceSub, List.replicate, List.all_nil, List.all_cons, List.nodup_nil, Bool.and_self, true_and, and_true, ite_true, ite_false, Bool.false_eq_true, if_true, if_false, reduceIte, not_false_eq_true, List.not_mem_nil, MP.startV, MP.at0, MP.at1, MP.at2, MP.at3, MP.at4, MP.at5, MP.shp_int, MP.shp_bl, MP.shp_non, MP.deq_int, MP.deq_bl, decide_eq_true_eq, Bool.not_eq_true', decide_eq_false_iff_not, MP.wipeV_nil, MP.wipeV_cons]
  refine ⟨by decide, 3, gF2 mulF, by decide, rfl, (_, (f, 1)), rfl, ⟨_, _, hp.1, ff, by decide⟩, ?_⟩
  rintro r ms ⟨rfl, rfl⟩
  simp only [MP.wpSs, MP.wpS, MP.wpT, MP.wpE, MP.wpEs, MP.wpG, MP.wpGs, MP.wpI, List.map_cons, List.map_nil, List.length_cons, List.length_nil, List.cons_append, List.nil_append, MP.slotV, List.getElem?_cons_zero, List.getElem?_cons_succ, Option.join_some, MP.look, MP.frz, MP.lk1, MP.lk2, MP.cmpS, MP.biS, MP.binS, MP.idxS, MP.slcS, MP.truS, MP.mtS, MP.isT, MP.looks, MP.argsV, MP.lent, MP.intOf, MP.bolOf, MP.seqOf, MP.tupOf, MP.isMl, MP.cnd, MP.bnd, MP.subS, MP.backV, MP.tgsLen, List.set_cons_zero, List.set_cons_succ, Nat.zero_add, Nat.reduceAdd, Nat.reduceSub, List.replicate, List.all_nil, List.all_cons, List.nodup_nil, Bool.and_self, true_and, and_true, ite_true, ite_false, Bool.false_eq_true, if_true, if_false, reduceIte, not_false_eq_true, List.not_mem_nil, MP.startV, MP.at0, MP.at1, MP.at2, MP.at3, MP.at4, MP.at5, MP.shp_int, MP.shp_bl, MP.shp_non, MP.deq_int, MP.deq_bl, decide_eq_true_eq, Bool.not_eq_true', decide_eq_false_iff_not, MP.wipeV_nil, MP.wipeV_cons]
  refine ⟨by decide, 3, gF2 addF, by decide, rfl, (_, (s, 1)), rfl, ⟨_, _, hp.1.mul ff, fs, by decide⟩, ?_⟩
  rintro r ms ⟨rfl, rfl⟩
  simp only [MP.wpSs, MP.wpS, MP.wpT, MP.wpE, MP.wpEs, MP.wpG, MP.wpGs, MP.wpI, List.map_cons, List.map_nil, List.length_cons, List.length_nil, List.cons_append, List.nil_append, MP.slotV, List.getElem?_cons_zero, List.getElem?_cons_succ, Option.join_some, MP.look, MP.frz, MP.lk1, MP.lk2, MP.cmpS, MP.biS, MP.binS, MP.idxS, MP.slcS, MP.truS, MP.mtS, MP.isT, MP.looks, MP.argsV, MP.lent, MP.intOf, MP.bolOf, MP.seqOf, MP.tupOf, MP.isMl, MP.cnd, MP.bnd, MP.subS, MP.backV, MP.tgsLen, List.set_cons_zero, List.set_cons_succ, Nat.zero_add, Nat.reduceAdd, Nat.reduceSub, List.replicate, List.all_nil, List.all_cons, List.nodup_nil, Bool.and_self, true_and, and_true, ite_true, ite_false, Bool.false_eq_true, if_true, if_false, reduceIte, not_false_eq_true, List.not_mem_nil, MP.startV, MP.at0, MP.at1, MP.at2, MP.at3, MP.at4, MP.at5, MP.shp_int, MP.shp_bl, MP.shp_non, MP.deq_int, MP.deq_bl, decide_eq_true_eq, Bool.not_eq_true', decide_eq_false_iff_not, MP.wipeV_nil, MP.wipeV_cons]
  refine ⟨by decide, 3, gF2 mulF, by decide, rfl, (_, (f, 1)), rfl, ⟨_, _, hp.2, ff, by decide⟩, ?_⟩
  rintro r ms ⟨rfl, rfl⟩
  simp only [MP.wpSs, MP.wpS, MP.wpT, MP.wpE, MP.wpEs, MP.wpG, MP.wpGs, MP.wpI, List.map_cons, List.map_nil, List.length_cons, List.length_nil, List.cons_append, List.nil_append, MP.slotV, List.getElem?_cons_zero, List.getElem?_cons_succ, Option.join_some, MP.look, MP.frz, MP.lk1, MP.lk2, MP.cmpS, MP.biS, MP.binS, MP.idxS, MP.slcS, MP.truS, MP.mtS, MP.isT, MP.looks, MP.argsV, MP.lent, MP.intOf, MP.bolOf, MP.seqOf, MP.tupOf, MP.isMl, MP.cnd, MP.bnd, MP.subS, MP.backV, MP.tgsLen, List.set_cons_zero, List.set_cons_succ, Nat.zero_add, Nat.reduceAdd, Nat.reduceSub, List.replicate, List.all_nil, List.all_cons, List.nodup_nil, Bool.and_self, true_and, and_true, ite_true, ite_false, Bool.false_eq_true, if_true, if_false, reduceIte, not_false_eq_true, List.not_mem_nil, MP.startV, MP.at0, MP.at1, MP.at2, MP.at3, MP.at4, MP.at5, MP.shp_int, MP.shp_bl, MP.shp_non, MP.deq_int, MP.deq_bl, decide_eq_true_eq, Bool.not_eq_true', decide_eq_false_iff_not, MP.wipeV_nil, MP.wipeV_cons]
  refine ⟨by decide, 3, gF2 addF, by decide, rfl, (_, (0 - s, 1)), rfl, ⟨_, _, hp.2.mul ff, fs2, by decide⟩, ?_⟩
  rintro r ms ⟨rfl, rfl⟩
  exact ⟨by simp, hQ _ _ ⟨(_, _), rfl, ⟨((hp.1.mul ff).add fs).mono (by decide), ((hp.2.mul ff).add fs2).mono (by decide)⟩, rfl⟩⟩
theorem w_drawn (ds : List Val) (Q) (h : gDrawn.sp ds Q) : MP.wpSs Γ 5 [0] m_law_drawn (MP.startV 9 ds) (MP.endV gDrawn 2 Q) := by
  obtain ⟨⟨l, many⟩, rfl, ⟨hm, hm2⟩, hQ⟩ := h
  dsimp only at hm hm2
  simp only [m_law_drawn, dr, MP.wpSs, MP.wpS, MP.wpT, MP.wpE, MP.wpEs, MP.wpG, MP.wpGs, MP.wpI, List.map_cons, List.map_nil, List.length_cons, List.length_nil, List.cons_append, List.nil_append, MP.slotV, List.getElem?_cons_zero, List.getElem?_cons_succ, Option.join_some, MP.look, MP.frz, MP.lk1, MP.lk2, MP.cmpS, MP.biS, MP.binS, MP.idxS, MP.slcS, MP.truS, MP.mtS, MP.isT, MP.looks, MP.argsV, MP.lent, MP.intOf, MP.bolOf, MP.seqOf, MP.tupOf, MP.isMl, MP.cnd, MP.bnd, MP.subS, MP.backV, MP.tgsLen, List.set_cons_zero, List.set_cons_succ, Nat.zero_add, Nat.reduceAdd, Nat.reduceSub, List.replicate, List.all_nil, List.all_cons, List.nodup_nil, Bool.and_self, true_and, and_true, ite_true, ite_false, Bool.false_eq_true, if_true, if_false, reduceIte, not_false_eq_true, List.not_mem_nil, MP.startV, MP.at0, MP.at1, MP.at2, MP.at3, MP.at4, MP.at5, MP.shp_int, MP.shp_bl, MP.shp_non, MP.deq_int, MP.deq_bl, decide_eq_true_eq, Bool.not_eq_true', decide_eq_false_iff_not, MP.wipeV_nil, MP.wipeV_cons]
  refine ⟨by decide, 2, gPick, by decide, rfl, by decide, by decide, (l, _), rfl, by simp, ?_⟩
  rintro r ms ⟨d1, l1, hd1, rfl, rfl⟩
  have hsz : ∃ size : Int, d1 = .int size ∧ 1 ≤ size ∧ size ≤ 5 := by
    simp only [List.mem_cons, List.not_mem_nil, or_false] at hd1
    rcases hd1 with rfl | rfl | rfl | rfl <;> exact ⟨_, rfl, by decide, by decide⟩
  obtain ⟨size, rfl, s1, s2⟩ := hsz
  simp only [dr, MP.wpSs, MP.wpS, MP.wpT, MP.wpE, MP.wpEs, MP.wpG, MP.wpGs, MP.wpI, List.map_cons, List.map_nil, List.length_cons, List.length_nil, List.cons_append, List.nil_append, MP.slotV, List.getElem?_cons_zero, List.getElem?_cons_succ, Option.join_some, MP.look, MP.frz, MP.lk1, MP.lk2, MP.cmpS, MP.biS, MP.binS, MP.idxS, MP.slcS, MP.truS, MP.mtS, MP.isT, MP.looks, MP.argsV, MP.lent, MP.intOf, MP.bolOf, MP.seqOf, MP.tupOf, MP.isMl, MP.cnd, MP.bnd, MP.subS, MP.backV, MP.tgsLen, List.set_cons_zero, List.set_cons_succ, Nat.zero_add, Nat.reduceAdd, Nat.reduceSub, List.replicate, List.all_nil, List.all_cons, List.nodup_nil, Bool.and_self, true_and, and_true, ite_true, ite_false, Bool.false_eq_true, if_true, if_false, reduceIte, not_false_eq_true, List.not_mem_nil, MP.startV, MP.at0, MP.at1, MP.at2, MP.at3, MP.at4, MP.at5, MP.shp_int, MP.shp_bl, MP.shp_non, MP.deq_int, MP.deq_bl, decide_eq_true_eq, Bool.not_eq_true', decide_eq_false_iff_not, MP.wipeV_nil, MP.wipeV_cons]
  refine ⟨by decide, by decide, 2, gPick, by decide, rfl, by decide, by decide, (l1, _), rfl, by simp, ?_⟩
  rintro r ms ⟨d2, l2, hd2, rfl, rfl⟩
  have hdn : ∃ den : Int, d2 = .int den ∧ 1 ≤ den ∧ den ≤ 3 := by
    simp only [List.mem_cons, List.not_mem_nil, or_false] at hd2
    rcases hd2 with rfl | rfl | rfl | rfl <;> exact ⟨_, rfl, by decide, by decide⟩
  obtain ⟨den, rfl, s3, s4⟩ := hdn
  simp only [dr, MP.wpSs, MP.wpS, MP.wpT, MP.wpE, MP.wpEs, MP.wpG, MP.wpGs, MP.wpI, List.map_cons, List.map_nil, List.length_cons, List.length_nil, List.cons_append, List.nil_append, MP.slotV, List.getElem?_cons_zero, List.getElem?_cons_succ, Option.join_some, MP.look, MP.frz, MP.lk1, MP.lk2, MP.cmpS, MP.biS, MP.binS, MP.idxS, MP.slcS, MP.truS, MP.mtS, MP.isT, MP.looks, MP.argsV, MP.lent, MP.intOf, MP.bolOf, MP.seqOf, MP.tupOf, MP.isMl, MP.cnd, MP.bnd, MP.subS, MP.backV, MP.tgsLen, List.set_cons_zero, List.set_cons_succ, Nat.zero_add, Nat.reduceAdd, Nat.reduceSub, List.replicate, List.all_nil, List.all_cons, List.nodup_nil, Bool.and_self, true_and, and_true, ite_true, ite_false, Bool.false_eq_true, if_true, if_false, reduceIte, not_false_eq_true, List.not_mem_nil, MP.startV, MP.at0, MP.at1, MP.at2, MP.at3, MP.at4, MP.at5, MP.shp_int, MP.shp_bl, MP.shp_non, MP.deq_int, MP.deq_bl, decide_eq_true_eq, Bool.not_eq_true', decide_eq_false_iff_not, MP.wipeV_nil, MP.wipeV_cons]
  refine ⟨by decide, by omega, ?_⟩
  refine lcL_rel (fun ρ => ∃ l' x, ρ = [some (dr l'), some (iD many), some (iD size), some (iD den), none, none, none, x, none]) sg (SB 12) _ _ [] ?_ ⟨_, _, rfl⟩ (by simp) (by simp [MP.rngD]; omega) ?_
  · rintro d hd ρ R ⟨l', x, rfl⟩ hR
    simp only [dr, MP.wpSs, MP.wpS, MP.wpT, MP.wpE, MP.wpEs, MP.wpG, MP.wpGs, MP.wpI, List.map_cons, List.map_nil, List.length_cons, List.length_nil, List.cons_append, List.nil_append, MP.slotV, List.getElem?_cons_zero, List.getElem?_cons_succ, Option.join_some, MP.look, MP.frz, MP.lk1, MP.lk2, MP.cmpS, MP.biS, MP.binS, MP.idxS, MP.slcS, MP.truS, MP.mtS, MP.isT, MP.looks, MP.argsV, MP.lent, MP.intOf, MP.bolOf, MP.seqOf, MP.tupOf, MP.isMl, MP.cnd, MP.bnd, MP.subS, MP.backV, MP.tgsLen, List.set_cons_zero, List.set_cons_succ, Nat.zero_add, Nat.reduceAdd, Nat.reduceSub, List.replicate, List.all_nil, List.all_cons, List.nodup_nil, Bool.and_self, true_and, and_true, ite_true, ite_false, Bool.false_eq_true, if_true, if_false, reduceIte, not_false_eq_true, List.not_mem_nil, MP.startV, MP.at0, MP.at1, MP.at2, MP.at3, MP.at4, MP.at5, MP.shp_int, MP.shp_bl, MP.shp_non, MP.deq_int, MP.deq_bl, decide_eq_true_eq, Bool.not_eq_true', decide_eq_false_iff_not, MP.wipeV_nil, MP.wipeV_cons]
    refine ⟨by decide, 4, gOne, by decide, rfl, by decide, by decide, (l', size, den), rfl, ⟨s1, s2, s3, s4⟩, ?_⟩
    rintro r ms ⟨s, l1, rfl, hs1, rfl⟩
    exact hR s _ hs1 ⟨l1, _, rfl⟩
  · rintro segs ρ hlen hsegs ⟨l', x, rfl⟩
    have hn : segs.length ≤ 10 := by simp [MP.rngD] at hlen; omega
    have fin2 : ∀ (f s : Int) (l5 : List Int) (x7 x8 : Option Val), f.natAbs < 2 ^ 70 → s.natAbs < 2 ^ 30 → MP.wpSs Γ 5 [0] (ssDrop 7 m_law_drawn) [some (dr l5), some (iD many), some (iD size), some (iD den), some (.ml (segs.map sg)), some (iD f), some (iD s), x7, x8] (MP.endV gDrawn 2 Q) := by
      intro f s l5 x7 x8 hf hs
      simp only [ssDrop, m_law_drawn, dr, MP.wpSs, MP.wpS, MP.wpT, MP.wpE, MP.wpEs, MP.wpG, MP.wpGs, MP.wpI, List.map_cons, List.map_nil, List.length_cons, List.length_nil, List.cons_append, List.nil_append, MP.slotV, List.getElem?_cons_zero, List.getElem?_cons_succ, Option.join_some, MP.look, MP.frz, MP.lk1, MP.lk2, MP.cmpS, MP.biS, MP.binS, MP.idxS, MP.slcS, MP.truS, MP.mtS, MP.isT, MP.looks, MP.argsV, MP.lent, MP.intOf, MP.bolOf, MP.seqOf, MP.tupOf, MP.isMl, MP.cnd, MP.bnd, MP.subS, MP.backV, MP.tgsLen, List.set_cons_zero, List.set_cons_succ, Nat.zero_add, Nat.reduceAdd, Nat.reduceSub, List.replicate, List.all_nil, List.all_cons, List.nodup_nil, Bool.and_self, true_and, and_true, ite_true, ite_false, Bool.false_eq_true, if_true, if_false, reduceIte, not_false_eq_true, List.not_mem_nil, MP.startV, MP.at0, MP.at1, MP.at2, MP.at3, MP.at4, MP.at5, MP.shp_int, MP.shp_bl, MP.shp_non, MP.deq_int, MP.deq_bl, decide_eq_true_eq, Bool.not_eq_true', decide_eq_false_iff_not, MP.wipeV_nil, MP.wipeV_cons]
      refine lcL_rel (fun ρ => ∃ x, ρ = [some (dr l5), some (iD many), some (iD size), some (iD den), some (.im (.lst (segs.map sg))), some (iD f), some (iD s), x7, x]) sg (SB 500) _ _ [] ?_ ⟨_, rfl⟩ (by simp) (by simp; omega) ?_
      · rintro d hd ρ R ⟨x, rfl⟩ hR
        obtain ⟨⟨p, q⟩, hpq, rfl⟩ := List.mem_map.mp hd
        obtain ⟨hp, hq⟩ := hsegs _ hpq
        simp only [sg, MP.wpSs, MP.wpS, MP.wpT, MP.wpE, MP.wpEs, MP.wpG, MP.wpGs, MP.wpI, List.map_cons, List.map_nil, List.length_cons, List.length_nil, List.cons_append, List.nil_append, MP.slotV, List.getElem?_cons_zero, List.getElem?_cons_succ, Option.join_some, MP.look, MP.frz, MP.lk1, MP.lk2, MP.cmpS, MP.biS, MP.binS, MP.idxS, MP.slcS, MP.truS, MP.mtS, MP.isT, MP.looks, MP.argsV, MP.lent, MP.intOf, MP.bolOf, MP.seqOf, MP.tupOf, MP.isMl, MP.cnd, MP.bnd, MP.subS, MP.backV, MP.tgsLen, List.set_cons_zero, List.set_cons_succ, Nat.zero_add, Nat.reduceAdd, Nat.reduceSub, List.replicate, List.all_nil, List.all_cons, List.nodup_nil, Bool.and_self, true_and, and_true, ite_true, ite_false, Bool.false_eq_true, if_true, if_false, reduceIte, not_false_eq_true, List.not_mem_nil, MP.startV, MP.at0, MP.at1, MP.at2, MP.at3, MP.at4, MP.at5, MP.shp_int, MP.shp_bl, MP.shp_non, MP.deq_int, MP.deq_bl, decide_eq_true_eq, Bool.not_eq_true', decide_eq_false_iff_not, MP.wipeV_nil, MP.wipeV_cons]
        refine ⟨by decide, 4, gMoved, by decide, rfl, (_, f, s), rfl, ⟨hp.mono (by decide), hf, hs⟩, ?_⟩
        rintro r ms ⟨p', rfl, hp', rfl⟩
        simp only [MP.wpSs, MP.wpS, MP.wpT, MP.wpE, MP.wpEs, MP.wpG, MP.wpGs, MP.wpI, List.map_cons, List.map_nil, List.length_cons, List.length_nil, List.cons_append, List.nil_append, MP.slotV, List.getElem?_cons_zero, List.getElem?_cons_succ, Option.join_some, MP.look, MP.frz, MP.lk1, MP.lk2, MP.cmpS, MP.biS, MP.binS, MP.idxS, MP.slcS, MP.truS, MP.mtS, MP.isT, MP.looks, MP.argsV, MP.lent, MP.intOf, MP.bolOf, MP.seqOf, MP.tupOf, MP.isMl, MP.cnd, MP.bnd, MP.subS, MP.backV, MP.tgsLen, List.set_cons_zero, List.set_cons_succ, Nat.zero_add, Nat.reduceAdd, Nat.reduceSub, List.replicate, List.all_nil, List.all_cons, List.nodup_nil, Bool.and_self, true_and, and_true, ite_true, ite_false, Bool.false_eq_true, if_true, if_false, reduceIte, not_false_eq_true, List.not_mem_nil, MP.startV, MP.at0, MP.at1, MP.at2, MP.at3, MP.at4, MP.at5, MP.shp_int, MP.shp_bl, MP.shp_non, MP.deq_int, MP.deq_bl, decide_eq_true_eq, Bool.not_eq_true', decide_eq_false_iff_not, MP.wipeV_nil, MP.wipeV_cons]
        refine ⟨4, gMoved, by decide, rfl, (_, f, s), rfl, ⟨hq.mono (by decide), hf, hs⟩, ?_⟩
        rintro r ms ⟨q', rfl, hq', rfl⟩
        simp only [MP.wpSs, MP.wpS, MP.wpT, MP.wpE, MP.wpEs, MP.wpG, MP.wpGs, MP.wpI, List.map_cons, List.map_nil, List.length_cons, List.length_nil, List.cons_append, List.nil_append, MP.slotV, List.getElem?_cons_zero, List.getElem?_cons_succ, Option.join_some, MP.look, MP.frz, MP.lk1, MP.lk2, MP.cmpS, MP.biS, MP.binS, MP.idxS, MP.slcS, MP.truS, MP.mtS, MP.isT, MP.looks, MP.argsV, MP.lent, MP.intOf, MP.bolOf, MP.seqOf, MP.tupOf, MP.isMl, MP.cnd, MP.bnd, MP.subS, MP.backV, MP.tgsLen, List.set_cons_zero, List.set_cons_succ, Nat.zero_add, Nat.reduceAdd, Nat.reduceSub, List.replicate, List.all_nil, List.all_cons, List.nodup_nil, Bool.and_self, true_and, and_true, ite_true, ite_false, Bool.false_eq_true, if_true, if_false, reduceIte, not_false_eq_true, List.not_mem_nil, MP.startV, MP.at0, MP.at1, MP.at2, MP.at3, MP.at4, MP.at5, MP.shp_int, MP.shp_bl, MP.shp_non, MP.deq_int, MP.deq_bl, decide_eq_true_eq, Bool.not_eq_true', decide_eq_false_iff_not, MP.wipeV_nil, MP.wipeV_cons]
        exact ⟨by decide, hR (p', q') _ ⟨hp', hq'⟩ ⟨_, rfl⟩⟩
      · rintro l2 ρ hl2 hP ⟨x, rfl⟩
        simp only [MP.wpSs, MP.wpS, MP.wpT, MP.wpE, MP.wpEs, MP.wpG, MP.wpGs, MP.wpI, List.map_cons, List.map_nil, List.length_cons, List.length_nil, List.cons_append, List.nil_append, MP.slotV, List.getElem?_cons_zero, List.getElem?_cons_succ, Option.join_some, MP.look, MP.frz, MP.lk1, MP.lk2, MP.cmpS, MP.biS, MP.binS, MP.idxS, MP.slcS, MP.truS, MP.mtS, MP.isT, MP.looks, MP.argsV, MP.lent, MP.intOf, MP.bolOf, MP.seqOf, MP.tupOf, MP.isMl, MP.cnd, MP.bnd, MP.subS, MP.backV, MP.tgsLen, List.set_cons_zero, List.set_cons_succ, Nat.zero_add, Nat.reduceAdd, Nat.reduceSub, List.replicate, List.all_nil, List.all_cons, List.nodup_nil, Bool.and_self, true_and, and_true, ite_true, ite_false, Bool.false_eq_true, if_true, if_false, reduceIte, not_false_eq_true, List.not_mem_nil, MP.startV, MP.at0, MP.at1, MP.at2, MP.at3, MP.at4, MP.at5, MP.shp_int, MP.shp_bl, MP.shp_non, MP.deq_int, MP.deq_bl, decide_eq_true_eq, Bool.not_eq_true', decide_eq_false_iff_not, MP.wipeV_nil, MP.wipeV_cons]
        exact hQ _ _ ⟨l2, l5, rfl, hP, by simp at hl2; omega, rfl⟩
    have fin1 : ∀ (f : Int) (l5 : List Int) (x7 x8 : Option Val), f.natAbs < 2 ^ 70 → MP.wpSs Γ 5 [0] (ssDrop 5 m_law_drawn) [some (dr l5), some (iD many), some (iD size), some (iD den), some (.ml (segs.map sg)), some (iD f), none, x7, x8] (MP.endV gDrawn 2 Q) := by
      intro f l5 x7 x8 hf
      simp only [ssDrop, m_law_drawn, dr, MP.wpSs, MP.wpS, MP.wpT, MP.wpE, MP.wpEs, MP.wpG, MP.wpGs, MP.wpI, List.map_cons, List.map_nil, List.length_cons, List.length_nil, List.cons_append, List.nil_append, MP.slotV, List.getElem?_cons_zero, List.getElem?_cons_succ, Option.join_some, MP.look, MP.frz, MP.lk1, MP.lk2, MP.cmpS, MP.biS, MP.binS, MP.idxS, MP.slcS, MP.truS, MP.mtS, MP.isT, MP.looks, MP.argsV, MP.lent, MP.intOf, MP.bolOf, MP.seqOf, MP.tupOf, MP.isMl, MP.cnd, MP.bnd, MP.subS, MP.backV, MP.tgsLen, List.set_cons_zero, List.set_cons_succ, Nat.zero_add, Nat.reduceAdd, Nat.reduceSub, List.replicate, List.all_nil, List.all_cons, List.nodup_nil, Bool.and_self, true_and, and_true, ite_true, ite_false, Bool.false_eq_true, if_true, if_false, reduceIte, not_false_eq_true, List.not_mem_nil, MP.startV, MP.at0, MP.at1, MP.at2, MP.at3, MP.at4, MP.at5, MP.shp_int, MP.shp_bl, MP.shp_non, MP.deq_int, MP.deq_bl, decide_eq_true_eq, Bool.not_eq_true', decide_eq_false_iff_not, MP.wipeV_nil, MP.wipeV_cons]
      refine ⟨by decide, by decide, 2, gPick, by decide, rfl, by decide, by decide, (l5, _), rfl, by simp, ?_⟩
      rintro r ms ⟨d3, l6, hd3, rfl, rfl⟩
      have hsh : ∃ s : Int, d3 = .int s ∧ s.natAbs < 2 ^ 30 := by
        simp only [List.mem_cons, List.not_mem_nil, or_false] at hd3
        rcases hd3 with rfl | rfl | rfl | rfl | rfl <;> exact ⟨_, rfl, by decide⟩
      obtain ⟨s, rfl, hs⟩ := hsh
      have z := fin2 f s l6 x7 x8 hf hs
      simp only [ssDrop, m_law_drawn, dr, MP.wpSs, MP.wpS, MP.wpT, MP.wpE, MP.wpEs, MP.wpG, MP.wpGs, MP.wpI, List.map_cons, List.map_nil, List.length_cons, List.length_nil, List.cons_append, List.nil_append, MP.slotV, List.getElem?_cons_zero, List.getElem?_cons_succ, Option.join_some, MP.look, MP.frz, MP.lk1, MP.lk2, MP.cmpS, MP.biS, MP.binS, MP.idxS, MP.slcS, MP.truS, MP.mtS, MP.isT, MP.looks, MP.argsV, MP.lent, MP.intOf, MP.bolOf, MP.seqOf, MP.tupOf, MP.isMl, MP.cnd, MP.bnd, MP.subS, MP.backV, MP.tgsLen, List.set_cons_zero, List.set_cons_succ, Nat.zero_add, Nat.reduceAdd, Nat.reduceSub, List.replicate, List.all_nil, List.all_cons, List.nodup_nil, Bool.and_self, true_and, and_true, ite_true, ite_false, Bool.false_eq_true, if_true, if_false, reduceIte, not_false_eq_true, List.not_mem_nil, MP.startV, MP.at0, MP.at1, MP.at2, MP.at3, MP.at4, MP.at5, MP.shp_int, MP.shp_bl, MP.shp_non, MP.deq_int, MP.deq_bl, decide_eq_true_eq, Bool.not_eq_true', decide_eq_false_iff_not, MP.wipeV_nil, MP.wipeV_cons] at z
      simp only [dr, MP.wpSs, MP.wpS, MP.wpT, MP.wpE, MP.wpEs, MP.wpG, MP.wpGs, MP.wpI, List.map_cons, List.map_nil, List.length_cons, List.length_nil, List.cons_append, List.nil_append, MP.slotV, List.getElem?_cons_zero, List.getElem?_cons_succ, Option.join_some, MP.look, MP.frz, MP.lk1, MP.lk2, MP.cmpS, MP.biS, MP.binS, MP.idxS, MP.slcS, MP.truS, MP.mtS, MP.isT, MP.looks, MP.argsV, MP.lent, MP.intOf, MP.bolOf, MP.seqOf, MP.tupOf, MP.isMl, MP.cnd, MP.bnd, MP.subS, MP.backV, MP.tgsLen, List.set_cons_zero, List.set_cons_succ, Nat.zero_add, Nat.reduceAdd, Nat.reduceSub, List.replicate, List.all_nil, List.all_cons, List.nodup_nil, Bool.and_self, true_and, and_true, ite_true, ite_false, Bool.false_eq_true, if_true, if_false, reduceIte, not_false_eq_true, List.not_mem_nil, MP.startV, MP.at0, MP.at1, MP.at2, MP.at3, MP.at4, MP.at5, MP.shp_int, MP.shp_bl, MP.shp_non, MP.deq_int, MP.deq_bl, decide_eq_true_eq, Bool.not_eq_true', decide_eq_false_iff_not, MP.wipeV_nil, MP.wipeV_cons]
      refine ⟨by decide, ?_⟩
      split
      · split
        · refine hQ _ _ ⟨segs, l6, rfl, fun y hy => ?_, hn, rfl⟩
          obtain ⟨h1, h2⟩ := hsegs y hy
          exact ⟨h1.mono (by decide), h2.mono (by decide)⟩
        · exact z
      · exact z
    simp only [dr, MP.wpSs, MP.wpS, MP.wpT, MP.wpE, MP.wpEs, MP.wpG, MP.wpGs, MP.wpI, List.map_cons, List.map_nil, List.length_cons, List.length_nil, List.cons_append, List.nil_append, MP.slotV, List.getElem?_cons_zero, List.getElem?_cons_succ, Option.join_some, MP.look, MP.frz, MP.lk1, MP.lk2, MP.cmpS, MP.biS, MP.binS, MP.idxS, MP.slcS, MP.truS, MP.mtS, MP.isT, MP.looks, MP.argsV, MP.lent, MP.intOf, MP.bolOf, MP.seqOf, MP.tupOf, MP.isMl, MP.cnd, MP.bnd, MP.subS, MP.backV, MP.tgsLen, List.set_cons_zero, List.set_cons_succ, Nat.zero_add, Nat.reduceAdd, Nat.reduceSub, List.replicate, List.all_nil, List.all_cons, List.nodup_nil, Bool.and_self, true_and, and_true, ite_true, ite_false, Bool.false_eq_true, if_true, if_false, reduceIte, not_false_eq_true, List.not_mem_nil, MP.startV, MP.at0, MP.at1, MP.at2, MP.at3, MP.at4, MP.at5, MP.shp_int, MP.shp_bl, MP.shp_non, MP.deq_int, MP.deq_bl, decide_eq_true_eq, Bool.not_eq_true', decide_eq_false_iff_not, MP.wipeV_nil, MP.wipeV_cons]
    refine ⟨by decide, by decide, 1, gTake, by decide, rfl, by decide, by decide, (l', 6), rfl, by show (0 : Int) < 6; decide, ?_⟩
    rintro r ms ⟨v, l3, rfl, _, _, rfl⟩
    simp only [dr, MP.wpSs, MP.wpS, MP.wpT, MP.wpE, MP.wpEs, MP.wpG, MP.wpGs, MP.wpI, List.map_cons, List.map_nil, List.length_cons, List.length_nil, List.cons_append, List.nil_append, MP.slotV, List.getElem?_cons_zero, List.getElem?_cons_succ, Option.join_some, MP.look, MP.frz, MP.lk1, MP.lk2, MP.cmpS, MP.biS, MP.binS, MP.idxS, MP.slcS, MP.truS, MP.mtS, MP.isT, MP.looks, MP.argsV, MP.lent, MP.intOf, MP.bolOf, MP.seqOf, MP.tupOf, MP.isMl, MP.cnd, MP.bnd, MP.subS, MP.backV, MP.tgsLen, List.set_cons_zero, List.set_cons_succ, Nat.zero_add, Nat.reduceAdd, Nat.reduceSub, List.replicate, List.all_nil, List.all_cons, List.nodup_nil, Bool.and_self, true_and, and_true, ite_true, ite_false, Bool.false_eq_true, if_true, if_false, reduceIte, not_false_eq_true, List.not_mem_nil, MP.startV, MP.at0, MP.at1, MP.at2, MP.at3, MP.at4, MP.at5, MP.shp_int, MP.shp_bl, MP.shp_non, MP.deq_int, MP.deq_bl, decide_eq_true_eq, Bool.not_eq_true', decide_eq_false_iff_not, MP.wipeV_nil, MP.wipeV_cons]
    split
    · refine ⟨by decide, by decide, by decide, 2, gPick, by decide, rfl, by decide, by decide, (l3, _), rfl, by simp, ?_⟩
      rintro r ms ⟨d3, l6, hd3, rfl, rfl⟩
      have hfa : ∃ f : Int, d3 = .int f ∧ f.natAbs < 2 ^ 70 := by
        simp only [List.mem_cons, List.not_mem_nil, or_false] at hd3
        rcases hd3 with rfl | rfl | rfl <;> exact ⟨_, rfl, by decide⟩
      obtain ⟨f, rfl, hf⟩ := hfa
      have z := fin1 f l6 none none hf
      simp only [ssDrop, m_law_drawn, dr, MP.wpSs, MP.wpS, MP.wpT, MP.wpE, MP.wpEs, MP.wpG, MP.wpGs, MP.wpI, List.map_cons, List.map_nil, List.length_cons, List.length_nil, List.cons_append, List.nil_append, MP.slotV, List.getElem?_cons_zero, List.getElem?_cons_succ, Option.join_some, MP.look, MP.frz, MP.lk1, MP.lk2, MP.cmpS, MP.biS, MP.binS, MP.idxS, MP.slcS, MP.truS, MP.mtS, MP.isT, MP.looks, MP.argsV, MP.lent, MP.intOf, MP.bolOf, MP.seqOf, MP.tupOf, MP.isMl, MP.cnd, MP.bnd, MP.subS, MP.backV, MP.tgsLen, List.set_cons_zero, List.set_cons_succ, Nat.zero_add, Nat.reduceAdd, Nat.reduceSub, List.replicate, List.all_nil, List.all_cons, List.nodup_nil, Bool.and_self, true_and, and_true, ite_true, ite_false, Bool.false_eq_true, if_true, if_false, reduceIte, not_false_eq_true, List.not_mem_nil, MP.startV, MP.at0, MP.at1, MP.at2, MP.at3, MP.at4, MP.at5, MP.shp_int, MP.shp_bl, MP.shp_non, MP.deq_int, MP.deq_bl, decide_eq_true_eq, Bool.not_eq_true', decide_eq_false_iff_not, MP.wipeV_nil, MP.wipeV_cons] at z
      simp only [dr, MP.wpSs, MP.wpS, MP.wpT, MP.wpE, MP.wpEs, MP.wpG, MP.wpGs, MP.wpI, List.map_cons, List.map_nil, List.length_cons, List.length_nil, List.cons_append, List.nil_append, MP.slotV, List.getElem?_cons_zero, List.getElem?_cons_succ, Option.join_some, MP.look, MP.frz, MP.lk1, MP.lk2, MP.cmpS, MP.biS, MP.binS, MP.idxS, MP.slcS, MP.truS, MP.mtS, MP.isT, MP.looks, MP.argsV, MP.lent, MP.intOf, MP.bolOf, MP.seqOf, MP.tupOf, MP.isMl, MP.cnd, MP.bnd, MP.subS, MP.backV, MP.tgsLen, List.set_cons_zero, List.set_cons_succ, Nat.zero_add, Nat.reduceAdd, Nat.reduceSub, List.replicate, List.all_nil, List.all_cons, List.nodup_nil, Bool.and_self, true_and, and_true, ite_true, ite_false, Bool.false_eq_true, if_true, if_false, reduceIte, not_false_eq_true, List.not_mem_nil, MP.startV, MP.at0, MP.at1, MP.at2, MP.at3, MP.at4, MP.at5, MP.shp_int, MP.shp_bl, MP.shp_non, MP.deq_int, MP.deq_bl, decide_eq_true_eq, Bool.not_eq_true', decide_eq_false_iff_not, MP.wipeV_nil, MP.wipeV_cons]
      exact ⟨by decide, z⟩
    · have z := fin1 1 l3 none none (by decide)
      simp only [ssDrop, m_law_drawn, dr, MP.wpSs, MP.wpS, MP.wpT, MP.wpE, MP.wpEs, MP.wpG, MP.wpGs, MP.wpI, List.map_cons, List.map_nil, List.length_cons, List.length_nil, List.cons_append, List.nil_append, MP.slotV, List.getElem?_cons_zero, List.getElem?_cons_succ, Option.join_some, MP.look, MP.frz, MP.lk1, MP.lk2, MP.cmpS, MP.biS, MP.binS, MP.idxS, MP.slcS, MP.truS, MP.mtS, MP.isT, MP.looks, MP.argsV, MP.lent, MP.intOf, MP.bolOf, MP.seqOf, MP.tupOf, MP.isMl, MP.cnd, MP.bnd, MP.subS, MP.backV, MP.tgsLen, List.set_cons_zero, List.set_cons_succ, Nat.zero_add, Nat.reduceAdd, Nat.reduceSub, List.replicate, List.all_nil, List.all_cons, List.nodup_nil, Bool.and_self, true_and, and_true, ite_true, ite_false, Bool.false_eq_true, if_true, if_false, reduceIte, not_false_eq_true, List.not_mem_nil, MP.startV, MP.at0, MP.at1, MP.at2, MP.at3, MP.at4, MP.at5, MP.shp_int, MP.shp_bl, MP.shp_non, MP.deq_int, MP.deq_bl, decide_eq_true_eq, Bool.not_eq_true', decide_eq_false_iff_not, MP.wipeV_nil, MP.wipeV_cons] at z
      exact z
end K76

/-! k76: the law's matrices, draws; the law. -/
namespace K76
open PySem PySem.Spec PyProof.Rows L2 MP
theorem w_matrix (ds : List Val) (Q) (h : gMatrix.sp ds Q) : MP.wpSs Γ 4 [0] m_law_drawn_matrix (MP.startV 4 ds) (MP.endV gMatrix 1 Q) := by
  obtain ⟨l, rfl, _, hQ⟩ := h
  have e6 : MP.rngD 0 (Int.toNat 6) = [.int 0, .int 1, .int 2, .int 3, .int 4, .int 5] := rfl
  simp only [m_law_drawn_matrix, dr, e6, MP.wpSs, MP.wpS, MP.wpT, MP.wpE, MP.wpEs, MP.wpG, MP.wpGs, MP.wpI, List.map_cons, List.map_nil, List.length_cons, List.length_nil, List.cons_append, List.nil_append, MP.slotV, List.getElem?_cons_zero, List.getElem?_cons_succ, Option.join_some, MP.look, MP.frz, MP.lk1, MP.lk2, MP.cmpS, MP.biS, MP.binS, MP.idxS, MP.slcS, MP.truS, MP.mtS, MP.isT, MP.looks, MP.argsV, MP.lent, MP.intOf, MP.bolOf, MP.seqOf, MP.tupOf, MP.isMl, MP.cnd, MP.bnd, MP.subS, MP.backV, MP.tgsLen, List.set_cons_zero, List.set_cons_succ, Nat.zero_add, Nat.reduceAdd, Nat.reduceSub, List.replicate, List.all_nil, List.all_cons, List.nodup_nil, Bool.and_self, true_and, and_true, ite_true, ite_false, Bool.false_eq_true, if_true, if_false, reduceIte, not_false_eq_true, List.not_mem_nil, MP.startV, MP.at0, MP.at1, MP.at2, MP.at3, MP.at4, MP.at5, MP.shp_int, MP.shp_bl, MP.shp_non, MP.deq_int, MP.deq_bl, decide_eq_true_eq, Bool.not_eq_true', decide_eq_false_iff_not, MP.wipeV_nil, MP.wipeV_cons]
  have i0 : L2.ixN 6 0 = some 0 := rfl
  have i1 : L2.ixN 6 1 = some 1 := rfl
  have i2 : L2.ixN 6 2 = some 2 := rfl
  have i3 : L2.ixN 6 3 = some 3 := rfl
  have i4 : L2.ixN 6 4 = some 4 := rfl
  have c1 : ∀ a b c d e f : D, MP.cutD [a, b, c, d, e, f] none (some 3) = [a, b, c] := fun a b c d e f => rfl
  have c2 : ∀ a b c d e f : D, MP.cutD [a, b, c, d, e, f] (some 3) none = [d, e, f] := fun a b c d e f => rfl
  have fin3 : ∀ (a b c d e f : Fr) (l5 : List Int) (x2 x3 : Option Val), FB 500 a → FB 500 b → FB 500 c → FB 500 d → FB 500 e → FB 500 f → MP.wpSs Γ 4 [0] (ssDrop 3 m_law_drawn_matrix) [some (dr l5), some (.ml [fr a, fr b, fr c, fr d, fr e, fr f]), x2, x3] (MP.endV gMatrix 1 Q) := by
    intro a b c d e f l5 x2 x3 ha hb hc hd he hf
    simp only [ssDrop, m_law_drawn_matrix, c1, c2, dr, MP.wpSs, MP.wpS, MP.wpT, MP.wpE, MP.wpEs, MP.wpG, MP.wpGs, MP.wpI, List.map_cons, List.map_nil, List.length_cons, List.length_nil, List.cons_append, List.nil_append, MP.slotV, List.getElem?_cons_zero, List.getElem?_cons_succ, Option.join_some, MP.look, MP.frz, MP.lk1, MP.lk2, MP.cmpS, MP.biS, MP.binS, MP.idxS, MP.slcS, MP.truS, MP.mtS, MP.isT, MP.looks, MP.argsV, MP.lent, MP.intOf, MP.bolOf, MP.seqOf, MP.tupOf, MP.isMl, MP.cnd, MP.bnd, MP.subS, MP.backV, MP.tgsLen, List.set_cons_zero, List.set_cons_succ, Nat.zero_add, Nat.reduceAdd, Nat.reduceSub, List.replicate, List.all_nil, List.all_cons, List.nodup_nil, Bool.and_self, true_and, and_true, ite_true, ite_false, Bool.false_eq_true, if_true, if_false, reduceIte, not_false_eq_true, List.not_mem_nil, MP.startV, MP.at0, MP.at1, MP.at2, MP.at3, MP.at4, MP.at5, MP.shp_int, MP.shp_bl, MP.shp_non, MP.deq_int, MP.deq_bl, decide_eq_true_eq, Bool.not_eq_true', decide_eq_false_iff_not, MP.wipeV_nil, MP.wipeV_cons]
    exact ⟨by decide, hQ _ _ ⟨((a, b, c), (d, e, f)), l5, rfl, ⟨⟨ha, hb, hc⟩, hd, he, hf⟩, rfl⟩⟩
  have fin2 : ∀ (a b c d e f : Fr) (l5 : List Int) (x2 x3 : Option Val), FB 100 a → FB 100 b → FB 100 c → FB 100 d → FB 100 e → FB 100 f → MP.wpSs Γ 4 [0] (ssDrop 2 m_law_drawn_matrix) [some (dr l5), some (.ml [fr a, fr b, fr c, fr d, fr e, fr f]), x2, x3] (MP.endV gMatrix 1 Q) := by
    intro a b c d e f l5 x2 x3 ha hb hc hd he hf
    simp only [ssDrop, m_law_drawn_matrix, dr, MP.wpSs, MP.wpS, MP.wpT, MP.wpE, MP.wpEs, MP.wpG, MP.wpGs, MP.wpI, List.map_cons, List.map_nil, List.length_cons, List.length_nil, List.cons_append, List.nil_append, MP.slotV, List.getElem?_cons_zero, List.getElem?_cons_succ, Option.join_some, MP.look, MP.frz, MP.lk1, MP.lk2, MP.cmpS, MP.biS, MP.binS, MP.idxS, MP.slcS, MP.truS, MP.mtS, MP.isT, MP.looks, MP.argsV, MP.lent, MP.intOf, MP.bolOf, MP.seqOf, MP.tupOf, MP.isMl, MP.cnd, MP.bnd, MP.subS, MP.backV, MP.tgsLen, List.set_cons_zero, List.set_cons_succ, Nat.zero_add, Nat.reduceAdd, Nat.reduceSub, List.replicate, List.all_nil, List.all_cons, List.nodup_nil, Bool.and_self, true_and, and_true, ite_true, ite_false, Bool.false_eq_true, if_true, if_false, reduceIte, not_false_eq_true, List.not_mem_nil, MP.startV, MP.at0, MP.at1, MP.at2, MP.at3, MP.at4, MP.at5, MP.shp_int, MP.shp_bl, MP.shp_non, MP.deq_int, MP.deq_bl, decide_eq_true_eq, Bool.not_eq_true', decide_eq_false_iff_not, MP.wipeV_nil, MP.wipeV_cons]
    refine ⟨3, gF2 mulF, by decide, rfl, (_, _), rfl, ⟨_, _, ha, he, by decide⟩, ?_⟩
    rintro r ms ⟨rfl, rfl⟩
    simp only [MP.wpSs, MP.wpS, MP.wpT, MP.wpE, MP.wpEs, MP.wpG, MP.wpGs, MP.wpI, List.map_cons, List.map_nil, List.length_cons, List.length_nil, List.cons_append, List.nil_append, MP.slotV, List.getElem?_cons_zero, List.getElem?_cons_succ, Option.join_some, MP.look, MP.frz, MP.lk1, MP.lk2, MP.cmpS, MP.biS, MP.binS, MP.idxS, MP.slcS, MP.truS, MP.mtS, MP.isT, MP.looks, MP.argsV, MP.lent, MP.intOf, MP.bolOf, MP.seqOf, MP.tupOf, MP.isMl, MP.cnd, MP.bnd, MP.subS, MP.backV, MP.tgsLen, List.set_cons_zero, List.set_cons_succ, Nat.zero_add, Nat.reduceAdd, Nat.reduceSub, List.replicate, List.all_nil, List.all_cons, List.nodup_nil, Bool.and_self, true_and, and_true, ite_true, ite_false, Bool.false_eq_true, if_true, if_false, reduceIte, not_false_eq_true, List.not_mem_nil, MP.startV, MP.at0, MP.at1, MP.at2, MP.at3, MP.at4, MP.at5, MP.shp_int, MP.shp_bl, MP.shp_non, MP.deq_int, MP.deq_bl, decide_eq_true_eq, Bool.not_eq_true', decide_eq_false_iff_not, MP.wipeV_nil, MP.wipeV_cons]
    refine ⟨3, gF2 mulF, by decide, rfl, (_, _), rfl, ⟨_, _, hb, hd, by decide⟩, ?_⟩
    rintro r ms ⟨rfl, rfl⟩
    simp only [MP.wpSs, MP.wpS, MP.wpT, MP.wpE, MP.wpEs, MP.wpG, MP.wpGs, MP.wpI, List.map_cons, List.map_nil, List.length_cons, List.length_nil, List.cons_append, List.nil_append, MP.slotV, List.getElem?_cons_zero, List.getElem?_cons_succ, Option.join_some, MP.look, MP.frz, MP.lk1, MP.lk2, MP.cmpS, MP.biS, MP.binS, MP.idxS, MP.slcS, MP.truS, MP.mtS, MP.isT, MP.looks, MP.argsV, MP.lent, MP.intOf, MP.bolOf, MP.seqOf, MP.tupOf, MP.isMl, MP.cnd, MP.bnd, MP.subS, MP.backV, MP.tgsLen, List.set_cons_zero, List.set_cons_succ, Nat.zero_add, Nat.reduceAdd, Nat.reduceSub, List.replicate, List.all_nil, List.all_cons, List.nodup_nil, Bool.and_self, true_and, and_true, ite_true, ite_false, Bool.false_eq_true, if_true, if_false, reduceIte, not_false_eq_true, List.not_mem_nil, MP.startV, MP.at0, MP.at1, MP.at2, MP.at3, MP.at4, MP.at5, MP.shp_int, MP.shp_bl, MP.shp_non, MP.deq_int, MP.deq_bl, decide_eq_true_eq, Bool.not_eq_true', decide_eq_false_iff_not, MP.wipeV_nil, MP.wipeV_cons]
    refine ⟨3, gF2 subF, by decide, rfl, (_, _), rfl, ⟨_, _, ha.mul he, hb.mul hd, by decide⟩, ?_⟩
    rintro r ms ⟨rfl, rfl⟩
    simp only [MP.wpSs, MP.wpS, MP.wpT, MP.wpE, MP.wpEs, MP.wpG, MP.wpGs, MP.wpI, List.map_cons, List.map_nil, List.length_cons, List.length_nil, List.cons_append, List.nil_append, MP.slotV, List.getElem?_cons_zero, List.getElem?_cons_succ, Option.join_some, MP.look, MP.frz, MP.lk1, MP.lk2, MP.cmpS, MP.biS, MP.binS, MP.idxS, MP.slcS, MP.truS, MP.mtS, MP.isT, MP.looks, MP.argsV, MP.lent, MP.intOf, MP.bolOf, MP.seqOf, MP.tupOf, MP.isMl, MP.cnd, MP.bnd, MP.subS, MP.backV, MP.tgsLen, List.set_cons_zero, List.set_cons_succ, Nat.zero_add, Nat.reduceAdd, Nat.reduceSub, List.replicate, List.all_nil, List.all_cons, List.nodup_nil, Bool.and_self, true_and, and_true, ite_true, ite_false, Bool.false_eq_true, if_true, if_false, reduceIte, not_false_eq_true, List.not_mem_nil, MP.startV, MP.at0, MP.at1, MP.at2, MP.at3, MP.at4, MP.at5, MP.shp_int, MP.shp_bl, MP.shp_non, MP.deq_int, MP.deq_bl, decide_eq_true_eq, Bool.not_eq_true', decide_eq_false_iff_not, MP.wipeV_nil, MP.wipeV_cons]
    generalize subF _ _ = g
    obtain ⟨g1, g2⟩ := g
    simp only [fr, MP.wpSs, MP.wpS, MP.wpT, MP.wpE, MP.wpEs, MP.wpG, MP.wpGs, MP.wpI, List.map_cons, List.map_nil, List.length_cons, List.length_nil, List.cons_append, List.nil_append, MP.slotV, List.getElem?_cons_zero, List.getElem?_cons_succ, Option.join_some, MP.look, MP.frz, MP.lk1, MP.lk2, MP.cmpS, MP.biS, MP.binS, MP.idxS, MP.slcS, MP.truS, MP.mtS, MP.isT, MP.looks, MP.argsV, MP.lent, MP.intOf, MP.bolOf, MP.seqOf, MP.tupOf, MP.isMl, MP.cnd, MP.bnd, MP.subS, MP.backV, MP.tgsLen, List.set_cons_zero, List.set_cons_succ, Nat.zero_add, Nat.reduceAdd, Nat.reduceSub, List.replicate, List.all_nil, List.all_cons, List.nodup_nil, Bool.and_self, true_and, and_true, ite_true, ite_false, Bool.false_eq_true, if_true, if_false, reduceIte, not_false_eq_true, List.not_mem_nil, MP.startV, MP.at0, MP.at1, MP.at2, MP.at3, MP.at4, MP.at5, MP.shp_int, MP.shp_bl, MP.shp_non, MP.deq_int, MP.deq_bl, decide_eq_true_eq, Bool.not_eq_true', decide_eq_false_iff_not, MP.wipeV_nil, MP.wipeV_cons]
    split
    · refine ⟨1, gTake, by decide, rfl, by decide, by decide, (l5, 2), rfl, by show (0 : Int) < 2; decide, ?_⟩
      rintro r ms ⟨v, l6, rfl, h0, h1, rfl⟩
      simp only [dr, i0, i1, i3, i4, MP.wpSs, MP.wpS, MP.wpT, MP.wpE, MP.wpEs, MP.wpG, MP.wpGs, MP.wpI, List.map_cons, List.map_nil, List.length_cons, List.length_nil, List.cons_append, List.nil_append, MP.slotV, List.getElem?_cons_zero, List.getElem?_cons_succ, Option.join_some, MP.look, MP.frz, MP.lk1, MP.lk2, MP.cmpS, MP.biS, MP.binS, MP.idxS, MP.slcS, MP.truS, MP.mtS, MP.isT, MP.looks, MP.argsV, MP.lent, MP.intOf, MP.bolOf, MP.seqOf, MP.tupOf, MP.isMl, MP.cnd, MP.bnd, MP.subS, MP.backV, MP.tgsLen, List.set_cons_zero, List.set_cons_succ, Nat.zero_add, Nat.reduceAdd, Nat.reduceSub, List.replicate, List.all_nil, List.all_cons, List.nodup_nil, Bool.and_self, true_and, and_true, ite_true, ite_false, Bool.false_eq_true, if_true, if_false, reduceIte, not_false_eq_true, List.not_mem_nil, MP.startV, MP.at0, MP.at1, MP.at2, MP.at3, MP.at4, MP.at5, MP.shp_int, MP.shp_bl, MP.shp_non, MP.deq_int, MP.deq_bl, decide_eq_true_eq, Bool.not_eq_true', decide_eq_false_iff_not, MP.wipeV_nil, MP.wipeV_cons]
      have hv : v = 0 ∨ v = 1 := by dsimp only at h1; omega
      refine ⟨by decide, ?_⟩
      have f1 : FB 500 (1 - v, 1) := by rcases hv with rfl | rfl <;> exact ⟨by decide, by decide, by decide, by decide⟩
      have f2 : FB 500 (v, 1) := by rcases hv with rfl | rfl <;> exact ⟨by decide, by decide, by decide, by decide⟩
      have f3 : FB 500 (v - 1, 1) := by rcases hv with rfl | rfl <;> exact ⟨by decide, by decide, by decide, by decide⟩
      have z := fin3 (1 - v, 1) (v, 1) c (v, 1) (v - 1, 1) f l6 (some (iD v)) x3 f1 f2 (hc.mono (by decide)) f2 f3 (hf.mono (by decide))
      simp only [ssDrop, m_law_drawn_matrix, fr, dr, MP.wpSs, MP.wpS, MP.wpT, MP.wpE, MP.wpEs, MP.wpG, MP.wpGs, MP.wpI, List.map_cons, List.map_nil, List.length_cons, List.length_nil, List.cons_append, List.nil_append, MP.slotV, List.getElem?_cons_zero, List.getElem?_cons_succ, Option.join_some, MP.look, MP.frz, MP.lk1, MP.lk2, MP.cmpS, MP.biS, MP.binS, MP.idxS, MP.slcS, MP.truS, MP.mtS, MP.isT, MP.looks, MP.argsV, MP.lent, MP.intOf, MP.bolOf, MP.seqOf, MP.tupOf, MP.isMl, MP.cnd, MP.bnd, MP.subS, MP.backV, MP.tgsLen, List.set_cons_zero, List.set_cons_succ, Nat.zero_add, Nat.reduceAdd, Nat.reduceSub, List.replicate, List.all_nil, List.all_cons, List.nodup_nil, Bool.and_self, true_and, and_true, ite_true, ite_false, Bool.false_eq_true, if_true, if_false, reduceIte, not_false_eq_true, List.not_mem_nil, MP.startV, MP.at0, MP.at1, MP.at2, MP.at3, MP.at4, MP.at5, MP.shp_int, MP.shp_bl, MP.shp_non, MP.deq_int, MP.deq_bl, decide_eq_true_eq, Bool.not_eq_true', decide_eq_false_iff_not, MP.wipeV_nil, MP.wipeV_cons] at z
      refine ⟨by decide, by decide, by decide, by decide, ?_⟩
      exact ⟨by decide, by decide, z⟩
    · have z := fin3 a b c d e f l5 x2 x3 (ha.mono (by decide)) (hb.mono (by decide)) (hc.mono (by decide)) (hd.mono (by decide)) (he.mono (by decide)) (hf.mono (by decide))
      simp only [ssDrop, m_law_drawn_matrix, fr, dr, MP.wpSs, MP.wpS, MP.wpT, MP.wpE, MP.wpEs, MP.wpG, MP.wpGs, MP.wpI, List.map_cons, List.map_nil, List.length_cons, List.length_nil, List.cons_append, List.nil_append, MP.slotV, List.getElem?_cons_zero, List.getElem?_cons_succ, Option.join_some, MP.look, MP.frz, MP.lk1, MP.lk2, MP.cmpS, MP.biS, MP.binS, MP.idxS, MP.slcS, MP.truS, MP.mtS, MP.isT, MP.looks, MP.argsV, MP.lent, MP.intOf, MP.bolOf, MP.seqOf, MP.tupOf, MP.isMl, MP.cnd, MP.bnd, MP.subS, MP.backV, MP.tgsLen, List.set_cons_zero, List.set_cons_succ, Nat.zero_add, Nat.reduceAdd, Nat.reduceSub, List.replicate, List.all_nil, List.all_cons, List.nodup_nil, Bool.and_self, true_and, and_true, ite_true, ite_false, Bool.false_eq_true, if_true, if_false, reduceIte, not_false_eq_true, List.not_mem_nil, MP.startV, MP.at0, MP.at1, MP.at2, MP.at3, MP.at4, MP.at5, MP.shp_int, MP.shp_bl, MP.shp_non, MP.deq_int, MP.deq_bl, decide_eq_true_eq, Bool.not_eq_true', decide_eq_false_iff_not, MP.wipeV_nil, MP.wipeV_cons] at z
      exact z
  refine ⟨by decide, ?_⟩
  refine lcL_rel (fun ρ => ∃ l' x, ρ = [some (dr l'), none, none, x]) fr (FB 100) _ _ [] ?_ ⟨_, _, rfl⟩ (by simp) (by simp) ?_
  · rintro d hd ρ R ⟨l', x, rfl⟩ hR
    simp only [dr, MP.wpSs, MP.wpS, MP.wpT, MP.wpE, MP.wpEs, MP.wpG, MP.wpGs, MP.wpI, List.map_cons, List.map_nil, List.length_cons, List.length_nil, List.cons_append, List.nil_append, MP.slotV, List.getElem?_cons_zero, List.getElem?_cons_succ, Option.join_some, MP.look, MP.frz, MP.lk1, MP.lk2, MP.cmpS, MP.biS, MP.binS, MP.idxS, MP.slcS, MP.truS, MP.mtS, MP.isT, MP.looks, MP.argsV, MP.lent, MP.intOf, MP.bolOf, MP.seqOf, MP.tupOf, MP.isMl, MP.cnd, MP.bnd, MP.subS, MP.backV, MP.tgsLen, List.set_cons_zero, List.set_cons_succ, Nat.zero_add, Nat.reduceAdd, Nat.reduceSub, List.replicate, List.all_nil, List.all_cons, List.nodup_nil, Bool.and_self, true_and, and_true, ite_true, ite_false, Bool.false_eq_true, if_true, if_false, reduceIte, not_false_eq_true, List.not_mem_nil, MP.startV, MP.at0, MP.at1, MP.at2, MP.at3, MP.at4, MP.at5, MP.shp_int, MP.shp_bl, MP.shp_non, MP.deq_int, MP.deq_bl, decide_eq_true_eq, Bool.not_eq_true', decide_eq_false_iff_not, MP.wipeV_nil, MP.wipeV_cons]
    refine ⟨by decide, 1, gTake, by decide, rfl, by decide, by decide, (l', 7), rfl, by show (0 : Int) < 7; decide, ?_⟩
    rintro r ms ⟨v, l1, rfl, h0, h1, rfl⟩
    simp only [dr, MP.wpSs, MP.wpS, MP.wpT, MP.wpE, MP.wpEs, MP.wpG, MP.wpGs, MP.wpI, List.map_cons, List.map_nil, List.length_cons, List.length_nil, List.cons_append, List.nil_append, MP.slotV, List.getElem?_cons_zero, List.getElem?_cons_succ, Option.join_some, MP.look, MP.frz, MP.lk1, MP.lk2, MP.cmpS, MP.biS, MP.binS, MP.idxS, MP.slcS, MP.truS, MP.mtS, MP.isT, MP.looks, MP.argsV, MP.lent, MP.intOf, MP.bolOf, MP.seqOf, MP.tupOf, MP.isMl, MP.cnd, MP.bnd, MP.subS, MP.backV, MP.tgsLen, List.set_cons_zero, List.set_cons_succ, Nat.zero_add, Nat.reduceAdd, Nat.reduceSub, List.replicate, List.all_nil, List.all_cons, List.nodup_nil, Bool.and_self, true_and, and_true, ite_true, ite_false, Bool.false_eq_true, if_true, if_false, reduceIte, not_false_eq_true, List.not_mem_nil, MP.startV, MP.at0, MP.at1, MP.at2, MP.at3, MP.at4, MP.at5, MP.shp_int, MP.shp_bl, MP.shp_non, MP.deq_int, MP.deq_bl, decide_eq_true_eq, Bool.not_eq_true', decide_eq_false_iff_not, MP.wipeV_nil, MP.wipeV_cons]
    refine ⟨1, gTake, by decide, rfl, by decide, by decide, (l1, 2), rfl, by show (0 : Int) < 2; decide, ?_⟩
    rintro r ms ⟨w, l2, rfl, h2, h3, rfl⟩
    simp only [dr, MP.wpSs, MP.wpS, MP.wpT, MP.wpE, MP.wpEs, MP.wpG, MP.wpGs, MP.wpI, List.map_cons, List.map_nil, List.length_cons, List.length_nil, List.cons_append, List.nil_append, MP.slotV, List.getElem?_cons_zero, List.getElem?_cons_succ, Option.join_some, MP.look, MP.frz, MP.lk1, MP.lk2, MP.cmpS, MP.biS, MP.binS, MP.idxS, MP.slcS, MP.truS, MP.mtS, MP.isT, MP.looks, MP.argsV, MP.lent, MP.intOf, MP.bolOf, MP.seqOf, MP.tupOf, MP.isMl, MP.cnd, MP.bnd, MP.subS, MP.backV, MP.tgsLen, List.set_cons_zero, List.set_cons_succ, Nat.zero_add, Nat.reduceAdd, Nat.reduceSub, List.replicate, List.all_nil, List.all_cons, List.nodup_nil, Bool.and_self, true_and, and_true, ite_true, ite_false, Bool.false_eq_true, if_true, if_false, reduceIte, not_false_eq_true, List.not_mem_nil, MP.startV, MP.at0, MP.at1, MP.at2, MP.at3, MP.at4, MP.at5, MP.shp_int, MP.shp_bl, MP.shp_non, MP.deq_int, MP.deq_bl, decide_eq_true_eq, Bool.not_eq_true', decide_eq_false_iff_not, MP.wipeV_nil, MP.wipeV_cons]
    dsimp only at h1 h3
    have hw : w = 0 ∨ w = 1 := by omega
    have hv : v = 0 ∨ v = 1 ∨ v = 2 ∨ v = 3 ∨ v = 4 ∨ v = 5 ∨ v = 6 := by omega
    have b1 : (v - 3).natAbs < 2 ^ 100 := by rcases hv with rfl | rfl | rfl | rfl | rfl | rfl | rfl <;> decide
    have b2 : (1 + w).natAbs < 2 ^ 100 := by rcases hw with rfl | rfl <;> decide
    have b3 : 1 + w ≠ 0 := by omega
    refine ⟨2, gFraction, by decide, rfl, (_, _), rfl, ⟨b3, Nat.lt_of_lt_of_le b1 (pow_le (by decide)), Nat.lt_of_lt_of_le b2 (pow_le (by decide))⟩, ?_⟩
    rintro r ms ⟨rfl, rfl⟩
    exact hR _ _ (FB.frac b3 b1 b2) ⟨l2, _, rfl⟩
  · rintro row ρ hlen hrow ⟨l', x, rfl⟩
    obtain ⟨a, b, c, d, e, f, rfl⟩ : ∃ a b c d e f, row = [a, b, c, d, e, f] := by
      match row, hlen with
      | [a, b, c, d, e, f], _ => exact ⟨a, b, c, d, e, f, rfl⟩
    have ha := hrow a (by simp)
    have hb := hrow b (by simp)
    have hc := hrow c (by simp)
    have hd := hrow d (by simp)
    have he := hrow e (by simp)
    have hf := hrow f (by simp)
    simp only [dr, MP.wpSs, MP.wpS, MP.wpT, MP.wpE, MP.wpEs, MP.wpG, MP.wpGs, MP.wpI, List.map_cons, List.map_nil, List.length_cons, List.length_nil, List.cons_append, List.nil_append, MP.slotV, List.getElem?_cons_zero, List.getElem?_cons_succ, Option.join_some, MP.look, MP.frz, MP.lk1, MP.lk2, MP.cmpS, MP.biS, MP.binS, MP.idxS, MP.slcS, MP.truS, MP.mtS, MP.isT, MP.looks, MP.argsV, MP.lent, MP.intOf, MP.bolOf, MP.seqOf, MP.tupOf, MP.isMl, MP.cnd, MP.bnd, MP.subS, MP.backV, MP.tgsLen, List.set_cons_zero, List.set_cons_succ, Nat.zero_add, Nat.reduceAdd, Nat.reduceSub, List.replicate, List.all_nil, List.all_cons, List.nodup_nil, Bool.and_self, true_and, and_true, ite_true, ite_false, Bool.false_eq_true, if_true, if_false, reduceIte, not_false_eq_true, List.not_mem_nil, MP.startV, MP.at0, MP.at1, MP.at2, MP.at3, MP.at4, MP.at5, MP.shp_int, MP.shp_bl, MP.shp_non, MP.deq_int, MP.deq_bl, decide_eq_true_eq, Bool.not_eq_true', decide_eq_false_iff_not, MP.wipeV_nil, MP.wipeV_cons]
    refine ⟨by decide, 1, gTake, by decide, rfl, by decide, by decide, (l', 5), rfl, by show (0 : Int) < 5; decide, ?_⟩
    rintro r ms ⟨v, l3, rfl, _, _, rfl⟩
    simp only [dr, i2, MP.wpSs, MP.wpS, MP.wpT, MP.wpE, MP.wpEs, MP.wpG, MP.wpGs, MP.wpI, List.map_cons, List.map_nil, List.length_cons, List.length_nil, List.cons_append, List.nil_append, MP.slotV, List.getElem?_cons_zero, List.getElem?_cons_succ, Option.join_some, MP.look, MP.frz, MP.lk1, MP.lk2, MP.cmpS, MP.biS, MP.binS, MP.idxS, MP.slcS, MP.truS, MP.mtS, MP.isT, MP.looks, MP.argsV, MP.lent, MP.intOf, MP.bolOf, MP.seqOf, MP.tupOf, MP.isMl, MP.cnd, MP.bnd, MP.subS, MP.backV, MP.tgsLen, List.set_cons_zero, List.set_cons_succ, Nat.zero_add, Nat.reduceAdd, Nat.reduceSub, List.replicate, List.all_nil, List.all_cons, List.nodup_nil, Bool.and_self, true_and, and_true, ite_true, ite_false, Bool.false_eq_true, if_true, if_false, reduceIte, not_false_eq_true, List.not_mem_nil, MP.startV, MP.at0, MP.at1, MP.at2, MP.at3, MP.at4, MP.at5, MP.shp_int, MP.shp_bl, MP.shp_non, MP.deq_int, MP.deq_bl, decide_eq_true_eq, Bool.not_eq_true', decide_eq_false_iff_not, MP.wipeV_nil, MP.wipeV_cons]
    split
    · refine ⟨by decide, by decide, ?_⟩
      have z := fin2 a b (10 ^ 12 + 39, 7) d e f l3 none none ha hb ⟨by decide, by decide, by decide, by decide⟩ hd he hf
      simp only [ssDrop, m_law_drawn_matrix, dr, MP.wpSs, MP.wpS, MP.wpT, MP.wpE, MP.wpEs, MP.wpG, MP.wpGs, MP.wpI, List.map_cons, List.map_nil, List.length_cons, List.length_nil, List.cons_append, List.nil_append, MP.slotV, List.getElem?_cons_zero, List.getElem?_cons_succ, Option.join_some, MP.look, MP.frz, MP.lk1, MP.lk2, MP.cmpS, MP.biS, MP.binS, MP.idxS, MP.slcS, MP.truS, MP.mtS, MP.isT, MP.looks, MP.argsV, MP.lent, MP.intOf, MP.bolOf, MP.seqOf, MP.tupOf, MP.isMl, MP.cnd, MP.bnd, MP.subS, MP.backV, MP.tgsLen, List.set_cons_zero, List.set_cons_succ, Nat.zero_add, Nat.reduceAdd, Nat.reduceSub, List.replicate, List.all_nil, List.all_cons, List.nodup_nil, Bool.and_self, true_and, and_true, ite_true, ite_false, Bool.false_eq_true, if_true, if_false, reduceIte, not_false_eq_true, List.not_mem_nil, MP.startV, MP.at0, MP.at1, MP.at2, MP.at3, MP.at4, MP.at5, MP.shp_int, MP.shp_bl, MP.shp_non, MP.deq_int, MP.deq_bl, decide_eq_true_eq, Bool.not_eq_true', decide_eq_false_iff_not, MP.wipeV_nil, MP.wipeV_cons] at z
      exact z
    · have z := fin2 a b c d e f l3 none none ha hb hc hd he hf
      simp only [ssDrop, m_law_drawn_matrix, dr, MP.wpSs, MP.wpS, MP.wpT, MP.wpE, MP.wpEs, MP.wpG, MP.wpGs, MP.wpI, List.map_cons, List.map_nil, List.length_cons, List.length_nil, List.cons_append, List.nil_append, MP.slotV, List.getElem?_cons_zero, List.getElem?_cons_succ, Option.join_some, MP.look, MP.frz, MP.lk1, MP.lk2, MP.cmpS, MP.biS, MP.binS, MP.idxS, MP.slcS, MP.truS, MP.mtS, MP.isT, MP.looks, MP.argsV, MP.lent, MP.intOf, MP.bolOf, MP.seqOf, MP.tupOf, MP.isMl, MP.cnd, MP.bnd, MP.subS, MP.backV, MP.tgsLen, List.set_cons_zero, List.set_cons_succ, Nat.zero_add, Nat.reduceAdd, Nat.reduceSub, List.replicate, List.all_nil, List.all_cons, List.nodup_nil, Bool.and_self, true_and, and_true, ite_true, ite_false, Bool.false_eq_true, if_true, if_false, reduceIte, not_false_eq_true, List.not_mem_nil, MP.startV, MP.at0, MP.at1, MP.at2, MP.at3, MP.at4, MP.at5, MP.shp_int, MP.shp_bl, MP.shp_non, MP.deq_int, MP.deq_bl, decide_eq_true_eq, Bool.not_eq_true', decide_eq_false_iff_not, MP.wipeV_nil, MP.wipeV_cons] at z
      exact z
theorem cut_mem {l : List D} {lo hi : Option Int} {d : D} (h : d ∈ MP.cutD l lo hi) : d ∈ l := List.mem_of_mem_drop (List.mem_of_mem_take h)
theorem rng_mem {lo : Int} {n : Nat} {d : D} (h : d ∈ MP.rngD lo n) : ∃ i : Int, d = .int i ∧ lo ≤ i ∧ i < lo + n := by
  obtain ⟨j, hj⟩ := List.getElem?_of_mem h
  obtain ⟨h1, rfl⟩ := rng_get hj
  exact ⟨_, rfl, by omega, by omega⟩
theorem dints_at {l : List Int} {j : Nat} (h : j < l.length) : atI (dints l) (j : Int) = some (.int l[j]) := atN (by unfold dints; rw [List.getElem?_map, List.getElem?_eq_getElem h]; rfl)
theorem dints_app {l : List Int} {x : Int} : dints l ++ [.int x] = dints (l ++ [x]) := by simp [dints]
theorem dints_set {l : List Int} {j : Nat} {x : Int} : (dints l).set j (.int x) = dints (l.set j x) := by simp [dints, List.map_set]
theorem ixN_nat {n j : Nat} (h : j < n) : L2.ixN n (j : Int) = some j := by
  unfold L2.ixN
  rw [if_pos (Int.natCast_nonneg j), if_pos (by omega)]
  rfl
theorem mixB (x : Int) : (x.fmod 2147483647).natAbs < 2 ^ 31 := by
  have h1 := Int.fmod_nonneg_of_pos x (show (0 : Int) < 2147483647 by decide)
  have h2 := Int.fmod_lt_of_pos x (show (0 : Int) < 2147483647 by decide)
  omega
theorem w_draws (ds : List Val) (Q) (h : gDraws.sp ds Q) : MP.wpSs Γ 1 [] m_law_draws (MP.startV 9 ds) (MP.endV gDraws 2 Q) := by
  obtain ⟨ns, rfl, hn, hQ⟩ := h
  have fin0 : ∀ (cs : List Int) (x5 x6 x7 x8 : Option Val), cs ≠ [] → cs.length ≤ 100 → (∀ c ∈ cs, c.natAbs < 2 ^ 7200) → MP.wpSs Γ 1 [] (ssDrop 4 m_law_draws) [some (.im (.lst (dints ns))), some (iD 400), some (.ml (dints cs)), some (.ml (dints cs)), some (.ml []), x5, x6, x7, x8] (MP.endV gDraws 2 Q) := by
    intro cs x5 x6 x7 x8 hc hl hb
    show MP.wpS Γ 1 [] (MP.S.for _ _ _) _ _
    refine for_inv (fun dl ρ => ∃ (lf dr : List Int) (x5 x6 x7 x8 : Option Val), ρ = [some (.im (.lst (dints ns))), some (iD 400), some (.ml (dints cs)), some (.ml (dints lf)), some (.ml (dints dr)), x5, x6, x7, x8] ∧ lf.length = cs.length ∧ dr.length + dl.length ≤ 400 ∧ ∀ d ∈ dl, ∃ k : Int, d = .int k ∧ 0 ≤ k ∧ k < 400) ?_ ?_ ?_
    · simp only [MP.wpSs, MP.wpS, MP.wpT, MP.wpE, MP.wpEs, MP.wpG, MP.wpGs, MP.wpI, List.map_cons, List.map_nil, List.length_cons, List.length_nil, List.cons_append, List.nil_append, MP.slotV, List.getElem?_cons_zero, List.getElem?_cons_succ, Option.join_some, MP.look, MP.frz, MP.lk1, MP.lk2, MP.cmpS, MP.biS, MP.binS, MP.idxS, MP.slcS, MP.truS, MP.mtS, MP.isT, MP.looks, MP.argsV, MP.lent, MP.intOf, MP.bolOf, MP.seqOf, MP.tupOf, MP.isMl, MP.cnd, MP.bnd, MP.subS, MP.backV, MP.tgsLen, List.set_cons_zero, List.set_cons_succ, Nat.zero_add, Nat.reduceAdd, Nat.reduceSub, List.replicate, List.all_nil, List.all_cons, List.nodup_nil, Bool.and_self, true_and, and_true, ite_true, ite_false, Bool.false_eq_true, if_true, if_false, reduceIte, not_false_eq_true, List.not_mem_nil, MP.startV, MP.at0, MP.at1, MP.at2, MP.at3, MP.at4, MP.at5, MP.shp_int, MP.shp_bl, MP.shp_non, MP.deq_int, MP.deq_bl, decide_eq_true_eq, Bool.not_eq_true', decide_eq_false_iff_not, MP.wipeV_nil, MP.wipeV_cons]
      refine ⟨by decide, cs, [], x5, x6, x7, x8, rfl, rfl, by simp [MP.rngD], fun d hd => ?_⟩
      obtain ⟨i, h1, h2, h3⟩ := rng_mem hd
      exact ⟨i, h1, h2, by simpa using h3⟩
    · rintro d dl ρ ⟨lf, dr, x5, x6, x7, x8, rfl, hlf, hdr, hd⟩
      obtain ⟨k, rfl, hk0, hk1⟩ := hd d (List.mem_cons_self ..)
      have hd' := fun d h => hd d (List.mem_cons_of_mem _ h)
      have hn0 : 0 < cs.length := List.length_pos_iff.mpr hc
      have hlen : (dints cs).length = cs.length := by simp [dints]
      have hlen2 : (dints lf).length = cs.length := by simp [dints, hlf]
      have hz : (0 : Int) < (cs.length : Int) := by omega
      obtain ⟨j, hj0⟩ := Int.eq_ofNat_of_zero_le (Int.fmod_nonneg_of_pos k hz)
      have hj : j < cs.length := by have := Int.fmod_lt_of_pos k hz; omega
      have hj2 : j < lf.length := by omega
      have e1 : atI (dints cs) (j : Int) = some (.int cs[j]) := dints_at hj
      have e2 : atI (dints lf) (j : Int) = some (.int lf[j]) := dints_at hj2
      have e3 : L2.ixN cs.length (j : Int) = some j := ixN_nat hj
      simp only [hlen, hlen2, hj0, e1, e2, e3, MP.wpSs, MP.wpS, MP.wpT, MP.wpE, MP.wpEs, MP.wpG, MP.wpGs, MP.wpI, List.map_cons, List.map_nil, List.length_cons, List.length_nil, List.cons_append, List.nil_append, MP.slotV, List.getElem?_cons_zero, List.getElem?_cons_succ, Option.join_some, MP.look, MP.frz, MP.lk1, MP.lk2, MP.cmpS, MP.biS, MP.binS, MP.idxS, MP.slcS, MP.truS, MP.mtS, MP.isT, MP.looks, MP.argsV, MP.lent, MP.intOf, MP.bolOf, MP.seqOf, MP.tupOf, MP.isMl, MP.cnd, MP.bnd, MP.subS, MP.backV, MP.tgsLen, List.set_cons_zero, List.set_cons_succ, Nat.zero_add, Nat.reduceAdd, Nat.reduceSub, List.replicate, List.all_nil, List.all_cons, List.nodup_nil, Bool.and_self, true_and, and_true, ite_true, ite_false, Bool.false_eq_true, if_true, if_false, reduceIte, not_false_eq_true, List.not_mem_nil, MP.startV, MP.at0, MP.at1, MP.at2, MP.at3, MP.at4, MP.at5, MP.shp_int, MP.shp_bl, MP.shp_non, MP.deq_int, MP.deq_bl, decide_eq_true_eq, Bool.not_eq_true', decide_eq_false_iff_not, MP.wipeV_nil, MP.wipeV_cons]
      refine ⟨by omega, by decide, ?_⟩
      split
      · split
        · rw [dints_app, dints_set]
          refine ⟨by decide, by simp [dints]; simp at hdr; omega, by decide, by decide, lf.set j (lf[j].fdiv 1000), dr ++ [lf[j].fmod 1000], _, _, _, _, rfl, by simp [hlf], by simp at hdr ⊢; omega, hd'⟩
        · exact (by
        rw [dints_app]
        refine ⟨?_, ?_, by decide, ?_, ?_, by decide, by simp [dints]; simp at hdr; omega, lf, dr ++ [_], _, _, _, _, rfl, hlf, by simp at hdr ⊢; omega, hd'⟩
        · have := lg (hb _ (List.getElem_mem hj))
          have e : (Int.natAbs 48271).log2 ≤ 16 := by decide
          omega
        · have := lg (show k.natAbs < 2 ^ 10 by omega)
          have e : (Int.natAbs 69621).log2 ≤ 17 := by decide
          omega
        · have := lg (mixB (cs[j] * 48271 + k * 69621 + 11))
          omega
        · have := lg (mixB (cs[j] * 48271 + k * 69621 + 11))
          have e : (Int.natAbs 3).log2 ≤ 1 := by decide
          omega)
      · exact (by
        rw [dints_app]
        refine ⟨?_, ?_, by decide, ?_, ?_, by decide, by simp [dints]; simp at hdr; omega, lf, dr ++ [_], _, _, _, _, rfl, hlf, by simp at hdr ⊢; omega, hd'⟩
        · have := lg (hb _ (List.getElem_mem hj))
          have e : (Int.natAbs 48271).log2 ≤ 16 := by decide
          omega
        · have := lg (show k.natAbs < 2 ^ 10 by omega)
          have e : (Int.natAbs 69621).log2 ≤ 17 := by decide
          omega
        · have := lg (mixB (cs[j] * 48271 + k * 69621 + 11))
          omega
        · have := lg (mixB (cs[j] * 48271 + k * 69621 + 11))
          have e : (Int.natAbs 3).log2 ≤ 1 := by decide
          omega)
    · rintro ρ ⟨lf, dr, x5, x6, x7, x8, rfl, _⟩
      simp only [ssDrop, MP.wpSs, MP.wpS, MP.wpT, MP.wpE, MP.wpEs, MP.wpG, MP.wpGs, MP.wpI, List.map_cons, List.map_nil, List.length_cons, List.length_nil, List.cons_append, List.nil_append, MP.slotV, List.getElem?_cons_zero, List.getElem?_cons_succ, Option.join_some, MP.look, MP.frz, MP.lk1, MP.lk2, MP.cmpS, MP.biS, MP.binS, MP.idxS, MP.slcS, MP.truS, MP.mtS, MP.isT, MP.looks, MP.argsV, MP.lent, MP.intOf, MP.bolOf, MP.seqOf, MP.tupOf, MP.isMl, MP.cnd, MP.bnd, MP.subS, MP.backV, MP.tgsLen, List.set_cons_zero, List.set_cons_succ, Nat.zero_add, Nat.reduceAdd, Nat.reduceSub, List.replicate, List.all_nil, List.all_cons, List.nodup_nil, Bool.and_self, true_and, and_true, ite_true, ite_false, Bool.false_eq_true, if_true, if_false, reduceIte, not_false_eq_true, List.not_mem_nil, MP.startV, MP.at0, MP.at1, MP.at2, MP.at3, MP.at4, MP.at5, MP.shp_int, MP.shp_bl, MP.shp_non, MP.deq_int, MP.deq_bl, decide_eq_true_eq, Bool.not_eq_true', decide_eq_false_iff_not, MP.wipeV_nil, MP.wipeV_cons]
      have er : (dints dr).reverse = dints dr.reverse := by unfold dints; rw [List.map_reverse]
      rw [er]
      exact hQ _ _ ⟨dr.reverse, rfl, rfl⟩
  have fin1 : ∀ (cs : List Int) (x3 x4 x5 x6 x7 x8 : Option Val), cs ≠ [] → cs.length ≤ 100 → (∀ c ∈ cs, c.natAbs < 2 ^ 7200) → MP.wpSs Γ 1 [] (ssDrop 2 m_law_draws) [some (.im (.lst (dints ns))), some (iD 400), some (.ml (dints cs)), x3, x4, x5, x6, x7, x8] (MP.endV gDraws 2 Q) := by
    intro cs x3 x4 x5 x6 x7 x8 hc hl hb
    have z := fin0 cs x5 x6 x7 x8 hc hl hb
    simp only [ssDrop, m_law_draws, dr, MP.wpSs, MP.wpS, MP.wpT, MP.wpE, MP.wpEs, MP.wpG, MP.wpGs, MP.wpI, List.map_cons, List.map_nil, List.length_cons, List.length_nil, List.cons_append, List.nil_append, MP.slotV, List.getElem?_cons_zero, List.getElem?_cons_succ, Option.join_some, MP.look, MP.frz, MP.lk1, MP.lk2, MP.cmpS, MP.biS, MP.binS, MP.idxS, MP.slcS, MP.truS, MP.mtS, MP.isT, MP.looks, MP.argsV, MP.lent, MP.intOf, MP.bolOf, MP.seqOf, MP.tupOf, MP.isMl, MP.cnd, MP.bnd, MP.subS, MP.backV, MP.tgsLen, List.set_cons_zero, List.set_cons_succ, Nat.zero_add, Nat.reduceAdd, Nat.reduceSub, List.replicate, List.all_nil, List.all_cons, List.nodup_nil, Bool.and_self, true_and, and_true, ite_true, ite_false, Bool.false_eq_true, if_true, if_false, reduceIte, not_false_eq_true, List.not_mem_nil, MP.startV, MP.at0, MP.at1, MP.at2, MP.at3, MP.at4, MP.at5, MP.shp_int, MP.shp_bl, MP.shp_non, MP.deq_int, MP.deq_bl, decide_eq_true_eq, Bool.not_eq_true', decide_eq_false_iff_not, MP.wipeV_nil, MP.wipeV_cons] at z ⊢
    exact ⟨by decide, z⟩
  simp only [m_law_draws, dr, MP.wpSs, MP.wpS, MP.wpT, MP.wpE, MP.wpEs, MP.wpG, MP.wpGs, MP.wpI, List.map_cons, List.map_nil, List.length_cons, List.length_nil, List.cons_append, List.nil_append, MP.slotV, List.getElem?_cons_zero, List.getElem?_cons_succ, Option.join_some, MP.look, MP.frz, MP.lk1, MP.lk2, MP.cmpS, MP.biS, MP.binS, MP.idxS, MP.slcS, MP.truS, MP.mtS, MP.isT, MP.looks, MP.argsV, MP.lent, MP.intOf, MP.bolOf, MP.seqOf, MP.tupOf, MP.isMl, MP.cnd, MP.bnd, MP.subS, MP.backV, MP.tgsLen, List.set_cons_zero, List.set_cons_succ, Nat.zero_add, Nat.reduceAdd, Nat.reduceSub, List.replicate, List.all_nil, List.all_cons, List.nodup_nil, Bool.and_self, true_and, and_true, ite_true, ite_false, Bool.false_eq_true, if_true, if_false, reduceIte, not_false_eq_true, List.not_mem_nil, MP.startV, MP.at0, MP.at1, MP.at2, MP.at3, MP.at4, MP.at5, MP.shp_int, MP.shp_bl, MP.shp_non, MP.deq_int, MP.deq_bl, decide_eq_true_eq, Bool.not_eq_true', decide_eq_false_iff_not, MP.wipeV_nil, MP.wipeV_cons]
  refine lcL_rel (fun ρ => ∃ x, ρ = [some (.im (.lst (dints ns))), some (iD 400), none, none, none, none, none, x, none]) D.int (fun i => i.natAbs < 2 ^ 7200) _ _ [] ?_ ⟨_, rfl⟩ (by simp) (by simp [MP.cutD, dints]; omega) ?_
  · rintro d hd ρ R ⟨x, rfl⟩ hR
    obtain ⟨i, _, rfl⟩ := List.mem_map.mp (cut_mem hd)
    simp only [MP.wpSs, MP.wpS, MP.wpT, MP.wpE, MP.wpEs, MP.wpG, MP.wpGs, MP.wpI, List.map_cons, List.map_nil, List.length_cons, List.length_nil, List.cons_append, List.nil_append, MP.slotV, List.getElem?_cons_zero, List.getElem?_cons_succ, Option.join_some, MP.look, MP.frz, MP.lk1, MP.lk2, MP.cmpS, MP.biS, MP.binS, MP.idxS, MP.slcS, MP.truS, MP.mtS, MP.isT, MP.looks, MP.argsV, MP.lent, MP.intOf, MP.bolOf, MP.seqOf, MP.tupOf, MP.isMl, MP.cnd, MP.bnd, MP.subS, MP.backV, MP.tgsLen, List.set_cons_zero, List.set_cons_succ, Nat.zero_add, Nat.reduceAdd, Nat.reduceSub, List.replicate, List.all_nil, List.all_cons, List.nodup_nil, Bool.and_self, true_and, and_true, ite_true, ite_false, Bool.false_eq_true, if_true, if_false, reduceIte, not_false_eq_true, List.not_mem_nil, MP.startV, MP.at0, MP.at1, MP.at2, MP.at3, MP.at4, MP.at5, MP.shp_int, MP.shp_bl, MP.shp_non, MP.deq_int, MP.deq_bl, decide_eq_true_eq, Bool.not_eq_true', decide_eq_false_iff_not, MP.wipeV_nil, MP.wipeV_cons]
    have hM : (1 * 2 ^ Int.toNat 7200 : Int) = ((2 ^ 7200 : Nat) : Int) := by
      rw [Int.one_mul]
      exact (Int.natCast_pow 2 7200).symm
    have hp : (0 : Int) < ((2 ^ 7200 : Nat) : Int) := Int.natCast_pos.mpr (Nat.pow_pos (by decide))
    rw [hM]
    have h1 := Int.fmod_nonneg_of_pos i hp
    have h2 := Int.fmod_lt_of_pos i hp
    refine ⟨by decide, Int.ne_of_gt hp, hR _ _ ?_ ⟨_, rfl⟩⟩
    omega
  · rintro row ρ hlen hrow ⟨x, rfl⟩
    have hl : row.length ≤ 63 := by simp [MP.cutD, dints] at hlen; omega
    simp only [MP.wpSs, MP.wpS, MP.wpT, MP.wpE, MP.wpEs, MP.wpG, MP.wpGs, MP.wpI, List.map_cons, List.map_nil, List.length_cons, List.length_nil, List.cons_append, List.nil_append, MP.slotV, List.getElem?_cons_zero, List.getElem?_cons_succ, Option.join_some, MP.look, MP.frz, MP.lk1, MP.lk2, MP.cmpS, MP.biS, MP.binS, MP.idxS, MP.slcS, MP.truS, MP.mtS, MP.isT, MP.looks, MP.argsV, MP.lent, MP.intOf, MP.bolOf, MP.seqOf, MP.tupOf, MP.isMl, MP.cnd, MP.bnd, MP.subS, MP.backV, MP.tgsLen, List.set_cons_zero, List.set_cons_succ, Nat.zero_add, Nat.reduceAdd, Nat.reduceSub, List.replicate, List.all_nil, List.all_cons, List.nodup_nil, Bool.and_self, true_and, and_true, ite_true, ite_false, Bool.false_eq_true, if_true, if_false, reduceIte, not_false_eq_true, List.not_mem_nil, MP.startV, MP.at0, MP.at1, MP.at2, MP.at3, MP.at4, MP.at5, MP.shp_int, MP.shp_bl, MP.shp_non, MP.deq_int, MP.deq_bl, decide_eq_true_eq, Bool.not_eq_true', decide_eq_false_iff_not, MP.wipeV_nil, MP.wipeV_cons]
    split
    · rename_i h0
      have hrow0 : row = [] := by
        cases row with
        | nil => rfl
        | cons a b => simp at h0; omega
      subst hrow0
      refine ⟨by simp, ?_⟩
      have z := fin1 [0] none none none none none none (by simp) (by simp) (fun c hc => by rw [List.mem_singleton] at hc; subst hc; exact Nat.pow_pos (by decide))
      simp only [ssDrop, m_law_draws, dr, MP.wpSs, MP.wpS, MP.wpT, MP.wpE, MP.wpEs, MP.wpG, MP.wpGs, MP.wpI, List.map_cons, List.map_nil, List.length_cons, List.length_nil, List.cons_append, List.nil_append, MP.slotV, List.getElem?_cons_zero, List.getElem?_cons_succ, Option.join_some, MP.look, MP.frz, MP.lk1, MP.lk2, MP.cmpS, MP.biS, MP.binS, MP.idxS, MP.slcS, MP.truS, MP.mtS, MP.isT, MP.looks, MP.argsV, MP.lent, MP.intOf, MP.bolOf, MP.seqOf, MP.tupOf, MP.isMl, MP.cnd, MP.bnd, MP.subS, MP.backV, MP.tgsLen, List.set_cons_zero, List.set_cons_succ, Nat.zero_add, Nat.reduceAdd, Nat.reduceSub, List.replicate, List.all_nil, List.all_cons, List.nodup_nil, Bool.and_self, true_and, and_true, ite_true, ite_false, Bool.false_eq_true, if_true, if_false, reduceIte, not_false_eq_true, List.not_mem_nil, MP.startV, MP.at0, MP.at1, MP.at2, MP.at3, MP.at4, MP.at5, MP.shp_int, MP.shp_bl, MP.shp_non, MP.deq_int, MP.deq_bl, decide_eq_true_eq, Bool.not_eq_true', decide_eq_false_iff_not, MP.wipeV_nil, MP.wipeV_cons] at z
      exact z
    · rename_i h0
      have hrow0 : row ≠ [] := by rintro rfl; exact h0 rfl
      have z := fin1 row none none none none none none hrow0 (by omega) hrow
      simp only [ssDrop, m_law_draws, dr, MP.wpSs, MP.wpS, MP.wpT, MP.wpE, MP.wpEs, MP.wpG, MP.wpGs, MP.wpI, List.map_cons, List.map_nil, List.length_cons, List.length_nil, List.cons_append, List.nil_append, MP.slotV, List.getElem?_cons_zero, List.getElem?_cons_succ, Option.join_some, MP.look, MP.frz, MP.lk1, MP.lk2, MP.cmpS, MP.biS, MP.binS, MP.idxS, MP.slcS, MP.truS, MP.mtS, MP.isT, MP.looks, MP.argsV, MP.lent, MP.intOf, MP.bolOf, MP.seqOf, MP.tupOf, MP.isMl, MP.cnd, MP.bnd, MP.subS, MP.backV, MP.tgsLen, List.set_cons_zero, List.set_cons_succ, Nat.zero_add, Nat.reduceAdd, Nat.reduceSub, List.replicate, List.all_nil, List.all_cons, List.nodup_nil, Bool.and_self, true_and, and_true, ite_true, ite_false, Bool.false_eq_true, if_true, if_false, reduceIte, not_false_eq_true, List.not_mem_nil, MP.startV, MP.at0, MP.at1, MP.at2, MP.at3, MP.at4, MP.at5, MP.shp_int, MP.shp_bl, MP.shp_non, MP.deq_int, MP.deq_bl, decide_eq_true_eq, Bool.not_eq_true', decide_eq_false_iff_not, MP.wipeV_nil, MP.wipeV_cons] at z
      exact z
end K76

/-! k76: the law. -/
namespace K76
open PySem PySem.Spec PyProof.Rows L2 MP
theorem okD_mono : ∀ {n : Nat} {x : D}, okD n x → okD (n + 1) x
  | 0, x, h => .inl h
  | n + 1, x, h => by
    rcases h with h | ⟨l, h1, h2, h3⟩
    · exact .inl h
    · exact .inr ⟨l, h1, h2, fun y hy => okD_mono (h3 y hy)⟩
theorem ok_fr {f : Fr} : okD 1 (fr f) := .inr ⟨_, rfl, by simp, fun y hy => by
  simp only [List.mem_cons, List.not_mem_nil, or_false] at hy
  rcases hy with rfl | rfl <;> exact ⟨_, rfl⟩⟩
theorem ok_pt {f : Pt} : okD 2 (pt f) := .inr ⟨_, rfl, by simp, fun y hy => by
  simp only [List.mem_cons, List.not_mem_nil, or_false] at hy
  rcases hy with rfl | rfl <;> exact ok_fr⟩
theorem ok_sg {f : Sg} : okD 3 (sg f) := .inr ⟨_, rfl, by simp, fun y hy => by
  simp only [List.mem_cons, List.not_mem_nil, or_false] at hy
  rcases hy with rfl | rfl <;> exact ok_pt⟩
theorem ok_sgs {l : List Sg} (h : l.length ≤ 1000) : okD 4 (sgs l) := .inr ⟨_, rfl, by simpa using h, fun y hy => by
  obtain ⟨s, _, rfl⟩ := List.mem_map.mp hy
  exact ok_sg⟩
theorem all_len {m : Mx} {l : List Sg} : (allF m l).length = l.length := by simp [allF]
theorem cutD_one {l : List Sg} : MP.cutD (l.map sg) none (some 1) = (l.take 1).map sg := by
  unfold MP.cutD
  have e1 : HT.sIx (l.map sg).length 0 none = 0 := rfl
  have e2 : HT.sIx (l.map sg).length (l.map sg).length (some 1) = min 1 l.length := by
    rw [show (some (1 : Int)) = some ((1 : Nat) : Int) from rfl, HT.sIx_nat]
    simp
  rw [e1, e2, List.drop_zero, Nat.sub_zero, ← List.map_take]
  congr 1
  cases l <;> simp
def oneS : Sg := (((0, 1), (0, 1)), ((2, 1), (1, 1)))
def oneM : Mx := (((-1, 2), (0, 1), (1, 1)), ((0, 1), (3, 1), (0, 1)))
theorem one_all : allF oneM [oneS] = [(((0, 1), (3, 1)), ((1, 1), (0, 1)))] := by decide +kernel
theorem fb1 {a b : Int} (h : (a.natAbs < 2 ∧ b = 1) ∨ (a = -1 ∧ b = 2) ∨ (a = 2 ∧ b = 1) ∨ (a = 3 ∧ b = 1)) : FB 500 (a, b) := by
  refine FB.mono (a := 3) ?_ (by decide)
  rcases h with ⟨h1, rfl⟩ | ⟨rfl, rfl⟩ | ⟨rfl, rfl⟩ | ⟨rfl, rfl⟩
  · exact ⟨by dsimp only; omega, Int.one_pos, by show (1 : Int).natAbs < _; decide, by simp⟩
  · exact ⟨by decide, by decide, by decide, by decide⟩
  · exact ⟨by decide, by decide, by decide, by decide⟩
  · exact ⟨by decide, by decide, by decide, by decide⟩
theorem w_law (ds : List Val) (Q) (h : gLaw.sp ds Q) : MP.wpSs Γ 6 [] m_law (MP.startV 7 ds) (MP.endV gLaw 1 Q) := by
  obtain ⟨ns, rfl, hn, hQ⟩ := h
  have e2 : MP.rngD 0 (Int.toNat 2) = [.int 0, .int 1] := rfl
  have fin : ∀ l, MP.wpSs Γ 6 [] (ssDrop 1 m_law) [some (.im (.lst (dints ns))), some (dr l), none, none, none, none, none] (MP.endV gLaw 1 Q) := by
    intro l
    show MP.wpS Γ 6 [] (MP.S.for _ _ _) _ _
    refine for_inv (fun dl ρ => ∃ (l : List Int) (x2 x3 x4 x5 x6 : Option Val), ρ = [some (.im (.lst (dints ns))), some (dr l), x2, x3, x4, x5, x6] ∧ ∀ d ∈ dl, ∃ m : Int, d = .int m ∧ 0 ≤ m ∧ m ≤ 10) ?_ ?_ ?_
    · simp only [dr, MP.wpSs, MP.wpS, MP.wpT, MP.wpE, MP.wpEs, MP.wpG, MP.wpGs, MP.wpI, List.map_cons, List.map_nil, List.length_cons, List.length_nil, List.cons_append, List.nil_append, MP.slotV, List.getElem?_cons_zero, List.getElem?_cons_succ, Option.join_some, MP.look, MP.frz, MP.lk1, MP.lk2, MP.cmpS, MP.biS, MP.binS, MP.idxS, MP.slcS, MP.truS, MP.mtS, MP.isT, MP.looks, MP.argsV, MP.lent, MP.intOf, MP.bolOf, MP.seqOf, MP.tupOf, MP.isMl, MP.cnd, MP.bnd, MP.subS, MP.backV, MP.tgsLen, List.set_cons_zero, List.set_cons_succ, Nat.zero_add, Nat.reduceAdd, Nat.reduceSub, List.replicate, List.all_nil, List.all_cons, List.nodup_nil, Bool.and_self, true_and, and_true, ite_true, ite_false, Bool.false_eq_true, if_true, if_false, reduceIte, not_false_eq_true, List.not_mem_nil, MP.startV, MP.at0, MP.at1, MP.at2, MP.at3, MP.at4, MP.at5, MP.shp_int, MP.shp_bl, MP.shp_non, MP.deq_int, MP.deq_bl, decide_eq_true_eq, Bool.not_eq_true', decide_eq_false_iff_not, MP.wipeV_nil, MP.wipeV_cons]
      refine ⟨1, gTake, by decide, rfl, by decide, by decide, (l, 8), rfl, by show (0 : Int) < 8; decide, ?_⟩
      rintro r ms ⟨v, l1, rfl, h0, h1, rfl⟩
      dsimp only at h1
      simp only [dr, MP.wpSs, MP.wpS, MP.wpT, MP.wpE, MP.wpEs, MP.wpG, MP.wpGs, MP.wpI, List.map_cons, List.map_nil, List.length_cons, List.length_nil, List.cons_append, List.nil_append, MP.slotV, List.getElem?_cons_zero, List.getElem?_cons_succ, Option.join_some, MP.look, MP.frz, MP.lk1, MP.lk2, MP.cmpS, MP.biS, MP.binS, MP.idxS, MP.slcS, MP.truS, MP.mtS, MP.isT, MP.looks, MP.argsV, MP.lent, MP.intOf, MP.bolOf, MP.seqOf, MP.tupOf, MP.isMl, MP.cnd, MP.bnd, MP.subS, MP.backV, MP.tgsLen, List.set_cons_zero, List.set_cons_succ, Nat.zero_add, Nat.reduceAdd, Nat.reduceSub, List.replicate, List.all_nil, List.all_cons, List.nodup_nil, Bool.and_self, true_and, and_true, ite_true, ite_false, Bool.false_eq_true, if_true, if_false, reduceIte, not_false_eq_true, List.not_mem_nil, MP.startV, MP.at0, MP.at1, MP.at2, MP.at3, MP.at4, MP.at5, MP.shp_int, MP.shp_bl, MP.shp_non, MP.deq_int, MP.deq_bl, decide_eq_true_eq, Bool.not_eq_true', decide_eq_false_iff_not, MP.wipeV_nil, MP.wipeV_cons]
      refine ⟨by decide, l1, none, none, none, none, none, rfl, fun d hd => ?_⟩
      simp only [List.mem_cons, List.not_mem_nil, or_false] at hd
      rcases hd with rfl | rfl | rfl | rfl
      · exact ⟨0, rfl, by decide, by decide⟩
      · exact ⟨1, rfl, by decide, by decide⟩
      · exact ⟨3, rfl, by decide, by decide⟩
      · exact ⟨1 + v, rfl, by omega, by omega⟩
    · rintro d dl ρ ⟨l, x2, x3, x4, x5, x6, rfl, hd⟩
      obtain ⟨m, rfl, hm0, hm1⟩ := hd d (List.mem_cons_self ..)
      have hd' := fun d h => hd d (List.mem_cons_of_mem _ h)
      simp only [dr, MP.wpSs, MP.wpS, MP.wpT, MP.wpE, MP.wpEs, MP.wpG, MP.wpGs, MP.wpI, List.map_cons, List.map_nil, List.length_cons, List.length_nil, List.cons_append, List.nil_append, MP.slotV, List.getElem?_cons_zero, List.getElem?_cons_succ, Option.join_some, MP.look, MP.frz, MP.lk1, MP.lk2, MP.cmpS, MP.biS, MP.binS, MP.idxS, MP.slcS, MP.truS, MP.mtS, MP.isT, MP.looks, MP.argsV, MP.lent, MP.intOf, MP.bolOf, MP.seqOf, MP.tupOf, MP.isMl, MP.cnd, MP.bnd, MP.subS, MP.backV, MP.tgsLen, List.set_cons_zero, List.set_cons_succ, Nat.zero_add, Nat.reduceAdd, Nat.reduceSub, List.replicate, List.all_nil, List.all_cons, List.nodup_nil, Bool.and_self, true_and, and_true, ite_true, ite_false, Bool.false_eq_true, if_true, if_false, reduceIte, not_false_eq_true, List.not_mem_nil, MP.startV, MP.at0, MP.at1, MP.at2, MP.at3, MP.at4, MP.at5, MP.shp_int, MP.shp_bl, MP.shp_non, MP.deq_int, MP.deq_bl, decide_eq_true_eq, Bool.not_eq_true', decide_eq_false_iff_not, MP.wipeV_nil, MP.wipeV_cons]
      refine ⟨5, gDrawn, by decide, rfl, by decide, by decide, (l, m), rfl, ⟨hm0, hm1⟩, ?_⟩
      rintro r ms ⟨segs, l1, rfl, hs, hn, rfl⟩
      simp only [sgs, cutD_one, e2, MP.forL, dr, MP.wpSs, MP.wpS, MP.wpT, MP.wpE, MP.wpEs, MP.wpG, MP.wpGs, MP.wpI, List.map_cons, List.map_nil, List.length_cons, List.length_nil, List.cons_append, List.nil_append, MP.slotV, List.getElem?_cons_zero, List.getElem?_cons_succ, Option.join_some, MP.look, MP.frz, MP.lk1, MP.lk2, MP.cmpS, MP.biS, MP.binS, MP.idxS, MP.slcS, MP.truS, MP.mtS, MP.isT, MP.looks, MP.argsV, MP.lent, MP.intOf, MP.bolOf, MP.seqOf, MP.tupOf, MP.isMl, MP.cnd, MP.bnd, MP.subS, MP.backV, MP.tgsLen, List.set_cons_zero, List.set_cons_succ, Nat.zero_add, Nat.reduceAdd, Nat.reduceSub, List.replicate, List.all_nil, List.all_cons, List.nodup_nil, Bool.and_self, true_and, and_true, ite_true, ite_false, Bool.false_eq_true, if_true, if_false, reduceIte, not_false_eq_true, List.not_mem_nil, MP.startV, MP.at0, MP.at1, MP.at2, MP.at3, MP.at4, MP.at5, MP.shp_int, MP.shp_bl, MP.shp_non, MP.deq_int, MP.deq_bl, decide_eq_true_eq, Bool.not_eq_true', decide_eq_false_iff_not, MP.wipeV_nil, MP.wipeV_cons]
      rw [← List.map_append]
      obtain ⟨S, hSe⟩ : ∃ S, S = segs ++ segs.take 1 := ⟨_, rfl⟩
      have hS : ∀ s ∈ S, SB 500 s := fun s h => by
        rw [hSe] at h
        rcases List.mem_append.mp h with h | h
        · exact hs s h
        · exact hs s (List.mem_of_mem_take h)
      have hSn : S.length ≤ 100 := by rw [hSe]; simp; omega
      rw [← hSe]
      refine ⟨by simp; omega, by decide, ?_⟩
      refine ⟨4, gMatrix, by decide, rfl, by decide, by decide, l1, rfl, trivial, ?_⟩
      rintro r ms ⟨mat, l2, rfl, hmat, rfl⟩
      simp only [dr, MP.wpSs, MP.wpS, MP.wpT, MP.wpE, MP.wpEs, MP.wpG, MP.wpGs, MP.wpI, List.map_cons, List.map_nil, List.length_cons, List.length_nil, List.cons_append, List.nil_append, MP.slotV, List.getElem?_cons_zero, List.getElem?_cons_succ, Option.join_some, MP.look, MP.frz, MP.lk1, MP.lk2, MP.cmpS, MP.biS, MP.binS, MP.idxS, MP.slcS, MP.truS, MP.mtS, MP.isT, MP.looks, MP.argsV, MP.lent, MP.intOf, MP.bolOf, MP.seqOf, MP.tupOf, MP.isMl, MP.cnd, MP.bnd, MP.subS, MP.backV, MP.tgsLen, List.set_cons_zero, List.set_cons_succ, Nat.zero_add, Nat.reduceAdd, Nat.reduceSub, List.replicate, List.all_nil, List.all_cons, List.nodup_nil, Bool.and_self, true_and, and_true, ite_true, ite_false, Bool.false_eq_true, if_true, if_false, reduceIte, not_false_eq_true, List.not_mem_nil, MP.startV, MP.at0, MP.at1, MP.at2, MP.at3, MP.at4, MP.at5, MP.shp_int, MP.shp_bl, MP.shp_non, MP.deq_int, MP.deq_bl, decide_eq_true_eq, Bool.not_eq_true', decide_eq_false_iff_not, MP.wipeV_nil, MP.wipeV_cons]
      refine ⟨5, gAll, by decide, rfl, (mat, S), rfl, ⟨hmat, hS, hSn⟩, ?_⟩
      rintro r ms ⟨rfl, rfl⟩
      simp only [MP.wpSs, MP.wpS, MP.wpT, MP.wpE, MP.wpEs, MP.wpG, MP.wpGs, MP.wpI, List.map_cons, List.map_nil, List.length_cons, List.length_nil, List.cons_append, List.nil_append, MP.slotV, List.getElem?_cons_zero, List.getElem?_cons_succ, Option.join_some, MP.look, MP.frz, MP.lk1, MP.lk2, MP.cmpS, MP.biS, MP.binS, MP.idxS, MP.slcS, MP.truS, MP.mtS, MP.isT, MP.looks, MP.argsV, MP.lent, MP.intOf, MP.bolOf, MP.seqOf, MP.tupOf, MP.isMl, MP.cnd, MP.bnd, MP.subS, MP.backV, MP.tgsLen, List.set_cons_zero, List.set_cons_succ, Nat.zero_add, Nat.reduceAdd, Nat.reduceSub, List.replicate, List.all_nil, List.all_cons, List.nodup_nil, Bool.and_self, true_and, and_true, ite_true, ite_false, Bool.false_eq_true, if_true, if_false, reduceIte, not_false_eq_true, List.not_mem_nil, MP.startV, MP.at0, MP.at1, MP.at2, MP.at3, MP.at4, MP.at5, MP.shp_int, MP.shp_bl, MP.shp_non, MP.deq_int, MP.deq_bl, decide_eq_true_eq, Bool.not_eq_true', decide_eq_false_iff_not, MP.wipeV_nil, MP.wipeV_cons]
      refine ⟨5, gAll, by decide, rfl, (mat, S), rfl, ⟨hmat, hS, hSn⟩, ?_⟩
      rintro r ms ⟨rfl, rfl⟩
      simp only [MP.wpSs, MP.wpS, MP.wpT, MP.wpE, MP.wpEs, MP.wpG, MP.wpGs, MP.wpI, List.map_cons, List.map_nil, List.length_cons, List.length_nil, List.cons_append, List.nil_append, MP.slotV, List.getElem?_cons_zero, List.getElem?_cons_succ, Option.join_some, MP.look, MP.frz, MP.lk1, MP.lk2, MP.cmpS, MP.biS, MP.binS, MP.idxS, MP.slcS, MP.truS, MP.mtS, MP.isT, MP.looks, MP.argsV, MP.lent, MP.intOf, MP.bolOf, MP.seqOf, MP.tupOf, MP.isMl, MP.cnd, MP.bnd, MP.subS, MP.backV, MP.tgsLen, List.set_cons_zero, List.set_cons_succ, Nat.zero_add, Nat.reduceAdd, Nat.reduceSub, List.replicate, List.all_nil, List.all_cons, List.nodup_nil, Bool.and_self, true_and, and_true, ite_true, ite_false, Bool.false_eq_true, if_true, if_false, reduceIte, not_false_eq_true, List.not_mem_nil, MP.startV, MP.at0, MP.at1, MP.at2, MP.at3, MP.at4, MP.at5, MP.shp_int, MP.shp_bl, MP.shp_non, MP.deq_int, MP.deq_bl, decide_eq_true_eq, Bool.not_eq_true', decide_eq_false_iff_not, MP.wipeV_nil, MP.wipeV_cons]
      refine ⟨5, gSame 4, by decide, rfl, sgs (allF mat S), rfl, ok_sgs (by rw [all_len]; omega), ?_⟩
      rintro r ms ⟨rfl, rfl⟩
      simp only [Bool.not_true, MP.wpSs, MP.wpS, MP.wpT, MP.wpE, MP.wpEs, MP.wpG, MP.wpGs, MP.wpI, List.map_cons, List.map_nil, List.length_cons, List.length_nil, List.cons_append, List.nil_append, MP.slotV, List.getElem?_cons_zero, List.getElem?_cons_succ, Option.join_some, MP.look, MP.frz, MP.lk1, MP.lk2, MP.cmpS, MP.biS, MP.binS, MP.idxS, MP.slcS, MP.truS, MP.mtS, MP.isT, MP.looks, MP.argsV, MP.lent, MP.intOf, MP.bolOf, MP.seqOf, MP.tupOf, MP.isMl, MP.cnd, MP.bnd, MP.subS, MP.backV, MP.tgsLen, List.set_cons_zero, List.set_cons_succ, Nat.zero_add, Nat.reduceAdd, Nat.reduceSub, List.replicate, List.all_nil, List.all_cons, List.nodup_nil, Bool.and_self, true_and, and_true, ite_true, ite_false, Bool.false_eq_true, if_true, if_false, reduceIte, not_false_eq_true, List.not_mem_nil, MP.startV, MP.at0, MP.at1, MP.at2, MP.at3, MP.at4, MP.at5, MP.shp_int, MP.shp_bl, MP.shp_non, MP.deq_int, MP.deq_bl, decide_eq_true_eq, Bool.not_eq_true', decide_eq_false_iff_not, MP.wipeV_nil, MP.wipeV_cons]
      refine ⟨4, gMatrix, by decide, rfl, by decide, by decide, l2, rfl, trivial, ?_⟩
      rintro r ms ⟨mat, l3, rfl, hmat, rfl⟩
      simp only [dr, MP.wpSs, MP.wpS, MP.wpT, MP.wpE, MP.wpEs, MP.wpG, MP.wpGs, MP.wpI, List.map_cons, List.map_nil, List.length_cons, List.length_nil, List.cons_append, List.nil_append, MP.slotV, List.getElem?_cons_zero, List.getElem?_cons_succ, Option.join_some, MP.look, MP.frz, MP.lk1, MP.lk2, MP.cmpS, MP.biS, MP.binS, MP.idxS, MP.slcS, MP.truS, MP.mtS, MP.isT, MP.looks, MP.argsV, MP.lent, MP.intOf, MP.bolOf, MP.seqOf, MP.tupOf, MP.isMl, MP.cnd, MP.bnd, MP.subS, MP.backV, MP.tgsLen, List.set_cons_zero, List.set_cons_succ, Nat.zero_add, Nat.reduceAdd, Nat.reduceSub, List.replicate, List.all_nil, List.all_cons, List.nodup_nil, Bool.and_self, true_and, and_true, ite_true, ite_false, Bool.false_eq_true, if_true, if_false, reduceIte, not_false_eq_true, List.not_mem_nil, MP.startV, MP.at0, MP.at1, MP.at2, MP.at3, MP.at4, MP.at5, MP.shp_int, MP.shp_bl, MP.shp_non, MP.deq_int, MP.deq_bl, decide_eq_true_eq, Bool.not_eq_true', decide_eq_false_iff_not, MP.wipeV_nil, MP.wipeV_cons]
      refine ⟨5, gAll, by decide, rfl, (mat, S), rfl, ⟨hmat, hS, hSn⟩, ?_⟩
      rintro r ms ⟨rfl, rfl⟩
      simp only [MP.wpSs, MP.wpS, MP.wpT, MP.wpE, MP.wpEs, MP.wpG, MP.wpGs, MP.wpI, List.map_cons, List.map_nil, List.length_cons, List.length_nil, List.cons_append, List.nil_append, MP.slotV, List.getElem?_cons_zero, List.getElem?_cons_succ, Option.join_some, MP.look, MP.frz, MP.lk1, MP.lk2, MP.cmpS, MP.biS, MP.binS, MP.idxS, MP.slcS, MP.truS, MP.mtS, MP.isT, MP.looks, MP.argsV, MP.lent, MP.intOf, MP.bolOf, MP.seqOf, MP.tupOf, MP.isMl, MP.cnd, MP.bnd, MP.subS, MP.backV, MP.tgsLen, List.set_cons_zero, List.set_cons_succ, Nat.zero_add, Nat.reduceAdd, Nat.reduceSub, List.replicate, List.all_nil, List.all_cons, List.nodup_nil, Bool.and_self, true_and, and_true, ite_true, ite_false, Bool.false_eq_true, if_true, if_false, reduceIte, not_false_eq_true, List.not_mem_nil, MP.startV, MP.at0, MP.at1, MP.at2, MP.at3, MP.at4, MP.at5, MP.shp_int, MP.shp_bl, MP.shp_non, MP.deq_int, MP.deq_bl, decide_eq_true_eq, Bool.not_eq_true', decide_eq_false_iff_not, MP.wipeV_nil, MP.wipeV_cons]
      refine ⟨5, gAll, by decide, rfl, (mat, S), rfl, ⟨hmat, hS, hSn⟩, ?_⟩
      rintro r ms ⟨rfl, rfl⟩
      simp only [MP.wpSs, MP.wpS, MP.wpT, MP.wpE, MP.wpEs, MP.wpG, MP.wpGs, MP.wpI, List.map_cons, List.map_nil, List.length_cons, List.length_nil, List.cons_append, List.nil_append, MP.slotV, List.getElem?_cons_zero, List.getElem?_cons_succ, Option.join_some, MP.look, MP.frz, MP.lk1, MP.lk2, MP.cmpS, MP.biS, MP.binS, MP.idxS, MP.slcS, MP.truS, MP.mtS, MP.isT, MP.looks, MP.argsV, MP.lent, MP.intOf, MP.bolOf, MP.seqOf, MP.tupOf, MP.isMl, MP.cnd, MP.bnd, MP.subS, MP.backV, MP.tgsLen, List.set_cons_zero, List.set_cons_succ, Nat.zero_add, Nat.reduceAdd, Nat.reduceSub, List.replicate, List.all_nil, List.all_cons, List.nodup_nil, Bool.and_self, true_and, and_true, ite_true, ite_false, Bool.false_eq_true, if_true, if_false, reduceIte, not_false_eq_true, List.not_mem_nil, MP.startV, MP.at0, MP.at1, MP.at2, MP.at3, MP.at4, MP.at5, MP.shp_int, MP.shp_bl, MP.shp_non, MP.deq_int, MP.deq_bl, decide_eq_true_eq, Bool.not_eq_true', decide_eq_false_iff_not, MP.wipeV_nil, MP.wipeV_cons]
      refine ⟨5, gSame 4, by decide, rfl, sgs (allF mat S), rfl, ok_sgs (by rw [all_len]; omega), ?_⟩
      rintro r ms ⟨rfl, rfl⟩
      simp only [Bool.not_true, MP.wpSs, MP.wpS, MP.wpT, MP.wpE, MP.wpEs, MP.wpG, MP.wpGs, MP.wpI, List.map_cons, List.map_nil, List.length_cons, List.length_nil, List.cons_append, List.nil_append, MP.slotV, List.getElem?_cons_zero, List.getElem?_cons_succ, Option.join_some, MP.look, MP.frz, MP.lk1, MP.lk2, MP.cmpS, MP.biS, MP.binS, MP.idxS, MP.slcS, MP.truS, MP.mtS, MP.isT, MP.looks, MP.argsV, MP.lent, MP.intOf, MP.bolOf, MP.seqOf, MP.tupOf, MP.isMl, MP.cnd, MP.bnd, MP.subS, MP.backV, MP.tgsLen, List.set_cons_zero, List.set_cons_succ, Nat.zero_add, Nat.reduceAdd, Nat.reduceSub, List.replicate, List.all_nil, List.all_cons, List.nodup_nil, Bool.and_self, true_and, and_true, ite_true, ite_false, Bool.false_eq_true, if_true, if_false, reduceIte, not_false_eq_true, List.not_mem_nil, MP.startV, MP.at0, MP.at1, MP.at2, MP.at3, MP.at4, MP.at5, MP.shp_int, MP.shp_bl, MP.shp_non, MP.deq_int, MP.deq_bl, decide_eq_true_eq, Bool.not_eq_true', decide_eq_false_iff_not, MP.wipeV_nil, MP.wipeV_cons]
      exact ⟨l3, _, _, _, _, _, rfl, hd'⟩
    · rintro ρ ⟨l, x2, x3, x4, x5, x6, rfl, _⟩
      simp only [ssDrop, MP.wpSs, MP.wpS, MP.wpT, MP.wpE, MP.wpEs, MP.wpG, MP.wpGs, MP.wpI, List.map_cons, List.map_nil, List.length_cons, List.length_nil, List.cons_append, List.nil_append, MP.slotV, List.getElem?_cons_zero, List.getElem?_cons_succ, Option.join_some, MP.look, MP.frz, MP.lk1, MP.lk2, MP.cmpS, MP.biS, MP.binS, MP.idxS, MP.slcS, MP.truS, MP.mtS, MP.isT, MP.looks, MP.argsV, MP.lent, MP.intOf, MP.bolOf, MP.seqOf, MP.tupOf, MP.isMl, MP.cnd, MP.bnd, MP.subS, MP.backV, MP.tgsLen, List.set_cons_zero, List.set_cons_succ, Nat.zero_add, Nat.reduceAdd, Nat.reduceSub, List.replicate, List.all_nil, List.all_cons, List.nodup_nil, Bool.and_self, true_and, and_true, ite_true, ite_false, Bool.false_eq_true, if_true, if_false, reduceIte, not_false_eq_true, List.not_mem_nil, MP.startV, MP.at0, MP.at1, MP.at2, MP.at3, MP.at4, MP.at5, MP.shp_int, MP.shp_bl, MP.shp_non, MP.deq_int, MP.deq_bl, decide_eq_true_eq, Bool.not_eq_true', decide_eq_false_iff_not, MP.wipeV_nil, MP.wipeV_cons]
      have hone : SB 500 oneS := ⟨⟨fb1 (.inl ⟨by decide, rfl⟩), fb1 (.inl ⟨by decide, rfl⟩)⟩, fb1 (.inr (.inr (.inl ⟨rfl, rfl⟩))), fb1 (.inl ⟨by decide, rfl⟩)⟩
      have honm : MB 500 oneM := ⟨⟨fb1 (.inr (.inl ⟨rfl, rfl⟩)), fb1 (.inl ⟨by decide, rfl⟩), fb1 (.inl ⟨by decide, rfl⟩)⟩, fb1 (.inl ⟨by decide, rfl⟩), fb1 (.inr (.inr (.inr ⟨rfl, rfl⟩))), fb1 (.inl ⟨by decide, rfl⟩)⟩
      refine ⟨by decide, by decide, by decide, by decide, by decide, by decide, by decide, by decide, by decide, by decide, by decide, by decide, by decide, by decide, by decide, by decide, by decide, 5, gAll, by decide, rfl, (oneM, [oneS]), rfl, ⟨honm, fun s h => by rw [List.mem_singleton] at h; subst h; exact hone, by decide⟩, ?_⟩
      rintro r ms ⟨rfl, rfl⟩
      dsimp only
      rw [one_all]
      refine ⟨by decide, by decide, by decide, by decide, by decide, by decide, by decide, by decide, 5, gSame 4, by decide, rfl, sgs [(((0, 1), (3, 1)), ((1, 1), (0, 1)))], rfl, ok_sgs (by decide), ?_⟩
      rintro r ms ⟨rfl, rfl⟩
      exact hQ _ _ rfl
  simp only [m_law, MP.wpSs, MP.wpS, MP.wpT, MP.wpE, MP.wpEs, MP.wpG, MP.wpGs, MP.wpI, List.map_cons, List.map_nil, List.length_cons, List.length_nil, List.cons_append, List.nil_append, MP.slotV, List.getElem?_cons_zero, List.getElem?_cons_succ, Option.join_some, MP.look, MP.frz, MP.lk1, MP.lk2, MP.cmpS, MP.biS, MP.binS, MP.idxS, MP.slcS, MP.truS, MP.mtS, MP.isT, MP.looks, MP.argsV, MP.lent, MP.intOf, MP.bolOf, MP.seqOf, MP.tupOf, MP.isMl, MP.cnd, MP.bnd, MP.subS, MP.backV, MP.tgsLen, List.set_cons_zero, List.set_cons_succ, Nat.zero_add, Nat.reduceAdd, Nat.reduceSub, List.replicate, List.all_nil, List.all_cons, List.nodup_nil, Bool.and_self, true_and, and_true, ite_true, ite_false, Bool.false_eq_true, if_true, if_false, reduceIte, not_false_eq_true, List.not_mem_nil, MP.startV, MP.at0, MP.at1, MP.at2, MP.at3, MP.at4, MP.at5, MP.shp_int, MP.shp_bl, MP.shp_non, MP.deq_int, MP.deq_bl, decide_eq_true_eq, Bool.not_eq_true', decide_eq_false_iff_not, MP.wipeV_nil, MP.wipeV_cons]
  refine ⟨1, gDraws, by decide, rfl, ns, rfl, hn, ?_⟩
  rintro r ms ⟨l, rfl, rfl⟩
  have z := fin l
  simp only [ssDrop, m_law, dr, MP.wpSs, MP.wpS, MP.wpT, MP.wpE, MP.wpEs, MP.wpG, MP.wpGs, MP.wpI, List.map_cons, List.map_nil, List.length_cons, List.length_nil, List.cons_append, List.nil_append, MP.slotV, List.getElem?_cons_zero, List.getElem?_cons_succ, Option.join_some, MP.look, MP.frz, MP.lk1, MP.lk2, MP.cmpS, MP.biS, MP.binS, MP.idxS, MP.slcS, MP.truS, MP.mtS, MP.isT, MP.looks, MP.argsV, MP.lent, MP.intOf, MP.bolOf, MP.seqOf, MP.tupOf, MP.isMl, MP.cnd, MP.bnd, MP.subS, MP.backV, MP.tgsLen, List.set_cons_zero, List.set_cons_succ, Nat.zero_add, Nat.reduceAdd, Nat.reduceSub, List.replicate, List.all_nil, List.all_cons, List.nodup_nil, Bool.and_self, true_and, and_true, ite_true, ite_false, Bool.false_eq_true, if_true, if_false, reduceIte, not_false_eq_true, List.not_mem_nil, MP.startV, MP.at0, MP.at1, MP.at2, MP.at3, MP.at4, MP.at5, MP.shp_int, MP.shp_bl, MP.shp_non, MP.deq_int, MP.deq_bl, decide_eq_true_eq, Bool.not_eq_true', decide_eq_false_iff_not, MP.wipeV_nil, MP.wipeV_cons] at z
  simp only [dr, MP.wpSs, MP.wpS, MP.wpT, MP.wpE, MP.wpEs, MP.wpG, MP.wpGs, MP.wpI, List.map_cons, List.map_nil, List.length_cons, List.length_nil, List.cons_append, List.nil_append, MP.slotV, List.getElem?_cons_zero, List.getElem?_cons_succ, Option.join_some, MP.look, MP.frz, MP.lk1, MP.lk2, MP.cmpS, MP.biS, MP.binS, MP.idxS, MP.slcS, MP.truS, MP.mtS, MP.isT, MP.looks, MP.argsV, MP.lent, MP.intOf, MP.bolOf, MP.seqOf, MP.tupOf, MP.isMl, MP.cnd, MP.bnd, MP.subS, MP.backV, MP.tgsLen, List.set_cons_zero, List.set_cons_succ, Nat.zero_add, Nat.reduceAdd, Nat.reduceSub, List.replicate, List.all_nil, List.all_cons, List.nodup_nil, Bool.and_self, true_and, and_true, ite_true, ite_false, Bool.false_eq_true, if_true, if_false, reduceIte, not_false_eq_true, List.not_mem_nil, MP.startV, MP.at0, MP.at1, MP.at2, MP.at3, MP.at4, MP.at5, MP.shp_int, MP.shp_bl, MP.shp_non, MP.deq_int, MP.deq_bl, decide_eq_true_eq, Bool.not_eq_true', decide_eq_false_iff_not, MP.wipeV_nil, MP.wipeV_cons]
  exact z
end K76

/-! k76: each def keeps its promise. -/
namespace K76
open PySem PySem.Spec PyProof.Rows L2 MP
def fsAll : List Str := ["fraction", "add", "multiply", "sign", "compare_fractions", "compare_points", "segment", "image_of_point", "image_of_segments", "_law_draws", "_law_take", "_law_pick", "_law_same", "_law_gcd", "_law_frac", "_law_plus", "_law_minus", "_law_product", "_law_less", "_law_ahead", "_law_joining", "_law_step", "_law_corner", "_law_drawn_one", "_law_moved_spot", "_law_drawn", "_law_drawn_matrix", "_law_imaged", "_law_imaged_all"]
def bnAll : List Str := ["abs", "bool", "int", "isinstance", "len", "list", "max", "range", "str", "tuple"]
section
variable {P : Program} {w : World} {K : PySem.W.Frag} {mg : Str → Option Value} {base : Heap}
structure Env : Prop where
  fs : ∀ x ∈ fsAll, ∃ fa, mg x = some (.ref fa) ∧ PySem.W.keepIn K (.ref fa) = true
  bn : ∀ x ∈ bnAll, mg x = none
  gc : mg "gcd" = some (.builtin "math.gcd")
theorem ok_fraction {f : Addr} {fd : FuncData} (F : FunD K "fraction" "fraction" (defArgs (top 2)) (defBody (top 2)) (defScope (top 2)) [] [] f fd) (e : Env (K := K) (mg := mg)) (tab : TabOk P w K mg base Γ 1) : Binds K fd P_fraction [] ∧ FnOk P w K mg base CX0 1 f fd P_fraction (spOf K (gFraction)) :=
  ⟨F.bindsN fun _ _ _ _ _ _ us hl => match us, hl with | [_, _], _ => rfl,
   MP.fn_ok F sc_fraction d_fraction (fun x h => e.bn x (by revert x; decide)) (fun _ => e.gc) (fun x h => e.fs x (by revert x; decide)) tab (fun ds Q ⟨x, h, _⟩ => by rw [h]; rfl) w_fraction⟩
theorem ok_add {f : Addr} {fd : FuncData} (F : FunD K "add" "add" (defArgs (top 3)) (defBody (top 3)) (defScope (top 3)) [] [] f fd) (e : Env (K := K) (mg := mg)) (tab : TabOk P w K mg base Γ 2) : Binds K fd P_add [] ∧ FnOk P w K mg base CX0 2 f fd P_add (spOf K (gF2 addF)) :=
  ⟨F.bindsN fun _ _ _ _ _ _ us hl => match us, hl with | [_, _], _ => rfl,
   MP.fn_ok F sc_add d_add (fun x h => e.bn x (by revert x; decide)) (fun _ => e.gc) (fun x h => e.fs x (by revert x; decide)) tab (fun ds Q ⟨x, h, _⟩ => by rw [h]; rfl) w_add⟩
theorem ok_multiply {f : Addr} {fd : FuncData} (F : FunD K "multiply" "multiply" (defArgs (top 4)) (defBody (top 4)) (defScope (top 4)) [] [] f fd) (e : Env (K := K) (mg := mg)) (tab : TabOk P w K mg base Γ 2) : Binds K fd P_multiply [] ∧ FnOk P w K mg base CX0 2 f fd P_multiply (spOf K (gF2 mulF)) :=
  ⟨F.bindsN fun _ _ _ _ _ _ us hl => match us, hl with | [_, _], _ => rfl,
   MP.fn_ok F sc_multiply d_multiply (fun x h => e.bn x (by revert x; decide)) (fun _ => e.gc) (fun x h => e.fs x (by revert x; decide)) tab (fun ds Q ⟨x, h, _⟩ => by rw [h]; rfl) w_multiply⟩
theorem ok_sign {f : Addr} {fd : FuncData} (F : FunD K "sign" "sign" (defArgs (top 5)) (defBody (top 5)) (defScope (top 5)) [] [] f fd) (e : Env (K := K) (mg := mg)) (tab : TabOk P w K mg base Γ 1) : Binds K fd P_sign [] ∧ FnOk P w K mg base CX0 1 f fd P_sign (spOf K (gSign)) :=
  ⟨F.bindsN fun _ _ _ _ _ _ us hl => match us, hl with | [_], _ => rfl,
   MP.fn_ok F sc_sign d_sign (fun x h => e.bn x (by revert x; decide)) (fun _ => e.gc) (fun x h => e.fs x (by revert x; decide)) tab (fun ds Q ⟨x, h, _⟩ => by rw [h]; rfl) w_sign⟩
theorem ok_compare_fractions {f : Addr} {fd : FuncData} (F : FunD K "compare_fractions" "compare_fractions" (defArgs (top 6)) (defBody (top 6)) (defScope (top 6)) [] [] f fd) (e : Env (K := K) (mg := mg)) (tab : TabOk P w K mg base Γ 2) : Binds K fd P_compare_fractions [] ∧ FnOk P w K mg base CX0 2 f fd P_compare_fractions (spOf K (gCmpF)) :=
  ⟨F.bindsN fun _ _ _ _ _ _ us hl => match us, hl with | [_, _], _ => rfl,
   MP.fn_ok F sc_compare_fractions d_compare_fractions (fun x h => e.bn x (by revert x; decide)) (fun _ => e.gc) (fun x h => e.fs x (by revert x; decide)) tab (fun ds Q ⟨x, h, _⟩ => by rw [h]; rfl) w_compare_fractions⟩
theorem ok_compare_points {f : Addr} {fd : FuncData} (F : FunD K "compare_points" "compare_points" (defArgs (top 8)) (defBody (top 8)) (defScope (top 8)) [] [] f fd) (e : Env (K := K) (mg := mg)) (tab : TabOk P w K mg base Γ 3) : Binds K fd P_compare_points [] ∧ FnOk P w K mg base CX0 3 f fd P_compare_points (spOf K (gP2 fun p q => .int (cmpP p q))) :=
  ⟨F.bindsN fun _ _ _ _ _ _ us hl => match us, hl with | [_, _], _ => rfl,
   MP.fn_ok F sc_compare_points d_compare_points (fun x h => e.bn x (by revert x; decide)) (fun _ => e.gc) (fun x h => e.fs x (by revert x; decide)) tab (fun ds Q ⟨x, h, _⟩ => by rw [h]; rfl) w_compare_points⟩
theorem ok_segment {f : Addr} {fd : FuncData} (F : FunD K "segment" "segment" (defArgs (top 10)) (defBody (top 10)) (defScope (top 10)) [] [] f fd) (e : Env (K := K) (mg := mg)) (tab : TabOk P w K mg base Γ 4) : Binds K fd P_segment [] ∧ FnOk P w K mg base CX0 4 f fd P_segment (spOf K (gP2 fun p q => sg (segF p q))) :=
  ⟨F.bindsN fun _ _ _ _ _ _ us hl => match us, hl with | [_, _], _ => rfl,
   MP.fn_ok F sc_segment d_segment (fun x h => e.bn x (by revert x; decide)) (fun _ => e.gc) (fun x h => e.fs x (by revert x; decide)) tab (fun ds Q ⟨x, h, _⟩ => by rw [h]; rfl) w_segment⟩
theorem ok_image_of_point {f : Addr} {fd : FuncData} (F : FunD K "image_of_point" "image_of_point" (defArgs (top 12)) (defBody (top 12)) (defScope (top 12)) [] [] f fd) (e : Env (K := K) (mg := mg)) (tab : TabOk P w K mg base Γ 3) : Binds K fd P_image_of_point [] ∧ FnOk P w K mg base CX0 3 f fd P_image_of_point (spOf K (gImg)) :=
  ⟨F.bindsN fun _ _ _ _ _ _ us hl => match us, hl with | [_, _], _ => rfl,
   MP.fn_ok F sc_image_of_point d_image_of_point (fun x h => e.bn x (by revert x; decide)) (fun _ => e.gc) (fun x h => e.fs x (by revert x; decide)) tab (fun ds Q ⟨x, h, _⟩ => by rw [h]; rfl) w_image_of_point⟩
theorem ok_image_of_segments {f : Addr} {fd : FuncData} (F : FunD K "image_of_segments" "image_of_segments" (defArgs (top 13)) (defBody (top 13)) (defScope (top 13)) [] [] f fd) (e : Env (K := K) (mg := mg)) (tab : TabOk P w K mg base Γ 5) : Binds K fd P_image_of_segments [] ∧ FnOk P w K mg base CX0 5 f fd P_image_of_segments (spOf K (gAll)) :=
  ⟨F.bindsN fun _ _ _ _ _ _ us hl => match us, hl with | [_, _], _ => rfl,
   MP.fn_ok F sc_image_of_segments d_image_of_segments (fun x h => e.bn x (by revert x; decide)) (fun _ => e.gc) (fun x h => e.fs x (by revert x; decide)) tab (fun ds Q ⟨x, h, _⟩ => by rw [h]; rfl) w_image_of_segments⟩
theorem ok_law_draws {f : Addr} {fd : FuncData} (F : FunD K "_law_draws" "_law_draws" (defArgs (top 15)) (defBody (top 15)) (defScope (top 15)) [] [] f fd) (e : Env (K := K) (mg := mg)) (tab : TabOk P w K mg base Γ 1) : Binds K fd P_law_draws [] ∧ FnOk P w K mg base CX0 1 f fd P_law_draws (spOf K (gDraws)) :=
  ⟨F.bindsN fun _ _ _ _ _ _ us hl => match us, hl with | [_, _], _ => rfl,
   MP.fn_ok F sc_law_draws d_law_draws (fun x h => e.bn x (by revert x; decide)) (fun _ => e.gc) (fun x h => e.fs x (by revert x; decide)) tab (fun ds Q ⟨x, h, _⟩ => by rw [h]; rfl) w_draws⟩
theorem ok_law_take {f : Addr} {fd : FuncData} (F : FunD K "_law_take" "_law_take" (defArgs (top 16)) (defBody (top 16)) (defScope (top 16)) [] [] f fd) (e : Env (K := K) (mg := mg)) (tab : TabOk P w K mg base Γ 1) : Binds K fd P_law_take [] ∧ FnOk P w K mg base CX0 1 f fd P_law_take (spOf K (gTake)) :=
  ⟨F.bindsN fun _ _ _ _ _ _ us hl => match us, hl with | [_, _], _ => rfl,
   MP.fn_ok F sc_law_take d_law_take (fun x h => e.bn x (by revert x; decide)) (fun _ => e.gc) (fun x h => e.fs x (by revert x; decide)) tab (fun ds Q ⟨x, h, _⟩ => by rw [h]; rfl) w_take⟩
theorem ok_law_pick {f : Addr} {fd : FuncData} (F : FunD K "_law_pick" "_law_pick" (defArgs (top 17)) (defBody (top 17)) (defScope (top 17)) [] [] f fd) (e : Env (K := K) (mg := mg)) (tab : TabOk P w K mg base Γ 2) : Binds K fd P_law_pick [] ∧ FnOk P w K mg base CX0 2 f fd P_law_pick (spOf K (gPick)) :=
  ⟨F.bindsN fun _ _ _ _ _ _ us hl => match us, hl with | [_, _], _ => rfl,
   MP.fn_ok F sc_law_pick d_law_pick (fun x h => e.bn x (by revert x; decide)) (fun _ => e.gc) (fun x h => e.fs x (by revert x; decide)) tab (fun ds Q ⟨x, h, _⟩ => by rw [h]; rfl) w_pick⟩
theorem ok_law_same (n : Nat) {f : Addr} {fd : FuncData} (F : FunD K "_law_same" "_law_same" (defArgs (top 18)) (defBody (top 18)) (defScope (top 18)) [] [] f fd) (e : Env (K := K) (mg := mg)) (tab : TabOk P w K mg base Γ (n + 1)) : Binds K fd P_law_same [] ∧ FnOk P w K mg base CX0 (n + 1) f fd P_law_same (spOf K (gSame n)) :=
  ⟨F.bindsN fun _ _ _ _ _ _ us hl => match us, hl with | [_, _], _ => rfl,
   MP.fn_ok F sc_law_same d_law_same (fun x h => e.bn x (by revert x; decide)) (fun _ => e.gc) (fun x h => e.fs x (by revert x; decide)) tab (fun ds Q ⟨x, h, _⟩ => by rw [h]; rfl) (w_same n)⟩
theorem ok_law_gcd {f : Addr} {fd : FuncData} (F : FunD K "_law_gcd" "_law_gcd" (defArgs (top 19)) (defBody (top 19)) (defScope (top 19)) [] [] f fd) (e : Env (K := K) (mg := mg)) (tab : TabOk P w K mg base Γ 1) : Binds K fd P_law_gcd [] ∧ FnOk P w K mg base CX0 1 f fd P_law_gcd (spOf K (gGcd)) :=
  ⟨F.bindsN fun _ _ _ _ _ _ us hl => match us, hl with | [_, _], _ => rfl,
   MP.fn_ok F sc_law_gcd d_law_gcd (fun x h => e.bn x (by revert x; decide)) (fun _ => e.gc) (fun x h => e.fs x (by revert x; decide)) tab (fun ds Q ⟨x, h, _⟩ => by rw [h]; rfl) w_gcd⟩
theorem ok_law_frac {f : Addr} {fd : FuncData} (F : FunD K "_law_frac" "_law_frac" (defArgs (top 20)) (defBody (top 20)) (defScope (top 20)) [] [] f fd) (e : Env (K := K) (mg := mg)) (tab : TabOk P w K mg base Γ 2) : Binds K fd P_law_frac [] ∧ FnOk P w K mg base CX0 2 f fd P_law_frac (spOf K (gFraction)) :=
  ⟨F.bindsN fun _ _ _ _ _ _ us hl => match us, hl with | [_, _], _ => rfl,
   MP.fn_ok F sc_law_frac d_law_frac (fun x h => e.bn x (by revert x; decide)) (fun _ => e.gc) (fun x h => e.fs x (by revert x; decide)) tab (fun ds Q ⟨x, h, _⟩ => by rw [h]; rfl) w_frac⟩
theorem ok_law_plus {f : Addr} {fd : FuncData} (F : FunD K "_law_plus" "_law_plus" (defArgs (top 21)) (defBody (top 21)) (defScope (top 21)) [] [] f fd) (e : Env (K := K) (mg := mg)) (tab : TabOk P w K mg base Γ 3) : Binds K fd P_law_plus [] ∧ FnOk P w K mg base CX0 3 f fd P_law_plus (spOf K (gF2 addF)) :=
  ⟨F.bindsN fun _ _ _ _ _ _ us hl => match us, hl with | [_, _], _ => rfl,
   MP.fn_ok F sc_law_plus d_law_plus (fun x h => e.bn x (by revert x; decide)) (fun _ => e.gc) (fun x h => e.fs x (by revert x; decide)) tab (fun ds Q ⟨x, h, _⟩ => by rw [h]; rfl) w_plus⟩
theorem ok_law_minus {f : Addr} {fd : FuncData} (F : FunD K "_law_minus" "_law_minus" (defArgs (top 22)) (defBody (top 22)) (defScope (top 22)) [] [] f fd) (e : Env (K := K) (mg := mg)) (tab : TabOk P w K mg base Γ 3) : Binds K fd P_law_minus [] ∧ FnOk P w K mg base CX0 3 f fd P_law_minus (spOf K (gF2 subF)) :=
  ⟨F.bindsN fun _ _ _ _ _ _ us hl => match us, hl with | [_, _], _ => rfl,
   MP.fn_ok F sc_law_minus d_law_minus (fun x h => e.bn x (by revert x; decide)) (fun _ => e.gc) (fun x h => e.fs x (by revert x; decide)) tab (fun ds Q ⟨x, h, _⟩ => by rw [h]; rfl) w_minus⟩
theorem ok_law_product {f : Addr} {fd : FuncData} (F : FunD K "_law_product" "_law_product" (defArgs (top 23)) (defBody (top 23)) (defScope (top 23)) [] [] f fd) (e : Env (K := K) (mg := mg)) (tab : TabOk P w K mg base Γ 3) : Binds K fd P_law_product [] ∧ FnOk P w K mg base CX0 3 f fd P_law_product (spOf K (gF2 mulF)) :=
  ⟨F.bindsN fun _ _ _ _ _ _ us hl => match us, hl with | [_, _], _ => rfl,
   MP.fn_ok F sc_law_product d_law_product (fun x h => e.bn x (by revert x; decide)) (fun _ => e.gc) (fun x h => e.fs x (by revert x; decide)) tab (fun ds Q ⟨x, h, _⟩ => by rw [h]; rfl) w_product⟩
theorem ok_law_less {f : Addr} {fd : FuncData} (F : FunD K "_law_less" "_law_less" (defArgs (top 24)) (defBody (top 24)) (defScope (top 24)) [] [] f fd) (e : Env (K := K) (mg := mg)) (tab : TabOk P w K mg base Γ 1) : Binds K fd P_law_less [] ∧ FnOk P w K mg base CX0 1 f fd P_law_less (spOf K (gLess)) :=
  ⟨F.bindsN fun _ _ _ _ _ _ us hl => match us, hl with | [_, _], _ => rfl,
   MP.fn_ok F sc_law_less d_law_less (fun x h => e.bn x (by revert x; decide)) (fun _ => e.gc) (fun x h => e.fs x (by revert x; decide)) tab (fun ds Q ⟨x, h, _⟩ => by rw [h]; rfl) w_less⟩
theorem ok_law_ahead {f : Addr} {fd : FuncData} (F : FunD K "_law_ahead" "_law_ahead" (defArgs (top 25)) (defBody (top 25)) (defScope (top 25)) [] [] f fd) (e : Env (K := K) (mg := mg)) (tab : TabOk P w K mg base Γ 2) : Binds K fd P_law_ahead [] ∧ FnOk P w K mg base CX0 2 f fd P_law_ahead (spOf K (gP2 fun p q => .bl (aheadF p q))) :=
  ⟨F.bindsN fun _ _ _ _ _ _ us hl => match us, hl with | [_, _], _ => rfl,
   MP.fn_ok F sc_law_ahead d_law_ahead (fun x h => e.bn x (by revert x; decide)) (fun _ => e.gc) (fun x h => e.fs x (by revert x; decide)) tab (fun ds Q ⟨x, h, _⟩ => by rw [h]; rfl) w_ahead⟩
theorem ok_law_joining {f : Addr} {fd : FuncData} (F : FunD K "_law_joining" "_law_joining" (defArgs (top 26)) (defBody (top 26)) (defScope (top 26)) [] [] f fd) (e : Env (K := K) (mg := mg)) (tab : TabOk P w K mg base Γ 3) : Binds K fd P_law_joining [] ∧ FnOk P w K mg base CX0 3 f fd P_law_joining (spOf K (gP2 fun p q => sg (joinF p q))) :=
  ⟨F.bindsN fun _ _ _ _ _ _ us hl => match us, hl with | [_, _], _ => rfl,
   MP.fn_ok F sc_law_joining d_law_joining (fun x h => e.bn x (by revert x; decide)) (fun _ => e.gc) (fun x h => e.fs x (by revert x; decide)) tab (fun ds Q ⟨x, h, _⟩ => by rw [h]; rfl) w_joining⟩
theorem ok_law_step {f : Addr} {fd : FuncData} (F : FunD K "_law_step" "_law_step" (defArgs (top 27)) (defBody (top 27)) (defScope (top 27)) [] [] f fd) (e : Env (K := K) (mg := mg)) (tab : TabOk P w K mg base Γ 1) : Binds K fd P_law_step [] ∧ FnOk P w K mg base CX0 1 f fd P_law_step (spOf K (gStep)) :=
  ⟨F.bindsN fun _ _ _ _ _ _ us hl => match us, hl with | [_, _], _ => rfl,
   MP.fn_ok F sc_law_step d_law_step (fun x h => e.bn x (by revert x; decide)) (fun _ => e.gc) (fun x h => e.fs x (by revert x; decide)) tab (fun ds Q ⟨x, h, _⟩ => by rw [h]; rfl) w_step⟩
theorem ok_law_corner {f : Addr} {fd : FuncData} (F : FunD K "_law_corner" "_law_corner" (defArgs (top 28)) (defBody (top 28)) (defScope (top 28)) [] [] f fd) (e : Env (K := K) (mg := mg)) (tab : TabOk P w K mg base Γ 3) : Binds K fd P_law_corner [] ∧ FnOk P w K mg base CX0 3 f fd P_law_corner (spOf K (gCorner)) :=
  ⟨F.bindsN fun _ _ _ _ _ _ us hl => match us, hl with | [_, _, _], _ => rfl,
   MP.fn_ok F sc_law_corner d_law_corner (fun x h => e.bn x (by revert x; decide)) (fun _ => e.gc) (fun x h => e.fs x (by revert x; decide)) tab (fun ds Q ⟨x, h, _⟩ => by rw [h]; rfl) w_corner⟩
theorem ok_law_drawn_one {f : Addr} {fd : FuncData} (F : FunD K "_law_drawn_one" "_law_drawn_one" (defArgs (top 29)) (defBody (top 29)) (defScope (top 29)) [] [] f fd) (e : Env (K := K) (mg := mg)) (tab : TabOk P w K mg base Γ 4) : Binds K fd P_law_drawn_one [] ∧ FnOk P w K mg base CX0 4 f fd P_law_drawn_one (spOf K (gOne)) :=
  ⟨F.bindsN fun _ _ _ _ _ _ us hl => match us, hl with | [_, _, _], _ => rfl,
   MP.fn_ok F sc_law_drawn_one d_law_drawn_one (fun x h => e.bn x (by revert x; decide)) (fun _ => e.gc) (fun x h => e.fs x (by revert x; decide)) tab (fun ds Q ⟨x, h, _⟩ => by rw [h]; rfl) w_one⟩
theorem ok_law_moved_spot {f : Addr} {fd : FuncData} (F : FunD K "_law_moved_spot" "_law_moved_spot" (defArgs (top 30)) (defBody (top 30)) (defScope (top 30)) [] [] f fd) (e : Env (K := K) (mg := mg)) (tab : TabOk P w K mg base Γ 4) : Binds K fd P_law_moved_spot [] ∧ FnOk P w K mg base CX0 4 f fd P_law_moved_spot (spOf K (gMoved)) :=
  ⟨F.bindsN fun _ _ _ _ _ _ us hl => match us, hl with | [_, _, _], _ => rfl,
   MP.fn_ok F sc_law_moved_spot d_law_moved_spot (fun x h => e.bn x (by revert x; decide)) (fun _ => e.gc) (fun x h => e.fs x (by revert x; decide)) tab (fun ds Q ⟨x, h, _⟩ => by rw [h]; rfl) w_moved⟩
theorem ok_law_drawn {f : Addr} {fd : FuncData} (F : FunD K "_law_drawn" "_law_drawn" (defArgs (top 31)) (defBody (top 31)) (defScope (top 31)) [] [] f fd) (e : Env (K := K) (mg := mg)) (tab : TabOk P w K mg base Γ 5) : Binds K fd P_law_drawn [] ∧ FnOk P w K mg base CX0 5 f fd P_law_drawn (spOf K (gDrawn)) :=
  ⟨F.bindsN fun _ _ _ _ _ _ us hl => match us, hl with | [_, _], _ => rfl,
   MP.fn_ok F sc_law_drawn d_law_drawn (fun x h => e.bn x (by revert x; decide)) (fun _ => e.gc) (fun x h => e.fs x (by revert x; decide)) tab (fun ds Q ⟨x, h, _⟩ => by rw [h]; rfl) w_drawn⟩
theorem ok_law_drawn_matrix {f : Addr} {fd : FuncData} (F : FunD K "_law_drawn_matrix" "_law_drawn_matrix" (defArgs (top 32)) (defBody (top 32)) (defScope (top 32)) [] [] f fd) (e : Env (K := K) (mg := mg)) (tab : TabOk P w K mg base Γ 4) : Binds K fd P_law_drawn_matrix [] ∧ FnOk P w K mg base CX0 4 f fd P_law_drawn_matrix (spOf K (gMatrix)) :=
  ⟨F.bindsN fun _ _ _ _ _ _ us hl => match us, hl with | [_], _ => rfl,
   MP.fn_ok F sc_law_drawn_matrix d_law_drawn_matrix (fun x h => e.bn x (by revert x; decide)) (fun _ => e.gc) (fun x h => e.fs x (by revert x; decide)) tab (fun ds Q ⟨x, h, _⟩ => by rw [h]; rfl) w_matrix⟩
theorem ok_law_imaged {f : Addr} {fd : FuncData} (F : FunD K "_law_imaged" "_law_imaged" (defArgs (top 33)) (defBody (top 33)) (defScope (top 33)) [] [] f fd) (e : Env (K := K) (mg := mg)) (tab : TabOk P w K mg base Γ 4) : Binds K fd P_law_imaged [] ∧ FnOk P w K mg base CX0 4 f fd P_law_imaged (spOf K (gImg)) :=
  ⟨F.bindsN fun _ _ _ _ _ _ us hl => match us, hl with | [_, _], _ => rfl,
   MP.fn_ok F sc_law_imaged d_law_imaged (fun x h => e.bn x (by revert x; decide)) (fun _ => e.gc) (fun x h => e.fs x (by revert x; decide)) tab (fun ds Q ⟨x, h, _⟩ => by rw [h]; rfl) w_imaged⟩
theorem ok_law_imaged_all {f : Addr} {fd : FuncData} (F : FunD K "_law_imaged_all" "_law_imaged_all" (defArgs (top 34)) (defBody (top 34)) (defScope (top 34)) [] [] f fd) (e : Env (K := K) (mg := mg)) (tab : TabOk P w K mg base Γ 5) : Binds K fd P_law_imaged_all [] ∧ FnOk P w K mg base CX0 5 f fd P_law_imaged_all (spOf K (gAll)) :=
  ⟨F.bindsN fun _ _ _ _ _ _ us hl => match us, hl with | [_, _], _ => rfl,
   MP.fn_ok F sc_law_imaged_all d_law_imaged_all (fun x h => e.bn x (by revert x; decide)) (fun _ => e.gc) (fun x h => e.fs x (by revert x; decide)) tab (fun ds Q ⟨x, h, _⟩ => by rw [h]; rfl) w_imaged_all⟩
theorem ok_law {f : Addr} {fd : FuncData} (F : FunD K "law" "law" (defArgs (top 35)) (defBody (top 35)) (defScope (top 35)) [] [] f fd) (e : Env (K := K) (mg := mg)) (tab : TabOk P w K mg base Γ 6) : Binds K fd P_law [] ∧ FnOk P w K mg base CX0 6 f fd P_law (spOf K (gLaw)) :=
  ⟨F.bindsN fun _ _ _ _ _ _ us hl => match us, hl with | [_], _ => rfl,
   MP.fn_ok F sc_law d_law (fun x h => e.bn x (by revert x; decide)) (fun _ => e.gc) (fun x h => e.fs x (by revert x; decide)) tab (fun ds Q ⟨x, h, _⟩ => by rw [h]; rfl) w_law⟩
end
end K76

/-! k76: the head. -/
namespace K76
open PySem PySem.Spec PyProof.Rows L2 MP
def D_fraction : He.DefD := ⟨("fraction", none), "fraction", "fraction", defArgs (top 2), defBody (top 2), defScope (top 2), [], []⟩
def D_add : He.DefD := ⟨("add", none), "add", "add", defArgs (top 3), defBody (top 3), defScope (top 3), [], []⟩
def D_multiply : He.DefD := ⟨("multiply", none), "multiply", "multiply", defArgs (top 4), defBody (top 4), defScope (top 4), [], []⟩
def D_sign : He.DefD := ⟨("sign", none), "sign", "sign", defArgs (top 5), defBody (top 5), defScope (top 5), [], []⟩
def D_compare_fractions : He.DefD := ⟨("compare_fractions", none), "compare_fractions", "compare_fractions", defArgs (top 6), defBody (top 6), defScope (top 6), [], []⟩
def D_compare_points : He.DefD := ⟨("compare_points", none), "compare_points", "compare_points", defArgs (top 8), defBody (top 8), defScope (top 8), [], []⟩
def D_segment : He.DefD := ⟨("segment", none), "segment", "segment", defArgs (top 10), defBody (top 10), defScope (top 10), [], []⟩
def D_image_of_point : He.DefD := ⟨("image_of_point", none), "image_of_point", "image_of_point", defArgs (top 12), defBody (top 12), defScope (top 12), [], []⟩
def D_image_of_segments : He.DefD := ⟨("image_of_segments", none), "image_of_segments", "image_of_segments", defArgs (top 13), defBody (top 13), defScope (top 13), [], []⟩
def D_law_draws : He.DefD := ⟨("_law_draws", none), "_law_draws", "_law_draws", defArgs (top 15), defBody (top 15), defScope (top 15), [], []⟩
def D_law_take : He.DefD := ⟨("_law_take", none), "_law_take", "_law_take", defArgs (top 16), defBody (top 16), defScope (top 16), [], []⟩
def D_law_pick : He.DefD := ⟨("_law_pick", none), "_law_pick", "_law_pick", defArgs (top 17), defBody (top 17), defScope (top 17), [], []⟩
def D_law_same : He.DefD := ⟨("_law_same", none), "_law_same", "_law_same", defArgs (top 18), defBody (top 18), defScope (top 18), [], []⟩
def D_law_gcd : He.DefD := ⟨("_law_gcd", none), "_law_gcd", "_law_gcd", defArgs (top 19), defBody (top 19), defScope (top 19), [], []⟩
def D_law_frac : He.DefD := ⟨("_law_frac", none), "_law_frac", "_law_frac", defArgs (top 20), defBody (top 20), defScope (top 20), [], []⟩
def D_law_plus : He.DefD := ⟨("_law_plus", none), "_law_plus", "_law_plus", defArgs (top 21), defBody (top 21), defScope (top 21), [], []⟩
def D_law_minus : He.DefD := ⟨("_law_minus", none), "_law_minus", "_law_minus", defArgs (top 22), defBody (top 22), defScope (top 22), [], []⟩
def D_law_product : He.DefD := ⟨("_law_product", none), "_law_product", "_law_product", defArgs (top 23), defBody (top 23), defScope (top 23), [], []⟩
def D_law_less : He.DefD := ⟨("_law_less", none), "_law_less", "_law_less", defArgs (top 24), defBody (top 24), defScope (top 24), [], []⟩
def D_law_ahead : He.DefD := ⟨("_law_ahead", none), "_law_ahead", "_law_ahead", defArgs (top 25), defBody (top 25), defScope (top 25), [], []⟩
def D_law_joining : He.DefD := ⟨("_law_joining", none), "_law_joining", "_law_joining", defArgs (top 26), defBody (top 26), defScope (top 26), [], []⟩
def D_law_step : He.DefD := ⟨("_law_step", none), "_law_step", "_law_step", defArgs (top 27), defBody (top 27), defScope (top 27), [], []⟩
def D_law_corner : He.DefD := ⟨("_law_corner", none), "_law_corner", "_law_corner", defArgs (top 28), defBody (top 28), defScope (top 28), [], []⟩
def D_law_drawn_one : He.DefD := ⟨("_law_drawn_one", none), "_law_drawn_one", "_law_drawn_one", defArgs (top 29), defBody (top 29), defScope (top 29), [], []⟩
def D_law_moved_spot : He.DefD := ⟨("_law_moved_spot", none), "_law_moved_spot", "_law_moved_spot", defArgs (top 30), defBody (top 30), defScope (top 30), [], []⟩
def D_law_drawn : He.DefD := ⟨("_law_drawn", none), "_law_drawn", "_law_drawn", defArgs (top 31), defBody (top 31), defScope (top 31), [], []⟩
def D_law_drawn_matrix : He.DefD := ⟨("_law_drawn_matrix", none), "_law_drawn_matrix", "_law_drawn_matrix", defArgs (top 32), defBody (top 32), defScope (top 32), [], []⟩
def D_law_imaged : He.DefD := ⟨("_law_imaged", none), "_law_imaged", "_law_imaged", defArgs (top 33), defBody (top 33), defScope (top 33), [], []⟩
def D_law_imaged_all : He.DefD := ⟨("_law_imaged_all", none), "_law_imaged_all", "_law_imaged_all", defArgs (top 34), defBody (top 34), defScope (top 34), [], []⟩
def D_law : He.DefD := ⟨("law", none), "law", "law", defArgs (top 35), defBody (top 35), defScope (top 35), [], []⟩
def fnL : List He.DefD := [D_fraction, D_add, D_multiply, D_sign, D_compare_fractions, D_compare_points, D_segment, D_image_of_point, D_image_of_segments, D_law_draws, D_law_take, D_law_pick, D_law_same, D_law_gcd, D_law_frac, D_law_plus, D_law_minus, D_law_product, D_law_less, D_law_ahead, D_law_joining, D_law_step, D_law_corner, D_law_drawn_one, D_law_moved_spot, D_law_drawn, D_law_drawn_matrix, D_law_imaged, D_law_imaged_all, D_law]
def faL : List He.Fa := [.glo "fraction", .glo "add", .glo "multiply", .glo "sign", .glo "compare_fractions", .glo "compare_points", .glo "segment", .glo "image_of_point", .glo "image_of_segments", .glo "_law_draws", .glo "_law_take", .glo "_law_pick", .glo "_law_same", .glo "_law_gcd", .glo "_law_frac", .glo "_law_plus", .glo "_law_minus", .glo "_law_product", .glo "_law_less", .glo "_law_ahead", .glo "_law_joining", .glo "_law_step", .glo "_law_corner", .glo "_law_drawn_one", .glo "_law_moved_spot", .glo "_law_drawn", .glo "_law_drawn_matrix", .glo "_law_imaged", .glo "_law_imaged_all", .glo "law", .free "abs", .free "bool", .free "int", .free "isinstance", .free "len", .free "list", .free "max", .free "range", .free "str", .free "tuple"]
def bsL : List (Str × Value) := [("gcd", .builtin "math.gcd")]
def looseL : List Str := ["__name__", "fraction", "add", "multiply", "sign", "compare_fractions", "compare_points", "segment", "image_of_point", "image_of_segments", "_law_draws", "_law_take", "_law_pick", "_law_same", "_law_gcd", "_law_frac", "_law_plus", "_law_minus", "_law_product", "_law_less", "_law_ahead", "_law_joining", "_law_step", "_law_corner", "_law_drawn_one", "_law_moved_spot", "_law_drawn", "_law_drawn_matrix", "_law_imaged", "_law_imaged_all"]
-- law at 35
section
variable {P : Program} {w : World} {K : PySem.W.Frag} {h : Heap} {mg : Str → Option Value} {base : Heap}
theorem env_ok (X : K.In h) (G : h.Ns mainGlobals mg) (c : SaysB faL fnL bsL K) : Env (K := K) (mg := mg) := by
  refine ⟨fun x hx => ?_, fun x hx => ?_, PySem.W.mg_of X G (c.blt (List.mem_cons_self ..))⟩
  · simp only [fsAll, List.mem_cons, List.not_mem_nil, or_false] at hx
    rcases hx with rfl | rfl | rfl | rfl | rfl | rfl | rfl | rfl | rfl | rfl | rfl | rfl | rfl | rfl | rfl | rfl | rfl | rfl | rfl | rfl | rfl | rfl | rfl | rfl | rfl | rfl | rfl | rfl | rfl
    · obtain ⟨fd, F⟩ := c.toD.def_ 0 (d := D_fraction) rfl
      exact ⟨_, He.glo_ok X G (c.toD.fact 0 (f := .glo "fraction") rfl), F.kp⟩
    · obtain ⟨fd, F⟩ := c.toD.def_ 1 (d := D_add) rfl
      exact ⟨_, He.glo_ok X G (c.toD.fact 1 (f := .glo "add") rfl), F.kp⟩
    · obtain ⟨fd, F⟩ := c.toD.def_ 2 (d := D_multiply) rfl
      exact ⟨_, He.glo_ok X G (c.toD.fact 2 (f := .glo "multiply") rfl), F.kp⟩
    · obtain ⟨fd, F⟩ := c.toD.def_ 3 (d := D_sign) rfl
      exact ⟨_, He.glo_ok X G (c.toD.fact 3 (f := .glo "sign") rfl), F.kp⟩
    · obtain ⟨fd, F⟩ := c.toD.def_ 4 (d := D_compare_fractions) rfl
      exact ⟨_, He.glo_ok X G (c.toD.fact 4 (f := .glo "compare_fractions") rfl), F.kp⟩
    · obtain ⟨fd, F⟩ := c.toD.def_ 5 (d := D_compare_points) rfl
      exact ⟨_, He.glo_ok X G (c.toD.fact 5 (f := .glo "compare_points") rfl), F.kp⟩
    · obtain ⟨fd, F⟩ := c.toD.def_ 6 (d := D_segment) rfl
      exact ⟨_, He.glo_ok X G (c.toD.fact 6 (f := .glo "segment") rfl), F.kp⟩
    · obtain ⟨fd, F⟩ := c.toD.def_ 7 (d := D_image_of_point) rfl
      exact ⟨_, He.glo_ok X G (c.toD.fact 7 (f := .glo "image_of_point") rfl), F.kp⟩
    · obtain ⟨fd, F⟩ := c.toD.def_ 8 (d := D_image_of_segments) rfl
      exact ⟨_, He.glo_ok X G (c.toD.fact 8 (f := .glo "image_of_segments") rfl), F.kp⟩
    · obtain ⟨fd, F⟩ := c.toD.def_ 9 (d := D_law_draws) rfl
      exact ⟨_, He.glo_ok X G (c.toD.fact 9 (f := .glo "_law_draws") rfl), F.kp⟩
    · obtain ⟨fd, F⟩ := c.toD.def_ 10 (d := D_law_take) rfl
      exact ⟨_, He.glo_ok X G (c.toD.fact 10 (f := .glo "_law_take") rfl), F.kp⟩
    · obtain ⟨fd, F⟩ := c.toD.def_ 11 (d := D_law_pick) rfl
      exact ⟨_, He.glo_ok X G (c.toD.fact 11 (f := .glo "_law_pick") rfl), F.kp⟩
    · obtain ⟨fd, F⟩ := c.toD.def_ 12 (d := D_law_same) rfl
      exact ⟨_, He.glo_ok X G (c.toD.fact 12 (f := .glo "_law_same") rfl), F.kp⟩
    · obtain ⟨fd, F⟩ := c.toD.def_ 13 (d := D_law_gcd) rfl
      exact ⟨_, He.glo_ok X G (c.toD.fact 13 (f := .glo "_law_gcd") rfl), F.kp⟩
    · obtain ⟨fd, F⟩ := c.toD.def_ 14 (d := D_law_frac) rfl
      exact ⟨_, He.glo_ok X G (c.toD.fact 14 (f := .glo "_law_frac") rfl), F.kp⟩
    · obtain ⟨fd, F⟩ := c.toD.def_ 15 (d := D_law_plus) rfl
      exact ⟨_, He.glo_ok X G (c.toD.fact 15 (f := .glo "_law_plus") rfl), F.kp⟩
    · obtain ⟨fd, F⟩ := c.toD.def_ 16 (d := D_law_minus) rfl
      exact ⟨_, He.glo_ok X G (c.toD.fact 16 (f := .glo "_law_minus") rfl), F.kp⟩
    · obtain ⟨fd, F⟩ := c.toD.def_ 17 (d := D_law_product) rfl
      exact ⟨_, He.glo_ok X G (c.toD.fact 17 (f := .glo "_law_product") rfl), F.kp⟩
    · obtain ⟨fd, F⟩ := c.toD.def_ 18 (d := D_law_less) rfl
      exact ⟨_, He.glo_ok X G (c.toD.fact 18 (f := .glo "_law_less") rfl), F.kp⟩
    · obtain ⟨fd, F⟩ := c.toD.def_ 19 (d := D_law_ahead) rfl
      exact ⟨_, He.glo_ok X G (c.toD.fact 19 (f := .glo "_law_ahead") rfl), F.kp⟩
    · obtain ⟨fd, F⟩ := c.toD.def_ 20 (d := D_law_joining) rfl
      exact ⟨_, He.glo_ok X G (c.toD.fact 20 (f := .glo "_law_joining") rfl), F.kp⟩
    · obtain ⟨fd, F⟩ := c.toD.def_ 21 (d := D_law_step) rfl
      exact ⟨_, He.glo_ok X G (c.toD.fact 21 (f := .glo "_law_step") rfl), F.kp⟩
    · obtain ⟨fd, F⟩ := c.toD.def_ 22 (d := D_law_corner) rfl
      exact ⟨_, He.glo_ok X G (c.toD.fact 22 (f := .glo "_law_corner") rfl), F.kp⟩
    · obtain ⟨fd, F⟩ := c.toD.def_ 23 (d := D_law_drawn_one) rfl
      exact ⟨_, He.glo_ok X G (c.toD.fact 23 (f := .glo "_law_drawn_one") rfl), F.kp⟩
    · obtain ⟨fd, F⟩ := c.toD.def_ 24 (d := D_law_moved_spot) rfl
      exact ⟨_, He.glo_ok X G (c.toD.fact 24 (f := .glo "_law_moved_spot") rfl), F.kp⟩
    · obtain ⟨fd, F⟩ := c.toD.def_ 25 (d := D_law_drawn) rfl
      exact ⟨_, He.glo_ok X G (c.toD.fact 25 (f := .glo "_law_drawn") rfl), F.kp⟩
    · obtain ⟨fd, F⟩ := c.toD.def_ 26 (d := D_law_drawn_matrix) rfl
      exact ⟨_, He.glo_ok X G (c.toD.fact 26 (f := .glo "_law_drawn_matrix") rfl), F.kp⟩
    · obtain ⟨fd, F⟩ := c.toD.def_ 27 (d := D_law_imaged) rfl
      exact ⟨_, He.glo_ok X G (c.toD.fact 27 (f := .glo "_law_imaged") rfl), F.kp⟩
    · obtain ⟨fd, F⟩ := c.toD.def_ 28 (d := D_law_imaged_all) rfl
      exact ⟨_, He.glo_ok X G (c.toD.fact 28 (f := .glo "_law_imaged_all") rfl), F.kp⟩
  · simp only [bnAll, List.mem_cons, List.not_mem_nil, or_false] at hx
    rcases hx with rfl | rfl | rfl | rfl | rfl | rfl | rfl | rfl | rfl | rfl
    · exact He.free_ok X G (c.toD.fact 30 (f := .free "abs") rfl)
    · exact He.free_ok X G (c.toD.fact 31 (f := .free "bool") rfl)
    · exact He.free_ok X G (c.toD.fact 32 (f := .free "int") rfl)
    · exact He.free_ok X G (c.toD.fact 33 (f := .free "isinstance") rfl)
    · exact He.free_ok X G (c.toD.fact 34 (f := .free "len") rfl)
    · exact He.free_ok X G (c.toD.fact 35 (f := .free "list") rfl)
    · exact He.free_ok X G (c.toD.fact 36 (f := .free "max") rfl)
    · exact He.free_ok X G (c.toD.fact 37 (f := .free "range") rfl)
    · exact He.free_ok X G (c.toD.fact 38 (f := .free "str") rfl)
    · exact He.free_ok X G (c.toD.fact 39 (f := .free "tuple") rfl)
theorem tabs (X : K.In h) (G : h.Ns mainGlobals mg) (c : SaysB faL fnL bsL K) (k : Nat) : TabOk P w K mg base Γ k := by
  refine tab_ok (fun f j g hg tab fa hfa => ?_) k
  have e := env_ok X G c
  unfold Γ at hg
  split at hg
  · rename_i e1
    subst e1
    split at hg
    · cases hg
    · obtain ⟨n, rfl⟩ : ∃ n, j = n + 1 := ⟨j - 1, by omega⟩
      cases hg
      obtain ⟨fd, F⟩ := c.toD.def_ 12 (d := D_law_same) rfl
      have z := hfa.symm.trans (He.glo_ok X G (c.toD.fact 12 (f := .glo "_law_same") rfl))
      cases z
      exact ⟨fd, P_law_same, ok_law_same n F e tab⟩
  · split at hg
    · rename_i l g2 e2
      split at hg
      · rename_i e3
        cases hg
        subst e3
        have hm := PySem.mem_of_lookup e2
        simp only [ptab, List.mem_cons, List.not_mem_nil, or_false, Prod.mk.injEq] at hm
        rcases hm with ⟨rfl, rfl, rfl⟩ | ⟨rfl, rfl, rfl⟩ | ⟨rfl, rfl, rfl⟩ | ⟨rfl, rfl, rfl⟩ | ⟨rfl, rfl, rfl⟩ | ⟨rfl, rfl, rfl⟩ | ⟨rfl, rfl, rfl⟩ | ⟨rfl, rfl, rfl⟩ | ⟨rfl, rfl, rfl⟩ | ⟨rfl, rfl, rfl⟩ | ⟨rfl, rfl, rfl⟩ | ⟨rfl, rfl, rfl⟩ | ⟨rfl, rfl, rfl⟩ | ⟨rfl, rfl, rfl⟩ | ⟨rfl, rfl, rfl⟩ | ⟨rfl, rfl, rfl⟩ | ⟨rfl, rfl, rfl⟩ | ⟨rfl, rfl, rfl⟩ | ⟨rfl, rfl, rfl⟩ | ⟨rfl, rfl, rfl⟩ | ⟨rfl, rfl, rfl⟩ | ⟨rfl, rfl, rfl⟩ | ⟨rfl, rfl, rfl⟩ | ⟨rfl, rfl, rfl⟩ | ⟨rfl, rfl, rfl⟩ | ⟨rfl, rfl, rfl⟩ | ⟨rfl, rfl, rfl⟩ | ⟨rfl, rfl, rfl⟩
        · obtain ⟨fd, F⟩ := c.toD.def_ 0 (d := D_fraction) rfl
          have z := hfa.symm.trans (He.glo_ok X G (c.toD.fact 0 (f := .glo "fraction") rfl))
          cases z
          exact ⟨fd, P_fraction, ok_fraction F e tab⟩
        · obtain ⟨fd, F⟩ := c.toD.def_ 1 (d := D_add) rfl
          have z := hfa.symm.trans (He.glo_ok X G (c.toD.fact 1 (f := .glo "add") rfl))
          cases z
          exact ⟨fd, P_add, ok_add F e tab⟩
        · obtain ⟨fd, F⟩ := c.toD.def_ 2 (d := D_multiply) rfl
          have z := hfa.symm.trans (He.glo_ok X G (c.toD.fact 2 (f := .glo "multiply") rfl))
          cases z
          exact ⟨fd, P_multiply, ok_multiply F e tab⟩
        · obtain ⟨fd, F⟩ := c.toD.def_ 3 (d := D_sign) rfl
          have z := hfa.symm.trans (He.glo_ok X G (c.toD.fact 3 (f := .glo "sign") rfl))
          cases z
          exact ⟨fd, P_sign, ok_sign F e tab⟩
        · obtain ⟨fd, F⟩ := c.toD.def_ 4 (d := D_compare_fractions) rfl
          have z := hfa.symm.trans (He.glo_ok X G (c.toD.fact 4 (f := .glo "compare_fractions") rfl))
          cases z
          exact ⟨fd, P_compare_fractions, ok_compare_fractions F e tab⟩
        · obtain ⟨fd, F⟩ := c.toD.def_ 5 (d := D_compare_points) rfl
          have z := hfa.symm.trans (He.glo_ok X G (c.toD.fact 5 (f := .glo "compare_points") rfl))
          cases z
          exact ⟨fd, P_compare_points, ok_compare_points F e tab⟩
        · obtain ⟨fd, F⟩ := c.toD.def_ 6 (d := D_segment) rfl
          have z := hfa.symm.trans (He.glo_ok X G (c.toD.fact 6 (f := .glo "segment") rfl))
          cases z
          exact ⟨fd, P_segment, ok_segment F e tab⟩
        · obtain ⟨fd, F⟩ := c.toD.def_ 7 (d := D_image_of_point) rfl
          have z := hfa.symm.trans (He.glo_ok X G (c.toD.fact 7 (f := .glo "image_of_point") rfl))
          cases z
          exact ⟨fd, P_image_of_point, ok_image_of_point F e tab⟩
        · obtain ⟨fd, F⟩ := c.toD.def_ 8 (d := D_image_of_segments) rfl
          have z := hfa.symm.trans (He.glo_ok X G (c.toD.fact 8 (f := .glo "image_of_segments") rfl))
          cases z
          exact ⟨fd, P_image_of_segments, ok_image_of_segments F e tab⟩
        · obtain ⟨fd, F⟩ := c.toD.def_ 9 (d := D_law_draws) rfl
          have z := hfa.symm.trans (He.glo_ok X G (c.toD.fact 9 (f := .glo "_law_draws") rfl))
          cases z
          exact ⟨fd, P_law_draws, ok_law_draws F e tab⟩
        · obtain ⟨fd, F⟩ := c.toD.def_ 10 (d := D_law_take) rfl
          have z := hfa.symm.trans (He.glo_ok X G (c.toD.fact 10 (f := .glo "_law_take") rfl))
          cases z
          exact ⟨fd, P_law_take, ok_law_take F e tab⟩
        · obtain ⟨fd, F⟩ := c.toD.def_ 11 (d := D_law_pick) rfl
          have z := hfa.symm.trans (He.glo_ok X G (c.toD.fact 11 (f := .glo "_law_pick") rfl))
          cases z
          exact ⟨fd, P_law_pick, ok_law_pick F e tab⟩
        · obtain ⟨fd, F⟩ := c.toD.def_ 13 (d := D_law_gcd) rfl
          have z := hfa.symm.trans (He.glo_ok X G (c.toD.fact 13 (f := .glo "_law_gcd") rfl))
          cases z
          exact ⟨fd, P_law_gcd, ok_law_gcd F e tab⟩
        · obtain ⟨fd, F⟩ := c.toD.def_ 14 (d := D_law_frac) rfl
          have z := hfa.symm.trans (He.glo_ok X G (c.toD.fact 14 (f := .glo "_law_frac") rfl))
          cases z
          exact ⟨fd, P_law_frac, ok_law_frac F e tab⟩
        · obtain ⟨fd, F⟩ := c.toD.def_ 15 (d := D_law_plus) rfl
          have z := hfa.symm.trans (He.glo_ok X G (c.toD.fact 15 (f := .glo "_law_plus") rfl))
          cases z
          exact ⟨fd, P_law_plus, ok_law_plus F e tab⟩
        · obtain ⟨fd, F⟩ := c.toD.def_ 16 (d := D_law_minus) rfl
          have z := hfa.symm.trans (He.glo_ok X G (c.toD.fact 16 (f := .glo "_law_minus") rfl))
          cases z
          exact ⟨fd, P_law_minus, ok_law_minus F e tab⟩
        · obtain ⟨fd, F⟩ := c.toD.def_ 17 (d := D_law_product) rfl
          have z := hfa.symm.trans (He.glo_ok X G (c.toD.fact 17 (f := .glo "_law_product") rfl))
          cases z
          exact ⟨fd, P_law_product, ok_law_product F e tab⟩
        · obtain ⟨fd, F⟩ := c.toD.def_ 18 (d := D_law_less) rfl
          have z := hfa.symm.trans (He.glo_ok X G (c.toD.fact 18 (f := .glo "_law_less") rfl))
          cases z
          exact ⟨fd, P_law_less, ok_law_less F e tab⟩
        · obtain ⟨fd, F⟩ := c.toD.def_ 19 (d := D_law_ahead) rfl
          have z := hfa.symm.trans (He.glo_ok X G (c.toD.fact 19 (f := .glo "_law_ahead") rfl))
          cases z
          exact ⟨fd, P_law_ahead, ok_law_ahead F e tab⟩
        · obtain ⟨fd, F⟩ := c.toD.def_ 20 (d := D_law_joining) rfl
          have z := hfa.symm.trans (He.glo_ok X G (c.toD.fact 20 (f := .glo "_law_joining") rfl))
          cases z
          exact ⟨fd, P_law_joining, ok_law_joining F e tab⟩
        · obtain ⟨fd, F⟩ := c.toD.def_ 21 (d := D_law_step) rfl
          have z := hfa.symm.trans (He.glo_ok X G (c.toD.fact 21 (f := .glo "_law_step") rfl))
          cases z
          exact ⟨fd, P_law_step, ok_law_step F e tab⟩
        · obtain ⟨fd, F⟩ := c.toD.def_ 22 (d := D_law_corner) rfl
          have z := hfa.symm.trans (He.glo_ok X G (c.toD.fact 22 (f := .glo "_law_corner") rfl))
          cases z
          exact ⟨fd, P_law_corner, ok_law_corner F e tab⟩
        · obtain ⟨fd, F⟩ := c.toD.def_ 23 (d := D_law_drawn_one) rfl
          have z := hfa.symm.trans (He.glo_ok X G (c.toD.fact 23 (f := .glo "_law_drawn_one") rfl))
          cases z
          exact ⟨fd, P_law_drawn_one, ok_law_drawn_one F e tab⟩
        · obtain ⟨fd, F⟩ := c.toD.def_ 24 (d := D_law_moved_spot) rfl
          have z := hfa.symm.trans (He.glo_ok X G (c.toD.fact 24 (f := .glo "_law_moved_spot") rfl))
          cases z
          exact ⟨fd, P_law_moved_spot, ok_law_moved_spot F e tab⟩
        · obtain ⟨fd, F⟩ := c.toD.def_ 25 (d := D_law_drawn) rfl
          have z := hfa.symm.trans (He.glo_ok X G (c.toD.fact 25 (f := .glo "_law_drawn") rfl))
          cases z
          exact ⟨fd, P_law_drawn, ok_law_drawn F e tab⟩
        · obtain ⟨fd, F⟩ := c.toD.def_ 26 (d := D_law_drawn_matrix) rfl
          have z := hfa.symm.trans (He.glo_ok X G (c.toD.fact 26 (f := .glo "_law_drawn_matrix") rfl))
          cases z
          exact ⟨fd, P_law_drawn_matrix, ok_law_drawn_matrix F e tab⟩
        · obtain ⟨fd, F⟩ := c.toD.def_ 27 (d := D_law_imaged) rfl
          have z := hfa.symm.trans (He.glo_ok X G (c.toD.fact 27 (f := .glo "_law_imaged") rfl))
          cases z
          exact ⟨fd, P_law_imaged, ok_law_imaged F e tab⟩
        · obtain ⟨fd, F⟩ := c.toD.def_ 28 (d := D_law_imaged_all) rfl
          have z := hfa.symm.trans (He.glo_ok X G (c.toD.fact 28 (f := .glo "_law_imaged_all") rfl))
          cases z
          exact ⟨fd, P_law_imaged_all, ok_law_imaged_all F e tab⟩
      · cases hg
    · cases hg
theorem facts {f : Addr} (X : K.In h) (G : h.Ns mainGlobals mg) (hfa : mg ("law" : Str) = some (.ref f)) (c : SaysB faL fnL bsL K) :
    ∃ fd : FuncData, (∀ (s : Shared) (v : Value), BindsTo s fd ⟨[v], []⟩ [("script", v)]) ∧ ∀ base : Heap, K.In base → base.Ns mainGlobals mg → FnOk P w K mg base CX0 6 f fd ["script"] (MP.spLaw K) := by
  obtain ⟨fd, F⟩ := c.toD.def_ 29 (d := D_law) rfl
  have z := hfa.symm.trans (He.glo_ok X G (c.toD.fact 29 (f := .glo "law") rfl))
  cases z
  have b := FunD.bindsA (ps := ["script"]) F fun _ _ _ _ _ _ us hl => match us, hl with | [_], _ => rfl
  refine ⟨fd, fun s v => b s [v] rfl, fun base _ _ => ?_⟩
  exact (ok_law F (env_ok X G c) (tabs X G c 6)).2.imp (law_imp fun ns Q hn hq => ⟨ns, rfl, hn, fun r ms hr => by cases hr; exact hq ms⟩)
end
abbrev R : PySem.W.OpenRow := PySem.W.OpenLaw.row PySem.Challenge.rw_planelaidout_k76_images_of_segments
abbrev hk : PySem.W.Hook := hookB 4 faL fnL bsL
def ob (s : PySem.W.SharedT) : AlB := obsBG 4 faL fnL bsL (HandSHeadRun.getT s)
theorem ob_eq (s : PySem.W.SharedT) : ob s = hk.obs s.abs := obsBG_eq (HandSHeadRun.getT_eq s)
theorem run (w : World) : HandSHeadRun.RunEqI R (PySem.W.view R.prog [0, 35]) hk ob 6000 looseL w := by
  unfold HandSHeadRun.RunEqI
  kernel_rfl
end K76
open PySem PySem.W PySem.Calls PyProof.Rows
theorem PySem.Challenge.cw_planelaidout_k76_images_of_segments_holds : PySem.Challenge.rw_planelaidout_k76_images_of_segments.Holds := by
  w_on; o_law
  refine HandSHeadRun.head_imp (r := OpenLaw.row PySem.Challenge.rw_planelaidout_k76_images_of_segments) (q := view (OpenLaw.row PySem.Challenge.rw_planelaidout_k76_images_of_segments).prog [0, 35]) (H := K76.hk) (ob := K76.ob) (M := 6000) (loose := K76.looseL) (d := HandSHeadRun.topDef (OpenLaw.row PySem.Challenge.rw_planelaidout_k76_images_of_segments).prog 35) (kwd := []) K76.ob_eq
    K76.run (by kernel_rfl) (by kernel_rfl) (by kernel_rfl) (by rfl) (by first | assumption | decide +kernel) (by decide +kernel) ⟨rfl, rfl, rfl, rfl, rfl, by decide +kernel⟩ ?hw ?hc
  case hw => w_witness2
  case hc =>
    refine L2.walk_ofE (l := PySem.Challenge.rw_planelaidout_k76_images_of_segments) (n := 63) (k := 6) (x := "script") (CX := L2.CX0) rfl (by decide) (by kernel_rfl) ⟨rfl, by decide, by decide⟩ ?F (fun _ _ _ _ z => z)
    intro w mg fa h Y G hmg0
    obtain ⟨K, KX, c⟩ := Y
    have hmg : mg ("law" : PySem.Str) = some (.ref fa) := by
      have e : (HandSHeadRun.topDef (OpenLaw.row PySem.Challenge.rw_planelaidout_k76_images_of_segments).prog 35).name = ("law" : PySem.Str) := by kernel_rfl
      rw [← e]
      exact hmg0
    obtain ⟨fd, hb, hF⟩ := K76.facts (P := (PySem.Challenge.rw_planelaidout_k76_images_of_segments).prog) (w := w) KX G hmg c
    exact ⟨K, fd, MP.spLaw K, KX, hb, fun H a ns hl _ hS => ⟨a, ns, rfl, hl, hS, fun _ => rfl⟩, hF⟩

