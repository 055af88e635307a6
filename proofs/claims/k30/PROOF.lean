import PyProof.Rows.All
import Wide.All
import OpenK.AllK
import Wide.FinOn
import HandS.ForMost
import HandS.Wide
import HandS.IsInst
import HandS.RaiseMore
import HandS.EndBits
import HandS.Small
import PySem.Challenge.RW_deedloom_k30_deeds_that_lean
set_option Elab.async false
set_option linter.all false
set_option maxRecDepth 100000
namespace Z
open PySem L2

/-- deep data, never changed -/
inductive D where
  | non | bl (b : Bool) | int (i : Int) | str (x : Str)
  | tup (l : List D) | lst (l : List D) | dct (ks : List Key) (vs : List D) | obj (C : Nat) (ns : List Str) (vs : List D)

/-- what a slot holds: forgotten, deep data, or a thing of its own that may be changed -/
inductive T where
  | un | f (d : D) | l (ds : List D) | dk (ks : List Key) (ds : List D)
  | ll (ts : List T) | tu (ts : List T) | o (C : Nat) (ns : List Str) (ts : List T)

/-- the written part, and where the classes of the program stand, by their numbers -/
structure Wd where
  K : PySem.W.Frag
  cl : Nat → Addr

mutual
def Rep (W : Wd) (F : Hp) : D → V → Prop
  | .non, v => v = .non
  | .bl b, v => v = .bl b
  | .int i, v => v = .int i
  | .str x, v => v = .str x
  | .tup l, v => ∃ p vs, v = .ref p ∧ SqT W.K F p vs ∧ Reps W F l vs
  | .lst l, v => ∃ p vs, v = .ref p ∧ SqL W.K F p vs ∧ Reps W F l vs
  | .dct ks ds, v => ∃ p kvs, v = .ref p ∧ Rd F p (.dK kvs) ∧ kvs.map (·.1) = ks ∧ Reps W F ds (kvs.map (·.2))
  | .obj C ns ds, v => ∃ p dx kvs, v = .ref p ∧ F p = some (.ins (W.cl C) dx kvs) ∧ kvs.map (·.1) = ns ∧ Reps W F ds (kvs.map (·.2))
def Reps (W : Wd) (F : Hp) : List D → List V → Prop
  | [], vs => vs = []
  | d :: ds, vs => ∃ v r, vs = v :: r ∧ Rep W F d v ∧ Reps W F ds r
end

mutual
def RelT (W : Wd) (F H : Hp) : T → V → List Addr → Prop
  | .un, _, fp => fp = []
  | .f d, v, fp => fp = [] ∧ Rep W F d v
  | .l ds, v, fp => ∃ p vs, v = .ref p ∧ fp = [p] ∧ H p = some (.lst vs) ∧ Reps W F ds vs
  | .dk ks ds, v, fp => ∃ p kvs, v = .ref p ∧ fp = [p] ∧ H p = some (.dK kvs) ∧ kvs.map (·.1) = ks ∧ Reps W F ds (kvs.map (·.2))
  | .ll ts, v, fp => ∃ p vs fps, v = .ref p ∧ fp = p :: fps.flatten ∧ H p = some (.lst vs) ∧ RelTs W F H ts vs fps
  | .tu ts, v, fp => ∃ p vs fps, v = .ref p ∧ fp = p :: fps.flatten ∧ H p = some (.tup vs) ∧ RelTs W F H ts vs fps
  | .o C ns ts, v, fp => ∃ p dx kvs fps, v = .ref p ∧ fp = p :: fps.flatten ∧ H p = some (.ins (W.cl C) dx kvs) ∧ kvs.map (·.1) = ns ∧ RelTs W F H ts (kvs.map (·.2)) fps
def RelTs (W : Wd) (F H : Hp) : List T → List V → List (List Addr) → Prop
  | [], vs, fps => vs = [] ∧ fps = []
  | t :: ts, vs, fps => ∃ v vr f fr, vs = v :: vr ∧ fps = f :: fr ∧ RelT W F H t v f ∧ RelTs W F H ts vr fr
end

/-- all that F has -/
def Inc (F F' : Hp) : Prop := ∀ a o, F a = some o → F' a = some o
theorem Inc.refl (F : Hp) : Inc F F := fun _ _ h => h
theorem Inc.trans {F G J : Hp} (a : Inc F G) (b : Inc G J) : Inc F J := fun p o h => b p o (a p o h)
/-- .. but that a dict may be locked -/
def Le (F H : Hp) : Prop := ∀ a o, F a = some o → H a = some o ∨ ∃ u kvs, o = .dK kvs ∧ H a = some (.frz u o)
theorem Le.refl (F : Hp) : Le F F := fun _ _ h => .inl h
theorem Le.of {F H : Hp} (h : Inc F H) : Le F H := fun a o e => .inl (h a o e)
theorem Le.some {F H : Hp} (h : Le F H) {a : Addr} {o : HO} (e : F a = some o) : ∃ u, H a = some u := by
  rcases h a o e with z | ⟨u, kvs, _, z⟩
  · exact ⟨_, z⟩
  · exact ⟨_, z⟩
theorem Le.none {F H : Hp} (h : Le F H) {a : Addr} (e : H a = Option.none) : F a = Option.none := by
  cases q : F a with
  | none => rfl
  | some o =>
    obtain ⟨u, z⟩ := h.some q
    rw [e] at z
    cases z
theorem Inc.le {F G H : Hp} (a : Inc F G) (b : Le G H) : Le F H := fun p o e => b p o (a p o e)
theorem Le.inc {F G H : Hp} (a : Le F G) (b : Inc G H) : Le F H := fun p o e => by
  rcases a p o e with z | ⟨u, kvs, e1, z⟩
  · exact .inl (b _ _ z)
  · exact .inr ⟨u, kvs, e1, b _ _ z⟩
theorem Rd.le {F H : Hp} (h : Le F H) {a : Addr} {u : HO} (r : Rd F a u) : Rd H a u := by
  rcases r with e | ⟨o, e⟩
  · rcases h a u e with z | ⟨o, kvs, e1, z⟩
    · exact .inl z
    · exact .inr ⟨o, z⟩
  · rcases h a _ e with z | ⟨_, kvs, e1, z⟩
    · exact .inr ⟨o, z⟩
    · cases e1
theorem SqL.le {K : PySem.W.Frag} {F H : Hp} (h : Le F H) {a : Addr} {vs : List V} (r : SqL K F a vs) : SqL K H a vs := by
  rcases r with r | r
  · exact .inl (Rd.le h r)
  · exact .inr r
theorem SqT.le {K : PySem.W.Frag} {F H : Hp} (h : Le F H) {a : Addr} {vs : List V} (r : SqT K F a vs) : SqT K H a vs := by
  rcases r with r | r
  · exact .inl (Rd.le h r)
  · exact .inr r
theorem ins_le {F H : Hp} (h : Le F H) {a C dx : Addr} {kvs : List (Str × V)} (e : F a = some (.ins C dx kvs)) : H a = some (.ins C dx kvs) := by
  rcases h a _ e with z | ⟨_, _, e1, _⟩
  · exact z
  · cases e1
mutual
theorem Rep.le {W : Wd} {F H : Hp} (h : Le F H) : ∀ (d : D) (v : V), Rep W F d v → Rep W H d v
  | .non, _, r => r
  | .bl _, _, r => r
  | .int _, _, r => r
  | .str _, _, r => r
  | .tup l, _, r => by
    obtain ⟨p, vs, e, s, q⟩ := r
    exact ⟨p, vs, e, SqT.le h s, Reps.le h l vs q⟩
  | .lst l, _, r => by
    obtain ⟨p, vs, e, s, q⟩ := r
    exact ⟨p, vs, e, SqL.le h s, Reps.le h l vs q⟩
  | .dct ks ds, _, r => by
    obtain ⟨p, kvs, e, s, k, q⟩ := r
    exact ⟨p, kvs, e, Rd.le h s, k, Reps.le h ds _ q⟩
  | .obj C ns ds, _, r => by
    obtain ⟨p, dx, kvs, e, s, k, q⟩ := r
    exact ⟨p, dx, kvs, e, ins_le h s, k, Reps.le h ds _ q⟩
theorem Reps.le {W : Wd} {F H : Hp} (h : Le F H) : ∀ (ds : List D) (vs : List V), Reps W F ds vs → Reps W H ds vs
  | [], _, r => r
  | d :: ds, _, r => by
    obtain ⟨v, vr, e, a, b⟩ := r
    exact ⟨v, vr, e, Rep.le h d v a, Reps.le h ds vr b⟩
end
theorem Rep.inc {W : Wd} {F H : Hp} (h : Inc F H) {d : D} {v : V} (r : Rep W F d v) : Rep W H d v := Rep.le (Le.of h) d v r
theorem Reps.inc {W : Wd} {F H : Hp} (h : Inc F H) {d : List D} {v : List V} (r : Reps W F d v) : Reps W H d v := Reps.le (Le.of h) d v r

mutual
theorem RelT.mono {W : Wd} {F F' H H' : Hp} (hF : Inc F F') : ∀ (t : T) (v : V) (fp : List Addr), (∀ a ∈ fp, H' a = H a) → RelT W F H t v fp → RelT W F' H' t v fp
  | .un, _, _, _, r => r
  | .f d, _, _, _, r => ⟨r.1, Rep.inc hF r.2⟩
  | .l ds, _, _, h, r => by
    obtain ⟨p, vs, e1, e2, e3, q⟩ := r
    exact ⟨p, vs, e1, e2, by rw [h p (by rw [e2]; exact List.mem_singleton.mpr rfl)]; exact e3, q.inc hF⟩
  | .dk ks ds, _, _, h, r => by
    obtain ⟨p, kvs, e1, e2, e3, k, q⟩ := r
    exact ⟨p, kvs, e1, e2, by rw [h p (by rw [e2]; exact List.mem_singleton.mpr rfl)]; exact e3, k, q.inc hF⟩
  | .ll ts, _, _, h, r => by
    obtain ⟨p, vs, fps, e1, e2, e3, q⟩ := r
    exact ⟨p, vs, fps, e1, e2, by rw [h p (by rw [e2]; exact List.mem_cons_self)]; exact e3, RelTs.mono hF ts vs fps (fun a ha => h a (by rw [e2]; exact List.mem_cons_of_mem _ ha)) q⟩
  | .tu ts, _, _, h, r => by
    obtain ⟨p, vs, fps, e1, e2, e3, q⟩ := r
    exact ⟨p, vs, fps, e1, e2, by rw [h p (by rw [e2]; exact List.mem_cons_self)]; exact e3, RelTs.mono hF ts vs fps (fun a ha => h a (by rw [e2]; exact List.mem_cons_of_mem _ ha)) q⟩
  | .o C ns ts, _, _, h, r => by
    obtain ⟨p, dx, kvs, fps, e1, e2, e3, k, q⟩ := r
    exact ⟨p, dx, kvs, fps, e1, e2, by rw [h p (by rw [e2]; exact List.mem_cons_self)]; exact e3, k, RelTs.mono hF ts _ fps (fun a ha => h a (by rw [e2]; exact List.mem_cons_of_mem _ ha)) q⟩
theorem RelTs.mono {W : Wd} {F F' H H' : Hp} (hF : Inc F F') : ∀ (ts : List T) (vs : List V) (fps : List (List Addr)), (∀ a ∈ fps.flatten, H' a = H a) → RelTs W F H ts vs fps → RelTs W F' H' ts vs fps
  | [], _, _, _, r => r
  | t :: ts, _, _, h, r => by
    obtain ⟨v, vr, f, fr, e1, e2, a, b⟩ := r
    subst e2
    rw [List.flatten_cons] at h
    exact ⟨v, vr, f, fr, e1, rfl, RelT.mono hF t v f (fun x hx => h x (List.mem_append_left _ hx)) a, RelTs.mono hF ts vr fr (fun x hx => h x (List.mem_append_right _ hx)) b⟩
end
mutual
theorem RelT.there {W : Wd} {F H : Hp} : ∀ (t : T) (v : V) (fp : List Addr), RelT W F H t v fp → ∀ a ∈ fp, ∃ o, H a = some o
  | .un, _, fp, r, a, ha => by
    have r' : fp = [] := r
    subst r'
    cases ha
  | .f d, _, fp, r, a, ha => by
    have r' : fp = [] := r.1
    subst r'
    cases ha
  | .l ds, _, _, r, a, ha => by
    obtain ⟨p, vs, e1, e2, e3, q⟩ := r
    subst e2
    cases List.mem_singleton.mp ha
    exact ⟨_, e3⟩
  | .dk ks ds, _, _, r, a, ha => by
    obtain ⟨p, kvs, e1, e2, e3, k, q⟩ := r
    subst e2
    cases List.mem_singleton.mp ha
    exact ⟨_, e3⟩
  | .ll ts, _, _, r, a, ha => by
    obtain ⟨p, vs, fps, e1, e2, e3, q⟩ := r
    subst e2
    rcases List.mem_cons.mp ha with z | z
    · subst z; exact ⟨_, e3⟩
    · exact RelTs.there ts vs fps q a z
  | .tu ts, _, _, r, a, ha => by
    obtain ⟨p, vs, fps, e1, e2, e3, q⟩ := r
    subst e2
    rcases List.mem_cons.mp ha with z | z
    · subst z; exact ⟨_, e3⟩
    · exact RelTs.there ts vs fps q a z
  | .o C ns ts, _, _, r, a, ha => by
    obtain ⟨p, dx, kvs, fps, e1, e2, e3, k, q⟩ := r
    subst e2
    rcases List.mem_cons.mp ha with z | z
    · subst z; exact ⟨_, e3⟩
    · exact RelTs.there ts _ fps q a z
theorem RelTs.there {W : Wd} {F H : Hp} : ∀ (ts : List T) (vs : List V) (fps : List (List Addr)), RelTs W F H ts vs fps → ∀ a ∈ fps.flatten, ∃ o, H a = some o
  | [], _, fps, r, a, ha => by
    have r' : fps = [] := r.2
    subst r'
    cases ha
  | t :: ts, _, _, r, a, ha => by
    obtain ⟨v, vr, f, fr, e1, e2, q1, q2⟩ := r
    subst e2
    rw [List.flatten_cons] at ha
    rcases List.mem_append.mp ha with z | z
    · exact RelT.there t v f q1 a z
    · exact RelTs.there ts vr fr q2 a z
end

/-! ### the slots -/
def Slot (W : Wd) (F H : Hp) (t : T) (s : Option V) (fp : List Addr) : Prop := match s with
  | none => t = .un ∧ fp = []
  | some v => RelT W F H t v fp
def Slots (W : Wd) (F H : Hp) : List T → St → List (List Addr) → Prop
  | [], σ, fps => σ = [] ∧ fps = []
  | t :: ts, σ, fps => ∃ s sr f fr, σ = s :: sr ∧ fps = f :: fr ∧ Slot W F H t s f ∧ Slots W F H ts sr fr
theorem Slot.mono {W : Wd} {F F' H H' : Hp} (hF : Inc F F') {t : T} {s : Option V} {fp : List Addr} (h : ∀ a ∈ fp, H' a = H a) (r : Slot W F H t s fp) : Slot W F' H' t s fp := by
  cases s with
  | none => exact r
  | some v => exact RelT.mono hF t v fp h r
theorem Slots.mono {W : Wd} {F F' H H' : Hp} (hF : Inc F F') : ∀ {ts : List T} {σ : St} {fps : List (List Addr)}, (∀ a ∈ fps.flatten, H' a = H a) → Slots W F H ts σ fps → Slots W F' H' ts σ fps
  | [], _, _, _, r => r
  | t :: ts, _, _, h, r => by
    obtain ⟨v, vr, f, fr, e1, e2, a, b⟩ := r
    subst e2
    rw [List.flatten_cons] at h
    exact ⟨v, vr, f, fr, e1, rfl, a.mono hF (fun x hx => h x (List.mem_append_left _ hx)), Slots.mono hF (fun x hx => h x (List.mem_append_right _ hx)) b⟩
theorem Slots.there {W : Wd} {F H : Hp} : ∀ {ts : List T} {σ : St} {fps : List (List Addr)}, Slots W F H ts σ fps → ∀ a ∈ fps.flatten, ∃ o, H a = some o
  | [], _, fps, r, a, ha => by
    have r' : fps = [] := r.2
    subst r'
    cases ha
  | t :: ts, _, _, r, a, ha => by
    obtain ⟨s, sr, f, fr, e1, e2, q1, q2⟩ := r
    subst e2
    rw [List.flatten_cons] at ha
    rcases List.mem_append.mp ha with z | z
    · cases s with
      | none => rw [q1.2] at z; cases z
      | some v => exact RelT.there t v f q1 a z
    · exact Slots.there q2 a z
theorem Slots.len {W : Wd} {F H : Hp} : ∀ {ts : List T} {σ : St} {fps : List (List Addr)}, Slots W F H ts σ fps → ts.length = σ.length ∧ ts.length = fps.length
  | [], _, _, r => by rw [r.1, r.2]; exact ⟨rfl, rfl⟩
  | t :: ts, _, _, r => by
    obtain ⟨s, sr, f, fr, e1, e2, q1, q2⟩ := r
    have q := Slots.len q2
    rw [e1, e2]
    simp [q.1, q.2]
    omega
theorem Slots.get {W : Wd} {F H : Hp} : ∀ {ts : List T} {σ : St} {fps : List (List Addr)} {i : Nat} {t : T}, Slots W F H ts σ fps → ts[i]? = some t → ∃ s f, σ[i]? = some s ∧ fps[i]? = some f ∧ Slot W F H t s f
  | [], _, _, _, _, _, e => by simp at e
  | t :: ts, _, _, 0, u, r, e => by
    obtain ⟨s, sr, f, fr, e1, e2, q1, q2⟩ := r
    simp at e
    subst e e1 e2
    exact ⟨s, f, rfl, rfl, q1⟩
  | t :: ts, _, _, i + 1, u, r, e => by
    obtain ⟨s, sr, f, fr, e1, e2, q1, q2⟩ := r
    subst e1 e2
    obtain ⟨s', f', a, b, c⟩ := Slots.get (i := i) (t := u) q2 (by simpa using e)
    exact ⟨s', f', by simpa using a, by simpa using b, c⟩
theorem Slots.set {W : Wd} {F H : Hp} {u : T} {s' : Option V} {f' : List Addr} (h : Slot W F H u s' f') : ∀ {ts : List T} {σ : St} {fps : List (List Addr)} (i : Nat), Slots W F H ts σ fps → Slots W F H (ts.set i u) (σ.set i s') (fps.set i f')
  | [], _, _, _, r => by rw [r.1, r.2]; exact ⟨rfl, rfl⟩
  | t :: ts, _, _, 0, r => by
    obtain ⟨s, sr, f, fr, e1, e2, q1, q2⟩ := r
    subst e1 e2
    exact ⟨s', sr, f', fr, rfl, rfl, h, q2⟩
  | t :: ts, _, _, i + 1, r => by
    obtain ⟨s, sr, f, fr, e1, e2, q1, q2⟩ := r
    subst e1 e2
    exact ⟨s, sr.set i s', f, fr.set i f', rfl, rfl, q1, Slots.set h i q2⟩

/-! ### lists of addresses -/
theorem mem_set_flat {l : List (List Addr)} {i : Nat} {f : List Addr} {a : Addr} (h : a ∈ (l.set i f).flatten) : a ∈ l.flatten ∨ a ∈ f := by
  obtain ⟨g, hg, ha⟩ := List.mem_flatten.mp h
  rcases List.mem_or_eq_of_mem_set hg with z | z
  · exact .inl (List.mem_flatten.mpr ⟨g, z, ha⟩)
  · subst z; exact .inr ha
/-- one part exchanged by one of old and new places -/
theorem nodup_set : ∀ {l : List (List Addr)} {i : Nat} {f g : List Addr}, l.flatten.Nodup → l[i]? = some g → f.Nodup → (∀ a ∈ f, a ∈ g ∨ a ∉ l.flatten) → (l.set i f).flatten.Nodup
  | [], _, _, _, _, e, _, _ => by simp at e
  | x :: l, 0, f, g, n, e, nf, h => by
    simp at e
    subst e
    rw [List.flatten_cons] at n h
    rw [List.set_cons_zero, List.flatten_cons]
    have n' := List.nodup_append.mp n
    refine List.nodup_append.mpr ⟨nf, n'.2.1, fun a ha b hb e => ?_⟩
    subst e
    rcases h a ha with z | z
    · exact n'.2.2 a z a hb rfl
    · exact z (List.mem_append_right _ hb)
  | x :: l, i + 1, f, g, n, e, nf, h => by
    rw [List.flatten_cons] at n h
    rw [List.set_cons_succ, List.flatten_cons]
    have n' := List.nodup_append.mp n
    have e' : l[i]? = some g := by simpa using e
    refine List.nodup_append.mpr ⟨n'.1, nodup_set n'.2.1 e' nf (fun a ha => (h a ha).imp id fun z m => z (List.mem_append_right _ m)), fun a ha b hb e => ?_⟩
    subst e
    rcases mem_set_flat hb with z | z
    · exact n'.2.2 a ha a z rfl
    · rcases h a z with q | q
      · exact n'.2.2 a ha a (List.mem_flatten.mpr ⟨g, List.mem_of_getElem? e', q⟩) rfl
      · exact q (List.mem_append_left _ ha)

/-! ### the state -/
/-- an entry: the heap, what was deep, of each parameter what it may hold, the parameters that are handed back -/
structure Bs where
  H0 : Hp
  F0 : Hp
  As : List (List Addr)
  io : List (Nat × V)
abbrev Bs.A (b : Bs) : List Addr := b.As.flatten
/-- a thing on the way: the slot that it was taken from (none: it is new), the thing, the value -/
structure Tm where
  og : Option Nat
  t : T
  v : V
/-- what an object of one's own may come to: its parts of their own (G) stay where they are -/
def Stb (G : Addr → Prop) : HO → HO → Prop
  | .ins C dx kvs, o => ∃ kvs', o = .ins C dx kvs' ∧ ∀ n a, G a → kvs.lookup n = some (V.ref a) → kvs'.lookup n = some (V.ref a)
  | .lst vs, o => ∃ vs', o = .lst vs' ∧ ∀ (i : Nat) a, G a → vs[i]? = some (V.ref a) → vs'[i]? = some (V.ref a)
  | .tup vs, o => o = .tup vs
  | .dK _, o => ∃ kvs, o = .dK kvs
  | _, _ => True
theorem Stb.refl {G : Addr → Prop} : ∀ o, Stb G o o
  | .ins C dx kvs => ⟨kvs, rfl, fun _ _ _ h => h⟩
  | .lst vs => ⟨vs, rfl, fun _ _ _ h => h⟩
  | .tup vs => rfl
  | .dK kvs => ⟨kvs, rfl⟩
  | .dT _ | .set _ _ | .own _ | .xd _ | .met _ _ | .rng _ _ | .frz _ _ | .tbl _ | .ext _ => by simp [Stb]
theorem Stb.trans {G G' : Addr → Prop} (hG : ∀ a, G a → G' a) : ∀ {o o1 o2 : HO}, Stb G o o1 → Stb G' o1 o2 → Stb G o o2
  | .ins C dx kvs, _, _, h, k => by
    obtain ⟨k1, rfl, h⟩ := h
    obtain ⟨k2, rfl, k⟩ := k
    exact ⟨k2, rfl, fun n a g e => k n a (hG a g) (h n a g e)⟩
  | .lst vs, _, _, h, k => by
    obtain ⟨k1, rfl, h⟩ := h
    obtain ⟨k2, rfl, k⟩ := k
    exact ⟨k2, rfl, fun n a g e => k n a (hG a g) (h n a g e)⟩
  | .tup vs, _, _, h, k => by
    have h' := h
    cases h'
    exact k
  | .dK kvs, _, _, h, k => by
    obtain ⟨k1, rfl⟩ := h
    exact k
  | .dT _, _, _, _, _ | .set _ _, _, _, _, _ | .own _, _, _, _, _ | .xd _, _, _, _, _ | .met _ _, _, _, _, _ | .rng _ _, _, _, _, _ | .frz _ _, _, _, _, _ | .tbl _, _, _, _, _ | .ext _, _, _, _, _ => by simp [Stb]
def GB (W : Wd) (b : Bs) (a : Addr) : Prop := b.F0 a = none ∧ W.K.lookup a = none ∧ ∃ u, b.H0 a = some u
def GF (W : Wd) (F : Hp) (a : Addr) : Prop := F a = none ∧ W.K.lookup a = none
def Own (F : Hp) (l : List Addr) : Prop := l.Nodup ∧ ∀ a ∈ l, F a = none
/-- younger than the entry, or the parameter's own -/
def Frm (b : Bs) (i : Nat) (a : Addr) : Prop := b.H0 a = none ∨ ∃ f, b.As[i]? = some f ∧ a ∈ f
def Og (b : Bs) (o : Option Nat) (a : Addr) : Prop := b.H0 a = none ∨ ∃ j, o = some j ∧ Frm b j a
def LocS (b : Bs) (fps : List (List Addr)) : Prop := ∀ i f, fps[i]? = some f → ∀ a ∈ f, Frm b i a
def LocX (b : Bs) : List Tm → List (List Addr) → Prop
  | [], _ => True
  | _ :: _, [] => True
  | x :: X, f :: fs => (∀ a ∈ f, Og b x.og a) ∧ LocX b X fs
/-- slots ρ are what σ holds in H; X: what is held besides (on the way) -/
structure SR (W : Wd) (b : Bs) (F : Hp) (ρ : List T) (σ : St) (X : List Tm) (H : Hp) : Prop where
  le : Le F H
  f0 : Inc b.F0 F
  fn : ∀ a o, F a = some o → b.F0 a = some o ∨ b.H0 a = none
  kept : ∀ a o, b.H0 a = some o → a ∉ b.A → H a = some o
  stab : ∀ a o, b.H0 a = some o → a ∈ b.A → ∃ u, H a = some u ∧ Stb (GB W b) o u
  pin : ∀ p ∈ b.io, σ[p.1]? = some (some p.2)
  ow : ∃ fps xps, Slots W F H ρ σ fps ∧ RelTs W F H (X.map (·.t)) (X.map (·.v)) xps ∧ Own F (fps.flatten ++ xps.flatten) ∧ LocS b fps ∧ LocX b X xps
theorem Frm.old {b : Bs} {i : Nat} {a : Addr} (h : Frm b i a) : b.H0 a = none ∨ a ∈ b.A := by
  rcases h with h | ⟨f, e, h⟩
  · exact .inl h
  · exact .inr (List.mem_flatten.mpr ⟨f, List.mem_of_getElem? e, h⟩)
theorem Og.old {b : Bs} {i : Option Nat} {a : Addr} (h : Og b i a) : b.H0 a = none ∨ a ∈ b.A := by
  rcases h with h | ⟨j, _, h⟩
  · exact .inl h
  · exact h.old
theorem LocS.old {b : Bs} {fps : List (List Addr)} (h : LocS b fps) {a : Addr} (ha : a ∈ fps.flatten) : b.H0 a = none ∨ a ∈ b.A := by
  obtain ⟨f, hf, ha⟩ := List.mem_flatten.mp ha
  obtain ⟨i, hi⟩ := List.mem_iff_getElem?.mp hf
  exact (h i f hi a ha).old
theorem LocX.old {b : Bs} : ∀ {X : List Tm} {xps : List (List Addr)}, X.length = xps.length → LocX b X xps → ∀ {a : Addr}, a ∈ xps.flatten → b.H0 a = none ∨ a ∈ b.A
  | [], [], _, _, _, ha => by cases ha
  | [], _ :: _, e, _, _, _ => by cases e
  | x :: X, [], e, _, _, _ => by cases e
  | x :: X, f :: fs, e, h, a, ha => by
    rw [List.flatten_cons] at ha
    rcases List.mem_append.mp ha with z | z
    · exact (h.1 a z).old
    · exact LocX.old (by simpa using e) h.2 z
theorem RelTs.lenA {W : Wd} {F H : Hp} : ∀ {ts : List T} {vs : List V} {fps : List (List Addr)}, RelTs W F H ts vs fps → ts.length = vs.length ∧ ts.length = fps.length
  | [], _, _, r => by
    rw [r.1, r.2]
    exact ⟨rfl, rfl⟩
  | t :: ts, _, _, r => by
    obtain ⟨v, vr, f, fr, e1, e2, a, b⟩ := r
    have q := RelTs.lenA b
    rw [e1, e2]
    simp only [List.length_cons]
    omega
section
variable {W : Wd} {b : Bs} {F F' : Hp} {ρ : List T} {σ : St} {X : List Tm} {H H' : Hp}
/-- a free place was free at the entry -/
theorem SR.new0 {p : Addr} (S : SR W b F ρ σ X H) (hp : H p = none) : b.H0 p = none := by
  cases q : b.H0 p with
  | none => rfl
  | some u =>
    by_cases hA : p ∈ b.A
    · obtain ⟨u', z', _⟩ := S.stab p u q hA
      rw [z'] at hp
      cases hp
    · rw [S.kept p u q hA] at hp
      cases hp
theorem SR.len (S : SR W b F ρ σ X H) : ρ.length = σ.length := by
  obtain ⟨fps, xps, s1, _⟩ := S.ow
  exact s1.len.1
theorem SR.slot {i : Nat} {t : T} (S : SR W b F ρ σ X H) (h : ρ[i]? = some t) : ∃ s fp, σ[i]? = some s ∧ Slot W F H t s fp := by
  obtain ⟨fps, xps, s1, s2, _⟩ := S.ow
  obtain ⟨s, f, e1, _, r⟩ := s1.get h
  exact ⟨s, f, e1, r⟩
/-- nothing is changed, new things may stand -/
theorem SR.ext (S : SR W b F ρ σ X H) (hH : Same H H') (hF : Inc F F') (hL : Le F' H') (hn : ∀ a o, F' a = some o → F a = some o ∨ H a = none) : SR W b F' ρ σ X H' := by
  have S0 := S
  obtain ⟨le, f0, fn, kept, stab, pin, fps, xps, s1, s2, ⟨nd, ow⟩, lc⟩ := S
  have there : ∀ a ∈ fps.flatten ++ xps.flatten, ∃ o, H a = some o := fun a ha => by
    rcases List.mem_append.mp ha with z | z
    · exact Slots.there s1 a z
    · exact RelTs.there _ _ _ s2 a z
  have stay : ∀ a ∈ fps.flatten ++ xps.flatten, H' a = H a := fun a ha => by
    obtain ⟨o, e⟩ := there a ha
    rw [e]
    exact hH _ _ e
  refine ⟨hL, f0.trans hF, fun a o e => ?_, fun a o e na => hH _ _ (kept a o e na), fun a o e ha => (stab a o e ha).elim fun u q => ⟨u, hH _ _ q.1, q.2⟩, pin, fps, xps, s1.mono hF (fun a ha => stay a (List.mem_append_left _ ha)), RelTs.mono hF _ _ _ (fun a ha => stay a (List.mem_append_right _ ha)) s2, ⟨nd, fun a ha => ?_⟩, lc⟩
  · rcases hn a o e with z | z
    · exact fn a o z
    · exact .inr (S0.new0 z)
  · cases q : F' a with
    | none => rfl
    | some u =>
      obtain ⟨o, e⟩ := there a ha
      rcases hn a u q with z | z
      · rw [ow a ha] at z; cases z
      · rw [e] at z; cases z
/-- a new thing is laid, for ever -/
theorem SR.laid (S : SR W b F ρ σ X H) {p : Addr} {o : HO} (hp : H p = none) : SR W b (upd F p o) ρ σ X (upd H p o) ∧ Inc F (upd F p o) ∧ Same H (upd H p o) := by
  have hF : F p = none := S.le.none hp
  have i1 : Inc F (upd F p o) := fun a u e => by rw [upd_ne (ne_of_none e hF)]; exact e
  have i2 : Same H (upd H p o) := fun a u e => by rw [upd_ne (ne_of_none e hp)]; exact e
  refine ⟨S.ext i2 i1 (fun a u e => ?_) (fun a u e => ?_), i1, i2⟩
  · by_cases h : a = p
    · subst h
      rw [upd_same] at e ⊢
      exact .inl e
    · rw [upd_ne h] at e ⊢
      exact S.le a u e
  · by_cases h : a = p
    · subst h; exact .inr hp
    · rw [upd_ne h] at e
      exact .inl e
/-- a new thing is laid that may be changed -/
theorem SR.own (S : SR W b F ρ σ X H) {p : Addr} {o : HO} {t : T} (hp : H p = none) (ht : RelT W F (upd H p o) t (.ref p) [p]) : SR W b F ρ σ (⟨none, t, .ref p⟩ :: X) (upd H p o) := by
  have hF : F p = none := S.le.none hp
  have hnew := S.new0 hp
  have i2 : Same H (upd H p o) := fun a u e => by rw [upd_ne (ne_of_none e hp)]; exact e
  obtain ⟨fps0, xps0, t1, t2, _⟩ := S.ow
  have S' := S.ext (F' := F) i2 (Inc.refl F) (S.le.inc i2) (fun a u e => .inl e)
  obtain ⟨le, f0, fn, kept, stab, pin, _⟩ := S'
  obtain ⟨_, _, _, _, _, _, fps0, xps0, t1, t2, ⟨nd0, ow0⟩, lc1, lc2⟩ := S
  have there : ∀ a ∈ fps0.flatten ++ xps0.flatten, a ≠ p := fun a ha e => by
    subst e
    have : ∃ o, H a = some o := by
      rcases List.mem_append.mp ha with z | z
      · exact Slots.there t1 a z
      · exact RelTs.there _ _ _ t2 a z
    obtain ⟨o, q⟩ := this
    rw [q] at hp
    cases hp
  have stay : ∀ a ∈ fps0.flatten ++ xps0.flatten, (upd H p o) a = H a := fun a ha => upd_ne (there a ha)
  refine ⟨le, f0, fn, kept, stab, pin, fps0, [p] :: xps0, t1.mono (Inc.refl F) (fun a ha => stay a (List.mem_append_left _ ha)), ⟨_, _, _, _, rfl, rfl, ht, RelTs.mono (Inc.refl F) _ _ _ (fun a ha => stay a (List.mem_append_right _ ha)) t2⟩, ⟨?_, fun a ha => ?_⟩, lc1, fun a ha => .inl (by rw [List.mem_singleton.mp ha]; exact hnew), lc2⟩
  · rw [List.flatten_cons]
    have n := List.nodup_append.mp nd0
    refine List.nodup_append.mpr ⟨n.1, List.nodup_append.mpr ⟨by simp, n.2.1, fun a ha c hc e => ?_⟩, fun a ha c hc e => ?_⟩
    · have z := List.mem_singleton.mp ha
      rw [← e, z] at hc
      exact there p (List.mem_append_right _ hc) rfl
    · subst e
      rcases List.mem_append.mp hc with z | z
      · have z := List.mem_singleton.mp z
        rw [z] at ha
        exact there p (List.mem_append_left _ ha) rfl
      · exact n.2.2 a ha a z rfl
  · rw [List.flatten_cons] at ha
    rcases List.mem_append.mp ha with z | z
    · exact ow0 a (List.mem_append_left _ z)
    · rcases List.mem_append.mp z with z | z
      · rw [List.mem_singleton.mp z]; exact hF
      · exact ow0 a (List.mem_append_right _ z)
/-- what is held besides is dropped -/
theorem SR.drop {x : Tm} (S : SR W b F ρ σ (x :: X) H) : SR W b F ρ σ X H := by
  obtain ⟨le, f0, fn, kept, stab, pin, fps, xps, s1, s2, ⟨nd, ow⟩, lc1, lc2⟩ := S
  obtain ⟨v, vr, f, fr, e1, e2, r1, r2⟩ := s2
  subst e2
  have e3 : X.map (·.v) = vr := (List.cons.inj e1).2
  subst e3
  have sub : List.Sublist (fps.flatten ++ fr.flatten) (fps.flatten ++ (f :: fr).flatten) := by
    rw [List.flatten_cons]
    exact List.Sublist.append (List.Sublist.refl _) (List.sublist_append_right _ _)
  exact ⟨le, f0, fn, kept, stab, pin, fps, fr, s1, r2, ⟨nd.sublist sub, fun a ha => ow a (sub.subset ha)⟩, lc1, lc2.2⟩
/-- the last thing held, as deep data -/
theorem SR.top {d : D} {v : V} {o : Option Nat} (S : SR W b F ρ σ (⟨o, .f d, v⟩ :: X) H) : Rep W F d v := by
  obtain ⟨fps, xps, s1, s2, _⟩ := S.ow
  obtain ⟨v', vr, f, fr, e1, e2, r1, r2⟩ := s2
  have e3 : v = v' := (List.cons.inj e1).1
  subst e3
  exact r1.2
theorem SR.push {d : D} {v : V} {o : Option Nat} (S : SR W b F ρ σ X H) (r : Rep W F d v) : SR W b F ρ σ (⟨o, .f d, v⟩ :: X) H := by
  obtain ⟨le, f0, fn, kept, stab, pin, fps, xps, s1, s2, ⟨nd, ow⟩, lc1, lc2⟩ := S
  exact ⟨le, f0, fn, kept, stab, pin, fps, [] :: xps, s1, ⟨_, _, _, _, rfl, rfl, ⟨rfl, r⟩, s2⟩, ⟨by rw [List.flatten_cons]; exact nd, fun a ha => ow a (by rw [List.flatten_cons] at ha; exact ha)⟩, lc1, ⟨fun a ha => (by cases ha), lc2⟩⟩
/-- the last thing held is stored in a slot -/
theorem SR.store {t : T} {v : V} {i : Nat} {o : Option Nat} (S : SR W b F ρ σ (⟨o, t, v⟩ :: X) H) (ho : o = none ∨ o = some i) (hio : (∀ p ∈ b.io, p.1 ≠ i) ∨ σ[i]? = some (some v)) : SR W b F (ρ.set i t) (σ.set i (some v)) X H := by
  by_cases hi : i < ρ.length
  · obtain ⟨le, f0, fn, kept, stab, pin, fps, xps, s1, s2, ⟨nd, ow⟩, lc1, lc2⟩ := S
    obtain ⟨v', vr, f, fr, e1, e2, r1, r2⟩ := s2
    subst e2
    have e3 : v = v' := (List.cons.inj e1).1
    have e4 : X.map (·.v) = vr := (List.cons.inj e1).2
    subst e3 e4
    have hl := s1.len
    obtain ⟨g, hg⟩ : ∃ g, fps[i]? = some g := ⟨fps[i]'(by omega), List.getElem?_eq_getElem _⟩
    rw [List.flatten_cons] at nd ow
    have n := List.nodup_append.mp nd
    have n2 := List.nodup_append.mp n.2.1
    refine ⟨le, f0, fn, kept, stab, fun p hp => ?_, fps.set i f, fr, Slots.set (s' := some v) r1 i s1, r2, ⟨?_, fun a ha => ?_⟩, fun j g hj a ha => ?_, lc2.2⟩
    · by_cases e : p.1 = i
      · rcases hio with z | z
        · exact absurd e (z p hp)
        · have := pin p hp
          rw [e, z] at this
          rw [e, List.getElem?_set_self (by omega)]
          exact this
      · rw [List.getElem?_set_ne (fun q => e q.symm)]
        exact pin p hp
    · refine List.nodup_append.mpr ⟨nodup_set n.1 hg n2.1 (fun a ha => .inr fun m => n.2.2 a m a (List.mem_append_left _ ha) rfl), n2.2.1, fun a ha c hc e => ?_⟩
      subst e
      rcases mem_set_flat ha with z | z
      · exact n.2.2 a z a (List.mem_append_right _ hc) rfl
      · exact n2.2.2 a z a hc rfl
    · rcases List.mem_append.mp ha with z | z
      · rcases mem_set_flat z with z | z
        · exact ow a (List.mem_append_left _ z)
        · exact ow a (List.mem_append_right _ (List.mem_append_left _ z))
      · exact ow a (List.mem_append_right _ (List.mem_append_right _ z))
    · by_cases hij : j = i
      · subst hij
        rw [List.getElem?_set_self (by omega)] at hj
        cases hj
        rcases lc2.1 a ha with z | ⟨j', e, z⟩
        · exact .inl z
        · rcases ho with ho | ho
          · rw [ho] at e; cases e
          · rw [ho] at e; cases e; exact z
      · rw [List.getElem?_set_ne (fun e => hij e.symm)] at hj
        exact lc1 j g hj a ha
  · have S' := S.drop
    rw [List.set_eq_of_length_le (by omega), List.set_eq_of_length_le (by have := S.len; omega)]
    exact S'
/-- a slot's thing is taken out -/
theorem SR.take {t : T} {v : V} {i : Nat} (S : SR W b F ρ σ X H) (hi : ρ[i]? = some t) (hv : σ[i]? = some (some v)) : SR W b F (ρ.set i .un) σ (⟨some i, t, v⟩ :: X) H := by
  obtain ⟨le, f0, fn, kept, stab, pin, fps, xps, s1, s2, ⟨nd, ow⟩, lc1, lc2⟩ := S
  obtain ⟨s, f, e1, e2, r⟩ := s1.get hi
  rw [hv] at e1
  cases e1
  have hl := s1.len
  have hlt : i < fps.length := (List.getElem?_eq_some_iff.mp e2).1
  have s1' : Slots W F H (ρ.set i .un) (σ.set i (some v)) (fps.set i []) := Slots.set (s' := some v) (u := .un) (f' := []) rfl i s1
  have eσ : σ.set i (some v) = σ := by
    apply List.ext_getElem?
    intro j
    by_cases h : j = i
    · subst h
      rw [List.getElem?_set_self (by omega), hv]
    · rw [List.getElem?_set_ne (fun e => h e.symm)]
  rw [eσ] at s1'
  have n := List.nodup_append.mp nd
  have hf : ∀ a ∈ f, a ∈ fps.flatten := fun a ha => List.mem_flatten.mpr ⟨f, List.mem_of_getElem? e2, ha⟩
  have nset : (fps.set i []).flatten.Nodup := nodup_set n.1 e2 List.nodup_nil (fun a ha => nomatch ha)
  have mset : ∀ a ∈ (fps.set i []).flatten, a ∈ fps.flatten := fun a ha => (mem_set_flat ha).elim id fun z => nomatch z
  have nf : f.Nodup := (List.sublist_flatten_of_mem (List.mem_of_getElem? e2)).nodup n.1
  have dj : ∀ a ∈ (fps.set i []).flatten, a ∉ f := by
    have key : ∀ {l : List (List Addr)} {i : Nat} {f : List Addr}, l.flatten.Nodup → l[i]? = some f → ∀ a ∈ (l.set i []).flatten, a ∉ f := by
      intro l
      induction l with
      | nil => intro i f _ e; simp at e
      | cons x l ih =>
        intro i f nd e a ha hf
        rw [List.flatten_cons] at nd
        have n := List.nodup_append.mp nd
        cases i with
        | zero =>
          simp at e
          subst e
          rw [List.set_cons_zero, List.flatten_cons, List.nil_append] at ha
          exact n.2.2 a hf a ha rfl
        | succ i =>
          rw [List.set_cons_succ, List.flatten_cons] at ha
          have e' : l[i]? = some f := by simpa using e
          rcases List.mem_append.mp ha with z | z
          · exact n.2.2 a z a (List.mem_flatten.mpr ⟨f, List.mem_of_getElem? e', hf⟩) rfl
          · exact ih n.2.1 e' a z hf
    exact key n.1 e2
  refine ⟨le, f0, fn, kept, stab, pin, fps.set i [], f :: xps, s1', ⟨_, _, _, _, rfl, rfl, r, s2⟩, ⟨?_, fun a ha => ?_⟩, fun j g hj a ha => ?_, fun a ha => .inr ⟨i, rfl, lc1 i f e2 a ha⟩, lc2⟩
  · rw [List.flatten_cons]
    refine List.nodup_append.mpr ⟨nset, List.nodup_append.mpr ⟨nf, n.2.1, fun a ha c hc e => ?_⟩, fun a ha c hc e => ?_⟩
    · exact n.2.2 a (hf a ha) c hc e
    · subst e
      rcases List.mem_append.mp hc with z | z
      · exact dj a ha z
      · exact n.2.2 a (mset a ha) a z rfl
  · rw [List.flatten_cons] at ha
    rcases List.mem_append.mp ha with z | z
    · exact ow a (List.mem_append_left _ (mset a z))
    · rcases List.mem_append.mp z with z | z
      · exact ow a (List.mem_append_left _ (hf a z))
      · exact ow a (List.mem_append_right _ z)
  · by_cases hij : j = i
    · subst hij
      rw [List.getElem?_set_self hlt] at hj
      cases hj
      cases ha
    · rw [List.getElem?_set_ne (fun e => hij e.symm)] at hj
      exact lc1 j g hj a ha
/-- .. and put back -/
theorem SR.back {t : T} {v : V} {i : Nat} (S : SR W b F ρ σ (⟨some i, t, v⟩ :: X) H) (hv : σ[i]? = some (some v)) : SR W b F (ρ.set i t) σ X H := by
  have S' := S.store (.inr rfl) (.inr hv)
  have eσ : σ.set i (some v) = σ := by
    apply List.ext_getElem?
    intro j
    by_cases h : j = i
    · subst h
      have hlt : j < σ.length := (List.getElem?_eq_some_iff.mp hv).1
      rw [List.getElem?_set_self hlt, hv]
    · rw [List.getElem?_set_ne (fun e => h e.symm)]
  rw [eσ] at S'
  exact S'
end
end Z

namespace Z
open PySem L2

/-! ### what is seen of a thing -/
def RelV (W : Wd) (F H : Hp) (t : T) (v : V) : Prop := ∃ fp, RelT W F H t v fp
theorem RelV.f {W : Wd} {F H : Hp} {d : D} {v : V} (r : Rep W F d v) : RelV W F H (.f d) v := ⟨[], rfl, r⟩
theorem RelV.rep {W : Wd} {F H : Hp} {d : D} {v : V} (r : RelV W F H (.f d) v) : Rep W F d v := r.elim fun _ q => q.2
theorem RelV.ext {W : Wd} {F F' H H' : Hp} {t : T} {v : V} (r : RelV W F H t v) (hF : Inc F F') (hH : Same H H') : RelV W F' H' t v := by
  obtain ⟨fp, r⟩ := r
  refine ⟨fp, RelT.mono hF t v fp (fun a ha => ?_) r⟩
  obtain ⟨o, e⟩ := RelT.there t v fp r a ha
  rw [e]
  exact hH _ _ e

def T.i? : T → Option Int | .f (.int i) => some i | _ => none
def T.s? : T → Option Str | .f (.str x) => some x | _ => none
def T.b? : T → Option Bool | .f (.bl b) => some b | _ => none
def T.d? : T → Option D | .f d => some d | _ => none
def T.ls? : T → Option (List D) | .f (.lst xs) => some xs | .l xs => some xs | _ => none
def T.ts? : T → Option (List D) | .f (.tup xs) => some xs | _ => none
def T.sq? : T → Option (List D) | .f (.lst xs) => some xs | .l xs => some xs | .f (.tup xs) => some xs | _ => none
def T.dk? : T → Option (List Key × List D) | .f (.dct ks ds) => some (ks, ds) | .dk ks ds => some (ks, ds) | _ => none
/-- int keys, text keys -/
def T.key? : T → Option Key | .f (.int i) => some (.inl i) | .f (.str x) => some (.inr x) | _ => none

section
variable {W : Wd} {F H : Hp} {t : T} {v : V}
theorem RelV.int {i : Int} (r : RelV W F H t v) (h : t.i? = some i) : v = .int i := by
  cases t with
  | f d => cases d with
    | int j => cases h; exact r.rep
    | _ => cases h
  | _ => cases h
theorem RelV.str {x : Str} (r : RelV W F H t v) (h : t.s? = some x) : v = .str x := by
  cases t with
  | f d => cases d with
    | str j => cases h; exact r.rep
    | _ => cases h
  | _ => cases h
theorem RelV.bl {x : Bool} (r : RelV W F H t v) (h : t.b? = some x) : v = .bl x := by
  cases t with
  | f d => cases d with
    | bl j => cases h; exact r.rep
    | _ => cases h
  | _ => cases h
theorem RelV.key {k : Key} (r : RelV W F H t v) (h : t.key? = some k) : v = kV k := by
  cases t with
  | f d => cases d with
    | int j => cases h; exact r.rep
    | str j => cases h; exact r.rep
    | _ => cases h
  | _ => cases h
theorem RelV.ls {ds : List D} (r : RelV W F H t v) (h : t.ls? = some ds) (le : Le F H) : ∃ p vs, v = .ref p ∧ SqL W.K H p vs ∧ Reps W F ds vs := by
  cases t with
  | f d => cases d with
    | lst l =>
      cases h
      obtain ⟨p, vs, e, s, q⟩ := r.rep
      exact ⟨p, vs, e, SqL.le le s, q⟩
    | _ => cases h
  | l l =>
    cases h
    obtain ⟨fp, p, vs, e, _, s, q⟩ := r
    exact ⟨p, vs, e, .inl (.inl s), q⟩
  | _ => cases h
theorem RelV.ts {ds : List D} (r : RelV W F H t v) (h : t.ts? = some ds) (le : Le F H) : ∃ p vs, v = .ref p ∧ SqT W.K H p vs ∧ Reps W F ds vs := by
  cases t with
  | f d => cases d with
    | tup l =>
      cases h
      obtain ⟨p, vs, e, s, q⟩ := r.rep
      exact ⟨p, vs, e, SqT.le le s, q⟩
    | _ => cases h
  | _ => cases h
theorem RelV.sq {ds : List D} (r : RelV W F H t v) (h : t.sq? = some ds) (le : Le F H) : ∃ p vs, v = .ref p ∧ (SqL W.K H p vs ∨ SqT W.K H p vs) ∧ Reps W F ds vs := by
  cases t with
  | f d => cases d with
    | tup l =>
      cases h
      obtain ⟨p, vs, e, s, q⟩ := r.rep
      exact ⟨p, vs, e, .inr (SqT.le le s), q⟩
    | lst l =>
      cases h
      obtain ⟨p, vs, e, s, q⟩ := r.rep
      exact ⟨p, vs, e, .inl (SqL.le le s), q⟩
    | _ => cases h
  | l l =>
    cases h
    obtain ⟨fp, p, vs, e, _, s, q⟩ := r
    exact ⟨p, vs, e, .inl (.inl (.inl s)), q⟩
  | _ => cases h
theorem RelV.dk {ks : List Key} {ds : List D} (r : RelV W F H t v) (h : t.dk? = some (ks, ds)) (le : Le F H) : ∃ p kvs, v = .ref p ∧ Rd H p (.dK kvs) ∧ kvs.map (·.1) = ks ∧ Reps W F ds (kvs.map (·.2)) := by
  cases t with
  | f d => cases d with
    | dct a b =>
      cases h
      obtain ⟨p, kvs, e, s, k, q⟩ := r.rep
      exact ⟨p, kvs, e, Rd.le le s, k, q⟩
    | _ => cases h
  | dk a b =>
    cases h
    obtain ⟨fp, p, kvs, e, _, s, k, q⟩ := r
    exact ⟨p, kvs, e, .inl s, k, q⟩
  | _ => cases h
end

theorem Reps.len {W : Wd} {F : Hp} : ∀ {ds : List D} {vs : List V}, Reps W F ds vs → ds.length = vs.length
  | [], _, r => by
    have r' : _ = [] := r
    rw [r']
    rfl
  | d :: ds, _, r => by
    obtain ⟨v, vr, e, a, b⟩ := r
    rw [e, List.length_cons, List.length_cons, Reps.len b]
theorem Reps.get {W : Wd} {F : Hp} : ∀ {ds : List D} {vs : List V} {i : Nat} {d : D}, Reps W F ds vs → ds[i]? = some d → ∃ v, vs[i]? = some v ∧ Rep W F d v
  | [], _, _, _, _, e => by simp at e
  | d :: ds, _, 0, _, r, e => by
    obtain ⟨v, vr, e1, a, b⟩ := r
    simp at e
    subst e e1
    exact ⟨v, rfl, a⟩
  | d :: ds, _, i + 1, _, r, e => by
    obtain ⟨v, vr, e1, a, b⟩ := r
    subst e1
    obtain ⟨u, h1, h2⟩ := Reps.get b (by simpa using e)
    exact ⟨u, by simpa using h1, h2⟩
theorem Reps.append {W : Wd} {F : Hp} : ∀ {ds es : List D} {vs us : List V}, Reps W F ds vs → Reps W F es us → Reps W F (ds ++ es) (vs ++ us)
  | [], _, _, _, r, q => by
    have r' : _ = [] := r
    subst r'
    exact q
  | d :: ds, _, _, _, r, q => by
    obtain ⟨v, vr, e, a, b⟩ := r
    subst e
    exact ⟨v, _, rfl, a, Reps.append b q⟩
theorem Reps.take {W : Wd} {F : Hp} : ∀ {ds : List D} {vs : List V} (n : Nat), Reps W F ds vs → Reps W F (ds.take n) (vs.take n)
  | _, _, 0, _ => rfl
  | [], _, n + 1, r => by
    have r' : _ = [] := r
    subst r'
    exact rfl
  | d :: ds, _, n + 1, r => by
    obtain ⟨v, vr, e, a, b⟩ := r
    subst e
    exact ⟨v, _, rfl, a, Reps.take n b⟩
theorem Reps.drop {W : Wd} {F : Hp} : ∀ {ds : List D} {vs : List V} (n : Nat), Reps W F ds vs → Reps W F (ds.drop n) (vs.drop n)
  | _, _, 0, r => r
  | [], _, n + 1, r => by
    have r' : _ = [] := r
    subst r'
    exact rfl
  | d :: ds, _, n + 1, r => by
    obtain ⟨v, vr, e, a, b⟩ := r
    subst e
    exact Reps.drop n b
theorem Reps.set {W : Wd} {F : Hp} {d' : D} {v' : V} (h : Rep W F d' v') : ∀ {ds : List D} {vs : List V} (n : Nat), Reps W F ds vs → Reps W F (ds.set n d') (vs.set n v')
  | [], _, n, r => by
    have r' : _ = [] := r
    subst r'
    exact rfl
  | d :: ds, _, 0, r => by
    obtain ⟨v, vr, e, a, b⟩ := r
    subst e
    exact ⟨v', _, rfl, h, b⟩
  | d :: ds, _, n + 1, r => by
    obtain ⟨v, vr, e, a, b⟩ := r
    subst e
    exact ⟨v, _, rfl, a, Reps.set h n b⟩
theorem Reps.ints {W : Wd} {F : Hp} : ∀ {ns : List Int} {vs : List V}, Reps W F (ns.map D.int) vs → vs = ns.map V.int
  | [], _, r => r
  | n :: ns, _, r => by
    obtain ⟨v, vr, e, a, b⟩ := r
    have a' : v = .int n := a
    rw [e, a', Reps.ints b]
    rfl
theorem Reps.strs {W : Wd} {F : Hp} : ∀ {ns : List Str} {vs : List V}, Reps W F (ns.map D.str) vs → vs = ns.map V.str
  | [], _, r => r
  | n :: ns, _, r => by
    obtain ⟨v, vr, e, a, b⟩ := r
    have a' : v = .str n := a
    rw [e, a', Reps.strs b]
    rfl
theorem Reps.bls {W : Wd} {F : Hp} : ∀ {ns : List Bool} {vs : List V}, Reps W F (ns.map D.bl) vs → vs = ns.map V.bl
  | [], _, r => r
  | n :: ns, _, r => by
    obtain ⟨v, vr, e, a, b⟩ := r
    have a' : v = .bl n := a
    rw [e, a', Reps.bls b]
    rfl
theorem Reps.of_ints {W : Wd} {F : Hp} : ∀ (ns : List Int), Reps W F (ns.map D.int) (ns.map V.int)
  | [] => rfl
  | n :: ns => ⟨_, _, rfl, rfl, Reps.of_ints ns⟩
theorem Reps.of_strs {W : Wd} {F : Hp} : ∀ (ns : List Str), Reps W F (ns.map D.str) (ns.map V.str)
  | [] => rfl
  | n :: ns => ⟨_, _, rfl, rfl, Reps.of_strs ns⟩

/-! ### judgements -/
/-- what is wanted of a pure thing's value -/
def Kp (W : Wd) (b : Bs) (F : Hp) (ρ : List T) (σ : St) (X : List Tm) (H : Hp) (t : T) (Q : VK) : Prop :=
  ∀ v F' H', SR W b F' ρ σ X H' → Inc F F' → Same H H' → RelV W F' H' t v → Q v H'
def Sv (W : Wd) (t : TE) (f : List T → Option T) : Prop :=
  ∀ b F ρ σ X H τ Q, SR W b F ρ σ X H → f ρ = some τ → Kp W b F ρ σ X H τ Q → t σ H Q
def Stv (W : Wd) (t : TT) (f : List T → Option Bool) : Prop :=
  ∀ b F ρ σ X H c Q, SR W b F ρ σ X H → f ρ = some c → (∀ F' H', SR W b F' ρ σ X H' → Inc F F' → Same H H' → Q c H') → t σ H Q
/-- arguments -/
def RelVs (W : Wd) (F H : Hp) (ts : List T) (vs : List V) : Prop := ∃ fps, RelTs W F H ts vs fps
def Sav (W : Wd) (t : TA) (f : List T → Option (List T)) : Prop :=
  ∀ b F ρ σ X H τs Q, SR W b F ρ σ X H → f ρ = some τs → (∀ vs F' H', SR W b F' ρ σ X H' → Inc F F' → Same H H' → RelVs W F' H' τs vs → Q vs H') → t σ H Q

theorem RelVs.ext {W : Wd} {F F' H H' : Hp} {ts : List T} {vs : List V} (r : RelVs W F H ts vs) (hF : Inc F F') (hH : Same H H') : RelVs W F' H' ts vs := by
  obtain ⟨fp, r⟩ := r
  refine ⟨fp, RelTs.mono hF ts vs fp (fun a ha => ?_) r⟩
  obtain ⟨o, e⟩ := RelTs.there ts vs fp r a ha
  rw [e]
  exact hH _ _ e
theorem RelVs.nil {W : Wd} {F H : Hp} : RelVs W F H [] [] := ⟨[], rfl, rfl⟩
theorem RelVs.cons {W : Wd} {F H : Hp} {t : T} {v : V} {ts : List T} {vs : List V} (a : RelV W F H t v) (b : RelVs W F H ts vs) : RelVs W F H (t :: ts) (v :: vs) := by
  obtain ⟨f, a⟩ := a
  obtain ⟨fs, b⟩ := b
  exact ⟨f :: fs, _, _, _, _, rfl, rfl, a, b⟩
theorem RelVs.inv {W : Wd} {F H : Hp} {t : T} {ts : List T} {vs : List V} (r : RelVs W F H (t :: ts) vs) : ∃ v vr, vs = v :: vr ∧ RelV W F H t v ∧ RelVs W F H ts vr := by
  obtain ⟨fs, v, vr, f, fr, e1, e2, a, b⟩ := r
  exact ⟨v, vr, e1, ⟨f, a⟩, ⟨fr, b⟩⟩
theorem RelVs.inv0 {W : Wd} {F H : Hp} {vs : List V} (r : RelVs W F H [] vs) : vs = [] := r.elim fun _ q => q.1

section
variable {W : Wd} {b : Bs} {F : Hp} {ρ : List T} {σ : St} {X : List Tm} {H : Hp} {Q : VK}
/-- the value is there -/
theorem Kp.here {t : T} {v : V} (k : Kp W b F ρ σ X H t Q) (S : SR W b F ρ σ X H) (r : RelV W F H t v) : Q v H := k v F H S (Inc.refl F) (Same.refl H) r
theorem Kp.d {d : D} {v : V} (k : Kp W b F ρ σ X H (.f d) Q) (S : SR W b F ρ σ X H) (r : Rep W F d v) : Q v H := k.here S (.f r)
/-- the value is new -/
theorem Kp.new {d : D} {o : HO} (k : Kp W b F ρ σ X H (.f d) Q) (S : SR W b F ρ σ X H) (r : ∀ p, H p = none → Inc F (upd F p o) → Rep W (upd F p o) d (.ref p)) : ∀ p, H p = none → Q (.ref p) (upd H p o) := fun p hp => by
  obtain ⟨S', i, s⟩ := S.laid (o := o) hp
  exact k _ _ _ S' i s (.f (r p hp i))
theorem Kp.lst {ds : List D} {vs : List V} (k : Kp W b F ρ σ X H (.f (.lst ds)) Q) (S : SR W b F ρ σ X H) (r : Reps W F ds vs) : ∀ p, H p = none → Q (.ref p) (upd H p (.lst vs)) :=
  k.new S fun p hp i => ⟨p, vs, rfl, .inl (.inl upd_same), r.inc i⟩
theorem Kp.tup {ds : List D} {vs : List V} (k : Kp W b F ρ σ X H (.f (.tup ds)) Q) (S : SR W b F ρ σ X H) (r : Reps W F ds vs) : ∀ p, H p = none → Q (.ref p) (upd H p (.tup vs)) :=
  k.new S fun p hp i => ⟨p, vs, rfl, .inl (.inl upd_same), r.inc i⟩
theorem Kp.mono {F1 H1 : Hp} {t : T} (k : Kp W b F ρ σ X H t Q) (i : Inc F F1) (s : Same H H1) : Kp W b F1 ρ σ X H1 t Q := fun v F' H' S' i' s' r => k v F' H' S' (i.trans i') (s.trans s') r
end

/-- rules by values -/
def S2 (W : Wd) (r : R2) (g : T → T → Option T) : Prop :=
  ∀ b F ρ σ X H t1 t2 τ x y Q, SR W b F ρ σ X H → RelV W F H t1 x → RelV W F H t2 y → g t1 t2 = some τ → Kp W b F ρ σ X H τ Q → r x y H Q
def S1 (W : Wd) (r : V → Hp → VK → Prop) (g : T → Option T) : Prop :=
  ∀ b F ρ σ X H t1 τ x Q, SR W b F ρ σ X H → RelV W F H t1 x → g t1 = some τ → Kp W b F ρ σ X H τ Q → r x H Q
def Sn (W : Wd) (r : List V → Hp → VK → Prop) (g : List T → Option T) : Prop :=
  ∀ b F ρ σ X H ts τ xs Q, SR W b F ρ σ X H → RelVs W F H ts xs → g ts = some τ → Kp W b F ρ σ X H τ Q → r xs H Q
def or2 (g h : T → T → Option T) : T → T → Option T := fun a b => (g a b).orElse fun _ => h a b
def orn (g h : List T → Option T) : List T → Option T := fun a => (g a).orElse fun _ => h a
theorem S2.or {W : Wd} {r r' : R2} {g h : T → T → Option T} (a : S2 W r g) (b : S2 W r' h) : S2 W (fun x y H Q => r x y H Q ∨ r' x y H Q) (or2 g h) := by
  intro bs F ρ σ X H t1 t2 τ x y Q S r1 r2 e k
  unfold or2 at e
  cases q : g t1 t2 with
  | some z =>
    rw [q] at e
    exact .inl (a bs F ρ σ X H t1 t2 τ x y Q S r1 r2 (q.trans e) k)
  | none =>
    rw [q] at e
    exact .inr (b bs F ρ σ X H t1 t2 τ x y Q S r1 r2 e k)
theorem Sn.or {W : Wd} {r r' : List V → Hp → VK → Prop} {g h : List T → Option T} (a : Sn W r g) (b : Sn W r' h) : Sn W (fun x H Q => r x H Q ∨ r' x H Q) (orn g h) := by
  intro bs F ρ σ X H t1 τ x Q S r1 e k
  unfold orn at e
  cases q : g t1 with
  | some z =>
    rw [q] at e
    exact .inl (a bs F ρ σ X H t1 τ x Q S r1 (q.trans e) k)
  | none =>
    rw [q] at e
    exact .inr (b bs F ρ σ X H t1 τ x Q S r1 e k)
theorem OpR_or {X : Cx} {f : Value → Value → Sem Value} {r r' : R2} (h : OpR X f r) (h' : OpR X f r') : OpR X f (fun x y H Q => r x y H Q ∨ r' x y H Q) := by
  intro pins s σ H x y v u Q I rx ry q
  rcases q with q | q
  · exact h pins s σ H x y v u Q I rx ry q
  · exact h' pins s σ H x y v u Q I rx ry q
theorem CallR_or {X : Cx} {f : Value} {r r' : List V → Hp → VK → Prop} (h : CallR X f r) (h' : CallR X f r') : CallR X f (fun x H Q => r x H Q ∨ r' x H Q) := by
  intro pins s σ H x v Q I rx q
  rcases q with q | q
  · exact h pins s σ H x v Q I rx q
  · exact h' pins s σ H x v Q I rx q

/-! ### the whole: a thing of syntax, in a family of contexts -/
/-- how many parameters, which are handed back -/
structure Sg where
  m : Nat
  io : List Nat
structure Ctx where
  J : Type
  X : J → Cx
  W : Wd
  P : Sg
  E : St → XK
  N : List Str
  k : Nat
  hK : ∀ j, (X j).K = W.K
  hN : ∀ j, (X j).N = N
  nd : N.Nodup
  calm : ∀ j, (X j).calm = true
  room : ∀ j, Room k (X j).A
theorem Ctx.hu (c : Ctx) (j : c.J) : (c.X j).A.units + 64 < cLine := by have := (c.room j).un; omega
theorem Ctx.hu1 (c : Ctx) (j : c.J) : (c.X j).A.units + 1 < cLine := by have := (c.room j).un; omega
theorem Ctx.hNd (c : Ctx) (j : c.J) : (c.X j).N.Nodup := by rw [c.hN j]; exact c.nd

def Ev (c : Ctx) (e : Expr) (f : List T → Option T) : Prop := ∃ t, (∀ j, PE (c.X j) e t) ∧ Sv c.W t f
def Tv (c : Ctx) (e : Expr) (f : List T → Option Bool) : Prop := ∃ t, (∀ j, PT (c.X j) e t) ∧ Stv c.W t f
def Av (c : Ctx) (es : List Expr) (f : List T → Option (List T)) : Prop := ∃ t, (∀ j, PA (c.X j) es t) ∧ Sav c.W t f

/-! ### pure expressions -/
def fVar (i : Nat) : List T → Option T := fun ρ => match ρ[i]? with
  | some .un => none
  | r => r
def fC (d : D) : List T → Option T := fun _ => some (.f d)
def f1 (g : T → Option T) (a : List T → Option T) : List T → Option T := fun ρ => (a ρ).bind g
def f2 (g : T → T → Option T) (a b : List T → Option T) : List T → Option T := fun ρ => (a ρ).bind fun x => (b ρ).bind fun y => g x y
def fN (g : List T → Option T) (a : List T → Option (List T)) : List T → Option T := fun ρ => (a ρ).bind g

section
variable {c : Ctx} {a e' : Expr} {fa fb fc : List T → Option T} {pos : Pos}
theorem sv_var {W : Wd} {i : Nat} : Sv W (tVar i) (fVar i) := by
  intro b F ρ σ X H τ Q S e k
  unfold fVar at e
  cases q : ρ[i]? with
  | none => rw [q] at e; cases e
  | some t =>
    have ht : t ≠ .un := by
      rintro rfl
      rw [q] at e
      cases e
    have e2 : t = τ := by
      rw [q] at e
      cases t with
      | un => exact absurd rfl ht
      | _ => exact Option.some.inj e
    subst e2
    obtain ⟨s, fp, e1, r⟩ := S.slot q
    cases s with
    | none => exact absurd r.1 ht
    | some v => exact ⟨v, e1, k.here S ⟨fp, r⟩⟩
theorem ev_var {i : Nat} {x : Str} (hi : c.N[i]? = some x) (hv : ∀ j, Vis (c.X j).env.scope x) (hd : (x == ("__debug__" : Str)) = false := by decide) (hcd : (x == ("__classdict__" : Str)) = false := by decide) : Ev c (.Name x pos) (fVar i) :=
  ⟨_, fun j => pe_var (i := i) (by rw [c.hN j]; exact hi) (hv j) hd hcd, sv_var⟩
theorem sv_C {W : Wd} {d : D} {v : V} (h : ∀ F, Rep W F d v) : Sv W (tC v) (fC d) := by
  intro b F ρ σ X H τ Q S e k
  cases e
  exact k.d S (h F)
theorem ev_int {i : Int} {m : Nat} : Ev c (.Constant (.int i) m pos) (fC (.int i)) := ⟨_, fun _ => pe_int, sv_C fun _ => rfl⟩
theorem ev_str {x : Str} {m : Nat} : Ev c (.Constant (.str x) m pos) (fC (.str x)) := ⟨_, fun _ => pe_str, sv_C fun _ => rfl⟩
theorem ev_bl {x : Bool} {m : Nat} : Ev c (.Constant (.bool x) m pos) (fC (.bl x)) := ⟨_, fun _ => pe_bl, sv_C fun _ => rfl⟩
theorem ev_non {m : Nat} : Ev c (.Constant .none m pos) (fC .non) := ⟨_, fun _ => pe_non, sv_C fun _ => rfl⟩
/-- a constant of the module's top -/
theorem ev_glob {x : Str} {d : D} {v : V} {u : Value} (hg : ∀ j, Gl (c.X j) x) (hm : ∀ j, (c.X j).mg x = some u) (r : L2.RelV v u) (h : ∀ F, Rep c.W F d v) (hd : (x == ("__debug__" : Str)) = false := by decide) : Ev c (.Name x pos) (fC d) :=
  ⟨_, fun j => pe_glob (hg j) (hm j) r hd, sv_C h⟩

theorem sv_2 {W : Wd} {ta tb : TE} {r : R2} {g : T → T → Option T} (ha : Sv W ta fa) (hb : Sv W tb fb) (hr : S2 W r g) : Sv W (tOp r ta tb) (f2 g fa fb) := by
  intro b F ρ σ X H τ Q S e k
  unfold f2 at e
  obtain ⟨t1, e1, e⟩ := Option.bind_eq_some_iff.mp e
  obtain ⟨t2, e2, e⟩ := Option.bind_eq_some_iff.mp e
  refine ha b F ρ σ X H t1 _ S e1 fun x F1 H1 S1 i1 s1 r1 => ?_
  refine hb b F1 ρ σ X H1 t2 _ S1 e2 fun y F2 H2 S2 i2 s2 r2 => ?_
  exact hr b F2 ρ σ X H2 t1 t2 τ x y Q S2 (r1.ext i2 s2) r2 e (k.mono (i1.trans i2) (s1.trans s2))
theorem sv_1 {W : Wd} {ta : TE} {r : V → Hp → VK → Prop} {g : T → Option T} (ha : Sv W ta fa) (hr : S1 W r g) : Sv W (tUn r ta) (f1 g fa) := by
  intro b F ρ σ X H τ Q S e k
  unfold f1 at e
  obtain ⟨t1, e1, e⟩ := Option.bind_eq_some_iff.mp e
  refine ha b F ρ σ X H t1 _ S e1 fun x F1 H1 S1 i1 s1 r1 => ?_
  exact hr b F1 ρ σ X H1 t1 τ x Q S1 r1 e (k.mono i1 s1)
theorem ev_op {op : Operator} {r : R2} {g : T → T → Option T} (ho : ∀ j, OpR (c.X j) (binaryOp op) r) (hr : S2 c.W r g) (ha : Ev c a fa) (hb : Ev c e' fb) : Ev c (.BinOp a op e' pos) (f2 g fa fb) := by
  obtain ⟨ta, pa, sa⟩ := ha
  obtain ⟨tb, pb, sb⟩ := hb
  exact ⟨_, fun j => pe_op (ho j) (pa j) (pb j), sv_2 sa sb hr⟩
theorem ev_cmp {op : CmpOp} {r : R2} {g : T → T → Option T} (ho : ∀ j, OpR (c.X j) (compareOp op) r) (hr : S2 c.W r g) (ha : Ev c a fa) (hb : Ev c e' fb) (hm : behindInMarks op e' = false) : Ev c (.Compare a [op] [e'] pos) (f2 g fa fb) := by
  obtain ⟨ta, pa, sa⟩ := ha
  obtain ⟨tb, pb, sb⟩ := hb
  exact ⟨_, fun j => pe_cmpR (ho j) (pa j) (pb j) hm, sv_2 sa sb hr⟩
/-- a value that is True or False, as a test -/
def fT (fa : List T → Option T) : List T → Option Bool := fun ρ => (fa ρ).bind T.b?
theorem stv_test {W : Wd} {t : TE} (h : Sv W t fa) : Stv W (tTest t) (fT fa) := by
  intro b F ρ σ X H cc Q S e k
  unfold fT at e
  obtain ⟨t1, e1, e⟩ := Option.bind_eq_some_iff.mp e
  refine h b F ρ σ X H t1 _ S e1 fun x F1 H1 S1 i1 s1 r1 => ?_
  exact ⟨cc, r1.bl e, k F1 H1 S1 i1 s1⟩
theorem tv_cmp {op : CmpOp} {r : R2} {g : T → T → Option T} (ho : ∀ j, OpR (c.X j) (compareOp op) r) (hr : S2 c.W r g) (ha : Ev c a fa) (hb : Ev c e' fb) (hm : behindInMarks op e' = false) : Tv c (.Compare a [op] [e'] pos) (fT (f2 g fa fb)) := by
  obtain ⟨ta, pa, sa⟩ := ha
  obtain ⟨tb, pb, sb⟩ := hb
  exact ⟨_, fun j => pt_cmpR (ho j) (pa j) (pb j) hm, stv_test (sv_2 sa sb hr)⟩
theorem tv_val (ha : Ev c a fa) (he : ∀ j whole, isTrue a (c.X j).env whole = (do let v ← whole; standAt a.pos; holding [v] (truthy v))) : Tv c a (fT fa) := by
  obtain ⟨ta, pa, sa⟩ := ha
  exact ⟨_, fun j => pt_val (pa j) (he j), stv_test sa⟩
theorem ev_un {op : UnaryOp} {r : V → Hp → VK → Prop} {g : T → Option T} (ho : ∀ j, UnR (c.X j) (unaryOp op) r) (hr : S1 c.W r g) (ha : Ev c a fa) : Ev c (.UnaryOp op a pos) (f1 g fa) := by
  obtain ⟨ta, pa, sa⟩ := ha
  exact ⟨_, fun j => pe_un (ho j) (pa j), sv_1 sa hr⟩
end

/-! ### and, or, not, if-else -/
section
variable {c : Ctx} {a b e' : Expr} {fa fb : List T → Option T} {ga gb gc : List T → Option Bool} {pos : Pos} {rest : List Expr}
def tAndF (ga gb : List T → Option Bool) : List T → Option Bool := fun ρ => (ga ρ).bind fun x => if x = true then gb ρ else some false
def tOrF (ga gb : List T → Option Bool) : List T → Option Bool := fun ρ => (ga ρ).bind fun x => if x = true then some true else gb ρ
def tNotF (ga : List T → Option Bool) : List T → Option Bool := fun ρ => (ga ρ).map (!·)
def Wv (c : Ctx) (e : Expr) (f : List T → Option Bool) : Prop := ∃ t, (∀ j, PW (c.X j) e t) ∧ Stv c.W t f
theorem Wv.tv (h : Wv c a ga) : Tv c a ga := by
  obtain ⟨t, p, s⟩ := h
  exact ⟨t, fun j => (p j).pt, s⟩
theorem wv_and1 (ha : Tv c a ga) : Wv c (.BoolOp .And [a] pos) ga := by
  obtain ⟨t, p, s⟩ := ha
  exact ⟨t, fun j => pw_and1 (p j), s⟩
theorem wv_or1 (ha : Tv c a ga) : Wv c (.BoolOp .Or [a] pos) ga := by
  obtain ⟨t, p, s⟩ := ha
  exact ⟨t, fun j => pw_or1 (p j), s⟩
theorem wv_and (ha : Tv c a ga) (hb : Wv c (.BoolOp .And (b :: rest) pos) gb) : Wv c (.BoolOp .And (a :: b :: rest) pos) (tAndF ga gb) := by
  obtain ⟨t, p, s⟩ := ha
  obtain ⟨u, q, s'⟩ := hb
  refine ⟨_, fun j => pw_and (p j) (q j), ?_⟩
  intro b F ρ σ X H cc Q S e k
  unfold tAndF at e
  obtain ⟨x, e1, e⟩ := Option.bind_eq_some_iff.mp e
  refine s b F ρ σ X H x _ S e1 fun F1 H1 S1 i1 s1 => ?_
  cases x with
  | true => exact iteT (s' b F1 ρ σ X H1 cc Q S1 e fun F2 H2 S2 i2 s2 => k F2 H2 S2 (i1.trans i2) (s1.trans s2))
  | false =>
    cases e
    exact iteF (k F1 H1 S1 i1 s1)
theorem wv_or (ha : Tv c a ga) (hb : Wv c (.BoolOp .Or (b :: rest) pos) gb) : Wv c (.BoolOp .Or (a :: b :: rest) pos) (tOrF ga gb) := by
  obtain ⟨t, p, s⟩ := ha
  obtain ⟨u, q, s'⟩ := hb
  refine ⟨_, fun j => pw_or (p j) (q j), ?_⟩
  intro b F ρ σ X H cc Q S e k
  unfold tOrF at e
  obtain ⟨x, e1, e⟩ := Option.bind_eq_some_iff.mp e
  refine s b F ρ σ X H x _ S e1 fun F1 H1 S1 i1 s1 => ?_
  cases x with
  | false => exact iteF (s' b F1 ρ σ X H1 cc Q S1 e fun F2 H2 S2 i2 s2 => k F2 H2 S2 (i1.trans i2) (s1.trans s2))
  | true =>
    cases e
    exact iteT (k F1 H1 S1 i1 s1)
theorem tv_not (ha : Tv c a ga) : Tv c (.UnaryOp .Not a pos) (tNotF ga) := by
  obtain ⟨t, p, s⟩ := ha
  refine ⟨_, fun j => pt_not (p j), ?_⟩
  intro b F ρ σ X H cc Q S e k
  unfold tNotF at e
  obtain ⟨x, e1, e⟩ := Option.map_eq_some_iff.mp e
  subst e
  exact s b F ρ σ X H x _ S e1 fun F1 H1 S1 i1 s1 => k F1 H1 S1 i1 s1
/-- as values -/
def fAnd (fa fb : List T → Option T) : List T → Option T := fun ρ => (fT fa ρ).bind fun x => if x = true then fb ρ else some (.f (.bl false))
def fOr (fa fb : List T → Option T) : List T → Option T := fun ρ => (fT fa ρ).bind fun x => if x = true then some (.f (.bl true)) else fb ρ
def fNot (fa : List T → Option T) : List T → Option T := fun ρ => (fT fa ρ).map fun x => .f (.bl (!x))
theorem ev_one {op : BoolOp} (ha : Ev c a fa) : Ev c (.BoolOp op [a] pos) fa := by
  obtain ⟨t, p, s⟩ := ha
  exact ⟨t, fun j => pe_one (p j), s⟩
theorem ev_and (ha : Ev c a fa) (hb : Ev c (.BoolOp .And (b :: rest) pos) fb) : Ev c (.BoolOp .And (a :: b :: rest) pos) (fAnd fa fb) := by
  obtain ⟨t, p, s⟩ := ha
  obtain ⟨u, q, s'⟩ := hb
  refine ⟨_, fun j => pe_and (p j) (q j), ?_⟩
  intro b F ρ σ X H τ Q S e k
  unfold fAnd fT at e
  obtain ⟨x, e1, e⟩ := Option.bind_eq_some_iff.mp e
  obtain ⟨t1, e0, e1⟩ := Option.bind_eq_some_iff.mp e1
  refine s b F ρ σ X H t1 _ S e0 fun v F1 H1 S1 i1 s1 r1 => ⟨x, r1.bl e1, ?_⟩
  cases x with
  | true => exact iteT (s' b F1 ρ σ X H1 τ Q S1 e (k.mono i1 s1))
  | false =>
    cases e
    exact iteF ((k.mono i1 s1).d S1 rfl)
theorem ev_or (ha : Ev c a fa) (hb : Ev c (.BoolOp .Or (b :: rest) pos) fb) : Ev c (.BoolOp .Or (a :: b :: rest) pos) (fOr fa fb) := by
  obtain ⟨t, p, s⟩ := ha
  obtain ⟨u, q, s'⟩ := hb
  refine ⟨_, fun j => pe_or (p j) (q j), ?_⟩
  intro b F ρ σ X H τ Q S e k
  unfold fOr fT at e
  obtain ⟨x, e1, e⟩ := Option.bind_eq_some_iff.mp e
  obtain ⟨t1, e0, e1⟩ := Option.bind_eq_some_iff.mp e1
  refine s b F ρ σ X H t1 _ S e0 fun v F1 H1 S1 i1 s1 r1 => ⟨x, r1.bl e1, ?_⟩
  cases x with
  | false => exact iteF (s' b F1 ρ σ X H1 τ Q S1 e (k.mono i1 s1))
  | true =>
    cases e
    exact iteT ((k.mono i1 s1).d S1 rfl)
theorem ev_not (ha : Ev c a fa) : Ev c (.UnaryOp .Not a pos) (fNot fa) := by
  obtain ⟨t, p, s⟩ := ha
  refine ⟨_, fun j => pe_not (p j), ?_⟩
  intro b F ρ σ X H τ Q S e k
  unfold fNot fT at e
  obtain ⟨x, e1, e⟩ := Option.map_eq_some_iff.mp e
  obtain ⟨t1, e0, e1⟩ := Option.bind_eq_some_iff.mp e1
  subst e
  exact s b F ρ σ X H t1 _ S e0 fun v F1 H1 S1 i1 s1 r1 => ⟨x, r1.bl e1, (k.mono i1 s1).d S1 rfl⟩
def fIf (g : List T → Option Bool) (fa fb : List T → Option T) : List T → Option T := fun ρ => (g ρ).bind fun x => if x = true then fa ρ else fb ρ
theorem ev_if {t : Expr} (ht : Tv c t ga) (ha : Ev c a fa) (hb : Ev c b fb) : Ev c (.IfExp t a b pos) (fIf ga fa fb) := by
  obtain ⟨t0, p0, s0⟩ := ht
  obtain ⟨t, p, s⟩ := ha
  obtain ⟨u, q, s'⟩ := hb
  refine ⟨_, fun j => pe_ifExp (p0 j) (p j) (q j), ?_⟩
  intro b F ρ σ X H τ Q S e k
  unfold fIf at e
  obtain ⟨x, e1, e⟩ := Option.bind_eq_some_iff.mp e
  refine s0 b F ρ σ X H x _ S e1 fun F1 H1 S1 i1 s1 => ?_
  cases x with
  | true => exact iteT (s b F1 ρ σ X H1 τ Q S1 e (k.mono i1 s1))
  | false => exact iteF (s' b F1 ρ σ X H1 τ Q S1 e (k.mono i1 s1))
end

/-! ### arguments, tuples, lists -/
section
variable {c : Ctx} {a : Expr} {es : List Expr} {fa : List T → Option T} {fs : List T → Option (List T)} {pos : Pos}
def aNil : List T → Option (List T) := fun _ => some []
def aCons (fa : List T → Option T) (fs : List T → Option (List T)) : List T → Option (List T) := fun ρ => (fa ρ).bind fun x => (fs ρ).map fun xs => x :: xs
theorem av_nil : Av c [] aNil := by
  refine ⟨_, fun _ => pa_nil, ?_⟩
  intro b F ρ σ X H τs Q S e k
  cases e
  exact k [] F H S (Inc.refl F) (Same.refl H) RelVs.nil
theorem av_cons (ha : Ev c a fa) (hr : Av c es fs) (hs : ∀ j, starEach (a :: es) (c.X j).env = (false, eval a (c.X j).env) :: starEach es (c.X j).env := by intro _; rfl) : Av c (a :: es) (aCons fa fs) := by
  obtain ⟨t, p, s⟩ := ha
  obtain ⟨u, q, s'⟩ := hr
  refine ⟨_, fun j => pa_cons (p j) (q j) (hs j), ?_⟩
  intro b F ρ σ X H τs Q S e k
  unfold aCons at e
  obtain ⟨x, e1, e⟩ := Option.bind_eq_some_iff.mp e
  obtain ⟨xs, e2, e⟩ := Option.map_eq_some_iff.mp e
  subst e
  refine s b F ρ σ X H x _ S e1 fun v F1 H1 S1 i1 s1 r1 => ?_
  exact s' b F1 ρ σ X H1 xs _ S1 e2 fun vs F2 H2 S2 i2 s2 r2 => k (v :: vs) F2 H2 S2 (i1.trans i2) (s1.trans s2) (.cons (r1.ext i2 s2) r2)
/-- deep data alone -/
def deep : List T → Option (List D)
  | [] => some []
  | t :: ts => (T.d? t).bind fun d => (deep ts).map fun ds => d :: ds
theorem RelVs.deep {W : Wd} {F H : Hp} : ∀ {ts : List T} {ds : List D} {vs : List V}, RelVs W F H ts vs → deep ts = some ds → Reps W F ds vs
  | [], _, _, r, e => by
    cases e
    exact r.inv0
  | t :: ts, _, _, r, e => by
    obtain ⟨v, vr, e1, a, b⟩ := r.inv
    obtain ⟨d, e2, e⟩ := Option.bind_eq_some_iff.mp (show (T.d? t).bind _ = _ from e)
    obtain ⟨ds, e3, e⟩ := Option.map_eq_some_iff.mp e
    subst e
    refine ⟨v, vr, e1, ?_, RelVs.deep b e3⟩
    cases t with
    | f d' =>
      cases e2
      exact a.rep
    | _ => cases e2
def gTup (ts : List T) : Option T := (deep ts).bind fun ds => if ds.length ≤ sizeLine then some (.f (.tup ds)) else none
def gLst (ts : List T) : Option T := (deep ts).bind fun ds => if ds.length ≤ sizeLine then some (.f (.lst ds)) else none
theorem ev_tup {m : Nat} (h : Av c es fs) : Ev c (.Tuple es m pos) (fN gTup fs) := by
  obtain ⟨t, p, s⟩ := h
  refine ⟨_, fun j => pe_tup (p j), ?_⟩
  intro b F ρ σ X H τ Q S e k
  unfold fN gTup at e
  obtain ⟨xs, e1, e⟩ := Option.bind_eq_some_iff.mp e
  obtain ⟨ds, e2, e⟩ := Option.bind_eq_some_iff.mp e
  split at e
  · rename_i hl
    cases e
    refine s b F ρ σ X H xs _ S e1 fun vs F1 H1 S1 i1 s1 r1 => ?_
    have r2 := r1.deep e2
    exact ⟨by rw [← r2.len]; exact hl, (k.mono i1 s1).tup S1 r2⟩
  · cases e
theorem ev_lst (h : Av c es fs) : Ev c (.List es pos) (fN gLst fs) := by
  obtain ⟨t, p, s⟩ := h
  refine ⟨_, fun j => pe_lst (p j), ?_⟩
  intro b F ρ σ X H τ Q S e k
  unfold fN gLst at e
  obtain ⟨xs, e1, e⟩ := Option.bind_eq_some_iff.mp e
  obtain ⟨ds, e2, e⟩ := Option.bind_eq_some_iff.mp e
  split at e
  · rename_i hl
    cases e
    refine s b F ρ σ X H xs _ S e1 fun vs F1 H1 S1 i1 s1 r1 => ?_
    have r2 := r1.deep e2
    exact ⟨by rw [← r2.len]; exact hl, (k.mono i1 s1).lst S1 r2⟩
  · cases e
/-- a builtin's call -/
theorem sv_cb {W : Wd} {r : List V → Hp → VK → Prop} {t : TA} {g : List T → Option T} (hr : Sn W r g) (h : Sav W t fs) : Sv W (tCB r t) (fN g fs) := by
  intro b F ρ σ X H τ Q S e k
  unfold fN at e
  obtain ⟨xs, e1, e⟩ := Option.bind_eq_some_iff.mp e
  exact h b F ρ σ X H xs _ S e1 fun vs F1 H1 S1 i1 s1 r1 => hr b F1 ρ σ X H1 xs τ vs Q S1 r1 e (k.mono i1 s1)
theorem ev_callB {id : String} {r : List V → Hp → VK → Prop} {g : List T → Option T} {x : Str} {p : Pos} (hc : ∀ j, CallR (c.X j) (.builtin id) r) (hr : Sn c.W r g) (hg : ∀ j, Gl (c.X j) x) (hm : ∀ j, (c.X j).mg x = none) (hv : bootBuiltins x = some (.builtin id))
    (ha : Av c (a :: es) fs) (hn : x ≠ "__name__" := by decide) (hdb : (x == ("__debug__" : Str)) = false := by decide)
    (he : ∀ j, starEach (a :: es) (c.X j).env = (false, eval a (c.X j).env) :: starEach es (c.X j).env := by intro _; rfl) (hpl : ∀ j, (backTo pos (starEach es (c.X j).env)).any (·.1) = false := by intro _; rfl) : Ev c (.Call (.Name x p) (a :: es) [] pos) (fN g fs) := by
  obtain ⟨t, q, s⟩ := ha
  exact ⟨_, fun j => pe_callB (hc j) (hg j) (hm j) hv (q j) hn hdb (he j) (hpl j), sv_cb hr s⟩
theorem ev_callTy {id : String} {r : List V → Hp → VK → Prop} {g : List T → Option T} {x : Str} {p : Pos} (hc : ∀ j, CallR (c.X j) (.type id) r) (hr : Sn c.W r g) (hg : ∀ j, Gl (c.X j) x) (hm : ∀ j, (c.X j).mg x = none) (hv : bootBuiltins x = some (.type id))
    (ha : Av c (a :: es) fs) (hn : x ≠ "__name__" := by decide) (hdb : (x == ("__debug__" : Str)) = false := by decide)
    (he : ∀ j, starEach (a :: es) (c.X j).env = (false, eval a (c.X j).env) :: starEach es (c.X j).env := by intro _; rfl) (hpl : ∀ j, (backTo pos (starEach es (c.X j).env)).any (·.1) = false := by intro _; rfl) : Ev c (.Call (.Name x p) (a :: es) [] pos) (fN g fs) := by
  obtain ⟨t, q, s⟩ := ha
  exact ⟨_, fun j => pe_callTy (hc j) (hg j) (hm j) hv (q j) hn hdb (he j) (hpl j), sv_cb hr s⟩
end
end Z

namespace Z
open PySem PySem.Spec PyProof.Rows L2
section
variable {W : Wd} {X : Cx}

/-! ### ints -/
def gI (C : Int → Int → Bool) (g : Int → Int → D) : T → T → Option T := fun a b => a.i?.bind fun i => b.i?.bind fun j => if C i j = true then some (.f (g i j)) else none
theorem s2_i {r : R2} {C : Int → Int → Bool} {g : Int → Int → D} {u : Int → Int → V} (hu : ∀ F i j, Rep W F (g i j) (u i j)) (hr : ∀ i j H Q, C i j = true → Q (u i j) H → r (.int i) (.int j) H Q) : S2 W r (gI C g) := by
  intro b F ρ σ X H t1 t2 τ x y Q S r1 r2 e k
  unfold gI at e
  obtain ⟨i, e1, e⟩ := Option.bind_eq_some_iff.mp e
  obtain ⟨j, e2, e⟩ := Option.bind_eq_some_iff.mp e
  split at e
  · rename_i hC
    cases e
    rw [r1.int e1, r2.int e2]
    exact hr i j H Q hC (k.d S (hu _ _ _))
  · cases e
def always : Int → Int → Bool := fun _ _ => true
abbrev gIa (g : Int → Int → D) := gI always g
theorem s2_i0 {g : Int → Int → D} {u : Int → Int → V} (hu : ∀ F i j, Rep W F (g i j) (u i j)) : S2 W (rI0 u) (gIa g) := s2_i hu fun i j H Q _ q => ⟨i, j, rfl, rfl, q⟩
theorem s2_iC {P : Int → Int → Prop} {C : Int → Int → Bool} {g : Int → Int → D} {u : Int → Int → V} (hu : ∀ F i j, Rep W F (g i j) (u i j)) (hC : ∀ i j, C i j = true → P i j) : S2 W (rI P u) (gI C g) := s2_i hu fun i j H Q h q => ⟨i, j, rfl, rfl, hC i j h, q⟩
theorem rep_int {W : Wd} {F : Hp} {i : Int} : Rep W F (.int i) (.int i) := rfl
theorem rep_bl {W : Wd} {F : Hp} {i : Bool} : Rep W F (.bl i) (.bl i) := rfl
theorem rep_str {W : Wd} {F : Hp} {i : Str} : Rep W F (.str i) (.str i) := rfl
theorem rep_non {W : Wd} {F : Hp} : Rep W F .non .non := rfl

def gSub := gIa fun i j => .int (i - j)
theorem s2_sub : S2 W (rI0 fun i j => .int (i - j)) gSub := s2_i0 fun _ _ _ => rfl
def mulC (i j : Int) : Bool := decide (i.natAbs.log2 + j.natAbs.log2 < 130000000)
def gMul := gI mulC fun i j => .int (i * j)
def CMulX (i j : Int) : Prop := i.natAbs.log2 + j.natAbs.log2 < 130000000
theorem CMulX.ok {i j : Int} (h : CMulX i j) : IntMulOk i j := by
  have b : ∀ x : Int, Builtin.Int.intBits x ≤ x.natAbs.log2 + 1 := fun x => by
    unfold Builtin.Int.intBits
    split <;> omega
  have h1 := b i
  have h2 := b j
  have h3 : i.natAbs.log2 + j.natAbs.log2 < 130000000 := h
  have e : bitsLine = 134217728 := by decide
  unfold IntMulOk
  intro z
  rw [Bool.and_eq_true] at z
  have z2 := z.2
  unfold Builtin.Int.intTooBig at z2
  have z3 := of_decide_eq_true z2
  rw [e] at z3
  omega
theorem op_mulX : OpR X (binaryOp .Mult) (rI CMulX fun i j => .int (i * j)) := opI fun _ _ _ _ _ _ _ hc q => PyProof.Rows.mul_int q hc.ok
theorem s2_mul : S2 W (rI CMulX fun i j => .int (i * j)) gMul := s2_iC (fun _ _ _ => rfl) fun i j h => (show i.natAbs.log2 + j.natAbs.log2 < 130000000 from of_decide_eq_true h)
def divC (_ j : Int) : Bool := decide (0 < j) && decide (j.natAbs.log2 < 9000)
def gDiv := gI divC fun i j => .int (i / j)
theorem s2_div : S2 W (rI CDivW fun i j => .int (i / j)) gDiv := s2_iC (fun _ _ _ => rfl) fun _ _ h => by
  unfold divC at h
  rw [Bool.and_eq_true] at h
  exact ⟨of_decide_eq_true h.1, of_decide_eq_true h.2⟩
def modC (_ j : Int) : Bool := decide (0 < j)
def gMod := gI modC fun i j => .int (i % j)
theorem s2_mod : S2 W (rI (fun _ j => 0 < j) fun i j => .int (i % j)) gMod := s2_iC (fun _ _ _ => rfl) fun _ _ h => of_decide_eq_true h
def powC (i j : Int) : Bool := decide (0 ≤ j) && decide (j ≤ 1000000) && decide (i.natAbs < 2 ^ 64)
theorem powC_ok {i j : Int} (h : powC i j = true) : CPow i j := by
  unfold powC at h
  rw [Bool.and_eq_true, Bool.and_eq_true] at h
  exact ⟨of_decide_eq_true h.1.1, of_decide_eq_true h.1.2, of_decide_eq_true h.2⟩
def gPow := gI powC fun i j => .int (i ^ j.toNat)
theorem s2_pow : S2 W (rI CPow fun i j => .int (i ^ j.toNat)) gPow := s2_iC (fun _ _ _ => rfl) fun _ _ h => powC_ok h
def gShl := gI powC fun i j => .int (i * 2 ^ j.toNat)
theorem s2_shl : S2 W (rI CPow fun i j => .int (i * 2 ^ j.toNat)) gShl := s2_iC (fun _ _ _ => rfl) fun _ _ h => powC_ok h
def shrC (_ j : Int) : Bool := decide (0 ≤ j)
def gShr := gI shrC fun i j => .int (i / 2 ^ j.toNat)
theorem s2_shr : S2 W (rI (fun _ j => 0 ≤ j) fun i j => .int (i / 2 ^ j.toNat)) gShr := s2_iC (fun _ _ _ => rfl) fun _ _ h => of_decide_eq_true h
def gBAnd := gIa fun i j => .int (Builtin.bitAnd i j)
theorem s2_band : S2 W (rI0 fun i j => .int (Builtin.bitAnd i j)) gBAnd := s2_i0 fun _ _ _ => rfl
def gBOr := gIa fun i j => .int (Builtin.bitOr i j)
theorem s2_bor : S2 W (rI0 fun i j => .int (Builtin.bitOr i j)) gBOr := s2_i0 fun _ _ _ => rfl
def gBXor := gIa fun i j => .int (Builtin.bitXor i j)
theorem s2_bxor : S2 W (rI0 fun i j => .int (Builtin.bitXor i j)) gBXor := s2_i0 fun _ _ _ => rfl
def gLt := gIa fun i j => .bl (decide (i < j))
theorem s2_lt : S2 W (rI0 fun i j => .bl (decide (i < j))) gLt := s2_i0 fun _ _ _ => rfl
def gLe := gIa fun i j => .bl (decide (i ≤ j))
theorem s2_le : S2 W (rI0 fun i j => .bl (decide (i ≤ j))) gLe := s2_i0 fun _ _ _ => rfl
def gGt := gIa fun i j => .bl (decide (j < i))
theorem s2_gt : S2 W (rI0 fun i j => .bl (decide (j < i))) gGt := s2_i0 fun _ _ _ => rfl
def gGe := gIa fun i j => .bl (decide (j ≤ i))
theorem s2_ge : S2 W (rI0 fun i j => .bl (decide (j ≤ i))) gGe := s2_i0 fun _ _ _ => rfl
def gNeg : T → Option T := fun t => t.i?.map fun i => .f (.int (-i))
theorem s1_neg : S1 W (rU fun i => .int (-i)) gNeg := by
  intro b F ρ σ X H t1 τ x Q S r1 e k
  unfold gNeg at e
  obtain ⟨i, e1, e⟩ := Option.map_eq_some_iff.mp e
  subst e
  exact ⟨i, r1.int e1, k.d S rfl⟩

/-! ### + -/
def gCatS : T → T → Option T := fun a b => a.s?.bind fun x => b.s?.bind fun y => if x.length + y.length ≤ sizeLine then some (.f (.str (x ++ y))) else none
def gCatL : T → T → Option T := fun a b => a.ls?.bind fun x => b.ls?.bind fun y => if x.length + y.length ≤ sizeLine then some (.f (.lst (x ++ y))) else none
def gCatT : T → T → Option T := fun a b => a.ts?.bind fun x => b.ts?.bind fun y => if x ≠ [] ∧ x.length + y.length ≤ sizeLine then some (.f (.tup (x ++ y))) else none
def rCatS : R2 := fun x y H Q => ∃ i j, x = .str i ∧ y = .str j ∧ i.length + j.length ≤ sizeLine ∧ Q (.str (i ++ j)) H
def rCatL (K : PySem.W.Frag) : R2 := fun x y H Q => ∃ l b xs zs, x = .ref l ∧ y = .ref b ∧ SqL K H l xs ∧ SqL K H b zs ∧ xs.length + zs.length ≤ sizeLine ∧ ∀ p, H p = none → Q (.ref p) (upd H p (.lst (xs ++ zs)))
theorem op_catL : OpR X (binaryOp .Add) (rCatL X.K) := by
  intro pins s σ H x y v u Q I rx ry h
  obtain ⟨l, b, xs, zs, rfl, rfl, hH, hB, hz, q⟩ := h
  cases rx
  cases ry
  obtain ⟨its, r, pl, hl⟩ := I.list hH
  obtain ⟨its2, r2, pl2, hl2⟩ := I.list hB
  obtain ⟨⟨cls, dd, data, sl⟩, ho, hc, n, hd⟩ := id pl.isList
  obtain ⟨⟨cls2, dd2, data2, sl2⟩, ho2, hc2, n2, hd2⟩ := id pl2.isList
  simp only at hc hd hc2 hd2
  subst hc hd hc2 hd2
  have e1 := r.length
  have e2 := r2.length
  have ea : its.toArray ++ its2.toArray = (its ++ its2).toArray := by simp
  refine concat_meets ⟨_, ho, rfl⟩ ⟨_, ho2, rfl⟩ noFill_list_add seq_list_add PySem.F.slot_list_add PySem.F.entry_list_add (PySem.F.args_list_add_2 _ _) (PyProof.Rows.list_addW l b its.toArray its2.toArray n n2 dd dd2 sl sl2 (by rw [List.size_toArray, List.size_toArray, ← e1, ← e2]; exact hz)) ⟨ho, ho2, ?_⟩
  rw [ea]
  exact ⟨.ref _, _, I.lnew (t' := s.toks) (r.append r2) (by rw [List.length_append]; omega), rfl, q _ I.fresh⟩
theorem s2_catS : S2 W rCatS gCatS := by
  intro b F ρ σ X H t1 t2 τ x y Q S r1 r2 e k
  unfold gCatS at e
  obtain ⟨i, e1, e⟩ := Option.bind_eq_some_iff.mp e
  obtain ⟨j, e2, e⟩ := Option.bind_eq_some_iff.mp e
  split at e
  · rename_i hz
    cases e
    exact ⟨i, j, r1.str e1, r2.str e2, hz, k.d S rfl⟩
  · cases e
theorem s2_catL : S2 W (rCatL W.K) gCatL := by
  intro b F ρ σ X H t1 t2 τ x y Q S r1 r2 e k
  unfold gCatL at e
  obtain ⟨i, e1, e⟩ := Option.bind_eq_some_iff.mp e
  obtain ⟨j, e2, e⟩ := Option.bind_eq_some_iff.mp e
  split at e
  · rename_i hz
    cases e
    obtain ⟨p, vs, ex, hs, q⟩ := r1.ls e1 S.le
    obtain ⟨p2, vs2, ex2, hs2, q2⟩ := r2.ls e2 S.le
    exact ⟨p, p2, vs, vs2, ex, ex2, hs, hs2, by rw [← q.len, ← q2.len]; exact hz, k.lst S (q.append q2)⟩
  · cases e
theorem s2_catT : S2 W (rCatT W.K) gCatT := by
  intro b F ρ σ X H t1 t2 τ x y Q S r1 r2 e k
  unfold gCatT at e
  obtain ⟨i, e1, e⟩ := Option.bind_eq_some_iff.mp e
  obtain ⟨j, e2, e⟩ := Option.bind_eq_some_iff.mp e
  split at e
  · rename_i hz
    cases e
    obtain ⟨p, vs, ex, hs, q⟩ := r1.ts e1 S.le
    obtain ⟨p2, vs2, ex2, hs2, q2⟩ := r2.ts e2 S.le
    refine ⟨p, p2, vs, vs2, ex, ex2, hs, hs2, fun z => ?_, by rw [← q.len, ← q2.len]; exact hz.2, fun z => ?_, fun z => k.tup S (q.append q2)⟩
    · have := q.len
      rw [z] at this
      exact hz.1 (List.length_eq_zero_iff.mp this)
    · have hj : j = [] := by
        have := q2.len
        rw [z] at this
        exact List.length_eq_zero_iff.mp this
      subst hj
      subst ex
      rw [List.append_nil] at k
      refine k.here S ?_
      cases t1 with
      | f d => cases d with
        | tup l => cases e1; exact r1
        | _ => cases e1
      | _ => cases e1
  · cases e
def gAddI := gIa fun i j => .int (i + j)
def gAdd : T → T → Option T := or2 gAddI (or2 gCatS (or2 gCatL gCatT))
def rAddU (K : PySem.W.Frag) : R2 := fun x y H Q => rI0 (fun i j => .int (i + j)) x y H Q ∨ rCatS x y H Q ∨ rCatL K x y H Q ∨ rCatT K x y H Q
theorem op_addU : OpR X (binaryOp .Add) (rAddU X.K) := OpR_or op_add (OpR_or op_add_str (OpR_or op_catL op_catT))
theorem s2_add : S2 W (rAddU W.K) gAdd := S2.or (s2_i0 fun _ _ _ => rfl) (S2.or s2_catS (S2.or s2_catL s2_catT))

/-! ### == -/
/-- scalars -/
def T.v? : T → Option V | .f .non => some .non | .f (.bl b) => some (.bl b) | .f (.int i) => some (.int i) | .f (.str x) => some (.str x) | _ => none
theorem RelV.v {F H : Hp} {t : T} {v x : V} (r : RelV W F H t v) (h : t.v? = some x) : v = x := by
  cases t with
  | f d => cases d with
    | non => cases h; exact r.rep
    | bl j => cases h; exact r.rep
    | int j => cases h; exact r.rep
    | str j => cases h; exact r.rep
    | _ => cases h
  | _ => cases h
def T.vd : T → Option D | .f d => some d | .l ds => some (.lst ds) | .dk ks ds => some (.dct ks ds) | _ => none
theorem RelV.vd {F H : Hp} {t : T} {v : V} {d : D} (r : RelV W F H t v) (h : t.vd = some d) (le : Le F H) : Rep W H d v := by
  cases t with
  | f d' => cases h; exact Rep.le le _ _ r.rep
  | l ds =>
    cases h
    obtain ⟨fp, p, vs, e, _, s, q⟩ := r
    exact ⟨p, vs, e, .inl (.inl s), Reps.le le _ _ q⟩
  | dk ks ds =>
    cases h
    obtain ⟨fp, p, kvs, e, _, s, k, q⟩ := r
    exact ⟨p, kvs, e, .inl s, k, Reps.le le _ _ q⟩
  | _ => cases h
mutual
def D.py : D → Option PyData
  | .non => some .none
  | .bl b => some (.bool b)
  | .int i => some (.int i)
  | .str x => some (.str x)
  | .tup l => (D.pys l).map .tuple
  | .lst l => (D.pys l).map .list
  | .dct _ _ => none
  | .obj _ _ _ => none
def D.pys : List D → Option (List PyData)
  | [] => some []
  | d :: ds => (D.py d).bind fun x => (D.pys ds).map fun xs => x :: xs
end
mutual
theorem Rep.dp {H : Hp} : ∀ (d : D) (v : V) (p : PyData), Rep W H d v → d.py = some p → Dp W.K H v p
  | .non, _, _, r, e => by
    unfold D.py at e
    cases e
    have r' : _ = V.non := r
    subst r'
    exact .non
  | .bl b, _, _, r, e => by
    unfold D.py at e
    cases e
    have r' : _ = V.bl b := r
    subst r'
    exact .bl b
  | .int b, _, _, r, e => by
    unfold D.py at e
    cases e
    have r' : _ = V.int b := r
    subst r'
    exact .int b
  | .str b, _, _, r, e => by
    unfold D.py at e
    cases e
    have r' : _ = V.str b := r
    subst r'
    exact .str b
  | .tup l, _, _, r, e => by
    unfold D.py at e
    obtain ⟨ps, e1, e⟩ := Option.map_eq_some_iff.mp e
    subst e
    obtain ⟨p, vs, e, s, q⟩ := r
    subst e
    exact .tup s (Reps.dp l vs ps q e1)
  | .lst l, _, _, r, e => by
    unfold D.py at e
    obtain ⟨ps, e1, e⟩ := Option.map_eq_some_iff.mp e
    subst e
    obtain ⟨p, vs, e, s, q⟩ := r
    subst e
    exact .lst s (Reps.dp l vs ps q e1)
  | .dct _ _, _, _, _, e => by
    unfold D.py at e
    cases e
  | .obj _ _ _, _, _, _, e => by
    unfold D.py at e
    cases e
theorem Reps.dp {H : Hp} : ∀ (ds : List D) (vs : List V) (ps : List PyData), Reps W H ds vs → D.pys ds = some ps → DpAll W.K H vs ps
  | [], _, _, r, e => by
    unfold D.pys at e
    cases e
    have r' : _ = [] := r
    subst r'
    exact .nil
  | d :: ds, _, _, r, e => by
    unfold D.pys at e
    obtain ⟨x, e1, e⟩ := Option.bind_eq_some_iff.mp e
    obtain ⟨xs, e2, e⟩ := Option.map_eq_some_iff.mp e
    subst e
    obtain ⟨v, vr, e, a, b⟩ := r
    subst e
    exact .cons (Rep.dp d v x a e1) (Reps.dp ds vr xs b e2)
end
def gEqS (neg : Bool) : T → T → Option T := fun a b => a.v?.bind fun x => b.v?.bind fun y => if scal x y = true then some (.f (.bl (xor neg (decide (x = y))))) else none
def gEqD (neg : Bool) : T → T → Option T := fun a b => a.vd.bind fun x => b.vd.bind fun y => x.py.bind fun p => y.py.bind fun q => if SeqAt.shaped p = true ∧ SeqAt.shaped q = true then some (.f (.bl (xor neg (PyData.eqv p q)))) else none
def gEq := or2 (gEqS false) (gEqD false)
def gNe := or2 (gEqS true) (gEqD true)
theorem s2_eqS : S2 W rEq (gEqS false) := by
  intro b F ρ σ X H t1 t2 τ x y Q S r1 r2 e k
  unfold gEqS at e
  obtain ⟨i, e1, e⟩ := Option.bind_eq_some_iff.mp e
  obtain ⟨j, e2, e⟩ := Option.bind_eq_some_iff.mp e
  rw [r1.v e1, r2.v e2]
  split at e
  · rename_i hz
    cases e
    rw [Bool.false_xor] at k
    exact ⟨hz, k.d S rfl⟩
  · cases e
theorem s2_neS : S2 W rNe (gEqS true) := by
  intro b F ρ σ X H t1 t2 τ x y Q S r1 r2 e k
  unfold gEqS at e
  obtain ⟨i, e1, e⟩ := Option.bind_eq_some_iff.mp e
  obtain ⟨j, e2, e⟩ := Option.bind_eq_some_iff.mp e
  rw [r1.v e1, r2.v e2]
  split at e
  · rename_i hz
    cases e
    rw [Bool.true_xor] at k
    exact ⟨hz, k.d S rfl⟩
  · cases e
theorem s2_eqD : S2 W (rEqD W.K) (gEqD false) := by
  intro b F ρ σ X H t1 t2 τ x y Q S r1 r2 e k
  unfold gEqD at e
  obtain ⟨i, e1, e⟩ := Option.bind_eq_some_iff.mp e
  obtain ⟨j, e2, e⟩ := Option.bind_eq_some_iff.mp e
  obtain ⟨p, e3, e⟩ := Option.bind_eq_some_iff.mp e
  obtain ⟨q, e4, e⟩ := Option.bind_eq_some_iff.mp e
  split at e
  · rename_i hz
    cases e
    rw [Bool.false_xor] at k
    exact ⟨p, q, Rep.dp i x p (r1.vd e1 S.le) e3, Rep.dp j y q (r2.vd e2 S.le) e4, hz.1, hz.2, k.d S rfl⟩
  · cases e
theorem s2_neD : S2 W (rNeD W.K) (gEqD true) := by
  intro b F ρ σ X H t1 t2 τ x y Q S r1 r2 e k
  unfold gEqD at e
  obtain ⟨i, e1, e⟩ := Option.bind_eq_some_iff.mp e
  obtain ⟨j, e2, e⟩ := Option.bind_eq_some_iff.mp e
  obtain ⟨p, e3, e⟩ := Option.bind_eq_some_iff.mp e
  obtain ⟨q, e4, e⟩ := Option.bind_eq_some_iff.mp e
  split at e
  · rename_i hz
    cases e
    rw [Bool.true_xor] at k
    exact ⟨p, q, Rep.dp i x p (r1.vd e1 S.le) e3, Rep.dp j y q (r2.vd e2 S.le) e4, hz.1, hz.2, k.d S rfl⟩
  · cases e
def rEqU (K : PySem.W.Frag) : R2 := fun x y H Q => rEq x y H Q ∨ rEqD K x y H Q
def rNeU (K : PySem.W.Frag) : R2 := fun x y H Q => rNe x y H Q ∨ rNeD K x y H Q
theorem op_eqU (hu : X.A.units + 64 < cLine) : OpR X (compareOp .Eq) (rEqU X.K) := OpR_or op_eq (op_eqD hu)
theorem op_neU (hu : X.A.units + 64 < cLine) : OpR X (compareOp .NotEq) (rNeU X.K) := OpR_or op_ne (op_neD hu)
theorem s2_eq : S2 W (rEqU W.K) gEq := S2.or s2_eqS s2_eqD
theorem s2_ne : S2 W (rNeU W.K) gNe := S2.or s2_neS s2_neD
def gIsN : T → Option T := fun t => match t with
  | .f d => some (.f (.bl (match d with | .non => true | _ => false)))
  | _ => some (.f (.bl false))
theorem RelV.non {F H : Hp} {t : T} {v : V} {c : Bool} (r : RelV W F H t v) (h : gIsN t = some (.f (.bl c))) (hu : t ≠ .un) : decide (v = .non) = c := by
  cases t with
  | un => exact absurd rfl hu
  | f d => cases d with
    | non => cases h; rw [show v = V.non from r.rep]; rfl
    | bl j => cases h; rw [show v = V.bl j from r.rep]; rfl
    | int j => cases h; rw [show v = V.int j from r.rep]; rfl
    | str j => cases h; rw [show v = V.str j from r.rep]; rfl
    | tup j => cases h; obtain ⟨p, vs, e, _⟩ := r.rep; rw [e]; rfl
    | lst j => cases h; obtain ⟨p, vs, e, _⟩ := r.rep; rw [e]; rfl
    | dct j => cases h; obtain ⟨p, vs, e, _⟩ := r.rep; rw [e]; rfl
    | obj j => cases h; obtain ⟨p, _, vs, e, _⟩ := r.rep; rw [e]; rfl
  | l ds => cases h; obtain ⟨fp, p, vs, e, _⟩ := r; rw [e]; rfl
  | dk ds => cases h; obtain ⟨fp, p, vs, e, _⟩ := r; rw [e]; rfl
  | ll ds => cases h; obtain ⟨fp, p, vs, _, e, _⟩ := r; rw [e]; rfl
  | tu ds => cases h; obtain ⟨fp, p, vs, _, e, _⟩ := r; rw [e]; rfl
  | o ds => cases h; obtain ⟨fp, p, _, vs, _, e, _⟩ := r; rw [e]; rfl

/-! ### in -/
def flatD : D → Bool | .non => true | .bl _ => true | .int _ => true | .str _ => true | _ => false
def D.v : D → V | .bl b => .bl b | .int i => .int i | .str x => .str x | _ => .non
theorem Rep.flat {F : Hp} {d : D} {v : V} (r : Rep W F d v) (h : flatD d = true) : v = d.v ∧ flatV v = true := by
  cases d with
  | non => have r' : v = _ := r; subst r'; exact ⟨rfl, rfl⟩
  | bl b => have r' : v = _ := r; subst r'; exact ⟨rfl, rfl⟩
  | int b => have r' : v = _ := r; subst r'; exact ⟨rfl, rfl⟩
  | str b => have r' : v = _ := r; subst r'; exact ⟨rfl, rfl⟩
  | _ => cases h
theorem Reps.flat {F : Hp} : ∀ {ds : List D} {vs : List V}, Reps W F ds vs → ds.all flatD = true → vs = ds.map D.v ∧ vs.all flatV = true
  | [], _, r, _ => by
    have r' : _ = [] := r
    subst r'
    exact ⟨rfl, rfl⟩
  | d :: ds, _, r, h => by
    obtain ⟨v, vr, e, a, b⟩ := r
    rw [List.all_cons, Bool.and_eq_true] at h
    obtain ⟨h1, h2⟩ := a.flat h.1
    obtain ⟨h3, h4⟩ := Reps.flat b h.2
    subst e
    rw [List.all_cons, h2, h4, h3, List.map_cons, ← h1]
    exact ⟨rfl, rfl⟩
def gInQ (neg : Bool) : T → T → Option T := fun a b => a.v?.bind fun x => b.sq?.bind fun ds => if ds.all flatD = true then some (.f (.bl (xor neg (inV x (ds.map D.v))))) else none
def gInS (neg : Bool) : T → T → Option T := fun a b => a.s?.bind fun x => b.s?.bind fun y => some (.f (.bl (xor neg (!(Builtin.Str.occurrences y x 0 y.length 1).isEmpty))))
def gInD (neg : Bool) : T → T → Option T := fun a b => a.key?.bind fun k => b.dk?.bind fun ds => some (.f (.bl (xor neg (ds.1.any fun q => decide (q = k)))))
theorem v_flat {t : T} {x : V} (h : t.v? = some x) : flatV x = true := by
  cases t with
  | f d => cases d with
    | non => cases h; rfl
    | bl j => cases h; rfl
    | int j => cases h; rfl
    | str j => cases h; rfl
    | _ => cases h
  | _ => cases h
theorem s2_inQ (neg : Bool) : S2 W (rIn W.K neg) (gInQ neg) := by
  intro b F ρ σ X H t1 t2 τ x y Q S r1 r2 e k
  unfold gInQ at e
  obtain ⟨i, e1, e⟩ := Option.bind_eq_some_iff.mp e
  obtain ⟨ds, e2, e⟩ := Option.bind_eq_some_iff.mp e
  rw [r1.v e1]
  split at e
  · rename_i hz
    cases e
    obtain ⟨p, vs, ex, hs, q⟩ := r2.sq e2 S.le
    obtain ⟨h1, h2⟩ := q.flat hz
    subst h1
    refine ⟨p, _, ex, hs, v_flat e1, h2, ?_⟩
    cases neg with
    | true => rw [Bool.true_xor] at k; exact k.d S rfl
    | false => rw [Bool.false_xor] at k; exact k.d S rfl
  · cases e
def rInS (neg : Bool) : R2 := fun x y H Q => ∃ i j, x = .str i ∧ y = .str j ∧ Q (.bl (xor neg (!(Builtin.Str.occurrences j i 0 j.length 1).isEmpty))) H
theorem s2_inS (neg : Bool) : S2 W (rInS neg) (gInS neg) := by
  intro b F ρ σ X H t1 t2 τ x y Q S r1 r2 e k
  unfold gInS at e
  obtain ⟨i, e1, e⟩ := Option.bind_eq_some_iff.mp e
  obtain ⟨j, e2, e⟩ := Option.bind_eq_some_iff.mp e
  cases e
  exact ⟨i, j, r1.str e1, r2.str e2, k.d S rfl⟩
def rInD (neg : Bool) : R2 := fun y x H Q => ∃ a o, x = .ref a ∧ DGet H a y o ∧ Q (.bl (xor neg o.isSome)) H
theorem mem_valV {kvs : List (Key × V)} {k : Key} : (valV kvs k).isSome = (kvs.map (·.1)).any fun q => decide (q = k) := by
  rw [← valV_any, List.any_map]
  rfl
theorem s2_inD (neg : Bool) : S2 W (rInD neg) (gInD neg) := by
  intro b F ρ σ X H t1 t2 τ x y Q S r1 r2 e k
  unfold gInD at e
  obtain ⟨i, e1, e⟩ := Option.bind_eq_some_iff.mp e
  obtain ⟨⟨ks, ds⟩, e2, e⟩ := Option.bind_eq_some_iff.mp e
  cases e
  obtain ⟨p, kvs, ex, hs, hk, q⟩ := r2.dk e2 S.le
  rw [r1.key e1]
  refine ⟨p, _, ex, .inl ⟨kvs, i, hs, rfl, rfl⟩, ?_⟩
  rw [mem_valV, hk]
  exact k.d S rfl
theorem op_inD (hu : X.A.units + 1 < cLine) : OpR X (compareOp .In) (rInD false) := by
  intro pins s σ H x y v u Q I rx ry h
  obtain ⟨a, o, rfl, g, q⟩ := h
  cases ry
  rw [Bool.false_xor] at q
  exact d_in hu I g rx fun s' I' => ⟨.bl _, H, I', rfl, q⟩
theorem op_notInD (hu : X.A.units + 1 < cLine) : OpR X (compareOp .NotIn) (rInD true) := by
  intro pins s σ H x y v u Q I rx ry h
  obtain ⟨a, o, rfl, g, q⟩ := h
  cases ry
  rw [Bool.true_xor] at q
  exact d_notIn hu I g rx fun s' I' => ⟨.bl _, H, I', rfl, q⟩
theorem op_inS : OpR X (compareOp .In) (rInS false) := by
  intro pins s σ H x y v u Q I rx ry h
  obtain ⟨i, j, e1, e2, q⟩ := h
  rw [Bool.false_xor] at q
  exact op_in_str pins s σ H x y v u Q I rx ry ⟨i, j, e1, e2, q⟩
theorem op_notInS : OpR X (compareOp .NotIn) (rInS true) := by
  intro pins s σ H x y v u Q I rx ry h
  obtain ⟨i, j, e1, e2, q⟩ := h
  rw [Bool.true_xor] at q
  exact op_notin_str pins s σ H x y v u Q I rx ry ⟨i, j, e1, e2, q⟩
def rInU (K : PySem.W.Frag) (neg : Bool) : R2 := fun x y H Q => rIn K neg x y H Q ∨ rInS neg x y H Q ∨ rInD neg x y H Q
def gIn := or2 (gInQ false) (or2 (gInS false) (gInD false))
def gNotIn := or2 (gInQ true) (or2 (gInS true) (gInD true))
theorem op_inU (hu : X.A.units + 1 < cLine) : OpR X (compareOp .In) (rInU X.K false) := OpR_or op_in_seq (OpR_or op_inS (op_inD hu))
theorem op_notInU (hu : X.A.units + 1 < cLine) : OpR X (compareOp .NotIn) (rInU X.K true) := OpR_or op_notIn_seq (OpR_or op_notInS (op_notInD hu))
theorem s2_in : S2 W (rInU W.K false) gIn := S2.or (s2_inQ false) (S2.or (s2_inS false) (s2_inD false))
theorem s2_notIn : S2 W (rInU W.K true) gNotIn := S2.or (s2_inQ true) (S2.or (s2_inS true) (s2_inD true))

/-! ### [ ] -/
/-- what stands in a dict at a key -/
def dAt : List Key → List D → Key → Option D
  | k :: ks, d :: ds, q => if k = q then some d else dAt ks ds q
  | _, _, _ => none
theorem dAt_val {F : Hp} : ∀ {kvs : List (Key × V)} {ds : List D} {k : Key} {d : D}, Reps W F ds (kvs.map (·.2)) → dAt (kvs.map (·.1)) ds k = some d → ∃ v, valV kvs k = some v ∧ Rep W F d v
  | [], _, _, _, _, e => by simp [dAt] at e
  | p :: r, [], _, _, q, _ => by
    have q' : _ = [] := q
    cases q'
  | p :: r, d :: ds, k, d', q, e => by
    obtain ⟨v, vr, e1, a, b⟩ := q
    rw [List.map_cons] at e1 e
    have e2 : p.2 = v := (List.cons.inj e1).1
    have e3 : r.map (·.2) = vr := (List.cons.inj e1).2
    subst e2 e3
    unfold dAt at e
    split at e
    · rename_i hk
      cases e
      exact ⟨_, valV_pos hk, a⟩
    · rename_i hk
      rw [valV_neg hk]
      exact dAt_val b e
def gIxQ : T → T → Option T := fun a b => a.sq?.bind fun ds => b.i?.bind fun i => (atI ds i).map .f
def gIxS : T → T → Option T := fun a b => a.s?.bind fun z => b.i?.bind fun i => if z.length ≤ sizeLine then (atI z.cps.toList i).map fun c => .f (.str ⟨#[c]⟩) else none
def gIxD : T → T → Option T := fun a b => a.dk?.bind fun ds => b.key?.bind fun k => (dAt ds.1 ds.2 k).map .f
/-- a part of one's own -/
def T.tsq? : T → Option (List T) | .ll ts => some ts | .tu ts => some ts | _ => none
def gIxO : T → T → Option T := fun a b => a.tsq?.bind fun ds => b.i?.bind fun i => (atI ds i).bind fun t => match t with | .un => none | t => some t
theorem RelTs.at {F H : Hp} : ∀ {ts : List T} {vs : List V} {fps : List (List Addr)} {i : Nat} {t : T}, RelTs W F H ts vs fps → ts[i]? = some t → ∃ v f, vs[i]? = some v ∧ fps[i]? = some f ∧ RelT W F H t v f
  | [], _, _, _, _, _, e => by simp at e
  | t :: ts, _, _, 0, _, r, e => by
    obtain ⟨v, vr, f, fr, e1, e2, a, b⟩ := r
    simp at e
    subst e e1 e2
    exact ⟨v, f, rfl, rfl, a⟩
  | t :: ts, _, _, i + 1, _, r, e => by
    obtain ⟨v, vr, f, fr, e1, e2, a, b⟩ := r
    subst e1 e2
    obtain ⟨u, g, h1, h2, h3⟩ := RelTs.at (i := i) b (by simpa using e)
    exact ⟨u, g, by simpa using h1, by simpa using h2, h3⟩
theorem RelTs.len {F H : Hp} : ∀ {ts : List T} {vs : List V} {fps : List (List Addr)}, RelTs W F H ts vs fps → ts.length = vs.length ∧ ts.length = fps.length
  | [], _, _, r => by
    rw [r.1, r.2]
    exact ⟨rfl, rfl⟩
  | t :: ts, _, _, r => by
    obtain ⟨v, vr, f, fr, e1, e2, a, b⟩ := r
    have q := RelTs.len b
    rw [e1, e2]
    simp only [List.length_cons]
    omega
theorem atI_map {α β : Type} {xs : List α} {ys : List β} {i : Int} {a : α} (hl : xs.length = ys.length) (h : atI xs i = some a) : ∃ j : Nat, xs[j]? = some a ∧ ∀ c, ys[j]? = some c → atI ys i = some c := by
  unfold atI at h ⊢
  obtain ⟨j, e1, e2⟩ := Option.bind_eq_some_iff.mp h
  refine ⟨j, e2, fun c e => ?_⟩
  rw [← hl, e1]
  exact e
theorem s2_ixQ : S2 W (fun x y H Q => rIxL W.K x y H Q ∨ rIxT W.K x y H Q) gIxQ := by
  intro b F ρ σ X H t1 t2 τ x y Q S r1 r2 e k
  unfold gIxQ at e
  obtain ⟨ds, e1, e⟩ := Option.bind_eq_some_iff.mp e
  obtain ⟨i, e2, e⟩ := Option.bind_eq_some_iff.mp e
  obtain ⟨d, e3, e⟩ := Option.map_eq_some_iff.mp e
  subst e
  obtain ⟨p, vs, ex, hs, q⟩ := r1.sq e1 S.le
  obtain ⟨j, h1, h2⟩ := atI_map q.len e3
  obtain ⟨v, h3, h4⟩ := q.get h1
  rcases hs with hs | hs
  · exact .inl ⟨p, vs, i, v, ex, r2.int e2, hs, h2 v h3, k.d S h4⟩
  · exact .inr ⟨p, vs, i, v, ex, r2.int e2, hs, h2 v h3, k.d S h4⟩
theorem s2_ixO : S2 W (fun x y H Q => rIxL W.K x y H Q ∨ rIxT W.K x y H Q) gIxO := by
  intro b F ρ σ X H t1 t2 τ x y Q S r1 r2 e k
  unfold gIxO at e
  obtain ⟨ds, e1, e⟩ := Option.bind_eq_some_iff.mp e
  obtain ⟨i, e2, e⟩ := Option.bind_eq_some_iff.mp e
  obtain ⟨d, e3, e⟩ := Option.bind_eq_some_iff.mp e
  have e4 : d = τ := by
    cases d <;> first | exact Option.some.inj e | cases e
  subst e4
  cases t1 with
  | ll ts =>
    cases e1
    obtain ⟨fp, p, vs, fps, ex, _, hs, q⟩ := r1
    obtain ⟨j, h1, h2⟩ := atI_map q.len.1 e3
    obtain ⟨v, f, h3, _, h4⟩ := q.at h1
    exact .inl ⟨p, vs, i, v, ex, r2.int e2, .inl (.inl hs), h2 v h3, k.here S ⟨f, h4⟩⟩
  | tu ts =>
    cases e1
    obtain ⟨fp, p, vs, fps, ex, _, hs, q⟩ := r1
    obtain ⟨j, h1, h2⟩ := atI_map q.len.1 e3
    obtain ⟨v, f, h3, _, h4⟩ := q.at h1
    exact .inr ⟨p, vs, i, v, ex, r2.int e2, .inl (.inl hs), h2 v h3, k.here S ⟨f, h4⟩⟩
  | _ => cases e1
theorem s2_ixS : S2 W rIxS gIxS := by
  intro b F ρ σ X H t1 t2 τ x y Q S r1 r2 e k
  unfold gIxS at e
  obtain ⟨z, e1, e⟩ := Option.bind_eq_some_iff.mp e
  obtain ⟨i, e2, e⟩ := Option.bind_eq_some_iff.mp e
  split at e
  · rename_i hz
    obtain ⟨c, e3, e⟩ := Option.map_eq_some_iff.mp e
    subst e
    exact ⟨z, i, c, r1.str e1, r2.int e2, hz, e3, k.d S rfl⟩
  · cases e
def rIxDk : R2 := fun x y H Q => ∃ a v, x = .ref a ∧ DGet H a y (some v) ∧ Q v H
theorem s2_ixD : S2 W rIxDk gIxD := by
  intro b F ρ σ X H t1 t2 τ x y Q S r1 r2 e k
  unfold gIxD at e
  obtain ⟨⟨ks, ds⟩, e1, e⟩ := Option.bind_eq_some_iff.mp e
  obtain ⟨i, e2, e⟩ := Option.bind_eq_some_iff.mp e
  obtain ⟨d, e3, e⟩ := Option.map_eq_some_iff.mp e
  subst e
  obtain ⟨p, kvs, ex, hs, hk, q⟩ := r1.dk e1 S.le
  subst hk
  obtain ⟨v, h1, h2⟩ := dAt_val q e3
  rw [r2.key e2]
  exact ⟨p, v, ex, .inl ⟨kvs, i, hs, rfl, h1.symm⟩, k.d S h2⟩
theorem subT {prog : Program} {w : World} {A : Around} {E : Value → Shared → Prop} {s : Shared} {value slice : Expr} {o i : Value} {T id : String} {Q : Value → Shared → Prop} (hT : s.TypeIs o T)
    (hl : typeLookup (.type T) "__getitem__" = pure (some (.builtin id))) (h : wpAny (model prog w) A (getItem o i) Q E s)
    (hs : subscripted slice false o i = operate [o, i] (getItem o i)) :
    wpAny (model prog w) A (subscriptTail value slice o i) Q E s := by
  unfold subscriptTail
  refine wpAny_bind ?_
  rw [getitemInPython_of_ne hT.not_modules]
  refine wpAny_bind (wpAny_specialOf hT hl ?_)
  have fin : wpAny (model prog w) A (subscripted slice false o i) (fun r s₃ => wpAny (model prog w) A (letTemporaryGo value o r >>= fun _ => pure r) Q E s₃) E s := by
    rw [hs]
    exact wpAny_operating (wpAny_mono h (fun r s₃ h₃ => wpAny_bind (wpAny_letTemporaryGo (wpAny_pure h₃))) fun _ _ x => x)
  first
    | exact wpAny_pure (wpAny_bind fin)
    | exact wpAny_bind (wpAny_pure (wpAny_bind fin))
    | exact wpAny_bind fin
theorem ix_dict (hu : X.A.units + 1 < cLine) : IxR X rIxDk := by
  intro value slice pins s σ H x y v u Q I rx ry h hs
  obtain ⟨a, z, rfl, g, q⟩ := h
  cases rx
  exact subT (dict_typeIs I g) PySem.F.slot_dict_getitem.lookup (d_getItem hu I g ry fun w' s' I' rw' => ⟨z, H, I', rw', q⟩) hs
def rIxU (K : PySem.W.Frag) : R2 := fun x y H Q => ((rIxL K x y H Q ∨ rIxT K x y H Q) ∨ (rIxL K x y H Q ∨ rIxT K x y H Q)) ∨ rIxS x y H Q ∨ rIxDk x y H Q
def gIx := or2 (or2 gIxQ gIxO) (or2 gIxS gIxD)
theorem ix_U (hu : X.A.units + 1 < cLine) : IxR X (rIxU X.K) := ((ix_list.or ix_tup).or (ix_list.or ix_tup)).or (ix_str.or (ix_dict hu))
theorem s2_ix : S2 W (rIxU W.K) gIx := S2.or (S2.or s2_ixQ s2_ixO) (S2.or s2_ixS s2_ixD)
end
end Z

namespace Z
open PySem L2

/-! ### things on the way, in another order -/
theorem perm_lift {W : Wd} {b : Bs} {F H : Hp} {X Y : List Tm} (p : X.Perm Y) : ∀ xps, RelTs W F H (X.map (·.t)) (X.map (·.v)) xps → LocX b X xps → ∃ yps, RelTs W F H (Y.map (·.t)) (Y.map (·.v)) yps ∧ LocX b Y yps ∧ xps.flatten.Perm yps.flatten := by
  induction p with
  | nil => exact fun xps r l => ⟨xps, r, l, .refl _⟩
  | cons x p ih =>
    rintro xps ⟨v, vr, f, fr, e1, e2, a, r⟩ l
    have e3 := (List.cons.inj e1).1
    have e4 := (List.cons.inj e1).2
    subst e2 e3 e4
    obtain ⟨yps, r', l', q⟩ := ih fr r l.2
    exact ⟨f :: yps, ⟨_, _, _, _, rfl, rfl, a, r'⟩, ⟨l.1, l'⟩, by rw [List.flatten_cons, List.flatten_cons]; exact q.append_left f⟩
  | swap x y l =>
    rintro xps ⟨v, vr, f, fr, e1, e2, a, r⟩ lx
    have e3 := (List.cons.inj e1).1
    have e4 := (List.cons.inj e1).2
    subst e2 e3
    obtain ⟨v', vr', f', fr', e5, e6, a', r'⟩ := r
    rw [← e4] at e5
    have e7 := (List.cons.inj e5).1
    have e8 := (List.cons.inj e5).2
    subst e6 e7 e8
    refine ⟨f' :: f :: fr', ⟨_, _, _, _, rfl, rfl, a', _, _, _, _, rfl, rfl, a, r'⟩, ⟨lx.2.1, lx.1, lx.2.2⟩, ?_⟩
    rw [List.flatten_cons, List.flatten_cons, List.flatten_cons, List.flatten_cons, ← List.append_assoc, ← List.append_assoc]
    exact List.perm_append_comm.append_right _
  | trans p q ih1 ih2 =>
    intro xps r l
    obtain ⟨yps, r1, l1, q1⟩ := ih1 xps r l
    obtain ⟨zps, r2, l2, q2⟩ := ih2 yps r1 l1
    exact ⟨zps, r2, l2, q1.trans q2⟩
section
variable {W : Wd} {b : Bs} {F F' : Hp} {ρ : List T} {σ : St} {X Y : List Tm} {H H' : Hp}
theorem SR.perm (S : SR W b F ρ σ X H) (p : X.Perm Y) : SR W b F ρ σ Y H := by
  obtain ⟨le, f0, fn, kept, stab, pin, fps, xps, s1, s2, ⟨nd, ow⟩, lc1, lc2⟩ := S
  obtain ⟨yps, r, l, q⟩ := perm_lift p xps s2 lc2
  have q' := q.append_left fps.flatten
  exact ⟨le, f0, fn, kept, stab, pin, fps, yps, s1, r, ⟨q'.nodup_iff.mp nd, fun a ha => ow a (q'.mem_iff.mpr ha)⟩, lc1, l⟩
theorem SR.there (S : SR W b F ρ σ X H) : ∀ {fps xps : List (List Addr)}, Slots W F H ρ σ fps → RelTs W F H (X.map (·.t)) (X.map (·.v)) xps → ∀ a ∈ fps.flatten ++ xps.flatten, ∃ o, H a = some o := fun {fps xps} s1 s2 a ha => by
  rcases List.mem_append.mp ha with z | z
  · exact Slots.there s1 a z
  · exact RelTs.there _ _ _ s2 a z
/-- the thing held last is changed at one of its places -/
theorem SR.wrX {x : Tm} {t' : T} {p : Addr} {o o' : HO} (S : SR W b F ρ σ (x :: X) H)
    (h : ∀ fp, RelT W F H x.t x.v fp → fp.Nodup → (∀ a ∈ fp, F a = none) → H p = some o ∧ Stb (GF W F) o o' ∧ p ∈ fp ∧ ∃ fp', RelT W F (upd H p o') t' x.v fp' ∧ fp'.Nodup ∧ ∀ a ∈ fp', a ∈ fp) :
    SR W b F ρ σ (⟨x.og, t', x.v⟩ :: X) (upd H p o') := by
  obtain ⟨le, f0, fn, kept, stab, pin, fps, xps, s1, s2, ⟨nd, ow⟩, lc1, lc2⟩ := S
  obtain ⟨v, vr, f, fr, e1, e2, r, r2⟩ := s2
  have e3 : x.v = v := (List.cons.inj e1).1
  have e4 : X.map (·.v) = vr := (List.cons.inj e1).2
  subst e2 e3 e4
  rw [List.flatten_cons] at nd ow
  have n := List.nodup_append.mp nd
  have n2 := List.nodup_append.mp n.2.1
  obtain ⟨hp, hst, hpf, fp', r', nd', sub⟩ := h f r n2.1 fun a ha => ow a (List.mem_append_right _ (List.mem_append_left _ ha))
  have old : b.H0 p = none ∨ p ∈ b.A := Og.old (lc2.1 p hpf)
  have st1 : ∀ a ∈ fps.flatten, upd H p o' a = H a := fun a ha => upd_ne fun e => n.2.2 a ha p (List.mem_append_left _ hpf) e
  have st2 : ∀ a ∈ fr.flatten, upd H p o' a = H a := fun a ha => upd_ne fun e => n2.2.2 p hpf a ha e.symm
  have Fp : F p = none := ow p (List.mem_append_right _ (List.mem_append_left _ hpf))
  refine ⟨fun a u e => ?_, f0, fn, fun a u e na => ?_, fun a u e ha => ?_, pin, fps, fp' :: fr, s1.mono (Inc.refl F) st1, ⟨_, _, _, _, rfl, rfl, r', RelTs.mono (Inc.refl F) _ _ _ st2 r2⟩, ⟨?_, fun a ha => ?_⟩, lc1, fun a ha => lc2.1 a (sub a ha), lc2.2⟩
  · rw [upd_ne (ne_of_none e Fp)]
    exact le a u e
  · have ne : a ≠ p := fun q => by
      subst q
      rcases old with z | z
      · rw [z] at e; cases e
      · exact na z
    rw [upd_ne ne]
    exact kept a u e na
  · obtain ⟨u1, h1, h2⟩ := stab a u e ha
    by_cases q : a = p
    · subst q
      rw [hp] at h1
      cases h1
      refine ⟨o', upd_same, Stb.trans (fun c hc => ⟨?_, hc.2.1⟩) h2 hst⟩
      cases z : F c with
      | none => rfl
      | some w =>
        obtain ⟨z1, _, w', z2⟩ := hc
        rcases fn c w z with y | y
        · rw [z1] at y; cases y
        · rw [z2] at y; cases y
    · exact ⟨u1, by rw [upd_ne q]; exact h1, h2⟩
  · rw [List.flatten_cons]
    exact List.nodup_append.mpr ⟨n.1, List.nodup_append.mpr ⟨nd', n2.2.1, fun a ha c hc e => n2.2.2 a (sub a ha) c hc e⟩, fun a ha c hc e => n.2.2 a ha c ((List.mem_append.mp hc).elim (fun z => List.mem_append_left _ (sub c z)) fun z => List.mem_append_right _ z) e⟩
  · rw [List.flatten_cons] at ha
    rcases List.mem_append.mp ha with z | z
    · exact ow a (List.mem_append_left _ z)
    · rcases List.mem_append.mp z with z | z
      · exact ow a (List.mem_append_right _ (List.mem_append_left _ (sub a z)))
      · exact ow a (List.mem_append_right _ (List.mem_append_right _ z))

/-! ### a thing of one's own becomes deep data -/
mutual
def T.fz : T → Option D
  | .un => none
  | .f d => some d
  | .l ds => some (.lst ds)
  | .dk ks ds => some (.dct ks ds)
  | .ll ts => (T.fzs ts).map .lst
  | .tu ts => (T.fzs ts).map .tup
  | .o C ns ts => (T.fzs ts).map (.obj C ns)
def T.fzs : List T → Option (List D)
  | [] => some []
  | t :: ts => (T.fz t).bind fun d => (T.fzs ts).map fun ds => d :: ds
end
mutual
theorem RelT.fz {F F' H : Hp} (hF : Inc F F') : ∀ (t : T) (v : V) (fp : List Addr) (d : D), RelT W F H t v fp → (∀ a ∈ fp, F' a = H a) → t.fz = some d → Rep W F' d v
  | .un, _, _, _, _, _, e => by unfold T.fz at e; cases e
  | .f d, _, _, _, r, _, e => by
    unfold T.fz at e
    cases e
    exact r.2.inc hF
  | .l ds, _, _, _, r, h, e => by
    unfold T.fz at e
    cases e
    obtain ⟨p, vs, e1, e2, e3, q⟩ := r
    exact ⟨p, vs, e1, .inl (.inl (by rw [h p (by rw [e2]; exact List.mem_singleton.mpr rfl)]; exact e3)), q.inc hF⟩
  | .dk ks ds, _, _, _, r, h, e => by
    unfold T.fz at e
    cases e
    obtain ⟨p, kvs, e1, e2, e3, k, q⟩ := r
    exact ⟨p, kvs, e1, .inl (by rw [h p (by rw [e2]; exact List.mem_singleton.mpr rfl)]; exact e3), k, q.inc hF⟩
  | .ll ts, _, _, _, r, h, e => by
    unfold T.fz at e
    obtain ⟨ds, e0, e⟩ := Option.map_eq_some_iff.mp e
    subst e
    obtain ⟨p, vs, fps, e1, e2, e3, q⟩ := r
    exact ⟨p, vs, e1, .inl (.inl (by rw [h p (by rw [e2]; exact List.mem_cons_self)]; exact e3)), RelTs.fz hF ts vs fps ds q (fun a ha => h a (by rw [e2]; exact List.mem_cons_of_mem _ ha)) e0⟩
  | .tu ts, _, _, _, r, h, e => by
    unfold T.fz at e
    obtain ⟨ds, e0, e⟩ := Option.map_eq_some_iff.mp e
    subst e
    obtain ⟨p, vs, fps, e1, e2, e3, q⟩ := r
    exact ⟨p, vs, e1, .inl (.inl (by rw [h p (by rw [e2]; exact List.mem_cons_self)]; exact e3)), RelTs.fz hF ts vs fps ds q (fun a ha => h a (by rw [e2]; exact List.mem_cons_of_mem _ ha)) e0⟩
  | .o C ns ts, _, _, _, r, h, e => by
    unfold T.fz at e
    obtain ⟨ds, e0, e⟩ := Option.map_eq_some_iff.mp e
    subst e
    obtain ⟨p, dx, kvs, fps, e1, e2, e3, k, q⟩ := r
    exact ⟨p, dx, kvs, e1, by rw [h p (by rw [e2]; exact List.mem_cons_self)]; exact e3, k, RelTs.fz hF ts _ fps ds q (fun a ha => h a (by rw [e2]; exact List.mem_cons_of_mem _ ha)) e0⟩
theorem RelTs.fz {F F' H : Hp} (hF : Inc F F') : ∀ (ts : List T) (vs : List V) (fps : List (List Addr)) (ds : List D), RelTs W F H ts vs fps → (∀ a ∈ fps.flatten, F' a = H a) → T.fzs ts = some ds → Reps W F' ds vs
  | [], _, _, _, r, _, e => by
    unfold T.fzs at e
    cases e
    exact r.1
  | t :: ts, _, _, _, r, h, e => by
    unfold T.fzs at e
    obtain ⟨d, e1, e⟩ := Option.bind_eq_some_iff.mp e
    obtain ⟨ds, e2, e⟩ := Option.map_eq_some_iff.mp e
    subst e
    obtain ⟨v, vr, f, fr, e3, e4, a, b⟩ := r
    subst e4
    rw [List.flatten_cons] at h
    exact ⟨v, vr, e3, RelT.fz hF t v f d a (fun x hx => h x (List.mem_append_left _ hx)) e1, RelTs.fz hF ts vr fr ds b (fun x hx => h x (List.mem_append_right _ hx)) e2⟩
end
theorem SR.frz {x : Tm} {d : D} (S : SR W b F ρ σ (x :: X) H) (ho : x.og = none) (hd : x.t.fz = some d) : ∃ F', SR W b F' ρ σ (⟨none, .f d, x.v⟩ :: X) H ∧ Inc F F' := by
  obtain ⟨le, f0, fn, kept, stab, pin, fps, xps, s1, s2, ⟨nd, ow⟩, lc1, lc2⟩ := S
  obtain ⟨v, vr, f, fr, e1, e2, r, r2⟩ := s2
  have e3 : x.v = v := (List.cons.inj e1).1
  have e4 : X.map (·.v) = vr := (List.cons.inj e1).2
  subst e2 e3 e4
  rw [List.flatten_cons] at nd ow
  have n := List.nodup_append.mp nd
  have n2 := List.nodup_append.mp n.2.1
  have there := RelT.there _ _ _ r
  have new : ∀ a ∈ f, b.H0 a = none := fun a ha => by
    rcases lc2.1 a ha with z | ⟨j, z, _⟩
    · exact z
    · rw [ho] at z; cases z
  refine ⟨fun a => if a ∈ f then H a else F a, ⟨?_, ?_, ?_, kept, stab, pin, fps, [] :: fr, s1.mono ?_ fun _ _ => rfl, ⟨_, _, _, _, rfl, rfl, ⟨rfl, RelT.fz ?_ _ _ f d r (fun a ha => if_pos ha) hd⟩, RelTs.mono ?_ _ _ _ (fun _ _ => rfl) r2⟩, ⟨?_, fun a ha => ?_⟩, lc1, fun a ha => (by cases ha), lc2.2⟩, ?_⟩
  case refine_1 =>
    intro a o e
    by_cases h : a ∈ f
    · simp only [if_pos h] at e; exact .inl e
    · simp only [if_neg h] at e; exact le a o e
  case refine_3 =>
    intro a o e
    by_cases h : a ∈ f
    · exact .inr (new a h)
    · simp only [if_neg h] at e; exact fn a o e
  case refine_7 =>
    rw [List.flatten_cons, List.nil_append]
    exact List.nodup_append.mpr ⟨n.1, n2.2.1, fun a ha c hc e => n.2.2 a ha c (List.mem_append_right _ hc) e⟩
  case refine_8 =>
    rw [List.flatten_cons, List.nil_append] at ha
    have nf : a ∉ f := fun z => by
      rcases List.mem_append.mp ha with y | y
      · exact n.2.2 a y a (List.mem_append_left _ z) rfl
      · exact n2.2.2 a z a y rfl
    simp only [if_neg nf]
    rcases List.mem_append.mp ha with y | y
    · exact ow a (List.mem_append_left _ y)
    · exact ow a (List.mem_append_right _ (List.mem_append_right _ y))
  all_goals
    have i : Inc F (fun a => if a ∈ f then H a else F a) := fun a o e => by
      by_cases h : a ∈ f
      · rw [ow a (List.mem_append_right _ (List.mem_append_left _ h))] at e; cases e
      · show (if a ∈ f then H a else F a) = some o
        rw [if_neg h]; exact e
    first
      | exact i
      | exact f0.trans i
end

/-! ### a call: the things held first are handed to it -/
/-- the things Xa on the way, behind a call that left ts' of them -/
def setTs : List Tm → List T → List Tm
  | x :: X, t :: ts => ⟨x.og, t, x.v⟩ :: setTs X ts
  | X, _ => X
theorem setTs_v : ∀ (X : List Tm) (ts : List T), (setTs X ts).map (·.v) = X.map (·.v)
  | [], _ => by unfold setTs; rfl
  | x :: X, [] => rfl
  | x :: X, t :: ts => by
    show x.v :: (setTs X ts).map (·.v) = _
    rw [setTs_v X ts]
    rfl
theorem setTs_t : ∀ (X : List Tm) (ts : List T), X.length = ts.length → (setTs X ts).map (·.t) = ts
  | [], [], _ => rfl
  | [], _ :: _, h => by cases h
  | x :: X, [], h => by cases h
  | x :: X, t :: ts, h => by
    show t :: (setTs X ts).map (·.t) = _
    rw [setTs_t X ts (by simpa using h)]
theorem LocX.set {b : Bs} : ∀ {X : List Tm} {ts : List T} {xps yps : List (List Addr)}, LocX b X xps → X.length = xps.length → X.length = yps.length → (∀ (i : Nat) (f : List Addr), yps[i]? = some f → ∀ a ∈ f, b.H0 a = none ∨ ∃ g, xps[i]? = some g ∧ a ∈ g) → LocX b (setTs X ts) yps
  | [], _, _, _, _, _, _, _ => by
    unfold setTs
    exact trivial
  | x :: X, ts, [], _, _, h, _, _ => by cases h
  | x :: X, ts, _ :: _, [], _, _, h, _ => by cases h
  | x :: X, [], f :: fs, g :: gs, l, h1, h2, h => by
    refine ⟨fun a ha => ?_, ?_⟩
    · rcases h 0 g rfl a ha with z | ⟨g', e, z⟩
      · exact .inl z
      · cases e; exact l.1 a z
    · have q := LocX.set (ts := []) (yps := gs) l.2 (by simpa using h1) (by simpa using h2) fun i f' e a ha => h (i + 1) f' (by simpa using e) a ha
      have e : setTs X [] = X := by cases X <;> rfl
      rw [e] at q
      exact q
  | x :: X, t :: ts, f :: fs, g :: gs, l, h1, h2, h => by
    refine ⟨fun a ha => ?_, ?_⟩
    · rcases h 0 g rfl a ha with z | ⟨g', e, z⟩
      · exact .inl z
      · cases e; exact l.1 a z
    · exact LocX.set l.2 (by simpa using h1) (by simpa using h2) fun i f' e a ha => h (i + 1) f' (by simpa using e) a ha
theorem LocX.append {b : Bs} : ∀ {X Y : List Tm} {xps yps : List (List Addr)}, X.length = xps.length → (LocX b (X ++ Y) (xps ++ yps) ↔ LocX b X xps ∧ LocX b Y yps)
  | [], _, [], _, _ => ⟨fun h => ⟨trivial, h⟩, fun h => h.2⟩
  | [], _, _ :: _, _, h => by cases h
  | x :: X, _, [], _, h => by cases h
  | x :: X, Y, f :: fs, yps, h => by
    have ih := LocX.append (b := b) (X := X) (Y := Y) (xps := fs) (yps := yps) (by simpa using h)
    exact ⟨fun q => ⟨⟨q.1, (ih.mp q.2).1⟩, (ih.mp q.2).2⟩, fun q => ⟨q.1.1, ih.mpr ⟨q.1.2, q.2⟩⟩⟩
theorem RelTs.split {W : Wd} {F H : Hp} : ∀ {ts us : List T} {vs ws : List V} {fps : List (List Addr)}, ts.length = vs.length → RelTs W F H (ts ++ us) (vs ++ ws) fps → ∃ f1 f2, fps = f1 ++ f2 ∧ RelTs W F H ts vs f1 ∧ RelTs W F H us ws f2
  | [], _, [], _, fps, _, r => ⟨[], fps, rfl, ⟨rfl, rfl⟩, r⟩
  | [], _, _ :: _, _, _, h, _ => by cases h
  | _ :: _, _, [], _, _, h, _ => by cases h
  | t :: ts, us, v :: vs, ws, _, h, r => by
    obtain ⟨v', vr, f, fr, e1, e2, a, b⟩ := r
    have e3 := (List.cons.inj e1).1
    have e4 := (List.cons.inj e1).2
    subst e2 e3 e4
    obtain ⟨f1, f2, e, q1, q2⟩ := RelTs.split (by simpa using h) b
    subst e
    exact ⟨f :: f1, f2, rfl, ⟨_, _, _, _, rfl, rfl, a, q1⟩, q2⟩
theorem RelTs.join {W : Wd} {F H : Hp} : ∀ {ts us : List T} {vs ws : List V} {f1 f2 : List (List Addr)}, RelTs W F H ts vs f1 → RelTs W F H us ws f2 → RelTs W F H (ts ++ us) (vs ++ ws) (f1 ++ f2)
  | [], _, _, _, _, _, r, q => by
    rw [r.1, r.2]
    exact q
  | t :: ts, _, _, _, _, _, r, q => by
    obtain ⟨v', vr, f, fr, e1, e2, a, b⟩ := r
    rw [e1, e2]
    exact ⟨_, _, _, _, rfl, rfl, a, RelTs.join b q⟩

/-- a def's entry: its arguments, each at its place -/
def bsOf (H F : Hp) (fps : List (List Addr)) (io : List Nat) (vs : List V) : Bs := ⟨H, F, fps, io.filterMap fun i => vs[i]?.map fun v => (i, v)⟩
section
variable {W : Wd} {b : Bs} {F F' : Hp} {ρ : List T} {σ : St} {X Xa : List Tm} {H H' : Hp}
theorem SR.callX {ts' : List T} {io : List Nat} {xa : List (List Addr)} {τs : List Tm} (S : SR W b F ρ σ (Xa ++ X) H) {fps xps : List (List Addr)}
    (s1 : Slots W F H ρ σ fps) (sa : RelTs W F H (Xa.map (·.t)) (Xa.map (·.v)) xa) (s2 : RelTs W F H (X.map (·.t)) (X.map (·.v)) xps) (own : Own F (fps.flatten ++ (xa ++ xps).flatten)) (lc1 : LocS b fps) (lc2 : LocX b (Xa ++ X) (xa ++ xps))
    (hτ : ∀ x ∈ τs, x.og = none)
    (R : SR W (bsOf H F xa io (Xa.map (·.v))) F' ts' ((Xa.map (·.v)).map some) τs H') : SR W b F' ρ σ (τs ++ (setTs Xa ts' ++ X)) H' := by
  have la := RelTs.lenA sa
  have lxa : Xa.length = xa.length := by have := la.2; simpa using this
  obtain ⟨le, f0, fn, kept, stab, pin, _⟩ := id S
  obtain ⟨le', f0', fn', kept', stab', _, qps, tps, r1, r2, ⟨nd', ow'⟩, lr1, lr2⟩ := R
  have lts : ts'.length = xa.length := by
    have := r1.len.1
    simp only [List.length_map] at this
    omega
  -- the callee's places
  have hA : (bsOf H F xa io (Xa.map (·.v))).A = xa.flatten := rfl
  have hflat : (xa ++ xps).flatten = xa.flatten ++ xps.flatten := List.flatten_append
  rw [hflat] at own
  obtain ⟨nd, ow⟩ := own
  have n := List.nodup_append.mp nd
  have n2 := List.nodup_append.mp n.2.1
  have lcs := (LocX.append (b := b) lxa).mp lc2
  have thereF : ∀ a ∈ fps.flatten, ∃ o, H a = some o := Slots.there s1
  have thereX : ∀ a ∈ xps.flatten, ∃ o, H a = some o := RelTs.there _ _ _ s2
  have st1 : ∀ a ∈ fps.flatten, H' a = H a := fun a ha => by
    obtain ⟨o, e⟩ := thereF a ha
    rw [e]
    exact kept' a o e fun z => n.2.2 a ha a (List.mem_append_left _ z) rfl
  have st2 : ∀ a ∈ xps.flatten, H' a = H a := fun a ha => by
    obtain ⟨o, e⟩ := thereX a ha
    rw [e]
    exact kept' a o e fun z => n2.2.2 a z a ha rfl
  -- the result's places: new, or the arguments'
  have old : ∀ a ∈ qps.flatten ++ tps.flatten, H a = none ∨ a ∈ xa.flatten := fun a ha => by
    rcases List.mem_append.mp ha with z | z
    · exact LocS.old lr1 z
    · refine LocX.old ?_ lr2 z
      have := RelTs.lenA r2
      simpa using this.2
  have newT : ∀ a ∈ tps.flatten, H a = none := by
    have key : ∀ {Y : List Tm} {yps : List (List Addr)} {bb : Bs}, Y.length = yps.length → (∀ x ∈ Y, x.og = none) → LocX bb Y yps → ∀ a ∈ yps.flatten, bb.H0 a = none := by
      intro Y
      induction Y with
      | nil =>
        intro yps bb h _ _ a ha
        cases yps with
        | nil => cases ha
        | cons _ _ => cases h
      | cons y Y ih =>
        intro yps bb h ho l a ha
        cases yps with
        | nil => cases h
        | cons f fs =>
          rw [List.flatten_cons] at ha
          rcases List.mem_append.mp ha with z | z
          · rcases l.1 a z with q | ⟨j, q, _⟩
            · exact q
            · rw [ho y List.mem_cons_self] at q; cases q
          · exact ih (by simpa using h) (fun x hx => ho x (List.mem_cons_of_mem _ hx)) l.2 a z
    exact fun a ha => key (by have := RelTs.lenA r2; simpa using this.2) hτ lr2 a ha
  have slotsT : RelTs W F' H' ts' (Xa.map (·.v)) qps := by
    have key : ∀ {ts : List T} {vs : List V} {fs : List (List Addr)}, Slots W F' H' ts (vs.map some) fs → RelTs W F' H' ts vs fs := by
      intro ts
      induction ts with
      | nil =>
        intro vs fs r
        cases vs with
        | nil => exact ⟨rfl, r.2⟩
        | cons _ _ => cases r.1
      | cons t ts ih =>
        intro vs fs r
        obtain ⟨s, sr, f, fr, e1, e2, a, r⟩ := r
        cases vs with
        | nil => cases e1
        | cons v vs =>
          have e3 : some v = s := (List.cons.inj e1).1
          have e4 : vs.map some = sr := (List.cons.inj e1).2
          subst e3 e4
          exact ⟨v, vs, f, fr, rfl, e2, a, ih r⟩
    exact key r1
  have n' := List.nodup_append.mp nd'
  have tvs : ∀ {Y : List Tm}, True := trivial
  refine ⟨le', f0.trans f0', fun a o e => ?_, fun a o e na => ?_, fun a o e ha => ?_, pin, fps, tps ++ (qps ++ xps), s1.mono f0' st1, ?_, ⟨?_, fun a ha => ?_⟩, lc1, ?_⟩
  · rcases fn' a o e with z | z
    · exact fn a o z
    · exact .inr (S.new0 z)
  · refine kept' a o (kept a o e na) fun z => ?_
    rcases LocX.old lxa lcs.1 z with q | q
    · rw [q] at e; cases e
    · exact na q
  · obtain ⟨u, h1, h2⟩ := stab a o e ha
    by_cases z : a ∈ xa.flatten
    · obtain ⟨u', h3, h4⟩ := stab' a u h1 z
      refine ⟨u', h3, Stb.trans (fun c hc => ?_) h2 h4⟩
      obtain ⟨c1, c2, w, c3⟩ := hc
      refine ⟨?_, c2, ?_⟩
      · show F c = none
        cases y : F c with
        | none => rfl
        | some w' =>
          rcases fn c w' y with q | q
          · rw [c1] at q; cases q
          · rw [c3] at q; cases q
      · by_cases q : c ∈ b.A
        · obtain ⟨w', q1, _⟩ := stab c w c3 q
          exact ⟨w', q1⟩
        · exact ⟨w, kept c w c3 q⟩
    · exact ⟨u, kept' a u h1 z, h2⟩
  · rw [List.map_append, List.map_append, List.map_append, List.map_append, setTs_v, setTs_t _ _ (by omega)]
    exact RelTs.join r2 (RelTs.join slotsT (RelTs.mono f0' _ _ _ st2 s2))
  · rw [List.flatten_append, List.flatten_append]
    have dj1 : ∀ a ∈ fps.flatten, a ∉ qps.flatten ++ tps.flatten := fun a ha z => by
      obtain ⟨o, e⟩ := thereF a ha
      rcases old a z with q | q
      · rw [q] at e; cases e
      · exact n.2.2 a ha a (List.mem_append_left _ q) rfl
    have dj2 : ∀ a ∈ xps.flatten, a ∉ qps.flatten ++ tps.flatten := fun a ha z => by
      obtain ⟨o, e⟩ := thereX a ha
      rcases old a z with q | q
      · rw [q] at e; cases e
      · exact n2.2.2 a q a ha rfl
    refine List.nodup_append.mpr ⟨n.1, List.nodup_append.mpr ⟨n'.2.1, List.nodup_append.mpr ⟨n'.1, n2.2.1, fun a ha c hc e => ?_⟩, fun a ha c hc e => ?_⟩, fun a ha c hc e => ?_⟩
    · subst e
      exact dj2 a hc (List.mem_append_left _ ha)
    · subst e
      rcases List.mem_append.mp hc with z | z
      · exact n'.2.2 a z a ha rfl
      · exact dj2 a z (List.mem_append_right _ ha)
    · subst e
      rcases List.mem_append.mp hc with z | z
      · exact dj1 a ha (List.mem_append_right _ z)
      · rcases List.mem_append.mp z with z | z
        · exact dj1 a ha (List.mem_append_left _ z)
        · exact n.2.2 a ha a (List.mem_append_right _ z) rfl
  · have unF : ∀ a, F a = none → (∃ o, H a = some o) → F' a = none := fun a h1 ⟨o, h2⟩ => by
      cases y : F' a with
      | none => rfl
      | some w =>
        rcases fn' a w y with q | q
        · have q' : F a = some w := q
          rw [h1] at q'; cases q'
        · have q' : H a = none := q
          rw [h2] at q'; cases q'
    rw [List.flatten_append, List.flatten_append] at ha
    rcases List.mem_append.mp ha with z | z
    · exact unF a (ow a (List.mem_append_left _ z)) (thereF a z)
    · rcases List.mem_append.mp z with z | z
      · exact ow' a (List.mem_append_right _ z)
      · rcases List.mem_append.mp z with z | z
        · exact ow' a (List.mem_append_left _ z)
        · exact unF a (ow a (List.mem_append_right _ (List.mem_append_right _ z))) (thereX a z)
  · have l3 : τs.length = tps.length := by have := RelTs.lenA r2; simpa using this.2
    refine (LocX.append l3).mpr ⟨?_, (LocX.append ?_).mpr ⟨LocX.set lcs.1 lxa ?_ fun i f e a ha => ?_, lcs.2⟩⟩
    · have key : ∀ {Y : List Tm} {yps : List (List Addr)}, Y.length = yps.length → (∀ a ∈ yps.flatten, H a = none) → LocX b Y yps := by
        intro Y
        induction Y with
        | nil =>
          intro yps h _
          exact trivial
        | cons y Y ih =>
          intro yps h hn
          cases yps with
          | nil => exact trivial
          | cons f fs =>
            rw [List.flatten_cons] at hn
            exact ⟨fun a ha => .inl (S.new0 (hn a (List.mem_append_left _ ha))), ih (by simpa using h) fun a ha => hn a (List.mem_append_right _ ha)⟩
      exact key l3 newT
    · have h1 : (setTs Xa ts').length = Xa.length := by have := congrArg List.length (setTs_v Xa ts'); simpa using this
      rw [h1, lxa]
      have := r1.len.2
      omega
    · have := r1.len.2
      omega
    · rcases lr1 i f e a ha with z | ⟨g, e', z⟩
      · exact .inl (S.new0 z)
      · exact .inr ⟨g, e', z⟩
end
end Z

namespace Z
open PySem L2

/-- what an expression comes to: a value, or an exception of a class of the program; the slots behind it -/
inductive Re where
  | ok (t : T) (ρ : List T)
  | xc (C : Nat) (ρ : List T)
def Bok (P : Sg) (b : Bs) : Prop := b.As.length = P.m ∧ b.io.map (·.1) = P.io
def Post (W : Wd) (b : Bs) (F : Hp) (σ : St) (X : List Tm) (Q : VK) (E : St → XK) : Re → Prop
  | .ok τ ρ => ∀ v F' H', SR W b F' ρ σ (⟨none, τ, v⟩ :: X) H' → Inc F F' → Q v H'
  | .xc C ρ => ∀ d F' H', SR W b F' ρ σ X H' → Inc F F' → E σ (.ref (W.cl C)) d H'
def So (W : Wd) (P : Sg) (E : St → XK) (t : TE) (f : List T → Option Re) : Prop :=
  ∀ b F ρ σ X H r Q, Bok P b → SR W b F ρ σ X H → f ρ = some r → Post W b F σ X Q E r → t σ H Q
def Eo (c : Ctx) (e : Expr) (f : List T → Option Re) : Prop := ∃ t, (∀ j, PE (c.X j) e t) ∧ So c.W c.P c.E t f
theorem Post.mono {W : Wd} {b : Bs} {F F1 : Hp} {σ : St} {X : List Tm} {Q : VK} {E : St → XK} {r : Re} (h : Post W b F σ X Q E r) (i : Inc F F1) : Post W b F1 σ X Q E r := by
  cases r with
  | ok τ ρ => exact fun v F' H' S i' => h v F' H' S (i.trans i')
  | xc C ρ => exact fun d F' H' S i' => h d F' H' S (i.trans i')

/-! ### pure things as such -/
def lift (f : List T → Option T) : List T → Option Re := fun ρ => (f ρ).bind fun t => t.d?.map fun d => .ok (.f d) ρ
theorem d_some {t : T} {d : D} (h : t.d? = some d) : t = .f d := by
  cases t with
  | f d' => cases h; rfl
  | _ => cases h
section
variable {c : Ctx} {e : Expr} {f : List T → Option T} {fo : List T → Option Re}
theorem so_lift {W : Wd} {P : Sg} {E : St → XK} {t : TE} (h : Sv W t f) : So W P E t (lift f) := by
  intro b F ρ σ X H r Q _ S e p
  unfold lift at e
  obtain ⟨τ, e1, e⟩ := Option.bind_eq_some_iff.mp e
  obtain ⟨d, e2, e⟩ := Option.map_eq_some_iff.mp e
  subst e
  rw [d_some e2] at e1
  exact h b F ρ σ X H _ Q S e1 fun v F' H' S' i s r => p v F' H' (S'.push r.rep) i
theorem Ev.o (h : Ev c e f) : Eo c e (lift f) := by
  obtain ⟨t, p, s⟩ := h
  exact ⟨t, p, so_lift s⟩
/-- a name's thing of its own is moved away (a name that is no parameter) -/
def fMv (i : Nat) : List T → Option Re := fun ρ => match ρ[i]? with
  | some .un => none
  | some t => some (.ok t (ρ.set i .un))
  | none => none
theorem eo_mv {i : Nat} {x : Str} {pos : Pos} (hi : c.N[i]? = some x) (hv : ∀ j, Vis (c.X j).env.scope x) (hm : c.P.m ≤ i) (hd : (x == ("__debug__" : Str)) = false := by decide) (hcd : (x == ("__classdict__" : Str)) = false := by decide) : Eo c (.Name x pos) (fMv i) := by
  refine ⟨_, fun j => pe_var (i := i) (by rw [c.hN j]; exact hi) (hv j) hd hcd, ?_⟩
  intro b F ρ σ X H r Q hb S e p
  unfold fMv at e
  cases q : ρ[i]? with
  | none => rw [q] at e; cases e
  | some t =>
    have ht : t ≠ .un := by
      rintro rfl
      rw [q] at e
      cases e
    have e2 : r = .ok t (ρ.set i .un) := by
      rw [q] at e
      cases t with
      | un => exact absurd rfl ht
      | _ => exact (Option.some.inj e).symm
    subst e2
    obtain ⟨s, fp, e1, r⟩ := S.slot q
    cases s with
    | none => exact absurd r.1 ht
    | some v =>
      have S' := S.take q e1
      refine ⟨v, e1, p v F H ?_ (Inc.refl F)⟩
      -- it is new
      obtain ⟨le, f0, fn, kept, stab, pin, fps, xps, s1, s2, ow, lc1, lc2⟩ := S'
      refine ⟨le, f0, fn, kept, stab, pin, fps, xps, s1, s2, ow, lc1, ?_⟩
      cases xps with
      | nil => exact trivial
      | cons f fs =>
        refine ⟨fun a ha => ?_, lc2.2⟩
        rcases lc2.1 a ha with z | ⟨j, ej, z⟩
        · exact .inl z
        · cases ej
          rcases z with z | ⟨g, eg, _⟩
          · exact .inl z
          · have := (List.getElem?_eq_some_iff.mp eg).1
            rw [hb.1] at this
            omega
/-- a thing of one's own becomes deep data -/
def fFz (f : List T → Option Re) : List T → Option Re := fun ρ => (f ρ).bind fun r => match r with
  | .ok t ρ' => t.fz.map fun d => .ok (.f d) ρ'
  | r => some r
theorem eo_fz (h : Eo c e fo) : Eo c e (fFz fo) := by
  obtain ⟨t, p, s⟩ := h
  refine ⟨t, p, ?_⟩
  intro b F ρ σ X H r Q hb S e k
  unfold fFz at e
  obtain ⟨r', e1, e⟩ := Option.bind_eq_some_iff.mp e
  refine s b F ρ σ X H r' Q hb S e1 ?_
  cases r' with
  | ok t ρ' =>
    obtain ⟨d, e2, e⟩ := Option.map_eq_some_iff.mp e
    subst e
    intro v F' H' S' i
    obtain ⟨F2, S2, i2⟩ := S'.frz rfl e2
    exact k v F2 H' S2 (i.trans i2)
  | xc C ρ' =>
    cases e
    exact k
end

/-! ### arguments -/
/-- a value, or what a slot holds (handed over for the call) -/
inductive Ar where
  | v (t : T)
  | s (j : Nat)
inductive Rs where
  | ok (as : List Ar) (ρ : List T)
  | xc (C : Nat) (ρ : List T)
def Xv : List Ar → List V → List Tm
  | .v t :: r, v :: vs => ⟨none, t, v⟩ :: Xv r vs
  | .s _ :: r, _ :: vs => Xv r vs
  | _, _ => []
def Args (σ : St) : List Ar → List V → Prop
  | [], vs => vs = []
  | .v _ :: r, vs => ∃ v vr, vs = v :: vr ∧ Args σ r vr
  | .s j :: r, vs => ∃ v vr, vs = v :: vr ∧ σ[j]? = some (some v) ∧ Args σ r vr
def PostA (W : Wd) (b : Bs) (F : Hp) (σ : St) (X : List Tm) (Q : List V → Hp → Prop) (E : St → XK) : Rs → Prop
  | .ok as ρ => ∀ vs F' H', SR W b F' ρ σ (Xv as vs ++ X) H' → Args σ as vs → Inc F F' → Q vs H'
  | .xc C ρ => ∀ d F' H', SR W b F' ρ σ X H' → Inc F F' → E σ (.ref (W.cl C)) d H'
def Sa (W : Wd) (P : Sg) (E : St → XK) (t : TA) (f : List T → Option Rs) : Prop :=
  ∀ b F ρ σ X H r Q, Bok P b → SR W b F ρ σ X H → f ρ = some r → PostA W b F σ X Q E r → t σ H Q
def Ao (c : Ctx) (es : List Expr) (f : List T → Option Rs) : Prop := ∃ t, (∀ j, PA (c.X j) es t) ∧ Sa c.W c.P c.E t f
def bNil : List T → Option Rs := fun ρ => some (.ok [] ρ)
def bCons (f : List T → Option Re) (g : List T → Option Rs) : List T → Option Rs := fun ρ => (f ρ).bind fun r => match r with
  | .ok t ρ1 => (g ρ1).map fun r => match r with
    | .ok as ρ2 => .ok (.v t :: as) ρ2
    | r => r
  | .xc C ρ1 => some (.xc C ρ1)
def bSlot0 (i : Nat) (g : List T → Option Rs) : List T → Option Rs := fun ρ => (g ρ).map fun r => match r with
    | .ok as ρ2 => .ok (.s i :: as) ρ2
    | r => r
def bSlot (i : Nat) (g : List T → Option Rs) : List T → Option Rs := fun ρ => match ρ[i]? with
  | none => none
  | some .un => none
  | some _ => bSlot0 i g ρ
section
variable {c : Ctx} {a : Expr} {es : List Expr} {fo : List T → Option Re} {fs : List T → Option Rs}
theorem ao_nil : Ao c [] bNil := by
  refine ⟨_, fun _ => pa_nil, ?_⟩
  intro b F ρ σ X H r Q hb S e p
  cases e
  exact p [] F H S rfl (Inc.refl F)
theorem xc_drop {W : Wd} {b : Bs} {F : Hp} {ρ : List T} {σ : St} {Y X : List Tm} {H : Hp} (S : SR W b F ρ σ (Y ++ X) H) : SR W b F ρ σ X H := by
  induction Y with
  | nil => exact S
  | cons y Y ih => exact ih S.drop
theorem ao_cons (ha : Eo c a fo) (hr : Ao c es fs) (hs : ∀ j, starEach (a :: es) (c.X j).env = (false, eval a (c.X j).env) :: starEach es (c.X j).env := by intro _; rfl) : Ao c (a :: es) (bCons fo fs) := by
  obtain ⟨t, p, s⟩ := ha
  obtain ⟨u, q, s'⟩ := hr
  refine ⟨_, fun j => pa_cons (p j) (q j) (hs j), ?_⟩
  intro b F ρ σ X H r Q hb S e k
  unfold bCons at e
  obtain ⟨r1, e1, e⟩ := Option.bind_eq_some_iff.mp e
  refine s b F ρ σ X H r1 _ hb S e1 ?_
  cases r1 with
  | ok τ ρ1 =>
    obtain ⟨r2, e2, e⟩ := Option.map_eq_some_iff.mp e
    intro v F1 H1 S1 i1
    refine s' b F1 ρ1 σ (⟨none, τ, v⟩ :: X) H1 r2 _ hb S1 e2 ?_
    cases r2 with
    | ok as ρ2 =>
      subst e
      intro vs F2 H2 S2 g2 i2
      exact k (v :: vs) F2 H2 (S2.perm (List.perm_middle)) ⟨v, vs, rfl, g2⟩ (i1.trans i2)
    | xc C ρ2 =>
      subst e
      intro d F2 H2 S2 i2
      exact k d F2 H2 S2.drop (i1.trans i2)
  | xc C ρ1 =>
    cases e
    exact k
/-- a name's thing, handed over for the call -/
theorem ao_slot {i : Nat} {x : Str} {pos : Pos} (hi : c.N[i]? = some x) (hv : ∀ j, Vis (c.X j).env.scope x) (hr : Ao c es fs) (hs : ∀ j, starEach (.Name x pos :: es) (c.X j).env = (false, eval (.Name x pos) (c.X j).env) :: starEach es (c.X j).env := by intro _; rfl)
    (hd : (x == ("__debug__" : Str)) = false := by decide) (hcd : (x == ("__classdict__" : Str)) = false := by decide) : Ao c (.Name x pos :: es) (bSlot i fs) := by
  obtain ⟨u, q, s'⟩ := hr
  refine ⟨_, fun j => pa_cons (pe_var (i := i) (by rw [c.hN j]; exact hi) (hv j) hd hcd) (q j) (hs j), ?_⟩
  intro b F ρ σ X H r Q hb S e k
  unfold bSlot at e
  cases z : ρ[i]? with
  | none => rw [z] at e; cases e
  | some t =>
    have ht : t ≠ .un := by
      rintro rfl
      rw [z] at e
      cases e
    have e2 : bSlot0 i fs ρ = some r := by
      rw [z] at e
      cases t with
      | un => exact absurd rfl ht
      | _ => exact e
    unfold bSlot0 at e2
    obtain ⟨r2, e3, e4⟩ := Option.map_eq_some_iff.mp e2
    obtain ⟨s, fp, e1, rr⟩ := S.slot z
    cases s with
    | none => exact absurd rr.1 ht
    | some v =>
      refine ⟨v, e1, s' b F ρ σ X H r2 _ hb S e3 ?_⟩
      cases r2 with
      | ok as ρ2 =>
        subst e4
        intro vs F2 H2 S2 g2 i2
        exact k (v :: vs) F2 H2 S2 ⟨v, vs, rfl, e1, g2⟩ i2
      | xc C ρ2 =>
        subst e4
        exact k
/-- what the slots hold is taken out, the arguments lie in order -/
def takeF : List Ar → List T → Option (List T × List T)
  | [], ρ => some ([], ρ)
  | .v t :: r, ρ => (takeF r ρ).map fun p => (t :: p.1, p.2)
  | .s j :: r, ρ => match ρ[j]? with
    | none => none
    | some .un => none
    | some t => (takeF r (ρ.set j .un)).map fun p => (t :: p.1, p.2)
def Xo : List Ar → List T → List V → List Tm
  | .v _ :: r, t :: ts, v :: vs => ⟨none, t, v⟩ :: Xo r ts vs
  | .s j :: r, t :: ts, v :: vs => ⟨some j, t, v⟩ :: Xo r ts vs
  | _, _, _ => []
/-- .. and put back -/
def putF : List Ar → List T → List T → List T
  | .v _ :: r, _ :: ts, ρ => putF r ts ρ
  | .s j :: r, t :: ts, ρ => putF r ts (ρ.set j t)
  | _, _, ρ => ρ
theorem take_ok {W : Wd} {b : Bs} {F : Hp} {σ : St} {H : Hp} : ∀ {as : List Ar} {vs : List V} {ρ ρ' : List T} {ts : List T} {Y : List Tm}, SR W b F ρ σ (Xv as vs ++ Y) H → Args σ as vs → takeF as ρ = some (ts, ρ') →
    SR W b F ρ' σ (Xo as ts vs ++ Y) H ∧ (Xo as ts vs).map (·.t) = ts ∧ (Xo as ts vs).map (·.v) = vs
  | [], _, _, _, _, _, S, g, e => by
    cases e
    have g' : _ = [] := g
    subst g'
    exact ⟨S, rfl, rfl⟩
  | .v t :: r, _, ρ, _, _, Y, S, g, e => by
    obtain ⟨v, vr, e1, g⟩ := g
    subst e1
    obtain ⟨p, e2, e⟩ := Option.map_eq_some_iff.mp (show (takeF r ρ).map _ = _ from e)
    cases e
    obtain ⟨S', h1, h2⟩ := take_ok (Y := ⟨none, t, v⟩ :: Y) (S.perm List.perm_middle.symm) g e2
    exact ⟨S'.perm List.perm_middle, by show t :: _ = _; rw [h1], by show v :: _ = _; rw [h2]⟩
  | .s j :: r, _, ρ, ρz, tsz, Y, S, g, e => by
    obtain ⟨v, vr, e1, hv, g⟩ := g
    subst e1
    unfold takeF at e
    cases z : ρ[j]? with
    | none => rw [z] at e; cases e
    | some t =>
      have ht : t ≠ .un := by
        rintro rfl
        rw [z] at e
        cases e
      have e3 : (takeF r (ρ.set j .un)).map (fun p => (t :: p.1, p.2)) = some (tsz, ρz) := by
        rw [z] at e
        cases t with
        | un => exact absurd rfl ht
        | _ => exact e
      obtain ⟨p, e2, e⟩ := Option.map_eq_some_iff.mp e3
      cases e
      have S1 := S.take z hv
      obtain ⟨S', h1, h2⟩ := take_ok (as := r) (vs := vr) (Y := ⟨some j, t, v⟩ :: Y) (S1.perm List.perm_middle.symm) g e2
      exact ⟨S'.perm List.perm_middle, by show t :: _ = _; rw [h1], by show v :: _ = _; rw [h2]⟩
theorem put_ok {W : Wd} {b : Bs} {F : Hp} {σ : St} {H : Hp} : ∀ {as : List Ar} {vs : List V} {ρ : List T} {ts us : List T} {Z Y : List Tm}, SR W b F ρ σ (Z ++ (setTs (Xo as ts vs) us ++ Y)) H → Args σ as vs → ts.length = as.length → us.length = as.length → SR W b F (putF as us ρ) σ (Z ++ Y) H
  | [], _, _, [], [], _, _, S, _, _, _ => S
  | [], _, _, _ :: _, _, _, _, _, _, h, _ => by cases h
  | [], _, _, [], _ :: _, _, _, _, _, _, h => by cases h
  | _ :: _, _, _, [], _, _, _, _, _, h, _ => by cases h
  | _ :: _, _, _, _ :: _, [], _, _, _, _, _, h => by cases h
  | .v t :: r, _, ρ, t1 :: ts, u :: us, Z, Y, S, g, h1, h2 => by
    obtain ⟨v, vr, e1, g⟩ := g
    subst e1
    have S' : SR W b F ρ σ (Z ++ (⟨none, u, v⟩ :: (setTs (Xo r ts vr) us ++ Y))) H := S
    exact put_ok (as := r) (S'.perm List.perm_middle).drop g (by simpa using h1) (by simpa using h2)
  | .s j :: r, _, ρ, t1 :: ts, u :: us, Z, Y, S, g, h1, h2 => by
    obtain ⟨v, vr, e1, hv, g⟩ := g
    subst e1
    have S' : SR W b F ρ σ (Z ++ (⟨some j, u, v⟩ :: (setTs (Xo r ts vr) us ++ Y))) H := S
    exact put_ok (as := r) ((S'.perm List.perm_middle).back hv) g (by simpa using h1) (by simpa using h2)
theorem take_len : ∀ {as : List Ar} {ρ ρ' ts : List T}, takeF as ρ = some (ts, ρ') → ts.length = as.length
  | [], _, _, _, e => by cases e; rfl
  | .v t :: r, ρ, _, _, e => by
    obtain ⟨p, e2, e⟩ := Option.map_eq_some_iff.mp (show (takeF r ρ).map _ = _ from e)
    cases e
    simp [take_len e2]
  | .s j :: r, ρ, _, _, e => by
    unfold takeF at e
    split at e
    · cases e
    · cases e
    · obtain ⟨p, e2, e⟩ := Option.map_eq_some_iff.mp e
      cases e
      simp [take_len e2]
end

/-! ### the promise of a def -/
def isF : T → Bool | .f _ => true | _ => false
/-- parameters that are not handed back are deep -/
def ioOk (io : List Nat) : Nat → List T → Bool
  | _, [] => true
  | i, t :: ts => (io.contains i || isF t) && ioOk io (i + 1) ts
def spF (W : Wd) (io : List Nat) (G : List T → Option Re) : Sp := fun vs H Q E => ∃ F ts fps r, Le F H ∧ RelTs W F H ts vs fps ∧ Own F fps.flatten ∧ ioOk io 0 ts = true ∧ G ts = some r ∧
  match r with
  | .ok τ us => ∀ v F' H', SR W (bsOf H F fps io vs) F' us (vs.map some) [⟨none, τ, v⟩] H' → Inc F F' → Q v H'
  | .xc C us => ∀ d F' H', SR W (bsOf H F fps io vs) F' us (vs.map some) [] H' → Inc F F' → E (.ref (W.cl C)) d H'

theorem SR.call {W : Wd} {b : Bs} {F : Hp} {ρ : List T} {σ : St} {Xa X : List Tm} {H : Hp} (S : SR W b F ρ σ (Xa ++ X) H) : ∃ xa, RelTs W F H (Xa.map (·.t)) (Xa.map (·.v)) xa ∧ Own F xa.flatten ∧
    ∀ io us F' τs H', (∀ x ∈ τs, x.og = none) → SR W (bsOf H F xa io (Xa.map (·.v))) F' us ((Xa.map (·.v)).map some) τs H' → SR W b F' ρ σ (τs ++ (setTs Xa us ++ X)) H' := by
  have S0 := S
  obtain ⟨le, f0, fn, kept, stab, pin, fps, xps, s1, s2, ⟨nd, ow⟩, lc1, lc2⟩ := S
  rw [List.map_append, List.map_append] at s2
  obtain ⟨xa, xr, e, q1, q2⟩ := RelTs.split (by simp) s2
  subst e
  rw [List.flatten_append] at nd ow
  have n := List.nodup_append.mp nd
  have n2 := List.nodup_append.mp n.2.1
  refine ⟨xa, q1, ⟨n2.1, fun a ha => ow a (List.mem_append_right _ (List.mem_append_left _ ha))⟩, fun io us F' τs H' hτ R => ?_⟩
  exact SR.callX S0 s1 q1 q2 ⟨by rw [List.flatten_append]; exact nd, fun a ha => ow a (by rw [List.flatten_append] at ha; exact ha)⟩ lc1 lc2 hτ R

def fCall (io : List Nat) (G : List T → Option Re) (fs : List T → Option Rs) : List T → Option Re := fun ρ => (fs ρ).bind fun r => match r with
  | .xc C ρ1 => some (.xc C ρ1)
  | .ok as ρ1 => (takeF as ρ1).bind fun p => if ioOk io 0 p.1 = true then (G p.1).bind fun r => match r with
    | .ok τ us => if us.length = as.length then some (.ok τ (putF as us p.2)) else none
    | .xc C us => if us.length = as.length then some (.xc C (putF as us p.2)) else none
    else none
theorem so_call {W : Wd} {P : Sg} {E : St → XK} {E' : XK} {t : TA} {io : List Nat} {G : List T → Option Re} {fs : List T → Option Rs} (hE : ∀ σ, E σ = E') (h : Sa W P E t fs) : So W P E (tCall (spF W io G) [] E' t) (fCall io G fs) := by
  intro b F ρ σ X H r Q hb S e k
  unfold fCall at e
  obtain ⟨r1, e1, e⟩ := Option.bind_eq_some_iff.mp e
  refine h b F ρ σ X H r1 _ hb S e1 ?_
  cases r1 with
  | xc C ρ1 =>
    cases e
    exact k
  | ok as ρ1 =>
    intro vs F1 H1 S1 g1 i1
    obtain ⟨⟨ts, ρ2⟩, e2, e⟩ := Option.bind_eq_some_iff.mp e
    obtain ⟨S2, h1, h2⟩ := take_ok S1 g1 e2
    split at e
    · rename_i hio
      obtain ⟨r2, e3, e⟩ := Option.bind_eq_some_iff.mp e
      obtain ⟨xa, q1, q2, q3⟩ := S2.call
      rw [h1, h2] at q1
      rw [h2] at q3
      rw [List.append_nil]
      refine ⟨F1, ts, xa, r2, S2.le, q1, q2, hio, e3, ?_⟩
      cases r2 with
      | ok τ us =>
        intro v F' H' R i2
        simp only at e
        split at e
        · rename_i hl
          cases e
          have S3 := q3 io us F' _ H' (fun x hx => by rw [List.mem_singleton.mp hx]) R
          exact k v F' H' (put_ok S3 g1 (take_len e2) hl) (i1.trans i2)
        · cases e
      | xc C us =>
        intro d F' H' R i2
        simp only at e
        split at e
        · rename_i hl
          cases e
          have S3 := q3 io us F' _ H' (fun x hx => by cases hx) R
          have S4 := put_ok (Z := []) S3 g1 (take_len e2) hl
          have := k d F' H' S4 (i1.trans i2)
          rw [hE σ] at this
          exact this
        · cases e
    · cases e
end Z

namespace Z
open PySem L2

inductive Out where
  | nx (ρ : List T)
  | rt (t : T) (ρ : List T)
  | bk (ρ : List T)
  | ct (ρ : List T)
  | xc (C : Nat) (ρ : List T)
def PostS (W : Wd) (b : Bs) (F : Hp) (X : List Tm) (D : Ends) (E : St → XK) : Out → Prop
  | .nx ρ => ∀ σ F' H, SR W b F' ρ σ X H → Inc F F' → D.nx σ H
  | .rt t ρ => ∀ v σ F' H, SR W b F' ρ σ (⟨none, t, v⟩ :: X) H → Inc F F' → D.rt v H
  | .bk ρ => ∀ σ F' H, SR W b F' ρ σ X H → Inc F F' → D.bk σ H
  | .ct ρ => ∀ σ F' H, SR W b F' ρ σ X H → Inc F F' → D.ct σ H
  | .xc C ρ => ∀ d σ F' H, SR W b F' ρ σ X H → Inc F F' → E σ (.ref (W.cl C)) d H
theorem PostS.mono {W : Wd} {b : Bs} {F F1 : Hp} {X : List Tm} {D : Ends} {E : St → XK} {o : Out} (h : PostS W b F X D E o) (i : Inc F F1) : PostS W b F1 X D E o := by
  cases o with
  | nx ρ => exact fun σ F' H S i' => h σ F' H S (i.trans i')
  | rt t ρ => exact fun v σ F' H S i' => h v σ F' H S (i.trans i')
  | bk ρ => exact fun σ F' H S i' => h σ F' H S (i.trans i')
  | ct ρ => exact fun σ F' H S i' => h σ F' H S (i.trans i')
  | xc C ρ => exact fun d σ F' H S i' => h d σ F' H S (i.trans i')
abbrev FS := List T → Option Out
def Ss (W : Wd) (P : Sg) (E : St → XK) (t : TS) (f : FS) : Prop :=
  ∀ b F ρ σ X H o D, Bok P b → SR W b F ρ σ X H → f ρ = some o → PostS W b F X D E o → t D σ H
def Sm (c : Ctx) (s : Stmt) (f : FS) : Prop := ∃ t, (∀ j, PS (c.X j) s t) ∧ Ss c.W c.P c.E t f
def Sms (c : Ctx) (s : List Stmt) (f : FS) : Prop := ∃ t, (∀ j, PSs (c.X j) s t) ∧ Ss c.W c.P c.E t f

section
variable {c : Ctx} {s : Stmt} {ss : List Stmt} {f g : FS} {e : Expr} {fo : List T → Option Re} {pos pos' : Pos}
def sNil : FS := fun ρ => some (.nx ρ)
def sSeq (f g : FS) : FS := fun ρ => (f ρ).bind fun o => match o with
  | .nx ρ1 => g ρ1
  | o => some o
theorem sms_nil : Sms c [] sNil := by
  refine ⟨_, fun _ => pss_nil, ?_⟩
  intro b F ρ σ X H o D hb S e p
  cases e
  exact p σ F H S (Inc.refl F)
theorem sms_one (h : Sm c s f) : Sms c [s] f := by
  obtain ⟨t, p, q⟩ := h
  exact ⟨t, fun j => pss_one (p j), q⟩
theorem sms_cons (h : Sm c s f) (k : Sms c ss g) : Sms c (s :: ss) (sSeq f g) := by
  obtain ⟨t, p, q⟩ := h
  obtain ⟨u, p', q'⟩ := k
  refine ⟨_, fun j => pss_cons (p j) (p' j), ?_⟩
  intro b F ρ σ X H o D hb S e k
  unfold sSeq at e
  obtain ⟨o1, e1, e⟩ := Option.bind_eq_some_iff.mp e
  refine q b F ρ σ X H o1 _ hb S e1 ?_
  cases o1 with
  | nx ρ1 => exact fun σ' F' H' S' i => q' b F' ρ1 σ' X H' o D hb S' e (k.mono i)
  | rt t ρ1 => cases e; exact k
  | bk ρ1 => cases e; exact k
  | ct ρ1 => cases e; exact k
  | xc C ρ1 => cases e; exact k
theorem sm_pass : Sm c (.Pass pos) sNil := by
  refine ⟨_, fun _ => ps_pass, ?_⟩
  intro b F ρ σ X H o D hb S e p
  cases e
  exact p σ F H S (Inc.refl F)
def sBk : FS := fun ρ => some (.bk ρ)
def sCt : FS := fun ρ => some (.ct ρ)
theorem sm_break : Sm c (.Break pos) sBk := by
  refine ⟨_, fun _ => ps_break, ?_⟩
  intro b F ρ σ X H o D hb S e p
  cases e
  exact p σ F H S (Inc.refl F)
theorem sm_cont : Sm c (.Continue pos) sCt := by
  refine ⟨_, fun _ => ps_continue, ?_⟩
  intro b F ρ σ X H o D hb S e p
  cases e
  exact p σ F H S (Inc.refl F)
/-- name = value -/
def sSet (i : Nat) (f : List T → Option Re) : FS := fun ρ => (f ρ).map fun r => match r with
  | .ok t ρ1 => .nx (ρ1.set i t)
  | .xc C ρ1 => .xc C ρ1
theorem notio {P : Sg} {b : Bs} {i : Nat} (hb : Bok P b) (h : i ∉ P.io) : ∀ p ∈ b.io, p.1 ≠ i := fun p hp e => h (by rw [← hb.2, ← e]; exact List.mem_map_of_mem hp)
theorem sm_set {i : Nat} {x : Str} (he : Eo c e fo) (hi : c.N[i]? = some x) (hx : ∀ j, L2.Loc (c.X j).env.scope x) (hio : i ∉ c.P.io) (hs : ∀ j, swapsWith e (some (.Name x pos')) pos.line (c.X j).env = pure false)
    (hf : ∀ j, (c.X j).fn x = true ∨ (c.X j).env.scope.names.lookup x = some .local) : Sm c (.Assign [.Name x pos'] e pos) (sSet i fo) := by
  obtain ⟨t, p, q⟩ := he
  refine ⟨_, fun j => ps_set (i := i) (c.hNd j) (by rw [c.hN j]; exact hi) (hx j) (p j) (hs j) (hf j), ?_⟩
  intro b F ρ σ X H o D hb S e k
  unfold sSet at e
  obtain ⟨r, e1, e⟩ := Option.map_eq_some_iff.mp e
  refine q b F ρ σ X H r _ hb S e1 ?_
  cases r with
  | ok τ ρ1 =>
    subst e
    exact fun v F' H' S' i' => k _ _ _ (S'.store (.inl rfl) (.inl (notio hb hio))) i'
  | xc C ρ1 =>
    subst e
    exact fun d F' H' S' i' => k d σ F' H' S' i'
/-- an expression whose value is dropped -/
def sExpr (f : List T → Option Re) : FS := fun ρ => (f ρ).map fun r => match r with
  | .ok t ρ1 => .nx ρ1
  | .xc C ρ1 => .xc C ρ1
theorem sm_expr (he : Eo c e fo) (hs : ∀ j, swapsWith e none pos.line (c.X j).env = pure false := by intro _; rfl) : Sm c (.Expr e pos) (sExpr fo) := by
  obtain ⟨t, p, q⟩ := he
  refine ⟨_, fun j => ps_expr (p j) (hs j), ?_⟩
  intro b F ρ σ X H o D hb S e k
  unfold sExpr at e
  obtain ⟨r, e1, e⟩ := Option.map_eq_some_iff.mp e
  refine q b F ρ σ X H r _ hb S e1 ?_
  cases r with
  | ok τ ρ1 =>
    subst e
    exact fun v F' H' S' i' => k _ _ _ S'.drop i'
  | xc C ρ1 =>
    subst e
    exact fun d F' H' S' i' => k d σ F' H' S' i'
def sRet (f : List T → Option Re) : FS := fun ρ => (f ρ).map fun r => match r with
  | .ok t ρ1 => .rt t ρ1
  | .xc C ρ1 => .xc C ρ1
theorem sm_ret (he : Eo c e fo) : Sm c (.Return (some e) pos) (sRet fo) := by
  obtain ⟨t, p, q⟩ := he
  refine ⟨_, fun j => ps_ret (p j), ?_⟩
  intro b F ρ σ X H o D hb S e k
  unfold sRet at e
  obtain ⟨r, e1, e⟩ := Option.map_eq_some_iff.mp e
  refine q b F ρ σ X H r _ hb S e1 ?_
  cases r with
  | ok τ ρ1 =>
    subst e
    exact fun v F' H' S' i' => k v σ F' H' S' i'
  | xc C ρ1 =>
    subst e
    exact fun d F' H' S' i' => k d σ F' H' S' i'
def sRetN : FS := fun ρ => some (.rt (.f .non) ρ)
theorem sm_retN : Sm c (.Return none pos) sRetN := by
  refine ⟨_, fun _ => ps_retN, ?_⟩
  intro b F ρ σ X H o D hb S e p
  cases e
  exact p .non σ F H (S.push rfl) (Inc.refl F)
/-- tests -/
inductive Rb where
  | ok (b : Bool) (ρ : List T)
  | xc (C : Nat) (ρ : List T)
def PostB (W : Wd) (b : Bs) (F : Hp) (σ : St) (X : List Tm) (Q : Bool → Hp → Prop) (E : St → XK) : Rb → Prop
  | .ok x ρ => ∀ F' H', SR W b F' ρ σ X H' → Inc F F' → Q x H'
  | .xc C ρ => ∀ d F' H', SR W b F' ρ σ X H' → Inc F F' → E σ (.ref (W.cl C)) d H'
def Sto (W : Wd) (P : Sg) (E : St → XK) (t : TT) (f : List T → Option Rb) : Prop :=
  ∀ b F ρ σ X H r Q, Bok P b → SR W b F ρ σ X H → f ρ = some r → PostB W b F σ X Q E r → t σ H Q
def To (c : Ctx) (e : Expr) (f : List T → Option Rb) : Prop := ∃ t, (∀ j, PT (c.X j) e t) ∧ Sto c.W c.P c.E t f
def liftB (f : List T → Option Bool) : List T → Option Rb := fun ρ => (f ρ).map fun x => .ok x ρ
theorem Tv.o {fb : List T → Option Bool} (h : Tv c e fb) : To c e (liftB fb) := by
  obtain ⟨t, p, q⟩ := h
  refine ⟨t, p, ?_⟩
  intro b F ρ σ X H r Q hb S e k
  unfold liftB at e
  obtain ⟨x, e1, e⟩ := Option.map_eq_some_iff.mp e
  subst e
  exact q b F ρ σ X H x Q S e1 fun F' H' S' i s => k F' H' S' i
def oTest (f : List T → Option Re) : List T → Option Rb := fun ρ => (f ρ).bind fun r => match r with
  | .ok t ρ1 => t.b?.map fun x => .ok x ρ1
  | .xc C ρ1 => some (.xc C ρ1)
theorem to_val (ha : Eo c e fo) (he : ∀ j whole, isTrue e (c.X j).env whole = (do let v ← whole; standAt e.pos; holding [v] (truthy v))) : To c e (oTest fo) := by
  obtain ⟨ta, pa, sa⟩ := ha
  refine ⟨_, fun j => pt_val (pa j) (he j), ?_⟩
  intro b F ρ σ X H r Q hb S e k
  unfold oTest at e
  obtain ⟨r1, e1, e⟩ := Option.bind_eq_some_iff.mp e
  refine sa b F ρ σ X H r1 _ hb S e1 ?_
  cases r1 with
  | ok τ ρ1 =>
    obtain ⟨x, e2, e⟩ := Option.map_eq_some_iff.mp e
    subst e
    intro v F' H' S' i'
    have hx : τ = .f (.bl x) := by
      cases τ with
      | f d => cases d with
        | bl y => cases e2; rfl
        | _ => cases e2
      | _ => cases e2
    subst hx
    exact ⟨x, S'.top, k F' H' S'.drop i'⟩
  | xc C ρ1 =>
    cases e
    exact k
def oNot (f : List T → Option Rb) : List T → Option Rb := fun ρ => (f ρ).map fun r => match r with
  | .ok x ρ1 => .ok (!x) ρ1
  | r => r
theorem to_not {ga : List T → Option Rb} (ha : To c e ga) : To c (.UnaryOp .Not e pos) (oNot ga) := by
  obtain ⟨t, p, s⟩ := ha
  refine ⟨_, fun j => pt_not (p j), ?_⟩
  intro b F ρ σ X H r Q hb S e k
  unfold oNot at e
  obtain ⟨r1, e1, e⟩ := Option.map_eq_some_iff.mp e
  subst e
  refine s b F ρ σ X H r1 _ hb S e1 ?_
  cases r1 with
  | ok x ρ1 => exact fun F' H' S' i => k F' H' S' i
  | xc C ρ1 => exact k
def Wo (c : Ctx) (e : Expr) (f : List T → Option Rb) : Prop := ∃ t, (∀ j, PW (c.X j) e t) ∧ Sto c.W c.P c.E t f
theorem Wo.to {ga : List T → Option Rb} (h : Wo c e ga) : To c e ga := by
  obtain ⟨t, p, s⟩ := h
  exact ⟨t, fun j => (p j).pt, s⟩
theorem wo_and1 {ga : List T → Option Rb} (ha : To c e ga) : Wo c (.BoolOp .And [e] pos) ga := by
  obtain ⟨t, p, s⟩ := ha
  exact ⟨t, fun j => pw_and1 (p j), s⟩
theorem wo_or1 {ga : List T → Option Rb} (ha : To c e ga) : Wo c (.BoolOp .Or [e] pos) ga := by
  obtain ⟨t, p, s⟩ := ha
  exact ⟨t, fun j => pw_or1 (p j), s⟩
def oAnd (ga gb : List T → Option Rb) : List T → Option Rb := fun ρ => (ga ρ).bind fun r => match r with
  | .ok true ρ1 => gb ρ1
  | r => some r
def oOr (ga gb : List T → Option Rb) : List T → Option Rb := fun ρ => (ga ρ).bind fun r => match r with
  | .ok false ρ1 => gb ρ1
  | r => some r
theorem wo_and {ga gb : List T → Option Rb} {b : Expr} {rest : List Expr} (ha : To c e ga) (hb : Wo c (.BoolOp .And (b :: rest) pos) gb) : Wo c (.BoolOp .And (e :: b :: rest) pos) (oAnd ga gb) := by
  obtain ⟨t, p, s⟩ := ha
  obtain ⟨u, q, s'⟩ := hb
  refine ⟨_, fun j => pw_and (p j) (q j), ?_⟩
  intro b F ρ σ X H r Q hb S e k
  unfold oAnd at e
  obtain ⟨x, e1, e⟩ := Option.bind_eq_some_iff.mp e
  refine s b F ρ σ X H x _ hb S e1 ?_
  cases x with
  | ok x ρ1 =>
    cases x with
    | true => exact fun F1 H1 S1 i1 => iteT (s' b F1 ρ1 σ X H1 r Q hb S1 e (by
        cases r with
        | ok y ρ2 => exact fun F2 H2 S2 i2 => k F2 H2 S2 (i1.trans i2)
        | xc C ρ2 => exact fun d F2 H2 S2 i2 => k d F2 H2 S2 (i1.trans i2)))
    | false =>
      cases e
      exact fun F1 H1 S1 i1 => iteF (k F1 H1 S1 i1)
  | xc C ρ1 =>
    cases e
    exact k
theorem wo_or {ga gb : List T → Option Rb} {b : Expr} {rest : List Expr} (ha : To c e ga) (hb : Wo c (.BoolOp .Or (b :: rest) pos) gb) : Wo c (.BoolOp .Or (e :: b :: rest) pos) (oOr ga gb) := by
  obtain ⟨t, p, s⟩ := ha
  obtain ⟨u, q, s'⟩ := hb
  refine ⟨_, fun j => pw_or (p j) (q j), ?_⟩
  intro b F ρ σ X H r Q hb S e k
  unfold oOr at e
  obtain ⟨x, e1, e⟩ := Option.bind_eq_some_iff.mp e
  refine s b F ρ σ X H x _ hb S e1 ?_
  cases x with
  | ok x ρ1 =>
    cases x with
    | false => exact fun F1 H1 S1 i1 => iteF (s' b F1 ρ1 σ X H1 r Q hb S1 e (by
        cases r with
        | ok y ρ2 => exact fun F2 H2 S2 i2 => k F2 H2 S2 (i1.trans i2)
        | xc C ρ2 => exact fun d F2 H2 S2 i2 => k d F2 H2 S2 (i1.trans i2)))
    | true =>
      cases e
      exact fun F1 H1 S1 i1 => iteT (k F1 H1 S1 i1)
  | xc C ρ1 =>
    cases e
    exact k
def sIf (t : List T → Option Rb) (f g : FS) : FS := fun ρ => (t ρ).bind fun r => match r with
  | .ok x ρ1 => if x = true then f ρ1 else g ρ1
  | .xc C ρ1 => some (.xc C ρ1)
theorem sm_if {ft : List T → Option Rb} {as bs : List Stmt} (ht : To c e ft) (hf : Sms c as f) (hg : Sms c bs g) : Sm c (.If e as bs pos) (sIf ft f g) := by
  obtain ⟨t0, p0, q0⟩ := ht
  obtain ⟨t, p, q⟩ := hf
  obtain ⟨u, p', q'⟩ := hg
  refine ⟨_, fun j => ps_if (p0 j) (p j) (p' j), ?_⟩
  intro b F ρ σ X H o D hb S e k
  unfold sIf at e
  obtain ⟨r, e1, e⟩ := Option.bind_eq_some_iff.mp e
  refine q0 b F ρ σ X H r _ hb S e1 ?_
  cases r with
  | ok x ρ1 =>
    intro F' H' S' i'
    cases x with
    | true => exact iteT (q b F' ρ1 σ X H' o D hb S' e (k.mono i'))
    | false => exact iteF (q' b F' ρ1 σ X H' o D hb S' e (k.mono i'))
  | xc C ρ1 =>
    cases e
    exact fun d F' H' S' i' => k d σ F' H' S' i'

/-! ### while -/
def whileF (ft : List T → Option Rb) (fb : FS) : Nat → FS
  | 0, _ => none
  | n + 1, ρ => (ft ρ).bind fun r => match r with
    | .xc C ρ1 => some (.xc C ρ1)
    | .ok false ρ1 => some (.nx ρ1)
    | .ok true ρ1 => (fb ρ1).bind fun o => match o with
      | .nx ρ2 => whileF ft fb n ρ2
      | .ct ρ2 => whileF ft fb n ρ2
      | .bk ρ2 => some (.nx ρ2)
      | o => some o
/-- μ: how many looks are enough -/
def sWhile (μ : List T → Nat) (ft : List T → Option Rb) (fb : FS) : FS := fun ρ => whileF ft fb (μ ρ) ρ
theorem ss_while {W : Wd} {P : Sg} {E : St → XK} {tc : TT} {tb : TS} {ft : List T → Option Rb} {fb : FS} (μ : List T → Nat) (q0 : Sto W P E tc ft) (q : Ss W P E tb fb) : Ss W P E (tWhile tc tb) (sWhile μ ft fb) := by
  intro b F ρ σ X H o D hb S e k
  refine ⟨fun m σ' H' => ∃ F' ρ', SR W b F' ρ' σ' X H' ∧ Inc F F' ∧ whileF ft fb m ρ' = some o, ⟨μ ρ, F, ρ, S, Inc.refl F, e⟩, ?_⟩
  rintro m σ1 H1 ⟨F1, ρ1, S1, i1, e1⟩
  cases m with
  | zero => cases e1
  | succ m =>
    unfold whileF at e1
    obtain ⟨r, e2, e1⟩ := Option.bind_eq_some_iff.mp e1
    refine q0 b F1 ρ1 σ1 X H1 r _ hb S1 e2 ?_
    cases r with
    | xc C ρ2 =>
      cases e1
      exact fun d F' H' S' i' => k d σ1 F' H' S' (i1.trans i')
    | ok x ρ2 =>
      intro F2 H2 S2 i2
      cases x with
      | false =>
        cases e1
        exact iteF (k σ1 F2 H2 S2 (i1.trans i2))
      | true =>
        refine iteT ⟨fun σ' H' => ∃ F' ρ', SR W b F' ρ' σ' X H' ∧ Inc F F' ∧ whileF ft fb m ρ' = some o, fun σ' H' h => ⟨m, Nat.lt_succ_self m, h⟩, ?_⟩
        obtain ⟨o1, e3, e4⟩ := Option.bind_eq_some_iff.mp e1
        refine q b F2 ρ2 σ1 X H2 o1 _ hb S2 e3 ?_
        cases o1 with
        | nx ρ3 => exact fun σ' F' H' S' i' => ⟨F', ρ3, S', (i1.trans i2).trans i', e4⟩
        | ct ρ3 => exact fun σ' F' H' S' i' => ⟨F', ρ3, S', (i1.trans i2).trans i', e4⟩
        | bk ρ3 =>
          cases e4
          exact fun σ' F' H' S' i' => k σ' F' H' S' ((i1.trans i2).trans i')
        | rt t ρ3 =>
          cases e4
          exact fun v σ' F' H' S' i' => k v σ' F' H' S' ((i1.trans i2).trans i')
        | xc C ρ3 =>
          cases e4
          exact fun d σ' F' H' S' i' => k d σ' F' H' S' ((i1.trans i2).trans i')
theorem sm_while {ft : List T → Option Rb} {as : List Stmt} (μ : List T → Nat) (hp : ∀ j, PassesOwn (model (c.X j).prog (c.X j).w) (c.X j).A (c.X j).env (c.X j).xe) (ht : To c e ft) (hf : Sms c as f) : Sm c (.While e as [] pos) (sWhile μ ft f) := by
  obtain ⟨t0, p0, q0⟩ := ht
  obtain ⟨t, p, q⟩ := hf
  exact ⟨_, fun j => ps_while (hp j) (p0 j) (p j), ss_while μ q0 q⟩
end

/-! ### targets -/
def Sgt (W : Wd) (P : Sg) (g : TG) (f : T → List T → Option (List T)) : Prop :=
  ∀ b F ρ ρ' σ X H t v Q, Bok P b → SR W b F ρ σ (⟨none, t, v⟩ :: X) H → f t ρ = some ρ' → (∀ σ' F' H', SR W b F' ρ' σ' X H' → Inc F F' → Q σ' H') → g v σ H Q
def Gt (c : Ctx) (e : Expr) (f : T → List T → Option (List T)) : Prop := ∃ g, (∀ j, PG (c.X j) e g) ∧ Sgt c.W c.P g f
def gSet (i : Nat) : T → List T → Option (List T) := fun t ρ => some (ρ.set i t)
/-- several things on the way -/
def Xn : List T → List V → List Tm
  | t :: ts, v :: vs => ⟨none, t, v⟩ :: Xn ts vs
  | _, _ => []
def Sgts (W : Wd) (P : Sg) (g : TGs) (f : List T → List T → Option (List T)) : Prop :=
  ∀ b F ρ ρ' σ X H ts vs Q, Bok P b → ts.length = vs.length → SR W b F ρ σ (Xn ts vs ++ X) H → f ts ρ = some ρ' → (∀ σ' F' H', SR W b F' ρ' σ' X H' → Inc F F' → Q σ' H') → g vs σ H Q
def Gts (c : Ctx) (es : List Expr) (f : List T → List T → Option (List T)) : Prop := ∃ g, (∀ j, PGs (c.X j) es g) ∧ Sgts c.W c.P g f
section
variable {c : Ctx} {e : Expr} {es : List Expr} {pos : Pos} {f : T → List T → Option (List T)} {fs : List T → List T → Option (List T)}
theorem gt_name {i : Nat} {x : Str} (hi : c.N[i]? = some x) (hx : ∀ j, L2.Loc (c.X j).env.scope x) (hio : i ∉ c.P.io) (hf : ∀ j, (c.X j).fn x = true ∨ (c.X j).env.scope.names.lookup x = some .local) : Gt c (.Name x pos) (gSet i) := by
  refine ⟨_, fun j => pg_name (i := i) (c.hNd j) (by rw [c.hN j]; exact hi) (hx j) (hf j), ?_⟩
  intro b F ρ ρ' σ X H t v Q hb S e k
  cases e
  exact k _ _ _ (S.store (.inl rfl) (.inl (notio hb hio))) (Inc.refl F)
def gsNil : List T → List T → Option (List T) := fun ts ρ => match ts with | [] => some ρ | _ => none
def gsCons (f : T → List T → Option (List T)) (g : List T → List T → Option (List T)) : List T → List T → Option (List T) := fun ts ρ => match ts with
  | t :: ts => (f t ρ).bind fun ρ1 => g ts ρ1
  | [] => none
theorem gts_nil : Gts c [] gsNil := by
  refine ⟨_, fun _ => pgs_nil, ?_⟩
  intro b F ρ ρ' σ X H ts vs Q hb hl S e k
  cases ts with
  | nil =>
    cases vs with
    | nil =>
      cases e
      exact ⟨rfl, k _ _ _ S (Inc.refl F)⟩
    | cons _ _ => cases hl
  | cons _ _ => cases e
theorem gts_cons (h : Gt c e f) (k : Gts c es fs) (hs : ∀ j, (assignEach (e :: es) (c.X j).env).map (·.2) = assign e (c.X j).env :: (assignEach es (c.X j).env).map (·.2) := by intro _; rfl) : Gts c (e :: es) (gsCons f fs) := by
  obtain ⟨g, p, q⟩ := h
  obtain ⟨g', p', q'⟩ := k
  refine ⟨_, fun j => pgs_cons (p j) (p' j) (hs j), ?_⟩
  intro b F ρ ρ' σ X H ts vs Q hb hl S e k
  cases ts with
  | nil => cases e
  | cons t ts =>
    cases vs with
    | nil => cases hl
    | cons v vs =>
      obtain ⟨ρ1, e1, e⟩ := Option.bind_eq_some_iff.mp (show (f t ρ).bind _ = _ from e)
      refine ⟨v, vs, rfl, q b F ρ ρ1 σ (Xn ts vs ++ X) H t v _ hb S e1 fun σ' F' H' S' i => ?_⟩
      exact q' b F' ρ1 ρ' σ' X H' ts vs Q hb (by simpa using hl) S' e fun σ2 F2 H2 S2 i2 => k σ2 F2 H2 S2 (i.trans i2)
theorem SR.pushes {W : Wd} {b : Bs} {F : Hp} {ρ : List T} {σ : St} {H : Hp} : ∀ {ds : List D} {vs : List V} {X : List Tm}, SR W b F ρ σ X H → Reps W F ds vs → SR W b F ρ σ (Xn (ds.map .f) vs ++ X) H
  | [], _, _, S, r => by
    have r' : _ = [] := r
    subst r'
    exact S
  | d :: ds, _, _, S, r => by
    obtain ⟨v, vr, e, a, q⟩ := r
    subst e
    exact (SR.pushes S q).push a
/-- (a, b, ..) = a deep tuple -/
def gTupT (n : Nat) (f : List T → List T → Option (List T)) : T → List T → Option (List T) := fun t ρ => match t with
  | .f (.tup ds) => if ds.length = n then f (ds.map .f) ρ else none
  | _ => none
theorem gt_tup {n m : Nat} (h : Gts c es fs) (hn : ∀ j, (assignEach es (c.X j).env).length = n := by intro _; rfl) (hst : ∀ j, (assignEach es (c.X j).env).findIdx? (·.1) = none := by intro _; rfl) : Gt c (.Tuple es m pos) (gTupT n fs) := by
  obtain ⟨g, p, q⟩ := h
  refine ⟨L2.gTup c.W.K n g, fun j => ?_, ?_⟩
  · have := pg_tup (pos := pos) (k := m) (c.calm j) (p j) (hn j) (hst j)
    rw [c.hK j] at this
    exact this
  intro b F ρ ρ' σ X H t v Q hb S e k
  unfold gTupT at e
  cases t with
  | f d => cases d with
    | tup ds =>
      simp only at e
      split at e
      · rename_i hl
        obtain ⟨p, vs, ex, hs, r⟩ := S.top
        refine ⟨p, vs, ex, SqT.le S.le hs, by rw [← r.len]; exact hl, ?_⟩
        exact q b F ρ ρ' σ X H (ds.map .f) vs Q hb (by rw [List.length_map]; exact r.len) (S.drop.pushes r) e k
      · cases e
    | _ => cases e
  | _ => cases e
end

/-! ### what is walked -/
structure Wk (W : Wd) (F0 : Hp) (J : It) (ds : List D) : Prop where
  go : ∀ i F H, Inc F0 F → Le F H → i < ds.length → J.go i H
  stop : ∀ F H, Inc F0 F → Le F H → J.stop ds.length H
  yld : ∀ i F H x H' d, Inc F0 F → Le F H → ds[i]? = some d → J.yld i H x H' → (H' = H ∧ Rep W F d x) ∨ ∃ p o, H p = none ∧ H' = upd H p o ∧ x = .ref p ∧ (Inc F (upd F p o) → Rep W (upd F p o) d (.ref p))
inductive Ri where
  | ok (ds : List D) (ρ : List T)
  | xc (C : Nat) (ρ : List T)
def PostI (W : Wd) (b : Bs) (F : Hp) (σ : St) (X : List Tm) (R : It → Hp → Prop) (E : St → XK) : Ri → Prop
  | .ok ds ρ => ∀ J F' H', SR W b F' ρ σ X H' → Inc F F' → Wk W F' J ds → R J H'
  | .xc C ρ => ∀ d F' H', SR W b F' ρ σ X H' → Inc F F' → E σ (.ref (W.cl C)) d H'
def Si (W : Wd) (P : Sg) (E : St → XK) (wi : TI) (f : List T → Option Ri) : Prop :=
  ∀ b F ρ σ X H r R, Bok P b → SR W b F ρ σ X H → f ρ = some r → PostI W b F σ X R E r → wi σ H R
def Iw (c : Ctx) (tg e : Expr) (f : List T → Option Ri) : Prop := ∃ wi, (∀ j, PI (c.X j) tg e wi) ∧ Si c.W c.P c.E wi f

def forF (fg : T → List T → Option (List T)) (fb : FS) : List D → FS
  | [], ρ => some (.nx ρ)
  | d :: ds, ρ => (fg (.f d) ρ).bind fun ρ1 => (fb ρ1).bind fun o => match o with
    | .nx ρ2 => forF fg fb ds ρ2
    | .ct ρ2 => forF fg fb ds ρ2
    | .bk ρ2 => some (.nx ρ2)
    | o => some o
def sFor (fi : List T → Option Ri) (fg : T → List T → Option (List T)) (fb : FS) : FS := fun ρ => (fi ρ).bind fun r => match r with
  | .ok ds ρ1 => forF fg fb ds ρ1
  | .xc C ρ1 => some (.xc C ρ1)
section
variable {c : Ctx} {tg e : Expr} {ss : List Stmt} {pos : Pos} {fi : List T → Option Ri} {fg : T → List T → Option (List T)} {fb : FS}
theorem Wk.item {W : Wd} {b : Bs} {F0 F : Hp} {ρ : List T} {σ : St} {X : List Tm} {H H' : Hp} {J : It} {ds : List D} {i : Nat} {d : D} {x : V} (w : Wk W F0 J ds) (S : SR W b F ρ σ X H) (hi : Inc F0 F) (hd : ds[i]? = some d) (y : J.yld i H x H') :
    ∃ F', SR W b F' ρ σ (⟨none, .f d, x⟩ :: X) H' ∧ Inc F F' := by
  rcases w.yld i F H x H' d hi S.le hd y with ⟨e, r⟩ | ⟨p, o, hp, e, ex, r⟩
  · subst e
    exact ⟨F, S.push r, Inc.refl F⟩
  · subst e ex
    obtain ⟨S', i', s'⟩ := S.laid (o := o) hp
    exact ⟨_, S'.push (r i'), i'⟩
theorem ss_for {W : Wd} {P : Sg} {E : St → XK} {wi : TI} {g : TG} {tb : TS} (hi : Si W P E wi fi) (hg : Sgt W P g fg) (hb : Ss W P E tb fb) : Ss W P E (tFor wi g tb) (sFor fi fg fb) := by
  intro b F ρ σ X H o D bok S e k
  unfold sFor at e
  obtain ⟨r, e1, e⟩ := Option.bind_eq_some_iff.mp e
  refine hi b F ρ σ X H r _ bok S e1 ?_
  cases r with
  | xc C ρ1 =>
    cases e
    exact fun d F' H' S' i' => k d σ F' H' S' i'
  | ok ds ρ1 =>
    intro J F1 H1 S1 i1 wk
    refine ⟨fun i m σ' H' => m = ds.length - i ∧ i ≤ ds.length ∧ ∃ F' ρ', SR W b F' ρ' σ' X H' ∧ Inc F1 F' ∧ forF fg fb (ds.drop i) ρ' = some o, ⟨ds.length, by simp, Nat.zero_le _, F1, ρ1, S1, Inc.refl F1, e⟩, ?_⟩
    rintro i m σ2 H2 ⟨rfl, hi2, F2, ρ2, S2, i2, e2⟩
    by_cases hlt : i < ds.length
    · refine .inr ⟨wk.go i F2 H2 i2 S2.le hlt, fun σ' H' => i + 1 ≤ ds.length ∧ ∃ F' ρ', SR W b F' ρ' σ' X H' ∧ Inc F1 F' ∧ forF fg fb (ds.drop (i + 1)) ρ' = some o, fun σ' H' h => ⟨ds.length - (i + 1), by omega, rfl, h⟩, fun x H3 y => ?_⟩
      have hd : ds[i]? = some ds[i] := List.getElem?_eq_getElem hlt
      rw [List.drop_eq_getElem_cons hlt] at e2
      unfold forF at e2
      obtain ⟨ρ3, e3, e2⟩ := Option.bind_eq_some_iff.mp e2
      obtain ⟨o1, e4, e2⟩ := Option.bind_eq_some_iff.mp e2
      obtain ⟨F3, S3, i3⟩ := wk.item S2 i2 hd y
      refine hg b F3 ρ2 ρ3 σ2 X H3 _ x _ bok S3 e3 fun σ4 F4 H4 S4 i4 => ?_
      have i14 := i2.trans (i3.trans i4)
      refine hb b F4 ρ3 σ4 X H4 o1 _ bok S4 e4 ?_
      cases o1 with
      | nx ρ5 => exact fun σ' F' H' S' i' => ⟨hlt, F', ρ5, S', i14.trans i', e2⟩
      | ct ρ5 => exact fun σ' F' H' S' i' => ⟨hlt, F', ρ5, S', i14.trans i', e2⟩
      | bk ρ5 =>
        cases e2
        exact fun σ' F' H' S' i' => k σ' F' H' S' ((i1.trans i14).trans i')
      | rt t ρ5 =>
        cases e2
        exact fun v σ' F' H' S' i' => k v σ' F' H' S' ((i1.trans i14).trans i')
      | xc C ρ5 =>
        cases e2
        exact fun d σ' F' H' S' i' => k d σ' F' H' S' ((i1.trans i14).trans i')
    · have hi3 : i = ds.length := by omega
      subst hi3
      rw [List.drop_length] at e2
      cases e2
      exact .inl ⟨wk.stop F2 H2 i2 S2.le, k σ2 F2 H2 S2 (i1.trans i2)⟩
theorem sm_for (hp : ∀ j, PassesOwn (model (c.X j).prog (c.X j).w) (c.X j).A (c.X j).env (c.X j).xe) (hi : Iw c tg e fi) (hg : Gt c tg fg) (hb : Sms c ss fb) (hs : ∀ j x, foldedSetIterable e (c.X j).env x = pure x := by intro _ _; rfl) : Sm c (.For tg e ss [] pos) (sFor fi fg fb) := by
  obtain ⟨wi, p1, q1⟩ := hi
  obtain ⟨g, p2, q2⟩ := hg
  obtain ⟨t, p3, q3⟩ := hb
  exact ⟨_, fun j => ps_for (hp j) (c.calm j) (p1 j) (p2 j) (p3 j) (hs j), ss_for q1 q2 q3⟩
end
end Z

namespace Z
open PySem L2

/-! ### ready expressions -/
section
variable {c : Ctx} {a e' : Expr} {es : List Expr} {fa fb : List T → Option T} {fs : List T → Option (List T)} {pos : Pos}
theorem ev_add (ha : Ev c a fa) (hb : Ev c e' fb) : Ev c (.BinOp a .Add e' pos) (f2 gAdd fa fb) := ev_op (fun j => by have h := op_addU (X := c.X j); rw [c.hK j] at h; exact h) s2_add ha hb
theorem ev_sub (ha : Ev c a fa) (hb : Ev c e' fb) : Ev c (.BinOp a .Sub e' pos) (f2 gSub fa fb) := ev_op (fun _ => op_sub) s2_sub ha hb
theorem ev_mul (ha : Ev c a fa) (hb : Ev c e' fb) : Ev c (.BinOp a .Mult e' pos) (f2 gMul fa fb) := ev_op (fun _ => op_mulX) s2_mul ha hb
theorem ev_div (ha : Ev c a fa) (hb : Ev c e' fb) : Ev c (.BinOp a .FloorDiv e' pos) (f2 gDiv fa fb) := ev_op (fun _ => op_fdivW) s2_div ha hb
theorem ev_mod (ha : Ev c a fa) (hb : Ev c e' fb) : Ev c (.BinOp a .Mod e' pos) (f2 gMod fa fb) := ev_op (fun _ => op_mod) s2_mod ha hb
theorem ev_pow (ha : Ev c a fa) (hb : Ev c e' fb) : Ev c (.BinOp a .Pow e' pos) (f2 gPow fa fb) := ev_op (fun _ => op_pow) s2_pow ha hb
theorem ev_shl (ha : Ev c a fa) (hb : Ev c e' fb) : Ev c (.BinOp a .LShift e' pos) (f2 gShl fa fb) := ev_op (fun _ => op_shl) s2_shl ha hb
theorem ev_shr (ha : Ev c a fa) (hb : Ev c e' fb) : Ev c (.BinOp a .RShift e' pos) (f2 gShr fa fb) := ev_op (fun _ => op_shr) s2_shr ha hb
theorem ev_band (ha : Ev c a fa) (hb : Ev c e' fb) : Ev c (.BinOp a .BitAnd e' pos) (f2 gBAnd fa fb) := ev_op (fun _ => op_and) s2_band ha hb
theorem ev_bor (ha : Ev c a fa) (hb : Ev c e' fb) : Ev c (.BinOp a .BitOr e' pos) (f2 gBOr fa fb) := ev_op (fun _ => op_or) s2_bor ha hb
theorem ev_bxor (ha : Ev c a fa) (hb : Ev c e' fb) : Ev c (.BinOp a .BitXor e' pos) (f2 gBXor fa fb) := ev_op (fun _ => op_xor) s2_bxor ha hb
theorem ev_neg (ha : Ev c a fa) : Ev c (.UnaryOp .USub a pos) (f1 gNeg fa) := ev_un (fun _ => un_neg) s1_neg ha
/-- comparisons: the rule and its function -/
structure CmpR (c : Ctx) (op : CmpOp) (g : T → T → Option T) : Prop where
  ex : ∃ r, (∀ j, OpR (c.X j) (compareOp op) r) ∧ S2 c.W r g
theorem c_lt : CmpR c .Lt gLt := ⟨_, fun _ => op_lt, s2_lt⟩
theorem c_le : CmpR c .LtE gLe := ⟨_, fun _ => op_le, s2_le⟩
theorem c_gt : CmpR c .Gt gGt := ⟨_, fun _ => op_gt, s2_gt⟩
theorem c_ge : CmpR c .GtE gGe := ⟨_, fun _ => op_ge, s2_ge⟩
theorem c_eq : CmpR c .Eq gEq := ⟨_, fun j => by have h := op_eqU (X := c.X j) (c.hu j); rw [c.hK j] at h; exact h, s2_eq⟩
theorem c_ne : CmpR c .NotEq gNe := ⟨_, fun j => by have h := op_neU (X := c.X j) (c.hu j); rw [c.hK j] at h; exact h, s2_ne⟩
theorem c_in : CmpR c .In gIn := ⟨_, fun j => by have h := op_inU (X := c.X j) (c.hu1 j); rw [c.hK j] at h; exact h, s2_in⟩
theorem c_notIn : CmpR c .NotIn gNotIn := ⟨_, fun j => by have h := op_notInU (X := c.X j) (c.hu1 j); rw [c.hK j] at h; exact h, s2_notIn⟩
theorem ev_c {op : CmpOp} {g : T → T → Option T} (r : CmpR c op g) (ha : Ev c a fa) (hb : Ev c e' fb) (hm : behindInMarks op e' = false := by first | exact nomark _ | with_unfolding_all rfl) : Ev c (.Compare a [op] [e'] pos) (f2 g fa fb) := by
  obtain ⟨_, h1, h2⟩ := r.ex
  exact ev_cmp h1 h2 ha hb hm
theorem tv_c {op : CmpOp} {g : T → T → Option T} (r : CmpR c op g) (ha : Ev c a fa) (hb : Ev c e' fb) (hm : behindInMarks op e' = false := by first | exact nomark _ | with_unfolding_all rfl) : Tv c (.Compare a [op] [e'] pos) (fT (f2 g fa fb)) := by
  obtain ⟨_, h1, h2⟩ := r.ex
  exact tv_cmp h1 h2 ha hb hm
/-- a < b < d -/
def fChain (g h : T → T → Option T) (fa fb fd : List T → Option T) : List T → Option T := fun ρ => (fa ρ).bind fun x => (fb ρ).bind fun y => (g x y).bind fun z => z.b?.bind fun k => if k = true then (fd ρ).bind fun w => h y w else some (.f (.bl false))
theorem sv_chain {W : Wd} {fd : List T → Option T} {ta tb td : TE} {r r' : R2} {g h : T → T → Option T} (hr : S2 W r g) (hr' : S2 W r' h) (ha : Sv W ta fa) (hb : Sv W tb fb) (hd : Sv W td fd) : Sv W (tChain r r' ta tb td) (fChain g h fa fb fd) := by
  intro b F ρ σ X H τ Q S e k
  unfold fChain at e
  obtain ⟨x, e1, e⟩ := Option.bind_eq_some_iff.mp e
  obtain ⟨y, e2, e⟩ := Option.bind_eq_some_iff.mp e
  obtain ⟨z, e3, e⟩ := Option.bind_eq_some_iff.mp e
  obtain ⟨m, e4, e⟩ := Option.bind_eq_some_iff.mp e
  refine ha b F ρ σ X H x _ S e1 fun v1 F1 H1 S1 i1 s1 r1 => ?_
  refine hb b F1 ρ σ X H1 y _ S1 e2 fun v2 F2 H2 S2 i2 s2 r2 => ?_
  refine hr b F2 ρ σ X H2 x y z v1 v2 _ S2 (r1.ext i2 s2) r2 e3 fun v3 F3 H3 S3 i3 s3 r3 => ?_
  refine ⟨m, r3.bl e4, ?_⟩
  have i13 := i1.trans (i2.trans i3)
  have s13 := s1.trans (s2.trans s3)
  cases m with
  | true =>
    refine iteT ?_
    obtain ⟨w, e5, e6⟩ := Option.bind_eq_some_iff.mp e
    refine hd b F3 ρ σ X H3 w _ S3 e5 fun v4 F4 H4 S4 i4 s4 r4 => ?_
    exact hr' b F4 ρ σ X H4 y w τ v2 v4 _ S4 ((r2.ext i3 s3).ext i4 s4) r4 e6 (k.mono (i13.trans i4) (s13.trans s4))
  | false =>
    cases e
    exact iteF ((k.mono i13 s13).d S3 rfl)
theorem ev_chain {op op' : CmpOp} {d : Expr} {fd : List T → Option T} {g h : T → T → Option T} (r : CmpR c op g) (r' : CmpR c op' h) (ha : Ev c a fa) (hb : Ev c e' fb) (hd : Ev c d fd) (hm : lastMarks [op, op'] [e', d] = false := by with_unfolding_all rfl) : Ev c (.Compare a [op, op'] [e', d] pos) (fChain g h fa fb fd) := by
  obtain ⟨_, h1, h2⟩ := r.ex
  obtain ⟨_, h3, h4⟩ := r'.ex
  obtain ⟨ta, pa, sa⟩ := ha
  obtain ⟨tb, pb, sb⟩ := hb
  obtain ⟨td, pd, sd⟩ := hd
  exact ⟨_, fun j => pe_chain (h1 j) (h3 j) (pa j) (pb j) (pd j) hm, sv_chain h2 h4 sa sb sd⟩
theorem tv_chain {op op' : CmpOp} {d : Expr} {fd : List T → Option T} {g h : T → T → Option T} (r : CmpR c op g) (r' : CmpR c op' h) (ha : Ev c a fa) (hb : Ev c e' fb) (hd : Ev c d fd) (hm : lastMarks [op, op'] [e', d] = false := by with_unfolding_all rfl) : Tv c (.Compare a [op, op'] [e', d] pos) (fT (fChain g h fa fb fd)) := by
  obtain ⟨_, h1, h2⟩ := r.ex
  obtain ⟨_, h3, h4⟩ := r'.ex
  obtain ⟨ta, pa, sa⟩ := ha
  obtain ⟨tb, pb, sb⟩ := hb
  obtain ⟨td, pd, sd⟩ := hd
  exact ⟨_, fun j => pt_chain (h1 j) (h3 j) (pa j) (pb j) (pd j) hm, stv_test (sv_chain h2 h4 sa sb sd)⟩
/-- is None -/
def gIsNn (neg : Bool) (t : T) : Option T := match t with
  | .un => none
  | t => match gIsN t with
    | some (.f (.bl b)) => some (.f (.bl (xor neg b)))
    | _ => none
def fIsN (neg : Bool) (fa : List T → Option T) : List T → Option T := f1 (gIsNn neg) fa
theorem isN_out {W : Wd} {F H : Hp} {t τ : T} {v : V} {neg : Bool} (r : RelV W F H t v) (e : gIsNn neg t = some τ) : τ = .f (.bl (xor neg (decide (v = .non)))) := by
  unfold gIsNn at e
  have ht : t ≠ .un := by
    rintro rfl
    cases e
  have e2 : (match gIsN t with | some (.f (.bl b)) => some (T.f (.bl (xor neg b))) | _ => none) = some τ := by
    cases t with
    | un => exact absurd rfl ht
    | _ => exact e
  split at e2
  · rename_i b hb
    cases e2
    rw [r.non hb ht]
  · cases e2
theorem ev_isN {m : Nat} {p2 : Pos} (ha : Ev c a fa) : Ev c (.Compare a [.Is] [.Constant .none m p2] pos) (fIsN false fa) := by
  obtain ⟨ta, pa, sa⟩ := ha
  refine ⟨_, fun j => pe_cmp (pc_isN (pa j)) rfl, ?_⟩
  intro b F ρ σ X H τ Q S e k
  obtain ⟨t, e1, e⟩ := Option.bind_eq_some_iff.mp e
  refine sa b F ρ σ X H t _ S e1 fun v F1 H1 S1 i1 s1 r1 => ?_
  have := isN_out r1 e
  subst this
  rw [Bool.false_xor] at k
  exact (k.mono i1 s1).d S1 rfl
theorem ev_notN {m : Nat} {p2 : Pos} (ha : Ev c a fa) : Ev c (.Compare a [.IsNot] [.Constant .none m p2] pos) (fIsN true fa) := by
  obtain ⟨ta, pa, sa⟩ := ha
  refine ⟨_, fun j => pe_cmp (pc_notN (pa j)) rfl, ?_⟩
  intro b F ρ σ X H τ Q S e k
  obtain ⟨t, e1, e⟩ := Option.bind_eq_some_iff.mp e
  refine sa b F ρ σ X H t _ S e1 fun v F1 H1 S1 i1 s1 r1 => ?_
  have := isN_out r1 e
  subst this
  rw [Bool.true_xor] at k
  exact (k.mono i1 s1).d S1 rfl

/-- [ ] -/
theorem ev_ix (ha : Ev c a fa) (hb : Ev c e' fb) (hs : PlainIx e' := by exact fun _ _ => rfl) : Ev c (.Subscript a e' pos) (f2 gIx fa fb) := by
  obtain ⟨ta, pa, sa⟩ := ha
  obtain ⟨tb, pb, sb⟩ := hb
  refine ⟨_, fun j => pe_ix (by have h := ix_U (X := c.X j) (c.hu1 j); rw [c.hK j] at h; exact h) (pa j) (pb j) hs, sv_2 sa sb s2_ix⟩
/-- slices -/
def cutD {α : Type} (xs : List α) (lo hi : Option Int) : List α := (xs.drop (HT.sIx xs.length 0 lo)).take (HT.sIx xs.length xs.length hi - HT.sIx xs.length 0 lo)
def gSl (t : T) (lo hi : Option Int) : Option T := match t.ls? with
  | some ds => some (.f (.lst (cutD ds lo hi)))
  | none => match t.s? with
    | some z => if z.length ≤ sizeLine then some (.f (.str (cutS z lo hi))) else none
    | none => match t.ts? with
      | some ds => if HT.sIx ds.length 0 lo = 0 ∧ HT.sIx ds.length ds.length hi = ds.length then none else some (.f (.tup (cutD ds lo hi)))
      | none => none
def rSlU (K : PySem.W.Frag) : V → Option Int → Option Int → Hp → VK → Prop := fun x lo hi H Q => rSlL K x lo hi H Q ∨ rSlS x lo hi H Q ∨ rSlT K x lo hi H Q
theorem sl_U {X : Cx} : SlR X (rSlU X.K) := sl_list.or (sl_str.or sl_tup)
theorem Reps.cut {W : Wd} {F : Hp} {ds : List D} {vs : List V} {lo hi : Option Int} (r : Reps W F ds vs) : Reps W F (cutD ds lo hi) (cutV vs lo hi) := by
  unfold cutD cutV
  rw [r.len]
  exact (r.drop _).take _
theorem gSl_ok {W : Wd} {b : Bs} {F : Hp} {ρ : List T} {σ : St} {X : List Tm} {H : Hp} {t τ : T} {x : V} {lo hi : Option Int} {Q : VK} (S : SR W b F ρ σ X H) (r : RelV W F H t x) (e : gSl t lo hi = some τ) (k : Kp W b F ρ σ X H τ Q) : rSlU W.K x lo hi H Q := by
  unfold gSl at e
  split at e
  · rename_i ds h
    cases e
    obtain ⟨p, vs, ex, hs, q⟩ := r.ls h S.le
    exact .inl ⟨p, vs, ex, hs, k.lst S q.cut⟩
  · split at e
    · rename_i z h
      split at e
      · rename_i hz
        cases e
        exact .inr (.inl ⟨z, r.str h, hz, k.d S rfl⟩)
      · cases e
    · split at e
      · rename_i ds h
        split at e
        · cases e
        · rename_i hw
          cases e
          obtain ⟨p, vs, ex, hs, q⟩ := r.ts h S.le
          exact .inr (.inr ⟨p, vs, ex, hs, by rw [← q.len]; exact hw, k.tup S q.cut⟩)
      · cases e
def fSl (fa : List T → Option T) (fl fh : Option (List T → Option T)) : List T → Option T := fun ρ => (fa ρ).bind fun t => match fl, fh with
  | none, none => gSl t none none
  | some l, none => (l ρ).bind fun x => x.i?.bind fun i => gSl t (some i) none
  | none, some h => (h ρ).bind fun x => x.i?.bind fun i => gSl t none (some i)
  | some l, some h => (l ρ).bind fun x => x.i?.bind fun i => (h ρ).bind fun y => y.i?.bind fun j => gSl t (some i) (some j)
theorem slj {c : Ctx} (j : c.J) : SlR (c.X j) (rSlU c.W.K) := by have h := sl_U (X := c.X j); rw [c.hK j] at h; exact h
theorem ev_sl00 {p2 : Pos} (ha : Ev c a fa) : Ev c (.Subscript a (.Slice none none none p2) pos) (fSl fa none none) := by
  obtain ⟨ta, pa, sa⟩ := ha
  refine ⟨_, fun j => pe_slice (slj j) (pa j) po_none po_none, ?_⟩
  intro b F ρ σ X H τ Q S e k
  obtain ⟨t, e1, e⟩ := Option.bind_eq_some_iff.mp e
  exact sa b F ρ σ X H t _ S e1 fun v F1 H1 S1 i1 s1 r1 => gSl_ok S1 r1 e (k.mono i1 s1)
theorem ev_sl10 {p2 : Pos} {l : Expr} {fl : List T → Option T} (ha : Ev c a fa) (hl : Ev c l fl) : Ev c (.Subscript a (.Slice (some l) none none p2) pos) (fSl fa (some fl) none) := by
  obtain ⟨ta, pa, sa⟩ := ha
  obtain ⟨tl, pl, sl⟩ := hl
  refine ⟨_, fun j => pe_slice (slj j) (pa j) (po_some (pl j)) po_none, ?_⟩
  intro b F ρ σ X H τ Q S e k
  obtain ⟨t, e1, e⟩ := Option.bind_eq_some_iff.mp e
  obtain ⟨x, e2, e⟩ := Option.bind_eq_some_iff.mp e
  obtain ⟨i, e3, e⟩ := Option.bind_eq_some_iff.mp e
  refine sa b F ρ σ X H t _ S e1 fun v F1 H1 S1 i1 s1 r1 => ?_
  refine sl b F1 ρ σ X H1 x _ S1 e2 fun v2 F2 H2 S2 i2 s2 r2 => ⟨i, r2.int e3, ?_⟩
  exact gSl_ok S2 (r1.ext i2 s2) e (k.mono (i1.trans i2) (s1.trans s2))
theorem ev_sl01 {p2 : Pos} {l : Expr} {fl : List T → Option T} (ha : Ev c a fa) (hl : Ev c l fl) : Ev c (.Subscript a (.Slice none (some l) none p2) pos) (fSl fa none (some fl)) := by
  obtain ⟨ta, pa, sa⟩ := ha
  obtain ⟨tl, pl, sl⟩ := hl
  refine ⟨_, fun j => pe_slice (slj j) (pa j) po_none (po_some (pl j)), ?_⟩
  intro b F ρ σ X H τ Q S e k
  obtain ⟨t, e1, e⟩ := Option.bind_eq_some_iff.mp e
  obtain ⟨x, e2, e⟩ := Option.bind_eq_some_iff.mp e
  obtain ⟨i, e3, e⟩ := Option.bind_eq_some_iff.mp e
  refine sa b F ρ σ X H t _ S e1 fun v F1 H1 S1 i1 s1 r1 => ?_
  refine sl b F1 ρ σ X H1 x _ S1 e2 fun v2 F2 H2 S2 i2 s2 r2 => ⟨i, r2.int e3, ?_⟩
  exact gSl_ok S2 (r1.ext i2 s2) e (k.mono (i1.trans i2) (s1.trans s2))
theorem ev_sl11 {p2 : Pos} {l h : Expr} {fl fh : List T → Option T} (ha : Ev c a fa) (hl : Ev c l fl) (hh : Ev c h fh) : Ev c (.Subscript a (.Slice (some l) (some h) none p2) pos) (fSl fa (some fl) (some fh)) := by
  obtain ⟨ta, pa, sa⟩ := ha
  obtain ⟨tl, pl, sl⟩ := hl
  obtain ⟨th, ph, sh⟩ := hh
  refine ⟨_, fun j => pe_slice (slj j) (pa j) (po_some (pl j)) (po_some (ph j)), ?_⟩
  intro b F ρ σ X H τ Q S e k
  obtain ⟨t, e1, e⟩ := Option.bind_eq_some_iff.mp e
  obtain ⟨x, e2, e⟩ := Option.bind_eq_some_iff.mp e
  obtain ⟨i, e3, e⟩ := Option.bind_eq_some_iff.mp e
  obtain ⟨y, e4, e⟩ := Option.bind_eq_some_iff.mp e
  obtain ⟨m, e5, e⟩ := Option.bind_eq_some_iff.mp e
  refine sa b F ρ σ X H t _ S e1 fun v F1 H1 S1 i1 s1 r1 => ?_
  refine sl b F1 ρ σ X H1 x _ S1 e2 fun v2 F2 H2 S2 i2 s2 r2 => ⟨i, r2.int e3, ?_⟩
  refine sh b F2 ρ σ X H2 y _ S2 e4 fun v3 F3 H3 S3 i3 s3 r3 => ⟨m, r3.int e5, ?_⟩
  exact gSl_ok S3 ((r1.ext i2 s2).ext i3 s3) e (k.mono (i1.trans (i2.trans i3)) (s1.trans (s2.trans s3)))
end

/-! ### builtins by values -/
section
variable {W : Wd}
theorem rv1 {F H : Hp} {t : T} {xs : List V} (r : RelVs W F H [t] xs) : ∃ x, xs = [x] ∧ RelV W F H t x := by
  obtain ⟨v, vr, e, a, b⟩ := r.inv
  rw [b.inv0] at e
  exact ⟨v, e, a⟩
theorem rv2 {F H : Hp} {t u : T} {xs : List V} (r : RelVs W F H [t, u] xs) : ∃ x y, xs = [x, y] ∧ RelV W F H t x ∧ RelV W F H u y := by
  obtain ⟨v, vr, e, a, b⟩ := r.inv
  obtain ⟨y, e2, q⟩ := rv1 b
  subst e2
  exact ⟨v, y, e, a, q⟩
def gLen (ts : List T) : Option T := match ts with
  | [t] => match t with
    | .ll us => some (.f (.int us.length))
    | .tu us => some (.f (.int us.length))
    | t => match t.sq? with
      | some ds => some (.f (.int ds.length))
      | none => match t.s? with
        | some z => if z.length ≤ sizeLine then some (.f (.int z.length)) else none
        | none => match t.dk? with
          | some p => some (.f (.int p.1.length))
          | none => none
  | _ => none
def rLenU (K : PySem.W.Frag) : List V → Hp → VK → Prop := fun xs H Q => (∃ x n, xs = [x] ∧ LenV K x H n ∧ Q (.int n) H) ∨ ∃ a kvs, xs = [V.ref a] ∧ Rd H a (.dK kvs) ∧ Q (.int kvs.length) H
theorem call_lenU {X : Cx} : CallR X (.builtin "len") (rLenU X.K) := CallR_or call_len (by
  intro pins s σ H xs us Q I r h
  obtain ⟨a, kvs, rfl, ha, q⟩ := h
  obtain ⟨u, rfl, ru⟩ := vals1 r
  cases ru
  exact d_len I ha fun t s' I' => ⟨.int kvs.length, H, I', ⟨t, rfl⟩, q⟩)
theorem sn_len : Sn W (rLenU W.K) gLen := by
  intro b F ρ σ X H ts τ xs Q S r e k
  match ts, e with
  | [t], e =>
    obtain ⟨x, rfl, r1⟩ := rv1 r
    have main : ∀ t' : T, t' = t → (match t'.sq? with | some ds => some (T.f (.int ds.length)) | none => match t'.s? with | some z => if z.length ≤ sizeLine then some (T.f (.int z.length)) else none | none => match t'.dk? with | some p => some (T.f (.int p.1.length)) | none => none) = some τ → rLenU W.K [x] H Q := by
      intro t' et ee
      subst et
      split at ee
      · rename_i ds h
        cases ee
        obtain ⟨p, vs, ex, hs, q⟩ := r1.sq h S.le
        subst ex
        refine .inl ⟨_, vs.length, rfl, ?_, by rw [← q.len]; exact k.d S rfl⟩
        rcases hs with hs | hs
        · exact .inl ⟨vs, hs, rfl⟩
        · exact .inr ⟨vs, hs, rfl⟩
      · split at ee
        · rename_i z h
          split at ee
          · rename_i hz
            cases ee
            rw [r1.str h]
            exact .inl ⟨_, z.length, rfl, ⟨hz, rfl⟩, k.d S rfl⟩
          · cases ee
        · split at ee
          · rename_i p h
            cases ee
            obtain ⟨ks, ds⟩ := p
            obtain ⟨a, kvs, ex, hs, hk, q⟩ := r1.dk h S.le
            subst ex hk
            refine .inr ⟨a, kvs, rfl, hs, ?_⟩
            have h2 : Rep W F (.int ((kvs.map (·.1)).length : Nat)) (.int (kvs.length : Nat)) := by
              rw [List.length_map]
              rfl
            exact k.d S h2
          · cases ee
    cases t with
    | ll us =>
      cases e
      obtain ⟨fp, p, vs, fps, ex, _, hs, q⟩ := r1
      subst ex
      exact .inl ⟨_, vs.length, rfl, .inl ⟨vs, .inl (.inl hs), rfl⟩, by rw [← q.len.1]; exact k.d S rfl⟩
    | tu us =>
      cases e
      obtain ⟨fp, p, vs, fps, ex, _, hs, q⟩ := r1
      subst ex
      exact .inl ⟨_, vs.length, rfl, .inr ⟨vs, .inl (.inl hs), rfl⟩, by rw [← q.len.1]; exact k.d S rfl⟩
    | un => exact main _ rfl e
    | f d => exact main _ rfl e
    | l ds => exact main _ rfl e
    | dk ks ds => exact main _ rfl e
    | o C ns us => exact main _ rfl e
def gInt1 (ts : List T) : Option T := match ts with
  | [t] => match t.i? with
    | some i => some (.f (.int i))
    | none => match t.b? with
      | some b => some (.f (.int (if b = true then 1 else 0)))
      | none => none
  | _ => none
theorem sn_int1 : Sn W (fun xs H Q => (∃ i, xs = [.int i] ∧ Q (.int i) H) ∨ ∃ k, xs = [.bl k] ∧ Q (.int (if k then 1 else 0)) H) gInt1 := by
  intro b F ρ σ X H ts τ xs Q S r e k
  match ts, e with
  | [t], e =>
    obtain ⟨x, rfl, r1⟩ := rv1 r
    simp only [gInt1] at e
    split at e
    · rename_i i h
      cases e
      exact .inl ⟨i, by rw [r1.int h], k.d S rfl⟩
    · split at e
      · rename_i i h
        cases e
        exact .inr ⟨i, by rw [r1.bl h], k.d S rfl⟩
      · cases e
def gMax2 (ts : List T) : Option T := match ts with
  | [t, u] => t.i?.bind fun i => u.i?.bind fun j => some (.f (.int (if j > i then j else i)))
  | _ => none
def gMin2 (ts : List T) : Option T := match ts with
  | [t, u] => t.i?.bind fun i => u.i?.bind fun j => some (.f (.int (if j < i then j else i)))
  | _ => none
theorem sn_max2 : Sn W (fun xs H Q => ∃ i j, xs = [.int i, .int j] ∧ Q (.int (if j > i then j else i)) H) gMax2 := by
  intro b F ρ σ X H ts τ xs Q S r e k
  match ts, e with
  | [t, u], e =>
    obtain ⟨x, y, rfl, r1, r2⟩ := rv2 r
    obtain ⟨i, e1, e⟩ := Option.bind_eq_some_iff.mp e
    obtain ⟨j, e2, e⟩ := Option.bind_eq_some_iff.mp e
    cases e
    exact ⟨i, j, by rw [r1.int e1, r2.int e2], k.d S rfl⟩
theorem sn_min2 : Sn W (fun xs H Q => ∃ i j, xs = [.int i, .int j] ∧ Q (.int (if j < i then j else i)) H) gMin2 := by
  intro b F ρ σ X H ts τ xs Q S r e k
  match ts, e with
  | [t, u], e =>
    obtain ⟨x, y, rfl, r1, r2⟩ := rv2 r
    obtain ⟨i, e1, e⟩ := Option.bind_eq_some_iff.mp e
    obtain ⟨j, e2, e⟩ := Option.bind_eq_some_iff.mp e
    cases e
    exact ⟨i, j, by rw [r1.int e1, r2.int e2], k.d S rfl⟩
def gAbs (ts : List T) : Option T := match ts with
  | [t] => t.i?.bind fun i => some (.f (.int (if i < 0 then -i else i)))
  | _ => none
theorem sn_abs : Sn W (fun xs H Q => ∃ i, xs = [.int i] ∧ Q (.int (if i < 0 then -i else i)) H) gAbs := by
  intro b F ρ σ X H ts τ xs Q S r e k
  match ts, e with
  | [t], e =>
    obtain ⟨x, rfl, r1⟩ := rv1 r
    obtain ⟨i, e1, e⟩ := Option.bind_eq_some_iff.mp e
    cases e
    exact ⟨i, by rw [r1.int e1], k.d S rfl⟩
def intsOf : List D → Option (List Int)
  | [] => some []
  | .int i :: ds => (intsOf ds).map fun r => i :: r
  | _ :: _ => none
theorem intsOf_eq : ∀ {ds : List D} {ns : List Int}, intsOf ds = some ns → ds = ns.map .int
  | [], _, e => by cases e; rfl
  | .int i :: ds, _, e => by
    obtain ⟨r, e1, e⟩ := Option.map_eq_some_iff.mp (show (intsOf ds).map _ = _ from e)
    subst e
    rw [intsOf_eq e1]
    rfl
def gSum (ts : List T) : Option T := match ts with
  | [t] => t.ls?.bind fun ds => (intsOf ds).map fun ns => .f (.int ns.sum)
  | _ => none
theorem sn_sum : Sn W (rSum W.K) gSum := by
  intro b F ρ σ X H ts τ xs Q S r e k
  match ts, e with
  | [t], e =>
    obtain ⟨x, rfl, r1⟩ := rv1 r
    obtain ⟨ds, e1, e⟩ := Option.bind_eq_some_iff.mp e
    obtain ⟨ns, e2, e⟩ := Option.map_eq_some_iff.mp e
    subst e
    obtain ⟨p, vs, ex, hs, q⟩ := r1.ls e1 S.le
    rw [intsOf_eq e2] at q
    rw [q.ints] at hs
    subst ex
    exact ⟨p, ns, rfl, hs, k.d S rfl⟩
def blsOf : List D → Option (List Bool)
  | [] => some []
  | .bl i :: ds => (blsOf ds).map fun r => i :: r
  | _ :: _ => none
theorem blsOf_eq : ∀ {ds : List D} {ns : List Bool}, blsOf ds = some ns → ds = ns.map .bl
  | [], _, e => by cases e; rfl
  | .bl i :: ds, _, e => by
    obtain ⟨r, e1, e⟩ := Option.map_eq_some_iff.mp (show (blsOf ds).map _ = _ from e)
    subst e
    rw [blsOf_eq e1]
    rfl
def gAll (ts : List T) : Option T := match ts with
  | [t] => t.ls?.bind fun ds => (blsOf ds).map fun ns => .f (.bl (ns.all id))
  | _ => none
theorem sn_all : Sn W (rAll W.K) gAll := by
  intro b F ρ σ X H ts τ xs Q S r e k
  match ts, e with
  | [t], e =>
    obtain ⟨x, rfl, r1⟩ := rv1 r
    obtain ⟨ds, e1, e⟩ := Option.bind_eq_some_iff.mp e
    obtain ⟨ns, e2, e⟩ := Option.map_eq_some_iff.mp e
    subst e
    obtain ⟨p, vs, ex, hs, q⟩ := r1.ls e1 S.le
    rw [blsOf_eq e2] at q
    rw [q.bls] at hs
    subst ex
    exact ⟨p, ns, rfl, hs, k.d S rfl⟩
/-- str -/
def gStr (ts : List T) : Option T := match ts with
  | [t] => match t.i? with
    | some i => if i.natAbs.log2 < 1920 then some (.f (.str (toString i))) else none
    | none => match t.s? with
      | some z => some (.f (.str z))
      | none => none
  | _ => none
theorem sn_str : Sn W (fun xs H Q => (∃ i : Int, xs = [.int i] ∧ i.natAbs.log2 < 1920 ∧ Q (.str (toString i)) H) ∨ ∃ a, xs = [.str a] ∧ Q (.str a) H) gStr := by
  intro b F ρ σ X H ts τ xs Q S r e k
  match ts, e with
  | [t], e =>
    obtain ⟨x, rfl, r1⟩ := rv1 r
    simp only [gStr] at e
    split at e
    · rename_i i h
      split at e
      · rename_i hz
        cases e
        exact .inl ⟨i, by rw [r1.int h], hz, k.d S rfl⟩
      · cases e
    · split at e
      · rename_i z h
        cases e
        exact .inr ⟨z, by rw [r1.str h], k.d S rfl⟩
      · cases e
/-- list(x), tuple(x) -/
def gList (ts : List T) : Option T := match ts with
  | [t] => t.sq?.map fun ds => .f (.lst ds)
  | _ => none
theorem sn_list : Sn W (fun xs H Q => ∃ p ys, xs = [.ref p] ∧ (SqL W.K H p ys ∨ SqT W.K H p ys) ∧ ∀ l, H l = none → Q (.ref l) (upd H l (.lst ys))) gList := by
  intro b F ρ σ X H ts τ xs Q S r e k
  match ts, e with
  | [t], e =>
    obtain ⟨x, rfl, r1⟩ := rv1 r
    obtain ⟨ds, e1, e⟩ := Option.map_eq_some_iff.mp e
    subst e
    obtain ⟨p, vs, ex, hs, q⟩ := r1.sq e1 S.le
    subst ex
    exact ⟨p, vs, rfl, hs, k.lst S q⟩
def gTuple (ts : List T) : Option T := match ts with
  | [t] => match t.ls? with
    | some ds => some (.f (.tup ds))
    | none => t.ts?.map fun ds => .f (.tup ds)
  | _ => none
theorem sn_tuple : Sn W (fun xs H Q => ∃ p ys, xs = [.ref p] ∧ ((SqL W.K H p ys ∧ ∀ l, H l = none → Q (.ref l) (upd H l (.tup ys))) ∨ (SqT W.K H p ys ∧ Q (.ref p) H))) gTuple := by
  intro b F ρ σ X H ts τ xs Q S r e k
  match ts, e with
  | [t], e =>
    obtain ⟨x, rfl, r1⟩ := rv1 r
    simp only [gTuple] at e
    split at e
    · rename_i ds h
      cases e
      obtain ⟨p, vs, ex, hs, q⟩ := r1.ls h S.le
      subst ex
      exact ⟨p, vs, rfl, .inl ⟨hs, k.tup S q⟩⟩
    · obtain ⟨ds, e1, e⟩ := Option.map_eq_some_iff.mp e
      subst e
      obtain ⟨p, vs, ex, hs, q⟩ := r1.ts e1 S.le
      subst ex
      refine ⟨p, vs, rfl, .inr ⟨hs, k.here S ?_⟩⟩
      cases t with
      | f d => cases d with
        | tup l => cases e1; exact r1
        | _ => cases e1
      | _ => cases e1
/-- isinstance(x, T) -/
def T.ty : T → Option String
  | .f .non => some "NoneType" | .f (.bl _) => some "bool" | .f (.int _) => some "int" | .f (.str _) => some "str"
  | .l _ => some "list" | .ll _ => some "list" | .tu _ => some "tuple" | .dk _ _ => some "dict"
  | .f (.lst _) => some "list" | .f (.tup _) => some "tuple" | .f (.dct _ _) => some "dict" | _ => none
theorem RelV.ty {F H : Hp} {t : T} {v : V} {n : String} (r : RelV W F H t v) (h : t.ty = some n) (le : Le F H) : TyX W.K H v (.type n) := by
  cases t with
  | f d => cases d with
    | non => cases h; rw [show v = V.non from r.rep]; exact .base .non
    | bl b => cases h; rw [show v = V.bl b from r.rep]; exact .base (.bl b)
    | int b => cases h; rw [show v = V.int b from r.rep]; exact .base (.int b)
    | str b => cases h; rw [show v = V.str b from r.rep]; exact .base (.str b)
    | lst l =>
      cases h
      obtain ⟨p, vs, ex, hs, q⟩ := r.rep
      subst ex
      rcases SqL.le le hs with (e | ⟨o, e⟩) | ⟨o, its, n, e, hc, _⟩
      · exact .base (.lst e)
      · exact .base (.frz e)
      · exact .kList e hc
    | tup l =>
      cases h
      obtain ⟨p, vs, ex, hs, q⟩ := r.rep
      subst ex
      rcases SqT.le le hs with (e | ⟨o, e⟩) | ⟨o, its, n, e, hc, _⟩
      · exact .base (.tup e)
      · exact .fTuple e
      · exact .kTuple e hc
    | dct ks l =>
      cases h
      obtain ⟨p, vs, ex, hs, q⟩ := r.rep
      subst ex
      rcases Rd.le le hs with e | ⟨o, e⟩
      · exact .base (.dK e)
      · exact .fDict e
    | obj _ _ _ => cases h
  | l ds => cases h; obtain ⟨fp, p, vs, ex, _, hs, q⟩ := r; subst ex; exact .base (.lst hs)
  | ll ds => cases h; obtain ⟨fp, p, vs, _, ex, _, hs, q⟩ := r; subst ex; exact .base (.lst hs)
  | tu ds => cases h; obtain ⟨fp, p, vs, _, ex, _, hs, q⟩ := r; subst ex; exact .base (.tup hs)
  | dk ks ds => cases h; obtain ⟨fp, p, vs, ex, _, hs, q⟩ := r; subst ex; exact .base (.dK hs)
  | un => cases h
  | o _ _ _ => cases h
def fIsi (n : String) (fa : List T → Option T) : List T → Option T := fun ρ => (fa ρ).bind fun t => t.ty.bind fun m => (kitB m n).map fun b => .f (.bl b)
end
section
variable {c : Ctx} {a e' : Expr} {es : List Expr} {fa fb : List T → Option T} {fs : List T → Option (List T)} {pos : Pos} {p : Pos}
theorem ev_isi {n : String} {x : Str} {p2 : Pos} (hg : ∀ j, Gl (c.X j) "isinstance") (hm : ∀ j, (c.X j).mg "isinstance" = none) (ha : Ev c a fa) (hg2 : ∀ j, Gl (c.X j) x) (hm2 : ∀ j, (c.X j).mg x = none) (hv : bootBuiltins x = some (.type n)) (hn : x ≠ "__name__" := by decide) (hdb : (x == ("__debug__" : Str)) = false := by decide)
    (he : ∀ j, starEach [a, .Name x p2] (c.X j).env = (false, eval a (c.X j).env) :: starEach [.Name x p2] (c.X j).env := by intro _; rfl) (he2 : ∀ j, starEach [.Name x p2] (c.X j).env = (false, eval (.Name x p2) (c.X j).env) :: starEach [] (c.X j).env := by intro _; rfl) (hpl : ∀ j, (backTo pos (starEach [.Name x p2] (c.X j).env)).any (·.1) = false := by intro _; rfl) :
    Ev c (.Call (.Name "isinstance" p) [a, .Name x p2] [] pos) (fIsi n fa) := by
  obtain ⟨t, q, s⟩ := ha
  refine ⟨tCB (rIsi c.W.K) (tCons t (tCons (tC (.ty n)) tNil)), fun j => ?_, ?_⟩
  · have h := pe_callB (p := p) (pos := pos) (call_isi (X := c.X j)) (hg j) (hm j) (by decide +kernel) (pa_cons (q j) (pa_cons (pe_bltn (v := .ty n) (pos := p2) (hg2 j) (hm2 j) hv rfl hn hdb) pa_nil (he2 j)) (he j)) (by decide) (by decide) (he j) (hpl j)
    rw [c.hK j] at h
    exact h
  intro b F ρ σ X H τ Q S e k
  obtain ⟨t1, e1, e⟩ := Option.bind_eq_some_iff.mp e
  obtain ⟨m, e2, e⟩ := Option.bind_eq_some_iff.mp e
  obtain ⟨r, e3, e⟩ := Option.map_eq_some_iff.mp e
  subst e
  refine s b F ρ σ X H t1 _ S e1 fun v F1 H1 S1 i1 s1 r1 => ?_
  exact ⟨v, _, _, _, r, rfl, .ty n, r1.ty e2 S1.le, kit_ty e3, (k.mono i1 s1).d S1 rfl⟩
end
end Z

namespace Z
open PySem PySem.Spec PyProof.Rows L2

/-! ### what is walked -/
def IvR (X : Cx) (tg : Expr) (r : V → Hp → (It → Hp → Prop) → Prop) : Prop :=
  ∀ (pins : List (Addr × Obj)) (s : Shared) (σ : L2.St) (H : Hp) (x : V) (v : Value) (R : It → Hp → Prop), Inv X pins σ H s → L2.RelV x v → r x H R → wpAny (model X.prog X.w) X.A (pyIter v) (PIE X pins σ tg R) X.xe s
theorem pi_of {X : Cx} {tg e : Expr} {t : TE} {r : V → Hp → (It → Hp → Prop) → Prop} (he : PE X e t) (hr : IvR X tg r) : PI X tg e (fun σ H R => t σ H fun x H1 => r x H1 R) := by
  refine ⟨fun pins s σ H R I h => ?_⟩
  exact thn (he.run pins s σ H _ I h) fun v s1 ⟨x, H1, I1, r1, q1⟩ => hr pins s1 σ H1 x v R I1 r1 q1
def rivL (K : PySem.W.Frag) : V → Hp → (It → Hp → Prop) → Prop := fun x H R => ∃ a, x = .ref a ∧ (∃ xs, SqL K H a xs) ∧ R (Itl K a) H
def rivT (K : PySem.W.Frag) : V → Hp → (It → Hp → Prop) → Prop := fun x H R => ∃ a, x = .ref a ∧ (∃ xs, SqT K H a xs) ∧ R (Itt K a) H
def rivS : V → Hp → (It → Hp → Prop) → Prop := fun v H R => ∃ x, v = .str x ∧ R (Its x) H
theorem iv_list {X : Cx} {tg : Expr} : IvR X tg (rivL X.K) := by
  intro pins s1 σ H1 x v R I1 r1 q1
  obtain ⟨a, e, ⟨xs, hq⟩, q⟩ := q1
  subst e
  cases r1
  obtain ⟨its, rv, p, hz⟩ := I1.list hq
  refine wpAny_pyIter_list p.isList ?_
  refine ⟨s1.heap.objs.size, [s1.heap.objs.size], _, _, H1, rfl, I1.kept (t' := s1.toks) fun b o e => Heap.get?_push_of_some _ e, turn_list a _, ⟨_, Heap.get?_push_size _ rfl, rfl, rfl⟩, fun b hb => ?_, q⟩
  have e : b = s1.heap.objs.size := by simpa using hb
  subst e
  exact I1.fpOk (Nat.le_refl _) (I1.hok.fresh (Nat.le_refl _))
theorem iv_tup {X : Cx} {tg : Expr} : IvR X tg (rivT X.K) := by
  intro pins s1 σ H1 x v R I1 r1 q1
  obtain ⟨a, e, ⟨xs, hq⟩, q⟩ := q1
  subst e
  cases r1
  obtain ⟨its, rv, p, hz⟩ := I1.tuple hq
  refine wpAny_pyIter_tuple (show s1.heap.IsTuple a its.toArray from p) ?_
  refine ⟨s1.heap.objs.size, [s1.heap.objs.size], _, _, H1, rfl, I1.kept (t' := s1.toks) fun b o e => Heap.get?_push_of_some _ e, turn_tuple a _, ⟨_, Heap.get?_push_size _ rfl, rfl, rfl⟩, fun b hb => ?_, q⟩
  have e : b = s1.heap.objs.size := by simpa using hb
  subst e
  exact I1.fpOk (Nat.le_refl _) (I1.hok.fresh (Nat.le_refl _))
theorem iv_str {X : Cx} {tg : Expr} : IvR X tg rivS := by
  intro pins s1 σ H1 y v R I1 r1 q1
  obtain ⟨x, ex, q⟩ := q1
  subst ex
  obtain ⟨t, rfl⟩ := r1
  cases ha : x.cps.all (· < 128)
  · exact wpAny_pyIter_wide ha (pi_one (tk := s1.toks) I1 _ (turn_str _ x t "str_iterator" (.inr rfl)) ⟨_, Heap.get?_push_size _ rfl, rfl, rfl⟩ q)
  · exact wpAny_pyIter_ascii ha (pi_one (tk := s1.toks) I1 _ (turn_str _ x t "str_ascii_iterator" (.inl rfl)) ⟨_, Heap.get?_push_size _ rfl, rfl, rfl⟩ q)
def rivU (K : PySem.W.Frag) : V → Hp → (It → Hp → Prop) → Prop := fun x H R => rivL K x H R ∨ rivT K x H R ∨ rivS x H R
theorem iv_U {X : Cx} {tg : Expr} : IvR X tg (rivU X.K) := by
  intro pins s σ H x v R I r q
  rcases q with q | q | q
  · exact iv_list pins s σ H x v R I r q
  · exact iv_tup pins s σ H x v R I r q
  · exact iv_str pins s σ H x v R I r q
def signs (x : Str) : List D := x.cps.toList.map fun c => .str ⟨#[c]⟩
def D.its : D → Option (List D) | .lst ds => some ds | .tup ds => some ds | .str x => some (signs x) | _ => none
section
variable {W : Wd} {F : Hp}
theorem wk_list {a : Addr} {ds : List D} {vs : List V} (hs : SqL W.K F a vs) (r : Reps W F ds vs) : Wk W F (Itl W.K a) ds where
  go := fun i G H i1 le h => by
    obtain ⟨v, e, _⟩ := r.get (List.getElem?_eq_getElem h)
    exact ⟨vs, v, SqL.le (i1.le le) hs, e⟩
  stop := fun G H i1 le => ⟨vs, SqL.le (i1.le le) hs, by rw [r.len]; exact Nat.le_refl _⟩
  yld := fun i G H x H' d i1 le hd y => by
    obtain ⟨e, y⟩ := y
    obtain ⟨v, e2, q⟩ := r.get hd
    have := y vs (SqL.le (i1.le le) hs)
    rw [e2] at this
    cases this
    exact .inl ⟨e, q.inc i1⟩
theorem wk_tup {a : Addr} {ds : List D} {vs : List V} (hs : SqT W.K F a vs) (r : Reps W F ds vs) : Wk W F (Itt W.K a) ds where
  go := fun i G H i1 le h => by
    obtain ⟨v, e, _⟩ := r.get (List.getElem?_eq_getElem h)
    exact ⟨vs, v, SqT.le (i1.le le) hs, e⟩
  stop := fun G H i1 le => ⟨vs, SqT.le (i1.le le) hs, by rw [r.len]; exact Nat.le_refl _⟩
  yld := fun i G H x H' d i1 le hd y => by
    obtain ⟨e, y⟩ := y
    obtain ⟨v, e2, q⟩ := r.get hd
    have := y vs (SqT.le (i1.le le) hs)
    rw [e2] at this
    cases this
    exact .inl ⟨e, q.inc i1⟩
theorem wk_str {x : Str} : Wk W F (Its x) (signs x) where
  go := fun i G H i1 le h => by
    unfold signs at h
    rw [List.length_map] at h
    exact (by simpa using h : i < x.cps.size)
  stop := fun G H i1 le => by
    show x.cps.size ≤ _
    unfold signs
    rw [List.length_map]
    simp
  yld := fun i G H v H' d i1 le hd y => by
    obtain ⟨e, c, ec, ev⟩ := y
    refine .inl ⟨e, ?_⟩
    unfold signs at hd
    rw [List.getElem?_map] at hd
    have ec' : x.cps.toList[i]? = some c := by simpa using ec
    rw [ec'] at hd
    cases hd
    exact ev
theorem wk_its {x : V} {d : D} {ds : List D} {H : Hp} {R : It → Hp → Prop} (le : Le F H) (r : Rep W F d x) (h : d.its = some ds) (k : ∀ J, Wk W F J ds → R J H) : rivU W.K x H R := by
  cases d with
  | lst l =>
    cases h
    obtain ⟨p, vs, ex, hs, q⟩ := r
    exact .inl ⟨p, ex, ⟨vs, SqL.le le hs⟩, k _ (wk_list hs q)⟩
  | tup l =>
    cases h
    obtain ⟨p, vs, ex, hs, q⟩ := r
    exact .inr (.inl ⟨p, ex, ⟨vs, SqT.le le hs⟩, k _ (wk_tup hs q)⟩)
  | str z =>
    cases h
    exact .inr (.inr ⟨z, r, k _ wk_str⟩)
  | _ => cases h
def rangeD (lo : Int) (n : Nat) : List D := (List.range n).map fun (i : Nat) => .int (lo + (i : Int))
theorem wk_range {lo : Int} {n : Nat} : Wk W F (Itr lo n) (rangeD lo n) where
  go := fun i G H i1 le h => by
    unfold rangeD at h
    rw [List.length_map, List.length_range] at h
    exact h
  stop := fun G H i1 le => by
    show n ≤ _
    unfold rangeD
    rw [List.length_map, List.length_range]
    exact Nat.le_refl _
  yld := fun i G H v H' d i1 le hd y => by
    obtain ⟨e, ev⟩ := y
    refine .inl ⟨e, ?_⟩
    unfold rangeD at hd
    rw [List.getElem?_map] at hd
    obtain ⟨j, ej, hd⟩ := Option.map_eq_some_iff.mp hd
    obtain ⟨hlt, ej⟩ := List.getElem?_eq_some_iff.mp ej
    rw [List.getElem_range] at ej
    subst ej hd
    exact ev
def enumD : Nat → List D → List D
  | _, [] => []
  | i, d :: ds => .tup [.int (i : Int), d] :: enumD (i + 1) ds
theorem enumD_len : ∀ (ds : List D) (i : Nat), (enumD i ds).length = ds.length
  | [], _ => rfl
  | d :: ds, i => by
    show (enumD (i + 1) ds).length + 1 = ds.length + 1
    rw [enumD_len ds]
theorem enumD_get : ∀ (ds : List D) (j i : Nat) (d : D), (enumD j ds)[i]? = some d → ∃ e, ds[i]? = some e ∧ d = .tup [.int ((j + i : Nat) : Int), e]
  | [], _, _, _, h => by simp [enumD] at h
  | x :: ds, j, 0, d, h => by
    have h' : D.tup [.int (j : Int), x] = d := by simpa [enumD] using h
    exact ⟨x, rfl, by rw [← h']; rfl⟩
  | x :: ds, j, i + 1, d, h => by
    have h' : (enumD (j + 1) ds)[i]? = some d := by simpa [enumD] using h
    obtain ⟨e, e1, e2⟩ := enumD_get ds (j + 1) i d h'
    exact ⟨e, by simpa using e1, by rw [e2, show j + 1 + i = j + (i + 1) by omega]⟩
theorem wk_enum {a : Addr} {ds : List D} {vs : List V} (hs : SqL W.K F a vs) (r : Reps W F ds vs) : Wk W F (Ite W.K a) (enumD 0 ds) where
  go := fun i G H i1 le h => by
    rw [enumD_len] at h
    obtain ⟨v, e, _⟩ := r.get (List.getElem?_eq_getElem h)
    exact ⟨vs, v, SqL.le (i1.le le) hs, e⟩
  stop := fun G H i1 le => ⟨vs, SqL.le (i1.le le) hs, by rw [enumD_len, r.len]; exact Nat.le_refl _⟩
  yld := fun i G H x H' d i1 le hd y => by
    obtain ⟨p, z, ex, hp, eH, y⟩ := y
    obtain ⟨e, e1, e2⟩ := enumD_get ds 0 i d hd
    obtain ⟨v, e3, q⟩ := r.get e1
    have := y vs (SqL.le (i1.le le) hs)
    rw [e3] at this
    cases this
    refine .inr ⟨p, _, hp, eH, ex, fun i2 => ?_⟩
    subst e2
    refine ⟨p, _, rfl, .inl (.inl upd_same), _, _, rfl, ?_, _, _, rfl, (q.inc i1).inc i2, rfl⟩
    show V.int _ = V.int _
    rw [Nat.zero_add]
def zipD : List D → List D → List D
  | a :: as, b :: bs => .tup [a, b] :: zipD as bs
  | _, _ => []
theorem zipD_get : ∀ (as bs : List D) (i : Nat) (d : D), (zipD as bs)[i]? = some d → ∃ a b, as[i]? = some a ∧ bs[i]? = some b ∧ d = .tup [a, b]
  | [], _, _, _, h => by simp [zipD] at h
  | _ :: _, [], _, _, h => by simp [zipD] at h
  | a :: as, b :: bs, 0, d, h => ⟨a, b, rfl, rfl, by simpa [zipD] using h.symm⟩
  | a :: as, b :: bs, i + 1, d, h => by
    obtain ⟨x, y, e1, e2, e3⟩ := zipD_get as bs i d (by simpa [zipD] using h)
    exact ⟨x, y, by simpa using e1, by simpa using e2, e3⟩
theorem zipD_len : ∀ (as bs : List D), (zipD as bs).length = min as.length bs.length
  | [], _ => by simp [zipD]
  | _ :: _, [] => by simp [zipD]
  | a :: as, b :: bs => by
    show (zipD as bs).length + 1 = _
    rw [zipD_len as bs]
    simp only [List.length_cons]
    omega
theorem wk_zip {a a2 : Addr} {ds es : List D} {vs us : List V} (hs : SqL W.K F a vs) (r : Reps W F ds vs) (hs2 : SqL W.K F a2 us) (r2 : Reps W F es us) : Wk W F (Itz W.K a a2) (zipD ds es) where
  go := fun i G H i1 le h => by
    rw [zipD_len] at h
    obtain ⟨v, e, _⟩ := r.get (List.getElem?_eq_getElem (show i < ds.length by omega))
    obtain ⟨u, e2, _⟩ := r2.get (List.getElem?_eq_getElem (show i < es.length by omega))
    exact ⟨vs, us, v, u, SqL.le (i1.le le) hs, SqL.le (i1.le le) hs2, e, e2⟩
  stop := fun G H i1 le => ⟨vs, us, SqL.le (i1.le le) hs, SqL.le (i1.le le) hs2, by rw [zipD_len, ← r.len, ← r2.len]; omega⟩
  yld := fun i G H x H' d i1 le hd y => by
    obtain ⟨p, z, z2, ex, hp, eH, y, y2⟩ := y
    obtain ⟨e, e', e1, e2, e3⟩ := zipD_get ds es i d hd
    obtain ⟨v, h1, q⟩ := r.get e1
    obtain ⟨u, h2, q2⟩ := r2.get e2
    have t1 := y vs (SqL.le (i1.le le) hs)
    have t2 := y2 us (SqL.le (i1.le le) hs2)
    rw [h1] at t1
    rw [h2] at t2
    cases t1
    cases t2
    refine .inr ⟨p, _, hp, eH, ex, fun i2 => ?_⟩
    subst e3
    exact ⟨p, _, rfl, .inl (.inl upd_same), _, _, rfl, (q.inc i1).inc i2, _, _, rfl, (q2.inc i1).inc i2, rfl⟩
theorem wk_rev {a : Addr} {ds : List D} {vs : List V} (hs : SqL W.K F a vs) (r : Reps W F ds vs) : Wk W F (Itv W.K a vs.length) ds.reverse where
  go := fun i G H i1 le h => by
    rw [List.length_reverse] at h
    obtain ⟨v, e, _⟩ := r.get (List.getElem?_eq_getElem (show vs.length - 1 - i < ds.length by rw [r.len] at h ⊢; omega))
    exact ⟨by rw [← r.len]; exact h, vs, v, SqL.le (i1.le le) hs, e⟩
  stop := fun G H i1 le => by
    show vs.length ≤ _
    rw [List.length_reverse, r.len]
    exact Nat.le_refl _
  yld := fun i G H x H' d i1 le hd y => by
    obtain ⟨e, y⟩ := y
    have hi : i < ds.length := by
      have := (List.getElem?_eq_some_iff.mp hd).1
      rw [List.length_reverse] at this
      exact this
    rw [List.getElem?_reverse hi, r.len] at hd
    obtain ⟨v, e2, q⟩ := r.get hd
    have := y vs (SqL.le (i1.le le) hs)
    rw [e2] at this
    cases this
    exact .inl ⟨e, q.inc i1⟩
end
section
variable {c : Ctx} {tg e e2 : Expr} {fo : List T → Option Re} {fs : List T → Option (List T)} {p pos : Pos}
def iVal (fo : List T → Option Re) : List T → Option Ri := fun ρ => (fo ρ).bind fun r => match r with
  | .ok t ρ1 => t.d?.bind fun d => d.its.map fun ds => .ok ds ρ1
  | .xc C ρ1 => some (.xc C ρ1)
theorem iw_val (he : Eo c e fo) : Iw c tg e (iVal fo) := by
  obtain ⟨t, p, s⟩ := he
  refine ⟨_, fun j => pi_of (p j) (by have h := iv_U (X := c.X j) (tg := tg); rw [c.hK j] at h; exact h), ?_⟩
  intro b F ρ σ X H r R hb S e k
  unfold iVal at e
  obtain ⟨r1, e1, e⟩ := Option.bind_eq_some_iff.mp e
  refine s b F ρ σ X H r1 _ hb S e1 ?_
  cases r1 with
  | xc C ρ1 =>
    cases e
    exact k
  | ok τ ρ1 =>
    obtain ⟨d, e2, e⟩ := Option.bind_eq_some_iff.mp e
    obtain ⟨ds, e3, e⟩ := Option.map_eq_some_iff.mp e
    subst e
    rw [d_some e2]
    intro v F' H' S' i'
    exact wk_its S'.le S'.top e3 fun J w => k J F' H' S'.drop i' w
/-- by one or two deep lists -/
def iL1 (g : List D → List D) (fs : List T → Option (List T)) : List T → Option Ri := fun ρ => (fs ρ).bind fun ts => match ts with
  | [.f (.lst ds)] => some (.ok (g ds) ρ)
  | _ => none
theorem iw_enum {elts : List Expr} {kk : Nat} {tpos : Pos} (hg : ∀ j, Gl (c.X j) "enumerate") (hm : ∀ j, (c.X j).mg "enumerate" = none) (ha : Av c [e] fs) (hs : ∀ j, starEach [e] (c.X j).env = [(false, eval e (c.X j).env)] := by intro _; rfl) :
    Iw c (.Tuple elts kk tpos) (.Call (.Name "enumerate" p) [e] [] pos) (iL1 (enumD 0) fs) := by
  obtain ⟨t, q, s⟩ := ha
  refine ⟨iEnum c.W.K t, fun j => by have h := pi_enum (p := p) (pos := pos) (tpos := tpos) (elts := elts) (kk := kk) (hg j) (hm j) (q j) (hs j); rw [c.hK j] at h; exact h, ?_⟩
  intro b F ρ σ X H r R hb S e k
  unfold iL1 at e
  obtain ⟨ts, e1, e⟩ := Option.bind_eq_some_iff.mp e
  refine s b F ρ σ X H ts _ S e1 fun vs F1 H1 S1 i1 s1 r1 => ?_
  match ts, e with
  | [.f (.lst ds)], e =>
    cases e
    obtain ⟨x, rfl, r2⟩ := rv1 r1
    obtain ⟨a, us, ex, hs, q⟩ := r2.rep
    subst ex
    exact ⟨a, us, rfl, SqL.le S1.le hs, k _ F1 H1 S1 i1 (wk_enum hs q)⟩
theorem iw_rev (hg : ∀ j, Gl (c.X j) "reversed") (hm : ∀ j, (c.X j).mg "reversed" = none) (ha : Av c [e] fs) (hs : ∀ j, starEach [e] (c.X j).env = [(false, eval e (c.X j).env)] := by intro _; rfl) :
    Iw c tg (.Call (.Name "reversed" p) [e] [] pos) (iL1 List.reverse fs) := by
  obtain ⟨t, q, s⟩ := ha
  refine ⟨iRev c.W.K t, fun j => by have h := pi_reversed (tg := tg) (p := p) (pos := pos) (hg j) (hm j) (q j) (hs j); rw [c.hK j] at h; exact h, ?_⟩
  intro b F ρ σ X H r R hb S e k
  unfold iL1 at e
  obtain ⟨ts, e1, e⟩ := Option.bind_eq_some_iff.mp e
  refine s b F ρ σ X H ts _ S e1 fun vs F1 H1 S1 i1 s1 r1 => ?_
  match ts, e with
  | [.f (.lst ds)], e =>
    cases e
    obtain ⟨x, rfl, r2⟩ := rv1 r1
    obtain ⟨a, us, ex, hs, q⟩ := r2.rep
    subst ex
    exact ⟨a, us, rfl, SqL.le S1.le hs, k _ F1 H1 S1 i1 (wk_rev hs q)⟩
def iL2 (g : List D → List D → List D) (fs : List T → Option (List T)) : List T → Option Ri := fun ρ => (fs ρ).bind fun ts => match ts with
  | [.f (.lst ds), .f (.lst es)] => some (.ok (g ds es) ρ)
  | _ => none
theorem iw_zip {elts : List Expr} {kk : Nat} {tpos : Pos} (hg : ∀ j, Gl (c.X j) "zip") (hm : ∀ j, (c.X j).mg "zip" = none) (ha : Av c [e, e2] fs) (hs : ∀ j, starEach [e, e2] (c.X j).env = (false, eval e (c.X j).env) :: starEach [e2] (c.X j).env := by intro _; rfl) (hpl : ∀ j, (backTo pos (starEach [e2] (c.X j).env)).any (·.1) = false := by intro _; rfl) :
    Iw c (.Tuple elts kk tpos) (.Call (.Name "zip" p) [e, e2] [] pos) (iL2 zipD fs) := by
  obtain ⟨t, q, s⟩ := ha
  refine ⟨iZip c.W.K t, fun j => by have h := pi_zip (p := p) (pos := pos) (tpos := tpos) (elts := elts) (kk := kk) (hg j) (hm j) (q j) (hs j) (hpl j); rw [c.hK j] at h; exact h, ?_⟩
  intro b F ρ σ X H r R hb S e k
  unfold iL2 at e
  obtain ⟨ts, e1, e⟩ := Option.bind_eq_some_iff.mp e
  refine s b F ρ σ X H ts _ S e1 fun vs F1 H1 S1 i1 s1 r1 => ?_
  match ts, e with
  | [.f (.lst ds), .f (.lst es)], e =>
    cases e
    obtain ⟨x, y, rfl, r2, r3⟩ := rv2 r1
    obtain ⟨a, us, ex, hs, q⟩ := r2.rep
    obtain ⟨a2, us2, ex2, hs2, q2⟩ := r3.rep
    subst ex ex2
    exact ⟨a, a2, us, us2, rfl, SqL.le S1.le hs, SqL.le S1.le hs2, k _ F1 H1 S1 i1 (wk_zip hs q hs2 q2)⟩
def iR1 (fs : List T → Option (List T)) : List T → Option Ri := fun ρ => (fs ρ).bind fun ts => match ts with
  | [.f (.int n)] => if -(2 ^ 62) ≤ n ∧ n < 2 ^ 62 then some (.ok (rangeD 0 n.toNat) ρ) else none
  | _ => none
def iR2 (fs : List T → Option (List T)) : List T → Option Ri := fun ρ => (fs ρ).bind fun ts => match ts with
  | [.f (.int m), .f (.int n)] => if -(2 ^ 62) ≤ m ∧ m < 2 ^ 62 ∧ -(2 ^ 62) ≤ n ∧ n < 2 ^ 62 then some (.ok (rangeD m (n - m).toNat) ρ) else none
  | _ => none
theorem iw_range1 (hg : ∀ j, Gl (c.X j) "range") (hm : ∀ j, (c.X j).mg "range" = none) (ha : Av c [e] fs) (hs : ∀ j, starEach [e] (c.X j).env = [(false, eval e (c.X j).env)] := by intro _; rfl) : Iw c tg (.Call (.Name "range" p) [e] [] pos) (iR1 fs) := by
  obtain ⟨t, q, s⟩ := ha
  refine ⟨_, fun j => pi_range1 (hg j) (hm j) (q j) (hs j), ?_⟩
  intro b F ρ σ X H r R hb S e k
  unfold iR1 at e
  obtain ⟨ts, e1, e⟩ := Option.bind_eq_some_iff.mp e
  refine s b F ρ σ X H ts _ S e1 fun vs F1 H1 S1 i1 s1 r1 => ?_
  match ts, e with
  | [.f (.int n)], e =>
    simp only at e
    split at e
    · rename_i hn
      cases e
      obtain ⟨x, rfl, r2⟩ := rv1 r1
      exact ⟨n, by rw [show x = V.int n from r2.rep], hn.1, hn.2, k _ F1 H1 S1 i1 wk_range⟩
    · cases e
theorem iw_range2 (hg : ∀ j, Gl (c.X j) "range") (hm : ∀ j, (c.X j).mg "range" = none) (ha : Av c [e, e2] fs) (hs : ∀ j, starEach [e, e2] (c.X j).env = [(false, eval e (c.X j).env), (false, eval e2 (c.X j).env)] := by intro _; rfl) (hs2 : ∀ j, starEach [e2] (c.X j).env = [(false, eval e2 (c.X j).env)] := by intro _; rfl) : Iw c tg (.Call (.Name "range" p) [e, e2] [] pos) (iR2 fs) := by
  obtain ⟨t, q, s⟩ := ha
  refine ⟨_, fun j => pi_range2 (hg j) (hm j) (q j) (hs j) (hs2 j), ?_⟩
  intro b F ρ σ X H r R hb S e k
  unfold iR2 at e
  obtain ⟨ts, e1, e⟩ := Option.bind_eq_some_iff.mp e
  refine s b F ρ σ X H ts _ S e1 fun vs F1 H1 S1 i1 s1 r1 => ?_
  match ts, e with
  | [.f (.int m), .f (.int n)], e =>
    simp only at e
    split at e
    · rename_i hn
      cases e
      obtain ⟨x, y, rfl, r2, r3⟩ := rv2 r1
      exact ⟨m, n, by rw [show x = V.int m from r2.rep, show y = V.int n from r3.rep], hn, k _ F1 H1 S1 i1 wk_range⟩
    · cases e
end

/-! ### a def -/
def outs (io : List Nat) : Nat → List T → List T → List T
  | _, [], _ => []
  | _, t :: ts, [] => t :: ts
  | i, t :: ts, r :: ρ => (if i ∈ io then r else t) :: outs io (i + 1) ts ρ
def runF (m n : Nat) (io : List Nat) (fb : FS) : List T → Option Re := fun ts => if ts.length = m then (fb (ts ++ List.replicate (n - m) .un)).bind fun o => match o with
  | .rt τ ρ => if m ≤ ρ.length then some (.ok τ (outs io 0 ts ρ)) else none
  | .nx ρ => if m ≤ ρ.length then some (.ok (.f .non) (outs io 0 ts ρ)) else none
  | .xc C ρ => if m ≤ ρ.length then some (.xc C (outs io 0 ts ρ)) else none
  | _ => none
  else none
section
variable {W : Wd} {F F' H H' : Hp}
theorem slots_un : ∀ (k : Nat), Slots W F H (List.replicate k .un) (List.replicate k none) (List.replicate k [])
  | 0 => ⟨rfl, rfl⟩
  | k + 1 => ⟨none, _, [], _, rfl, rfl, ⟨rfl, rfl⟩, slots_un k⟩
theorem slots_of : ∀ {ts : List T} {vs : List V} {fps : List (List Addr)}, RelTs W F H ts vs fps → Slots W F H ts (vs.map some) fps
  | [], _, _, r => by
    rw [r.1, r.2]
    exact ⟨rfl, rfl⟩
  | t :: ts, _, _, r => by
    obtain ⟨v, vr, f, fr, e1, e2, a, b⟩ := r
    rw [e1, e2]
    exact ⟨some v, _, f, _, rfl, rfl, a, slots_of b⟩
theorem slots_app : ∀ {ts us : List T} {σ τ : L2.St} {f g : List (List Addr)}, Slots W F H ts σ f → Slots W F H us τ g → Slots W F H (ts ++ us) (σ ++ τ) (f ++ g)
  | [], _, _, _, _, _, r, q => by
    rw [r.1, r.2]
    exact q
  | t :: ts, _, _, _, _, _, r, q => by
    obtain ⟨s, sr, f, fr, e1, e2, a, b⟩ := r
    rw [e1, e2]
    exact ⟨s, _, f, _, rfl, rfl, a, slots_app b q⟩
theorem SR.init {ts : List T} {vs : List V} {fps : List (List Addr)} {io : List Nat} {N : List Str} (le : Le F H) (r : RelTs W F H ts vs fps) (own : Own F fps.flatten) :
    SR W (bsOf H F fps io vs) F (ts ++ List.replicate (N.length - vs.length) .un) (start N vs) [] H := by
  have hr : ∀ k, (List.replicate k ([] : List Addr)).flatten = [] := fun k => by induction k with
    | zero => rfl
    | succ k ih => rw [List.replicate_succ, List.flatten_cons, ih]; rfl
  refine ⟨le, Inc.refl F, fun a o e => .inl e, fun a o e _ => e, fun a o e _ => ⟨o, e, Stb.refl o⟩, fun p hp => ?_, fps ++ List.replicate (N.length - vs.length) [], [], slots_app (slots_of r) (slots_un _), ⟨rfl, rfl⟩, ⟨?_, fun a ha => ?_⟩, fun i f e a ha => ?_, trivial⟩
  · obtain ⟨i, hi, e⟩ := List.mem_filterMap.mp hp
    obtain ⟨v, hv, e⟩ := Option.map_eq_some_iff.mp e
    subst e
    show (vs.map some ++ _)[i]? = _
    rw [List.getElem?_append_left (by rw [List.length_map]; exact (List.getElem?_eq_some_iff.mp hv).1), List.getElem?_map, hv]
    rfl
  · rw [List.flatten_append, hr, List.append_nil, List.flatten_nil, List.append_nil]
    exact own.1
  · rw [List.flatten_append, hr, List.append_nil, List.flatten_nil, List.append_nil] at ha
    exact own.2 a ha
  · refine .inr ⟨f, ?_, ha⟩
    show fps[i]? = some f
    by_cases h : i < fps.length
    · rw [List.getElem?_append_left h] at e
      exact e
    · rw [List.getElem?_append_right (by omega), List.getElem?_replicate] at e
      split at e
      · cases e
        cases ha
      · cases e
theorem outs_slots {io : List Nat} (hF : Inc F F') : ∀ {ts : List T} {vs : List V} {fps : List (List Addr)} {i : Nat} {ρ : List T} {σ : L2.St} {gps : List (List Addr)}, RelTs W F H ts vs fps → ioOk io i ts = true → Slots W F' H' ρ σ gps → ts.length ≤ ρ.length →
    (∀ j v, i + j ∈ io → vs[j]? = some v → σ[j]? = some (some v)) → ∃ hps, Slots W F' H' (outs io i ts ρ) (vs.map some) hps ∧ List.Sublist hps.flatten gps.flatten ∧ ∀ (j : Nat) (f : List Addr), hps[j]? = some f → f = [] ∨ gps[j]? = some f
  | [], _, _, _, _, _, _, r, _, _, _, _ => by
    rw [r.1]
    exact ⟨[], ⟨rfl, rfl⟩, List.nil_sublist _, fun j f e => by simp at e⟩
  | t :: ts, _, _, i, [], _, _, _, _, _, h, _ => by simp at h
  | t :: ts, _, _, i, r0 :: ρ, σ, gps, r, ho, s, h, hp => by
    obtain ⟨v, vr, f, fr, e1, e2, a, b⟩ := r
    subst e1 e2
    obtain ⟨s0, sr, g, gr, e3, e4, a', b'⟩ := s
    subst e3 e4
    have ho' : (io.contains i || isF t) = true ∧ ioOk io (i + 1) ts = true := by
      have := ho
      unfold ioOk at this
      rwa [Bool.and_eq_true] at this
    obtain ⟨hps, q1, q2, q3⟩ := outs_slots (i := i + 1) hF b ho'.2 b' (by simpa using h) fun j w hj hw => by
      have := hp (j + 1) w (by rw [show i + (j + 1) = i + 1 + j by omega]; exact hj) (by simpa using hw)
      simpa using this
    by_cases hio : i ∈ io
    · have e5 := hp 0 v hio rfl
      have e6 : s0 = some v := by simpa using e5
      subst e6
      refine ⟨g :: hps, ⟨some v, _, g, _, rfl, rfl, ?_, q1⟩, ?_, fun j f' e => ?_⟩
      · rw [if_pos hio]; exact a'
      · rw [List.flatten_cons, List.flatten_cons]
        exact List.Sublist.append (List.Sublist.refl _) q2
      · cases j with
        | zero => exact .inr e
        | succ j => exact q3 j f' (by simpa using e)
    · have hf : isF t = true := by
        rcases Bool.or_eq_true_iff.mp ho'.1 with z | z
        · exact absurd (by simpa using z) hio
        · exact z
      cases t with
      | f d =>
        refine ⟨[] :: hps, ⟨some v, _, [], _, rfl, rfl, ?_, q1⟩, ?_, fun j f' e => ?_⟩
        · rw [if_neg hio]
          exact ⟨rfl, a.2.inc hF⟩
        · rw [List.flatten_cons, List.flatten_cons, List.nil_append]
          exact q2.trans (List.sublist_append_right _ _)
        · cases j with
          | zero => exact .inl (by simpa using e.symm)
          | succ j => exact q3 j f' (by simpa using e)
      | _ => cases hf
theorem SR.outs {ts : List T} {vs : List V} {fps : List (List Addr)} {io : List Nat} {ρ : List T} {σ : L2.St} {X : List Tm} (r : RelTs W F H ts vs fps) (ho : ioOk io 0 ts = true) (hl : ts.length ≤ ρ.length)
    (S : SR W (bsOf H F fps io vs) F' ρ σ X H') : SR W (bsOf H F fps io vs) F' (outs io 0 ts ρ) (vs.map some) X H' := by
  obtain ⟨le, f0, fn, kept, stab, pin, gps, xps, s1, s2, ⟨nd, ow⟩, lc1, lc2⟩ := S
  have pins : ∀ j v, j ∈ io → vs[j]? = some v → σ[j]? = some (some v) := fun j v hj hv => pin (j, v) (List.mem_filterMap.mpr ⟨j, hj, by rw [hv]; rfl⟩)
  obtain ⟨hps, q1, q2, q3⟩ := outs_slots (i := 0) f0 r ho s1 hl fun j v hj hv => pins j v (by simpa using hj) hv
  have sub : List.Sublist (hps.flatten ++ xps.flatten) (gps.flatten ++ xps.flatten) := List.Sublist.append q2 (List.Sublist.refl _)
  refine ⟨le, f0, fn, kept, stab, fun p hp => ?_, hps, xps, q1, s2, ⟨nd.sublist sub, fun a ha => ow a (sub.subset ha)⟩, fun i f e a ha => ?_, lc2⟩
  · obtain ⟨i, hi, e⟩ := List.mem_filterMap.mp hp
    obtain ⟨v, hv, e⟩ := Option.map_eq_some_iff.mp e
    subst e
    show (vs.map some)[i]? = _
    rw [List.getElem?_map, hv]
    rfl
  · rcases q3 i f e with z | z
    · subst z; cases ha
    · exact lc1 i f z a ha
end
/-- the context of a def's body -/
def ctx0 {P : Program} {w : World} (W : Wd) {mg : Str → Option Value} {base : Heap} {N : List Str} (nd : N.Nodup) {m k : Nat} {io : List Nat} {qual : Str} {sc : Scope} {f : Addr} {cdv : Value} {A : Around} {outer : List Env} {s : Shared} {H : Hp} {E : XK} (hr : Room k (A.deeper (envOfC qual sc s.heap.objs.size f cdv))) : Ctx where
  J := Unit
  X := fun _ => (cxOf CX0 P w W.K mg base N qual sc f cdv A outer s H E).nox
  W := W
  P := ⟨m, io⟩
  E := fun _ => E
  N := N
  k := k
  hK := fun _ => rfl
  hN := fun _ => rfl
  nd := nd
  calm := fun _ => rfl
  room := fun _ => hr
section
variable {P : Program} {w : World} {W : Wd} {mg : Str → Option Value} {base : Heap}
theorem spF_end {io : List Nat} {fb : FS} {N ps : List Str} {vs : List V} {H : Hp} {Q : VK} {E : XK} {t : TS} {p : Sg} (hp : p = ⟨ps.length, io⟩) (hN : ps.length ≤ N.length) (hio : ∀ i ∈ io, i < ps.length) (len : vs.length = ps.length) (h : spF W io (runF ps.length N.length io fb) vs H Q E) (q : Ss W p (fun _ => E) t fb) :
    t { nx := fun _ H' => Q .non H', rt := Q } (start N vs) H := by
  subst hp
  obtain ⟨F, ts, fps, r, le, rel, own, ho, e, k⟩ := h
  unfold runF at e
  have hlt := RelTs.lenA rel
  split at e
  · rename_i hl
    obtain ⟨o, e1, e⟩ := Option.bind_eq_some_iff.mp e
    have S0 := SR.init (io := io) (N := N) le rel own
    rw [len] at S0
    have bok : Bok ⟨ps.length, io⟩ (bsOf H F fps io vs) := by
      refine ⟨by show fps.length = ps.length; omega, ?_⟩
      show (io.filterMap _).map _ = io
      have key : ∀ l : List Nat, (∀ i ∈ l, i < vs.length) → (l.filterMap fun i => vs[i]?.map fun v => (i, v)).map (·.1) = l := by
        intro l
        induction l with
        | nil => intro _; rfl
        | cons i l ih =>
          intro h
          have hi := h i List.mem_cons_self
          rw [List.filterMap_cons, List.getElem?_eq_getElem hi]
          show i :: _ = _
          rw [ih fun j hj => h j (List.mem_cons_of_mem _ hj)]
      exact key io fun i hi => by rw [len]; exact hio i hi
    refine q _ F _ _ [] H o _ bok S0 e1 ?_
    cases o with
    | nx ρ =>
      simp only at e
      split at e
      · rename_i hρ
        cases e
        intro σ F' H' S' i'
        exact k .non F' H' ((SR.outs rel ho (by omega) S').push rfl) i'
      · cases e
    | rt τ ρ =>
      simp only at e
      split at e
      · rename_i hρ
        cases e
        intro v σ F' H' S' i'
        exact k v F' H' (SR.outs rel ho (by omega) S') i'
      · cases e
    | xc C ρ =>
      simp only at e
      split at e
      · rename_i hρ
        cases e
        intro d σ F' H' S' i'
        exact k d F' H' (SR.outs rel ho (by omega) S') i'
      · cases e
    | bk ρ => cases e
    | ct ρ => cases e
  · cases e
end
end Z

namespace Z
open PySem PySem.Spec PyProof.Rows L2

/-! ### defs and their calls -/
section
variable {P : Program} {w : World} {W : Wd} {mg : Str → Option Value} {base : Heap}
theorem fnZ {x qual : Str} {st : Stmt} {f : Addr} {fd : FuncData} {N ps : List Str} {k : Nat} {io : List Nat} {fb : FS} (F : Fun W.K x qual st f fd) (S : FnScope N ps (defScope st)) (hN : ps.length ≤ N.length) (hio : ∀ i ∈ io, i < ps.length)
    (body : ∀ (cdv : Value) (A : Around) (outer : List Env) (s : Shared) (H : Hp) (E : XK) (hr : Room k (A.deeper (envOfC qual (defScope st) s.heap.objs.size f cdv))),
      Sms (ctx0 (P := P) (w := w) W (mg := mg) (base := base) S.nd (m := ps.length) (io := io) (outer := outer) (H := H) (E := E) hr) (defBody st) fb) :
    FnOk P w W.K mg base CX0 (k + 1) f fd ps (spF W io (runF ps.length N.length io fb)) := by
  have len : ∀ vs H Q E, spF W io (runF ps.length N.length io fb) vs H Q E → vs.length = ps.length := by
    rintro vs H Q E ⟨F, ts, fps, r, _, rel, _, _, e, _⟩
    unfold runF at e
    split at e
    · rename_i hl
      have := RelTs.lenA rel
      omega
    · cases e
  refine F.ok S len fun cdv A outer s H vs Q E hr h => ?_
  obtain ⟨t, p, q⟩ := body cdv A outer s H E hr
  exact ⟨t, p (), spF_end rfl hN hio (len _ _ _ _ h) h q⟩
/-- a def of the module, ready to be called -/
structure Cl (P : Program) (w : World) (W : Wd) (mg : Str → Option Value) (base : Heap) (CX : CXT) (k : Nat) (x : Str) (io : List Nat) (G : List T → Option Re) : Prop where
  ex : ∃ f fd ps, FnOk P w W.K mg base CX k f fd ps (spF W io G) ∧ mg x = some (.ref f) ∧ PySem.W.keepIn W.K (.ref f) = true ∧ Binds W.K fd ps []
theorem Cl.mk' {CX : CXT} {k : Nat} {x : Str} {io : List Nat} {G : List T → Option Re} {f : Addr} {fd : FuncData} {ps : List Str} (h : FnOk P w W.K mg base CX k f fd ps (spF W io G)) (hm : mg x = some (.ref f)) (hk : PySem.W.keepIn W.K (.ref f) = true) (hb : Binds W.K fd ps []) : Cl P w W mg base CX k x io G := ⟨f, fd, ps, h, hm, hk, hb⟩
theorem Cl.mono {CX : CXT} {j k : Nat} {x : Str} {io : List Nat} {G : List T → Option Re} (h : Cl P w W mg base CX j x io G) (hj : j ≤ k) : Cl P w W mg base CX k x io G := by
  obtain ⟨f, fd, ps, h, a, b, d⟩ := h
  exact ⟨f, fd, ps, h.mono hj, a, b, d⟩
/-- the same function, told otherwise -/
theorem Cl.imp {CX : CXT} {k : Nat} {x : Str} {io : List Nat} {G G' : List T → Option Re} (h : Cl P w W mg base CX k x io G) (e : ∀ ts r, G' ts = some r → G ts = some r) : Cl P w W mg base CX k x io G' := by
  obtain ⟨f, fd, ps, h, a, b, d⟩ := h
  refine ⟨f, fd, ps, h.imp ?_, a, b, d⟩
  rintro vs H Q E ⟨F, ts, fps, r, h1, h2, h3, h4, h5, h6⟩
  exact ⟨F, ts, fps, r, h1, h2, h3, h4, e _ _ h5, h6⟩
end
theorem pass0' {X : Cx} {E : XK} : Passes CX0 X E := fun _ _ _ _ _ _ _ h => h.elim
section
variable {c : Ctx} {a e : Expr} {es : List Expr} {fs : List T → Option (List T)} {fo : List T → Option Rs} {x : Str} {p pos : Pos} {io : List Nat} {G : List T → Option Re} {k : Nat} {CX : CXT}
abbrev Cj (c : Ctx) (CX : CXT) (k : Nat) (x : Str) (io : List Nat) (G : List T → Option Re) : Prop := ∀ j, Cl (c.X j).prog (c.X j).w c.W (c.X j).mg (c.X j).base CX k x io G
theorem pe_cl {t : TA} {E : XK} (C : Cj c CX k x io G) (hk : k ≤ c.k) (hg : ∀ j, Gl (c.X j) x) (hx : ∀ j, Passes CX (c.X j) E) (ha : ∀ j, PA (c.X j) (a :: es) t) (hdb : (x == ("__debug__" : Str)) = false)
    (he : ∀ j, starEach (a :: es) (c.X j).env = (false, eval a (c.X j).env) :: starEach es (c.X j).env) (hpl : ∀ j, (backTo pos (starEach es (c.X j).env)).any (·.1) = false) (j : c.J) : PE (c.X j) (.Call (.Name x p) (a :: es) [] pos) (tCall (spF c.W io G) [] E t) := by
  obtain ⟨f, fd, ps, h, hm, hkp, hb⟩ := C j
  have hKj := c.hK j
  exact pe_call (by rw [hKj]; exact h) ((c.room j).mono hk) (hg j) hm (by rw [hKj]; exact hkp) (by rw [hKj]; exact hb) .nil (hx j) (ha j) hdb (he j) (hpl j)
theorem pe_cl0 {E : XK} (C : Cj c CX k x io G) (hk : k ≤ c.k) (hg : ∀ j, Gl (c.X j) x) (hx : ∀ j, Passes CX (c.X j) E) (hdb : (x == ("__debug__" : Str)) = false) (j : c.J) : PE (c.X j) (.Call (.Name x p) [] [] pos) (tCall (spF c.W io G) [] E tNil) := by
  obtain ⟨f, fd, ps, h, hm, hkp, hb⟩ := C j
  have hKj := c.hK j
  exact pe_call0 (by rw [hKj]; exact h) ((c.room j).mono hk) (hg j) hm (by rw [hKj]; exact hkp) (by rw [hKj]; exact hb) .nil (hx j) hdb
/-- f(e, ..) with effect -/
theorem eo_call {E : XK} (C : Cj c CX k x io G) (hk : k ≤ c.k) (hg : ∀ j, Gl (c.X j) x) (hE : ∀ σ, c.E σ = E) (hx : ∀ j, Passes CX (c.X j) E) (ha : Ao c (a :: es) fo) (hdb : (x == ("__debug__" : Str)) = false := by decide)
    (he : ∀ j, starEach (a :: es) (c.X j).env = (false, eval a (c.X j).env) :: starEach es (c.X j).env := by intro _; rfl) (hpl : ∀ j, (backTo pos (starEach es (c.X j).env)).any (·.1) = false := by intro _; rfl) : Eo c (.Call (.Name x p) (a :: es) [] pos) (fCall io G fo) := by
  obtain ⟨t, q, s⟩ := ha
  exact ⟨_, pe_cl C hk hg hx q hdb he hpl, so_call hE s⟩
theorem eo_call0 {E : XK} (C : Cj c CX k x io G) (hk : k ≤ c.k) (hg : ∀ j, Gl (c.X j) x) (hE : ∀ σ, c.E σ = E) (hx : ∀ j, Passes CX (c.X j) E) (hdb : (x == ("__debug__" : Str)) = false := by decide) : Eo c (.Call (.Name x p) [] [] pos) (fCall io G bNil) := by
  obtain ⟨t, q, s⟩ := (ao_nil : Ao c [] bNil)
  refine ⟨_, pe_cl0 C hk hg hx hdb, so_call hE ?_⟩
  intro b F ρ σ X H r Q hb S e p
  cases e
  exact p [] F H S rfl (Inc.refl F)
/-- f(e, ..) without effect: what is one's own is only looked at -/
def D.atom : D → Bool | .non => true | .bl _ => true | .int _ => true | .str _ => true | _ => false
theorem Rep.atom {W : Wd} {F F' : Hp} {d : D} {v : V} (r : Rep W F d v) (h : d.atom = true) : Rep W F' d v := by
  cases d with
  | non => exact r
  | bl b => exact r
  | int b => exact r
  | str b => exact r
  | _ => cases h
def fCallV (G : List T → Option Re) (fs : List T → Option (List T)) : List T → Option T := fun ρ => (fs ρ).bind fun ts => (T.fzs ts).bind fun ds => (G (ds.map .f)).bind fun r => match r with
  | .ok (.f d) _ => if (ts.all isF || d.atom) = true then some (.f d) else none
  | _ => none
theorem relTs_deep {W : Wd} {F H : Hp} : ∀ {ds : List D} {vs : List V}, Reps W F ds vs → RelTs W F H (ds.map .f) vs (List.replicate ds.length [])
  | [], _, r => ⟨r, rfl⟩
  | d :: ds, _, r => by
    obtain ⟨v, vr, e, a, b⟩ := r
    exact ⟨v, vr, [], _, e, rfl, ⟨rfl, a⟩, relTs_deep b⟩
theorem flat_nil : ∀ n : Nat, (List.replicate n ([] : List Addr)).flatten = []
  | 0 => rfl
  | n + 1 => by rw [List.replicate_succ, List.flatten_cons, flat_nil n]; rfl
theorem ioOk_deep : ∀ (ds : List D) (i : Nat), ioOk [] i (ds.map .f) = true
  | [], _ => rfl
  | d :: ds, i => by
    unfold List.map ioOk
    rw [ioOk_deep ds]
    simp [isF]
theorem allF_fz : ∀ {ts : List T} {ds : List D}, ts.all isF = true → T.fzs ts = some ds → ts = ds.map .f
  | [], _, _, e => by unfold T.fzs at e; cases e; rfl
  | t :: ts, _, h, e => by
    unfold T.fzs at e
    obtain ⟨d, e1, e⟩ := Option.bind_eq_some_iff.mp e
    obtain ⟨ds, e2, e⟩ := Option.map_eq_some_iff.mp e
    subst e
    rw [List.all_cons, Bool.and_eq_true] at h
    cases t with
    | f d' =>
      unfold T.fz at e1
      cases e1
      rw [allF_fz h.2 e2]
      rfl
    | _ => cases h.1
theorem allF_fps {W : Wd} {F H : Hp} : ∀ {ts : List T} {vs : List V} {fps : List (List Addr)}, ts.all isF = true → RelTs W F H ts vs fps → fps.flatten = []
  | [], _, _, _, r => by rw [r.2]; rfl
  | t :: ts, _, _, h, r => by
    obtain ⟨v, vr, f, fr, e1, e2, a, b⟩ := r
    subst e2
    rw [List.all_cons, Bool.and_eq_true] at h
    cases t with
    | f d' => rw [List.flatten_cons, a.1, List.nil_append]; exact allF_fps h.2 b
    | _ => cases h.1
mutual
theorem RelT.nofrz {W : Wd} {F H : Hp} : ∀ (t : T) (v : V) (fp : List Addr), RelT W F H t v fp → ∀ a ∈ fp, ∀ o u, H a ≠ some (.frz o u)
  | .un, _, fp, r, a, ha => by
    have r' : fp = [] := r
    subst r'
    cases ha
  | .f d, _, fp, r, a, ha => by
    have r' : fp = [] := r.1
    subst r'
    cases ha
  | .l ds, _, _, r, a, ha => by
    obtain ⟨p, vs, e1, e2, e3, q⟩ := r
    subst e2
    cases List.mem_singleton.mp ha
    rw [e3]
    intro o u z
    cases z
  | .dk ks ds, _, _, r, a, ha => by
    obtain ⟨p, kvs, e1, e2, e3, k, q⟩ := r
    subst e2
    cases List.mem_singleton.mp ha
    rw [e3]
    intro o u z
    cases z
  | .ll ts, _, _, r, a, ha => by
    obtain ⟨p, vs, fps, e1, e2, e3, q⟩ := r
    subst e2
    rcases List.mem_cons.mp ha with z | z
    · subst z
      rw [e3]
      intro o u z
      cases z
    · exact RelTs.nofrz ts vs fps q a z
  | .tu ts, _, _, r, a, ha => by
    obtain ⟨p, vs, fps, e1, e2, e3, q⟩ := r
    subst e2
    rcases List.mem_cons.mp ha with z | z
    · subst z
      rw [e3]
      intro o u z
      cases z
    · exact RelTs.nofrz ts vs fps q a z
  | .o C ns ts, _, _, r, a, ha => by
    obtain ⟨p, dx, kvs, fps, e1, e2, e3, k, q⟩ := r
    subst e2
    rcases List.mem_cons.mp ha with z | z
    · subst z
      rw [e3]
      intro o u z
      cases z
    · exact RelTs.nofrz ts _ fps q a z
theorem RelTs.nofrz {W : Wd} {F H : Hp} : ∀ (ts : List T) (vs : List V) (fps : List (List Addr)), RelTs W F H ts vs fps → ∀ a ∈ fps.flatten, ∀ o u, H a ≠ some (.frz o u)
  | [], _, fps, r, a, ha => by
    have r' : fps = [] := r.2
    subst r'
    cases ha
  | t :: ts, _, _, r, a, ha => by
    obtain ⟨v, vr, f, fr, e1, e2, q1, q2⟩ := r
    subst e2
    rw [List.flatten_cons] at ha
    rcases List.mem_append.mp ha with z | z
    · exact RelT.nofrz t v f q1 a z
    · exact RelTs.nofrz ts vr fr q2 a z
end
theorem sv_call {W : Wd} {E : XK} {t : TA} (h : Sav W t fs) : Sv W (tCall (spF W [] G) [] E t) (fCallV G fs) := by
  intro b F ρ σ X H τ Q S e k
  unfold fCallV at e
  obtain ⟨ts, e1, e⟩ := Option.bind_eq_some_iff.mp e
  obtain ⟨ds, e2, e⟩ := Option.bind_eq_some_iff.mp e
  obtain ⟨r, e3, e⟩ := Option.bind_eq_some_iff.mp e
  refine h b F ρ σ X H ts _ S e1 fun vs F1 H1 S1 i1 s1 r1 => ?_
  rw [List.append_nil]
  obtain ⟨fps, r1⟩ := r1
  -- all that is looked at, as deep data
  obtain ⟨Fc, hFc⟩ : ∃ Fc : Hp, ∀ a, Fc a = match F1 a with | some o => some o | none => if a ∈ fps.flatten then H1 a else none := ⟨_, fun _ => rfl⟩
  have hF : Inc F1 Fc := fun a o e => by rw [hFc a, e]
  have hfp : ∀ a ∈ fps.flatten, Fc a = H1 a := fun a ha => by
    rw [hFc a]
    cases z : F1 a with
    | none => simp only [if_pos ha]
    | some o =>
      rcases S1.le a o z with q | ⟨u, kvs, _, q⟩
      · exact q.symm
      · exact absurd q (RelTs.nofrz _ _ _ r1 a ha _ _)
  have hle : Le Fc H1 := fun a o e => by
    rw [hFc a] at e
    cases z : F1 a with
    | none =>
      rw [z] at e
      simp only at e
      split at e
      · exact .inl e
      · cases e
    | some o' =>
      rw [z] at e
      cases e
      exact S1.le a _ z
  have r2 : Reps W Fc ds vs := RelTs.fz hF ts vs fps ds r1 hfp e2
  refine ⟨Fc, ds.map .f, _, r, hle, relTs_deep r2, ⟨by rw [flat_nil]; exact List.nodup_nil, fun a ha => by rw [flat_nil] at ha; cases ha⟩, ioOk_deep ds 0, e3, ?_⟩
  cases r with
  | xc C us => cases e
  | ok τ' us =>
    cases τ' with
    | f d =>
      simp only at e
      split at e
      · rename_i hc
        cases e
        intro v F' H' R i2
        have hs : Same H1 H' := fun a o e => R.kept a o e (by
          show a ∉ (List.replicate ds.length ([] : List Addr)).flatten
          rw [flat_nil]
          intro z
          cases z)
        by_cases hat : d.atom = true
        · exact k v F1 H' (S1.ext hs (Inc.refl F1) (S1.le.inc hs) fun a o e => .inl e) i1 (s1.trans hs) (.f (Rep.atom R.top hat))
        · have hall : ts.all isF = true := by
            rcases Bool.or_eq_true_iff.mp hc with z | z
            · exact z
            · exact absurd z hat
          have hnil := allF_fps hall r1
          have heq : ∀ a, Fc a = F1 a := fun a => by
            rw [hFc a, hnil]
            cases F1 a with
            | none => rfl
            | some o => rfl
          refine k v F' H' (S1.ext hs (hF.trans i2) R.le fun a o e => ?_) (i1.trans (hF.trans i2)) (s1.trans hs) (.f R.top)
          rcases R.fn a o e with z | z
          · have z' : Fc a = some o := z
            rw [heq a] at z'
            exact .inl z'
          · exact .inr z
      · cases e
    | _ => cases e
theorem ev_call {E : XK} (C : Cj c CX k x [] G) (hk : k ≤ c.k) (hg : ∀ j, Gl (c.X j) x) (hx : ∀ j, Passes CX (c.X j) E) (ha : Av c (a :: es) fs) (hdb : (x == ("__debug__" : Str)) = false := by decide)
    (he : ∀ j, starEach (a :: es) (c.X j).env = (false, eval a (c.X j).env) :: starEach es (c.X j).env := by intro _; rfl) (hpl : ∀ j, (backTo pos (starEach es (c.X j).env)).any (·.1) = false := by intro _; rfl) : Ev c (.Call (.Name x p) (a :: es) [] pos) (fCallV G fs) := by
  obtain ⟨t, q, s⟩ := ha
  exact ⟨_, pe_cl C hk hg hx q hdb he hpl, sv_call s⟩
end

/-! ### dict displays -/
def Sps (W : Wd) (trs : List (TE × TE)) (f : List T → Option (List (Key × D))) : Prop :=
  ∀ b F ρ σ X H kds Q, SR W b F ρ σ X H → f ρ = some kds → (∀ (kvs : List (Key × V)) F' H', SR W b F' ρ σ X H' → Inc F F' → Same H H' → kvs.map (·.1) = kds.map (·.1) → Reps W F' (kds.map (·.2)) (kvs.map (·.2)) → Q (kvs.map fun kv => (kV kv.1, kv.2)) H') → tPairs trs σ H Q
def Dp' (c : Ctx) (pos : Pos) (ks : List (Option Expr)) (vs : List Expr) (f : List T → Option (List (Key × D))) : Prop := ∃ trs, (∀ j, PPs (c.X j) pos ks vs trs) ∧ Sps c.W trs f
def pNil : List T → Option (List (Key × D)) := fun _ => some []
def pCons (fk fv : List T → Option T) (g : List T → Option (List (Key × D))) : List T → Option (List (Key × D)) := fun ρ => (fk ρ).bind fun k => k.key?.bind fun k => (fv ρ).bind fun v => v.d?.bind fun d => (g ρ).map fun r => (k, d) :: r
section
variable {c : Ctx} {ek ev : Expr} {ks : List (Option Expr)} {vs : List Expr} {fk fv : List T → Option T} {g : List T → Option (List (Key × D))} {pos : Pos}
theorem dp_nil : Dp' c pos [] [] pNil := by
  refine ⟨[], fun _ => pps_nil, ?_⟩
  intro b F ρ σ X H kds Q S e k
  cases e
  exact k [] F H S (Inc.refl F) (Same.refl H) rfl rfl
theorem dp_cons (hk : Ev c ek fk) (hv : Ev c ev fv) (hr : Dp' c pos ks vs g) : Dp' c pos (some ek :: ks) (ev :: vs) (pCons fk fv g) := by
  obtain ⟨tk, pk, sk⟩ := hk
  obtain ⟨tv, pv, sv⟩ := hv
  obtain ⟨trs, pr, sr⟩ := hr
  refine ⟨(tk, tv) :: trs, fun j => pps_cons (pk j) (pv j) (pr j), ?_⟩
  intro b F ρ σ X H kds Q S e k
  unfold pCons at e
  obtain ⟨t1, e1, e⟩ := Option.bind_eq_some_iff.mp e
  obtain ⟨k1, e2, e⟩ := Option.bind_eq_some_iff.mp e
  obtain ⟨t2, e3, e⟩ := Option.bind_eq_some_iff.mp e
  obtain ⟨d2, e4, e⟩ := Option.bind_eq_some_iff.mp e
  obtain ⟨r, e5, e⟩ := Option.map_eq_some_iff.mp e
  subst e
  rw [d_some e4] at e3
  refine sk b F ρ σ X H t1 _ S e1 fun x F1 H1 S1 i1 s1 r1 => ?_
  refine sv b F1 ρ σ X H1 _ _ S1 e3 fun y F2 H2 S2 i2 s2 r2 => ?_
  refine sr b F2 ρ σ X H2 r _ S2 e5 fun kvs F3 H3 S3 i3 s3 h1 h2 => ?_
  rw [r1.key e2]
  exact k ((k1, y) :: kvs) F3 H3 S3 (i1.trans (i2.trans i3)) (s1.trans (s2.trans s3)) (by rw [List.map_cons, List.map_cons, h1]) ⟨y, _, rfl, r2.rep.inc i3, h2⟩
end
/-- a dict with d at k -/
def dput (ks : List Key) (ds : List D) (k : Key) (d : D) : List Key × List D :=
  if (ks.any fun q => decide (q = k)) = true then (ks, List.zipWith (fun q e => if q = k then d else e) ks ds) else (ks ++ [k], ds ++ [d])
theorem dput_ok {W : Wd} {F : Hp} {kvs : List (Key × V)} {ks : List Key} {ds : List D} {k : Key} {d : D} {v : V} (hk : kvs.map (·.1) = ks) (r : Reps W F ds (kvs.map (·.2))) (rv : Rep W F d v) :
    (putK kvs k v).map (·.1) = (dput ks ds k d).1 ∧ Reps W F (dput ks ds k d).2 ((putK kvs k v).map (·.2)) := by
  subst hk
  unfold putK dput
  have e : (kvs.any fun kv => decide (kv.1 = k)) = ((kvs.map (·.1)).any fun q => decide (q = k)) := by rw [List.any_map]; rfl
  rw [e]
  split
  · rename_i hany
    clear hany e
    refine ⟨?_, ?_⟩
    · rw [List.map_map]
      refine List.map_congr_left fun kv _ => ?_
      show (if kv.1 = k then (kv.1, v) else kv).1 = kv.1
      split <;> rfl
    · induction kvs generalizing ds with
      | nil =>
        cases ds with
        | nil => exact rfl
        | cons _ _ =>
          obtain ⟨_, _, e, _⟩ := r
          cases e
      | cons kv kvs ih =>
        cases ds with
        | nil =>
          have r' : _ = [] := r
          cases r'
        | cons d0 ds =>
          obtain ⟨v0, vr, e, a, b⟩ := r
          have e1 : kv.2 = v0 := (List.cons.inj e).1
          have e2 : kvs.map (·.2) = vr := (List.cons.inj e).2
          subst e1 e2
          refine ⟨(if kv.1 = k then (kv.1, v) else kv).2, _, rfl, ?_, ih b⟩
          show Rep W F (if kv.1 = k then d else d0) _
          split
          · exact rv
          · exact a
  · refine ⟨by simp, ?_⟩
    rw [List.map_append]
    exact r.append ⟨v, [], rfl, rv, rfl⟩
def dmerge (ks : List Key) (ds : List D) : List (Key × D) → List Key × List D
  | [] => (ks, ds)
  | (k, d) :: r => dmerge (dput ks ds k d).1 (dput ks ds k d).2 r
theorem dmerge_ok {W : Wd} {F : Hp} : ∀ {kds : List (Key × D)} {more kvs : List (Key × V)} {ks : List Key} {ds : List D}, kvs.map (·.1) = ks → Reps W F ds (kvs.map (·.2)) → more.map (·.1) = kds.map (·.1) → Reps W F (kds.map (·.2)) (more.map (·.2)) →
    (mergeK kvs more).map (·.1) = (dmerge ks ds kds).1 ∧ Reps W F (dmerge ks ds kds).2 ((mergeK kvs more).map (·.2))
  | [], [], _, _, _, h1, h2, _, _ => ⟨h1, h2⟩
  | [], _ :: _, _, _, _, _, _, h, _ => by cases h
  | _ :: _, [], _, _, _, _, _, h, _ => by cases h
  | (k, d) :: kds, (k', v) :: more, kvs, ks0, ds0, h1, h2, h3, h4 => by
    have e1 : k' = k := (List.cons.inj h3).1
    subst e1
    obtain ⟨v0, vr, e, a, b⟩ := h4
    have e2 : v = v0 := (List.cons.inj e).1
    have e3 : more.map (·.2) = vr := (List.cons.inj e).2
    subst e2 e3
    obtain ⟨q1, q2⟩ := dput_ok h1 h2 a
    exact dmerge_ok (kds := kds) (kvs := putK kvs k' v) (ks := (dput ks0 ds0 k' d).1) (ds := (dput ks0 ds0 k' d).2) q1 q2 (List.cons.inj h3).2 b
section
variable {c : Ctx} {ks : List (Option Expr)} {vs : List Expr} {g : List T → Option (List (Key × D))} {pos : Pos}
def fDisp (g : List T → Option (List (Key × D))) : List T → Option Re := fun ρ => (g ρ).bind fun kds => if kds.length ≤ 15 then some (.ok (.dk (dmerge [] [] kds).1 (dmerge [] [] kds).2) ρ) else none
theorem eo_disp (h : Dp' c pos ks vs g) (hall : ks.all (·.isSome) = true) (hl : ks.length = vs.length) (h0 : ks ≠ []) (h15 : ks.length ≤ 15) : Eo c (.Dict ks vs pos) (fDisp g) := by
  obtain ⟨trs, p, q⟩ := h
  refine ⟨_, fun j => pe_disp (p j) hall hl h0 h15, ?_⟩
  intro b F ρ σ X H r Q hb S e k
  unfold fDisp at e
  obtain ⟨kds, e1, e⟩ := Option.bind_eq_some_iff.mp e
  split at e
  · rename_i h15'
    cases e
    intro p hp
    have S1 := S.own (t := .dk [] []) (o := .dK []) hp ⟨p, [], rfl, rfl, upd_same, rfl, rfl⟩
    refine q b F ρ σ _ _ kds _ S1 e1 fun kvs F2 H2 S2 i2 s2 h1 h2 => ?_
    have hp2 : H2 p = some (.dK []) := s2 _ _ upd_same
    refine ⟨hp2, kvs, rfl, ?_, ?_⟩
    · have := congrArg List.length h1
      simp only [List.length_map] at this
      omega
    · obtain ⟨m1, m2⟩ := dmerge_ok (kvs := []) (ks := []) (ds := []) rfl rfl h1 h2
      have S3 := S2.wrX (t' := .dk (dmerge [] [] kds).1 (dmerge [] [] kds).2) (p := p) (o := .dK []) (o' := .dK (mergeK [] kvs)) fun fp r nd hn => by
        obtain ⟨p', kvs', e1, e2, e3, _⟩ := r
        cases e1
        subst e2
        exact ⟨hp2, ⟨_, rfl⟩, List.mem_singleton.mpr rfl, [p], ⟨p, _, rfl, rfl, upd_same, m1, m2⟩, nd, fun a ha => ha⟩
      exact k _ F2 _ S3 i2
  · cases e
/-- {} -/
def fNewD : List T → Option Re := fun ρ => some (.ok (.dk [] []) ρ)
theorem eo_newd : Eo c (.Dict [] [] pos) fNewD := by
  refine ⟨_, fun _ => pe_dnewK, ?_⟩
  intro b F ρ σ X H r Q hb S e k
  cases e
  intro p hp
  exact k _ F _ (S.own hp ⟨p, [], rfl, rfl, upd_same, rfl, rfl⟩) (Inc.refl F)
/-- [a, b], one's own -/
def fNewL (fs : List T → Option (List T)) : List T → Option Re := fun ρ => (fs ρ).bind fun ts => (deep ts).bind fun ds => if ds.length ≤ sizeLine then some (.ok (.l ds) ρ) else none
theorem eo_newl {es : List Expr} {fs : List T → Option (List T)} (h : Av c es fs) : Eo c (.List es pos) (fNewL fs) := by
  obtain ⟨t, p, s⟩ := h
  refine ⟨_, fun j => pe_lst (p j), ?_⟩
  intro b F ρ σ X H r Q hb S e k
  unfold fNewL at e
  obtain ⟨xs, e1, e⟩ := Option.bind_eq_some_iff.mp e
  obtain ⟨ds, e2, e⟩ := Option.bind_eq_some_iff.mp e
  split at e
  · rename_i hl
    cases e
    refine s b F ρ σ X H xs _ S e1 fun vs F1 H1 S1 i1 s1 r1 => ?_
    have r2 := r1.deep e2
    refine ⟨by rw [← r2.len]; exact hl, fun p hp => ?_⟩
    exact k _ F1 _ (S1.own hp ⟨p, vs, rfl, rfl, upd_same, r2⟩) i1
  · cases e
/-- the same, deep -/
def fDispD (g : List T → Option (List (Key × D))) : List T → Option T := fun ρ => (g ρ).bind fun kds => if kds.length ≤ 15 then some (.f (.dct (dmerge [] [] kds).1 (dmerge [] [] kds).2)) else none
theorem ev_disp (h : Dp' c pos ks vs g) (hall : ks.all (·.isSome) = true) (hl : ks.length = vs.length) (h0 : ks ≠ []) (h15 : ks.length ≤ 15) : Ev c (.Dict ks vs pos) (fDispD g) := by
  obtain ⟨trs, p, q⟩ := h
  refine ⟨_, fun j => pe_disp (p j) hall hl h0 h15, ?_⟩
  intro b F ρ σ X H τ Q S e k
  unfold fDispD at e
  obtain ⟨kds, e1, e⟩ := Option.bind_eq_some_iff.mp e
  split at e
  · rename_i h15'
    cases e
    intro p hp
    have S1 := S.own (t := .dk [] []) (o := .dK []) hp ⟨p, [], rfl, rfl, upd_same, rfl, rfl⟩
    refine q b F ρ σ _ _ kds _ S1 e1 fun kvs F2 H2 S2 i2 s2 h1 h2 => ?_
    have hp2 : H2 p = some (.dK []) := s2 _ _ upd_same
    refine ⟨hp2, kvs, rfl, ?_, ?_⟩
    · have := congrArg List.length h1
      simp only [List.length_map] at this
      omega
    · obtain ⟨m1, m2⟩ := dmerge_ok (kvs := []) (ks := []) (ds := []) rfl rfl h1 h2
      have S3 := S2.wrX (t' := .dk (dmerge [] [] kds).1 (dmerge [] [] kds).2) (p := p) (o := .dK []) (o' := .dK (mergeK [] kvs)) fun fp r nd hn => by
        obtain ⟨p', kvs', e1, e2, e3, _⟩ := r
        cases e1
        subst e2
        exact ⟨hp2, ⟨_, rfl⟩, List.mem_singleton.mpr rfl, [p], ⟨p, _, rfl, rfl, upd_same, m1, m2⟩, nd, fun a ha => ha⟩
      obtain ⟨F3, S4, i3⟩ := S3.frz rfl (d := .dct (dmerge [] [] kds).1 (dmerge [] [] kds).2) rfl
      refine k _ F3 _ S4.drop (i2.trans i3) (fun a o e => ?_) (.f S4.top)
      have hap : a ≠ p := ne_of_none e hp
      rw [upd_ne hap]
      exact s2 _ _ (by rw [upd_ne hap]; exact e)
  · cases e
end
end Z

namespace Z
open PySem PySem.Spec PyProof.Rows L2
/-! ### short words -/
theorem notin_of {l : List Nat} {i : Nat} (h : l.contains i = false) : i ∉ l := fun m => by
  have := List.contains_iff_mem.mpr m
  rw [h] at this
  cases this
section
variable {c : Ctx} {e : Expr} {fo : List T → Option Re} {pos pos' : Pos}
theorem ev_v (i : Nat) {x : Str} (hi : c.N[i]? = some x := by rfl) (hv : ∀ j, Vis (c.X j).env.scope x := by intro _; first | exact Or.inl rfl | exact Or.inr (Or.inl rfl) | exact Or.inr (Or.inr rfl)) (hd : (x == ("__debug__" : Str)) = false := by decide) (hcd : (x == ("__classdict__" : Str)) = false := by decide) : Ev c (.Name x pos) (fVar i) := ev_var hi hv hd hcd
theorem eo_m (i : Nat) {x : Str} (hi : c.N[i]? = some x := by rfl) (hv : ∀ j, Vis (c.X j).env.scope x := by intro _; first | exact Or.inl rfl | exact Or.inr (Or.inl rfl) | exact Or.inr (Or.inr rfl)) (hm : Nat.ble c.P.m i = true := by rfl) (hd : (x == ("__debug__" : Str)) = false := by decide) (hcd : (x == ("__classdict__" : Str)) = false := by decide) : Eo c (.Name x pos) (fMv i) := eo_mv hi hv (Nat.le_of_ble_eq_true hm) hd hcd
theorem sm_s (i : Nat) {x : Str} (he : Eo c e fo) (hi : c.N[i]? = some x := by rfl) (hx : ∀ j, L2.Loc (c.X j).env.scope x := by intro _; first | exact Or.inl rfl | exact Or.inr rfl) (hio : c.P.io.contains i = false := by rfl) (hs : ∀ j, swapsWith e (some (.Name x pos')) pos.line (c.X j).env = pure false := by intro _; rfl)
    (hf : ∀ j, (c.X j).fn x = true ∨ (c.X j).env.scope.names.lookup x = some .local := by intro _; first | exact Or.inl rfl | exact Or.inr rfl) : Sm c (.Assign [.Name x pos'] e pos) (sSet i fo) := sm_set he hi hx (notin_of hio) hs hf
theorem gt_n (i : Nat) {x : Str} (hi : c.N[i]? = some x := by rfl) (hx : ∀ j, L2.Loc (c.X j).env.scope x := by intro _; first | exact Or.inl rfl | exact Or.inr rfl) (hio : c.P.io.contains i = false := by rfl) (hf : ∀ j, (c.X j).fn x = true ∨ (c.X j).env.scope.names.lookup x = some .local := by intro _; first | exact Or.inl rfl | exact Or.inr rfl) : Gt c (.Name x pos) (gSet i) := gt_name hi hx (notin_of hio) hf
end
section
variable {c : Ctx}
theorem callLen (j : c.J) : CallR (c.X j) (.builtin "len") (rLenU c.W.K) := by have h := call_lenU (X := c.X j); rw [c.hK j] at h; exact h
theorem callList (j : c.J) : CallR (c.X j) (.type "list") (fun xs H Q => ∃ p ys, xs = [.ref p] ∧ (SqL c.W.K H p ys ∨ SqT c.W.K H p ys) ∧ ∀ l, H l = none → Q (.ref l) (upd H l (.lst ys))) := by have h := call_list_of (X := c.X j); rw [c.hK j] at h; exact h
theorem callTuple (j : c.J) : CallR (c.X j) (.type "tuple") (fun xs H Q => ∃ p ys, xs = [.ref p] ∧ ((SqL c.W.K H p ys ∧ ∀ l, H l = none → Q (.ref l) (upd H l (.tup ys))) ∨ (SqT c.W.K H p ys ∧ Q (.ref p) H))) := by have h := call_tuple_of (X := c.X j); rw [c.hK j] at h; exact h
theorem callSum (j : c.J) : CallR (c.X j) (.builtin "sum") (rSum c.W.K) := by have h := cr_sum (c.calm j); rw [c.hK j] at h; exact h
theorem callAll (j : c.J) : CallR (c.X j) (.builtin "all") (rAll c.W.K) := by have h := cr_all (c.calm j); rw [c.hK j] at h; exact h
theorem callMax2 (j : c.J) : CallR (c.X j) (.builtin "max") (fun xs H Q => ∃ i j, xs = [.int i, .int j] ∧ Q (.int (if j > i then j else i)) H) := call_max2 (c.calm j)
theorem callMin2 (j : c.J) : CallR (c.X j) (.builtin "min") (fun xs H Q => ∃ i j, xs = [.int i, .int j] ∧ Q (.int (if j < i then j else i)) H) := call_min2 (c.calm j)
theorem callStr (j : c.J) : CallR (c.X j) (.type "str") (fun xs H Q => (∃ i : Int, xs = [.int i] ∧ i.natAbs.log2 < 1920 ∧ Q (.str (toString i)) H) ∨ ∃ a, xs = [.str a] ∧ Q (.str a) H) := CallR_or call_str_int SkE.call_str_str
end
/-- the end: a law's promise from what its function gives -/
theorem law_sp {W : Wd} {G : List T → Option Re} {H : Hp} {a : Addr} {ns : List Int} (hS : SqL W.K H a (ns.map V.int)) (h : ∃ us, G [.f (.lst (ns.map .int))] = some (.ok (.f (.bl true)) us)) : spF W [] G [.ref a] H (fun v _ => v = .bl true) fun _ _ _ => False := by
  obtain ⟨us, e⟩ := h
  refine ⟨H, [.f (.lst (ns.map .int))], [[]], _, Le.refl H, ⟨_, _, _, _, rfl, rfl, ⟨rfl, a, _, rfl, hS, Reps.of_ints ns⟩, rfl, rfl⟩, ⟨List.nodup_nil, fun a ha => by cases ha⟩, rfl, e, ?_⟩
  intro v F' H' R _
  exact R.top
end Z

namespace Z
open PySem PySem.Spec PyProof.Rows L2
/-! ### parts of a thing of one's own, changed in place -/
inductive Sel where
  | ix (n : Nat)
  | at (nm : Str)
def atN : List Str → List T → Str → Option T
  | n :: ns, t :: ts, x => if n = x then some t else atN ns ts x
  | _, _, _ => none
def setN : List Str → List T → Str → T → List T
  | n :: ns, t :: ts, x, u => if n = x then u :: ts else t :: setN ns ts x u
  | _, ts, _, _ => ts
def T.sub : T → Sel → Option T
  | .ll ts, .ix n => ts[n]?
  | .tu ts, .ix n => ts[n]?
  | .o _ ns ts, .at x => atN ns ts x
  | _, _ => none
def T.upd : T → Sel → T → T
  | .ll ts, .ix n, u => .ll (ts.set n u)
  | .tu ts, .ix n, u => .tu (ts.set n u)
  | .o C ns ts, .at x, u => .o C ns (setN ns ts x u)
  | t, _, _ => t
def T.getP : T → List Sel → Option T
  | t, [] => some t
  | t, s :: π => (t.sub s).bind fun u => u.getP π
def T.putP : T → List Sel → T → T
  | _, [], u => u
  | t, s :: π, u => match t.sub s with
    | some t1 => t.upd s (t1.putP π u)
    | none => t
def AtV (H : Hp) : V → List Sel → Addr → Prop
  | v, [], p => v = .ref p
  | v, .ix n :: π, p => ∃ a vs w, v = .ref a ∧ (H a = some (.lst vs) ∨ H a = some (.tup vs)) ∧ vs[n]? = some w ∧ AtV H w π p
  | v, .at x :: π, p => ∃ a C dx kvs w, v = .ref a ∧ H a = some (.ins C dx kvs) ∧ kvs.lookup x = some w ∧ AtV H w π p
theorem AtV.same {H H' : Hp} (h : Same H H') : ∀ {π : List Sel} {v : V} {p : Addr}, AtV H v π p → AtV H' v π p
  | [], _, _, r => r
  | .ix n :: π, _, _, r => by
    obtain ⟨a, vs, w, e, r1, r2, r3⟩ := r
    exact ⟨a, vs, w, e, r1.imp (h a _) (h a _), r2, AtV.same h r3⟩
  | .at x :: π, _, _, r => by
    obtain ⟨a, C, dx, kvs, w, e, r1, r2, r3⟩ := r
    exact ⟨a, C, dx, kvs, w, e, h a _ r1, r2, AtV.same h r3⟩
section
variable {W : Wd} {F F' H H' : Hp} {p : Addr}
theorem RelTs.put {v : V} {f : List Addr} {t' : T} (hp : p ∈ f) (hr : RelT W F H' t' v f) (hH : ∀ a, a ≠ p → H' a = H a) : ∀ {ts : List T} {vs : List V} {fps : List (List Addr)} {n : Nat}, RelTs W F H ts vs fps → fps.flatten.Nodup → vs[n]? = some v → fps[n]? = some f → RelTs W F H' (ts.set n t') vs fps
  | [], _, _, _, r, _, e, _ => by rw [r.1] at e; simp at e
  | t :: ts, _, _, 0, r, nd, e1, e2 => by
    obtain ⟨v0, vr, f0, fr, rfl, rfl, a, b⟩ := r
    simp at e1 e2
    subst e1 e2
    rw [List.flatten_cons] at nd
    have n := List.nodup_append.mp nd
    exact ⟨_, _, _, _, rfl, rfl, hr, RelTs.mono (Inc.refl F) ts vr fr (fun x hx => hH x fun q => n.2.2 p hp x hx q.symm) b⟩
  | t :: ts, _, _, n + 1, r, nd, e1, e2 => by
    obtain ⟨v0, vr, f0, fr, rfl, rfl, a, b⟩ := r
    simp at e1 e2
    rw [List.flatten_cons] at nd
    have n0 := List.nodup_append.mp nd
    refine ⟨_, _, _, _, rfl, rfl, RelT.mono (Inc.refl F) t v0 f0 (fun x hx => hH x fun q => n0.2.2 x hx p (List.mem_flatten.mpr ⟨f, List.mem_of_getElem? e2, hp⟩) q) a, RelTs.put hp hr hH b n0.2.1 e1 e2⟩
theorem RelTs.putN {x : Str} {t' : T} : ∀ {ns : List Str} {ts : List T} {kvs : List (Str × V)} {fps : List (List Addr)} {t : T}, kvs.map (·.1) = ns → RelTs W F H ts (kvs.map (·.2)) fps → fps.flatten.Nodup → atN ns ts x = some t →
    ∃ w f, kvs.lookup x = some w ∧ f ∈ fps ∧ RelT W F H t w f ∧ ∀ H', (∀ a, a ≠ p → H' a = H a) → p ∈ f → RelT W F H' t' w f → RelTs W F H' (setN ns ts x t') (kvs.map (·.2)) fps
  | _, [], [], _, _, h, _, _, e => by subst h; simp [atN] at e
  | _, [], k :: kvs, _, _, h, _, _, e => by subst h; simp [atN] at e
  | _, t0 :: ts, [], _, _, h, _, _, e => by subst h; simp [atN] at e
  | _, t0 :: ts, k :: kvs, fps, t, h, r, nd, e => by
    subst h
    obtain ⟨v0, vr, f0, fr, e1, rfl, a, b⟩ := r
    have e1a : k.2 = v0 := (List.cons.inj e1).1
    have e1b : kvs.map (·.2) = vr := (List.cons.inj e1).2
    subst e1a e1b
    rw [List.flatten_cons] at nd
    have n0 := List.nodup_append.mp nd
    by_cases hk : k.1 = x
    · have e2 : t0 = t := by
        have e' : (if k.1 = x then some t0 else _) = some t := e
        rw [if_pos hk] at e'
        exact Option.some.inj e'
      subst e2
      refine ⟨k.2, f0, ?_, List.mem_cons_self, a, fun H' hH hp hr => ?_⟩
      · rw [List.lookup_cons]
        rw [show (x == k.1) = true by rw [hk]; exact beq_self_eq_true x]
      · show RelTs W F H' (if k.1 = x then t' :: ts else _) _ _
        rw [if_pos hk]
        exact ⟨_, _, _, _, rfl, rfl, hr, RelTs.mono (Inc.refl F) ts _ fr (fun y hy => hH y fun q => n0.2.2 p hp y hy q.symm) b⟩
    · have e2 : atN (kvs.map (·.1)) ts x = some t := by
        have e' : (if k.1 = x then some t0 else atN (kvs.map (·.1)) ts x) = some t := e
        rwa [if_neg hk] at e'
      obtain ⟨w, f, q1, q2, q3, q4⟩ := RelTs.putN (t' := t') rfl b n0.2.1 e2
      refine ⟨w, f, ?_, List.mem_cons_of_mem _ q2, q3, fun H' hH hp hr => ?_⟩
      · rw [List.lookup_cons]
        rw [show (x == k.1) = false from beq_eq_false_iff_ne.mpr fun z => hk z.symm]
        exact q1
      · show RelTs W F H' (if k.1 = x then _ else t0 :: setN (kvs.map (·.1)) ts x t') _ _
        rw [if_neg hk]
        exact ⟨_, _, _, _, rfl, rfl, RelT.mono (Inc.refl F) t0 _ f0 (fun y hy => hH y fun q => n0.2.2 y hy p (List.mem_flatten.mpr ⟨f, q2, hp⟩) q) a, q4 H' hH hp hr⟩
/-- the part at a place: what it is, and the whole where the part is changed at its own place -/
theorem RelT.mut {u u' : T} : ∀ {π : List Sel} {t : T} {v : V} {fp : List Addr}, RelT W F H t v fp → fp.Nodup → t.getP π = some u → AtV H v π p →
    ∃ fu, (∀ a ∈ fu, a ∈ fp) ∧ RelT W F H u (.ref p) fu ∧ ∀ H', (∀ a, a ≠ p → H' a = H a) → p ∈ fu → RelT W F H' u' (.ref p) fu → RelT W F H' (t.putP π u') v fp
  | [], t, v, fp, r, nd, e, hv => by
    have hv : v = _ := hv
    subst hv
    cases e
    exact ⟨fp, fun _ h => h, r, fun H' _ _ h => h⟩
  | .ix n :: π, t, v, fp, r, nd, e, hv => by
    obtain ⟨a, vs, w, rfl, hH, hw, hv⟩ := hv
    obtain ⟨t1, e1, e0⟩ := Option.bind_eq_some_iff.mp (show (t.sub (.ix n)).bind _ = _ from e)
    have hput : t.putP (.ix n :: π) u' = t.upd (.ix n) (t1.putP π u') := by
      show (match t.sub (.ix n) with | some t1 => t.upd (.ix n) (t1.putP π u') | none => t) = _
      rw [e1]
    rw [hput]
    cases t with
    | ll ts =>
      obtain ⟨q, vs', fps, ev, rfl, hq, rs⟩ := r
      cases ev
      have evs : vs' = vs := by
        rcases hH with h | h
        · rw [hq] at h; cases h; rfl
        · rw [hq] at h; cases h
      subst evs
      have n0 := List.nodup_cons.mp nd
      obtain ⟨w', f, q1, q2, q3⟩ := rs.at e1
      rw [hw] at q1
      cases q1
      have hfm : ∀ x ∈ f, x ∈ fps.flatten := fun x hx => List.mem_flatten.mpr ⟨f, List.mem_of_getElem? q2, hx⟩
      obtain ⟨fu, h1, h2, h3⟩ := RelT.mut (u' := u') q3 ((List.sublist_flatten_of_mem (List.mem_of_getElem? q2)).nodup n0.2) e0 hv
      refine ⟨fu, fun x hx => List.mem_cons_of_mem _ (hfm x (h1 x hx)), h2, fun H' hH' hp hr => ?_⟩
      refine ⟨_, _, fps, rfl, rfl, ?_, RelTs.put (h1 p hp) (h3 H' hH' hp hr) hH' rs n0.2 hw q2⟩
      rw [hH' _ fun z => n0.1 (by rw [z]; exact hfm p (h1 p hp))]
      exact hq
    | tu ts =>
      obtain ⟨q, vs', fps, ev, rfl, hq, rs⟩ := r
      cases ev
      have evs : vs' = vs := by
        rcases hH with h | h
        · rw [hq] at h; cases h
        · rw [hq] at h; cases h; rfl
      subst evs
      have n0 := List.nodup_cons.mp nd
      obtain ⟨w', f, q1, q2, q3⟩ := rs.at e1
      rw [hw] at q1
      cases q1
      have hfm : ∀ x ∈ f, x ∈ fps.flatten := fun x hx => List.mem_flatten.mpr ⟨f, List.mem_of_getElem? q2, hx⟩
      obtain ⟨fu, h1, h2, h3⟩ := RelT.mut (u' := u') q3 ((List.sublist_flatten_of_mem (List.mem_of_getElem? q2)).nodup n0.2) e0 hv
      refine ⟨fu, fun x hx => List.mem_cons_of_mem _ (hfm x (h1 x hx)), h2, fun H' hH' hp hr => ?_⟩
      refine ⟨_, _, fps, rfl, rfl, ?_, RelTs.put (h1 p hp) (h3 H' hH' hp hr) hH' rs n0.2 hw q2⟩
      rw [hH' _ fun z => n0.1 (by rw [z]; exact hfm p (h1 p hp))]
      exact hq
    | _ => cases e1
  | .at x :: π, t, v, fp, r, nd, e, hv => by
    obtain ⟨a, C, dx, kvs, w, rfl, hH, hw, hv⟩ := hv
    obtain ⟨t1, e1, e0⟩ := Option.bind_eq_some_iff.mp (show (t.sub (.at x)).bind _ = _ from e)
    have hput : t.putP (.at x :: π) u' = t.upd (.at x) (t1.putP π u') := by
      show (match t.sub (.at x) with | some t1 => t.upd (.at x) (t1.putP π u') | none => t) = _
      rw [e1]
    rw [hput]
    cases t with
    | o C' ns ts =>
      obtain ⟨q, dx', kvs', fps, ev, rfl, hq, hk, rs⟩ := r
      cases ev
      rw [hq] at hH
      cases hH
      have n0 := List.nodup_cons.mp nd
      obtain ⟨w', f, q1, q2, q3, q4⟩ := RelTs.putN (p := p) (t' := t1.putP π u') hk rs n0.2 e1
      rw [hw] at q1
      cases q1
      have hfm : ∀ x ∈ f, x ∈ fps.flatten := fun x hx => List.mem_flatten.mpr ⟨f, q2, hx⟩
      obtain ⟨fu, h1, h2, h3⟩ := RelT.mut (u' := u') q3 ((List.sublist_flatten_of_mem q2).nodup n0.2) e0 hv
      refine ⟨fu, fun x hx => List.mem_cons_of_mem _ (hfm x (h1 x hx)), h2, fun H' hH' hp hr => ?_⟩
      refine ⟨_, dx, _, fps, rfl, rfl, ?_, hk, q4 H' hH' (h1 p hp) (h3 H' hH' hp hr)⟩
      rw [hH' _ fun z => n0.1 (by rw [z]; exact hfm p (h1 p hp))]
      exact hq
    | _ => cases e1
theorem Slots.put {v : V} {f : List Addr} {t' : T} (hp : p ∈ f) (hr : RelT W F H' t' v f) (hH : ∀ a, a ≠ p → H' a = H a) : ∀ {ts : List T} {σ : L2.St} {fps : List (List Addr)} {n : Nat}, Slots W F H ts σ fps → fps.flatten.Nodup → σ[n]? = some (some v) → fps[n]? = some f → Slots W F H' (ts.set n t') σ fps
  | [], _, _, _, r, _, e, _ => by rw [r.1] at e; simp at e
  | t :: ts, _, _, 0, r, nd, e1, e2 => by
    obtain ⟨v0, vr, f0, fr, rfl, rfl, a, b⟩ := r
    simp at e1 e2
    subst e1 e2
    rw [List.flatten_cons] at nd
    have n := List.nodup_append.mp nd
    exact ⟨_, _, _, _, rfl, rfl, hr, Slots.mono (Inc.refl F) (fun x hx => hH x fun q => n.2.2 p hp x hx q.symm) b⟩
  | t :: ts, _, _, n + 1, r, nd, e1, e2 => by
    obtain ⟨v0, vr, f0, fr, rfl, rfl, a, b⟩ := r
    simp at e1 e2
    rw [List.flatten_cons] at nd
    have n0 := List.nodup_append.mp nd
    refine ⟨_, _, _, _, rfl, rfl, Slot.mono (Inc.refl F) (fun x hx => hH x fun q => n0.2.2 x hx p (List.mem_flatten.mpr ⟨f, List.mem_of_getElem? e2, hp⟩) q) a, Slots.put hp hr hH b n0.2.1 e1 e2⟩
/-- a slot's thing is changed at one place of its own -/
theorem SR.mut {b : Bs} {ρ : List T} {σ : L2.St} {X : List Tm} {i : Nat} {t u u' : T} {v : V} {π : List Sel} (S : SR W b F ρ σ X H) (hi : ρ[i]? = some t) (hv : σ[i]? = some (some v)) (hu : t.getP π = some u) (ha : AtV H v π p) :
    ∃ fu, RelT W F H u (.ref p) fu ∧ (∀ a ∈ fu, F a = none) ∧ ∀ o o', H p = some o → (b.H0 p ≠ none → Stb (GB W b) o o') → p ∈ fu → RelT W F (upd H p o') u' (.ref p) fu → SR W b F (ρ.set i (t.putP π u')) σ X (upd H p o') := by
  obtain ⟨le, f0, fn, kept, stab, pin, fps, xps, s1, s2, ⟨nd, ow⟩, lc1, lc2⟩ := S
  obtain ⟨s, f, e1, e2, r⟩ := s1.get hi
  rw [hv] at e1
  cases e1
  have n := List.nodup_append.mp nd
  have hf : ∀ a ∈ f, a ∈ fps.flatten := fun a ha => List.mem_flatten.mpr ⟨f, List.mem_of_getElem? e2, ha⟩
  have nf : f.Nodup := (List.sublist_flatten_of_mem (List.mem_of_getElem? e2)).nodup n.1
  obtain ⟨fu, h1, h2, h3⟩ := RelT.mut (u' := u') r nf hu ha
  refine ⟨fu, h2, fun a ha => ow a (List.mem_append_left _ (hf a (h1 a ha))), fun o o' ho hst hp hr => ?_⟩
  have hpf : p ∈ fps.flatten := hf p (h1 p hp)
  have hpn : F p = none := ow p (List.mem_append_left _ hpf)
  have hne : ∀ a, a ≠ p → upd H p o' a = H a := fun a e => upd_ne e
  refine ⟨fun a x e => ?_, f0, fn, fun a x e hA => ?_, fun a x e hA => ?_, pin, fps, xps, Slots.put (h1 p hp) (h3 _ hne hp hr) hne s1 n.1 hv e2, RelTs.mono (Inc.refl F) _ _ xps (fun a ha => hne a fun q => n.2.2 p hpf a ha q.symm) s2, ⟨nd, ow⟩, lc1, lc2⟩
  · have : a ≠ p := fun q => by rw [q, hpn] at e; cases e
    rw [hne a this]
    exact le a x e
  · have : a ≠ p := fun q => by
      subst q
      rcases LocS.old lc1 hpf with z | z
      · rw [z] at e; cases e
      · exact hA z
    rw [hne a this]
    exact kept a x e hA
  · by_cases q : a = p
    · subst q
      obtain ⟨w, hw, st⟩ := stab a x e hA
      rw [ho] at hw
      cases hw
      exact ⟨o', upd_same, Stb.trans (fun _ z => z) st (hst (by rw [e]; simp))⟩
    · obtain ⟨w, hw, st⟩ := stab a x e hA
      exact ⟨w, by rw [hne a q]; exact hw, st⟩
/-- a list of deep things may come to any list -/
theorem stb_lst {b : Bs} {ρ : List T} {σ : L2.St} {X : List Tm} {ds : List D} {vs : List V} {vs' : List V} (S : SR W b F ρ σ X H) (r : Reps W F ds vs) : Stb (GB W b) (.lst vs) (.lst vs') := by
  refine ⟨vs', rfl, fun i a g e => ?_⟩
  exfalso
  obtain ⟨d, hd, q⟩ : ∃ d, ds[i]? = some d ∧ Rep W F d (.ref a) := by
    have hl := r.len
    have hi : i < vs.length := (List.getElem?_eq_some_iff.mp e).1
    obtain ⟨w, ew, q⟩ := r.get (List.getElem?_eq_getElem (show i < ds.length by omega))
    rw [e] at ew
    cases ew
    exact ⟨_, List.getElem?_eq_getElem (show i < ds.length by omega), q⟩
  have key : F a ≠ none ∨ W.K.lookup a ≠ none := by
    cases d with
    | non => cases (show V.ref a = _ from q)
    | bl b => cases (show V.ref a = _ from q)
    | int b => cases (show V.ref a = _ from q)
    | str b => cases (show V.ref a = _ from q)
    | tup l =>
      obtain ⟨p, us, e, s, _⟩ := q
      cases e
      rcases s with (s | ⟨o, s⟩) | ⟨o, its, n, s, _⟩
      · exact .inl (by rw [s]; simp)
      · exact .inl (by rw [s]; simp)
      · exact .inr (by rw [s]; simp)
    | lst l =>
      obtain ⟨p, us, e, s, _⟩ := q
      cases e
      rcases s with (s | ⟨o, s⟩) | ⟨o, its, n, s, _⟩
      · exact .inl (by rw [s]; simp)
      · exact .inl (by rw [s]; simp)
      · exact .inr (by rw [s]; simp)
    | dct ks l =>
      obtain ⟨p, us, e, s, _⟩ := q
      cases e
      rcases s with s | ⟨o, s⟩
      · exact .inl (by rw [s]; simp)
      · exact .inl (by rw [s]; simp)
    | obj C ns l =>
      obtain ⟨p, dx, us, e, s, _⟩ := q
      cases e
      exact .inl (by rw [s]; simp)
  obtain ⟨g1, g2, u, g3⟩ := g
  rcases key with z | z
  · cases hF : F a with
    | none => exact z hF
    | some o =>
      rcases S.fn a o hF with y | y
      · rw [g1] at y; cases y
      · rw [g3] at y; cases y
  · exact z g2
end
end Z

namespace Z
open PySem PySem.Spec PyProof.Rows L2
section
variable {W : Wd} {F F' H H' : Hp}
theorem rep_ref {d : D} {a : Addr} (q : Rep W F d (.ref a)) : F a ≠ none ∨ W.K.lookup a ≠ none := by
  cases d with
  | non => cases (show V.ref a = _ from q)
  | bl b => cases (show V.ref a = _ from q)
  | int b => cases (show V.ref a = _ from q)
  | str b => cases (show V.ref a = _ from q)
  | tup l =>
    obtain ⟨p, us, e, s, _⟩ := q
    cases e
    rcases s with (s | ⟨o, s⟩) | ⟨o, its, n, s, _⟩
    · exact .inl (by rw [s]; simp)
    · exact .inl (by rw [s]; simp)
    · exact .inr (by rw [s]; simp)
  | lst l =>
    obtain ⟨p, us, e, s, _⟩ := q
    cases e
    rcases s with (s | ⟨o, s⟩) | ⟨o, its, n, s, _⟩
    · exact .inl (by rw [s]; simp)
    · exact .inl (by rw [s]; simp)
    · exact .inr (by rw [s]; simp)
  | dct ks l =>
    obtain ⟨p, us, e, s, _⟩ := q
    cases e
    rcases s with s | ⟨o, s⟩
    · exact .inl (by rw [s]; simp)
    · exact .inl (by rw [s]; simp)
  | obj C ns l =>
    obtain ⟨p, dx, us, e, s, _⟩ := q
    cases e
    exact .inl (by rw [s]; simp)
theorem stb_lstF {ds : List D} {vs vs' : List V} (r : Reps W F ds vs) : Stb (GF W F) (.lst vs) (.lst vs') := by
  refine ⟨vs', rfl, fun i a g e => ?_⟩
  exfalso
  have hl := r.len
  have hi : i < vs.length := (List.getElem?_eq_some_iff.mp e).1
  obtain ⟨w, ew, q⟩ := r.get (List.getElem?_eq_getElem (show i < ds.length by omega))
  rw [e] at ew
  cases ew
  rcases rep_ref q with z | z
  · exact z g.1
  · exact z g.2
theorem stb_dk {kvs kvs' : List (Key × V)} {G : Addr → Prop} : Stb G (.dK kvs) (.dK kvs') := ⟨kvs', rfl⟩
end
/-! ### where a thing of one's own stands -/
def owned : T → Bool | .un => false | .f _ => false | _ => true
def Sl (W : Wd) (te : TE) (i : Nat) (f : List T → Option (List Sel)) : Prop :=
  ∀ b F ρ σ X H π t u Q, SR W b F ρ σ X H → f ρ = some π → ρ[i]? = some t → t.getP π = some u → owned u = true → (∀ p v F' H', SR W b F' ρ σ X H' → Inc F F' → Same H H' → σ[i]? = some (some v) → AtV H' v π p → Q (.ref p) H') → te σ H Q
def Lo (c : Ctx) (e : Expr) (i : Nat) (f : List T → Option (List Sel)) : Prop := ∃ t, (∀ j, PE (c.X j) e t) ∧ Sl c.W t i f
def pHere : List T → Option (List Sel) := fun _ => some []
theorem owned_ref {W : Wd} {F H : Hp} {t : T} {v : V} {fp : List Addr} (r : RelT W F H t v fp) (h : owned t = true) : ∃ p, v = .ref p := by
  cases t with
  | un => cases h
  | f d => cases h
  | l ds => obtain ⟨p, _, e, _⟩ := r; exact ⟨p, e⟩
  | dk ks ds => obtain ⟨p, _, e, _⟩ := r; exact ⟨p, e⟩
  | ll ts => obtain ⟨p, _, _, e, _⟩ := r; exact ⟨p, e⟩
  | tu ts => obtain ⟨p, _, _, e, _⟩ := r; exact ⟨p, e⟩
  | o C ns ts => obtain ⟨p, _, _, _, e, _⟩ := r; exact ⟨p, e⟩
section
variable {c : Ctx} {pos : Pos}
theorem lo_v (i : Nat) {x : Str} (hi : c.N[i]? = some x := by rfl) (hv : ∀ j, Vis (c.X j).env.scope x := by intro _; first | exact Or.inl rfl | exact Or.inr (Or.inl rfl) | exact Or.inr (Or.inr rfl)) (hd : (x == ("__debug__" : Str)) = false := by decide) (hcd : (x == ("__classdict__" : Str)) = false := by decide) : Lo c (.Name x pos) i pHere := by
  refine ⟨_, fun j => pe_var (i := i) (by rw [c.hN j]; exact hi) (hv j) hd hcd, ?_⟩
  intro b F ρ σ X H π t u Q S e ht hu ho k
  cases e
  cases hu
  obtain ⟨s, fp, e1, r⟩ := S.slot ht
  cases s with
  | none => rw [r.1] at ho; cases ho
  | some v =>
    obtain ⟨p, rfl⟩ := owned_ref r ho
    exact ⟨_, e1, k p _ F H S (Inc.refl F) (Same.refl H) e1 rfl⟩
end
/-- a slot's thing with one part changed -/
def mutF (i : Nat) (π : List Sel) (g : T → Option T) (ρ : List T) : Option (List T) := ρ[i]?.bind fun t => (t.getP π).bind fun u => (g u).map fun u' => ρ.set i (t.putP π u')
theorem mutF_some {i : Nat} {π : List Sel} {g : T → Option T} {ρ ρ' : List T} (h : mutF i π g ρ = some ρ') : ∃ t u u', ρ[i]? = some t ∧ t.getP π = some u ∧ g u = some u' ∧ ρ' = ρ.set i (t.putP π u') := by
  obtain ⟨t, e1, h⟩ := Option.bind_eq_some_iff.mp h
  obtain ⟨u, e2, h⟩ := Option.bind_eq_some_iff.mp h
  obtain ⟨u', e3, h⟩ := Option.map_eq_some_iff.mp h
  exact ⟨t, u, u', e1, e2, e3, h.symm⟩
def appT (d : D) : T → Option T
  | .l ds => if ds.length < sizeLine then some (.l (ds ++ [d])) else none
  | _ => none
/-- xs.append(e) -/
def sApp (i : Nat) (fp : List T → Option (List Sel)) (fe : List T → Option T) : FS := fun ρ => (fp ρ).bind fun π => (fe ρ).bind fun x => x.d?.bind fun d => (mutF i π (appT d) ρ).map .nx
theorem SR.app {W : Wd} {b : Bs} {F : Hp} {ρ ρ' : List T} {σ : L2.St} {X : List Tm} {H : Hp} {i : Nat} {π : List Sel} {d : D} {v y : V} {p : Addr} (S : SR W b F ρ σ X H) (h : mutF i π (appT d) ρ = some ρ') (hv : σ[i]? = some (some v)) (ha : AtV H v π p) (r : Rep W F d y) :
    ∃ vs, H p = some (.lst vs) ∧ vs.length < sizeLine ∧ SR W b F ρ' σ X (upd H p (.lst (vs ++ [y]))) := by
  obtain ⟨t, u, u', e1, e2, e3, rfl⟩ := mutF_some h
  cases u with
  | l ds =>
    have e3' : (if ds.length < sizeLine then some (T.l (ds ++ [d])) else none) = some u' := e3
    split at e3'
    · rename_i hl
      cases e3'
      obtain ⟨fu, q1, q2, q3⟩ := S.mut (u' := .l (ds ++ [d])) e1 hv e2 ha
      obtain ⟨p', vs, ep, rfl, hp, rs⟩ := q1
      cases ep
      refine ⟨vs, hp, by rw [← rs.len]; exact hl, q3 _ _ hp (fun _ => stb_lst S rs) (List.mem_singleton.mpr rfl) ⟨p, _, rfl, rfl, upd_same, rs.append ⟨y, [], rfl, r, rfl⟩⟩⟩
    · cases e3'
  | _ => cases e3
section
variable {c : Ctx} {e o : Expr} {i : Nat} {fp : List T → Option (List Sel)} {fe fk : List T → Option T} {pos apos cpos : Pos}
theorem mutF_own {i : Nat} {π : List Sel} {g : T → Option T} {ρ ρ' : List T} (h : mutF i π g ρ = some ρ') (hg : ∀ u u', g u = some u' → owned u = true) : ∃ t u, ρ[i]? = some t ∧ t.getP π = some u ∧ owned u = true := by
  obtain ⟨t, u, u', e1, e2, e3, _⟩ := mutF_some h
  exact ⟨t, u, e1, e2, hg u u' e3⟩
theorem appT_own {d : D} (u u' : T) (h : appT d u = some u') : owned u = true := by
  cases u with
  | un => cases h
  | f d => cases h
  | _ => rfl
theorem sm_app (ho : Lo c o i fp) (he : Ev c e fe)
    (hbase : ∀ j, attributeBase o "append" (c.X j).env (eval o (c.X j).env) = eval o (c.X j).env := by intro _; rfl)
    (hfew : ∀ j, ((backTo cpos (starEach [e] (c.X j).env)).all (fun x => !x.1) && (backToKw cpos (keywordEach [] (c.X j).env)).all (fun x => x.1.isSome)
      && decide (([e] : List Expr).length + ([] : List Keyword).length + (if ([] : List Keyword).isEmpty then 0 else 1) < 30)) = true := by intro _; rfl)
    (hline : (apos.endLine == cpos.line) = true := by rfl) (hs : ∀ j, starEach [e] (c.X j).env = (false, eval e (c.X j).env) :: starEach [] (c.X j).env := by intro _; rfl) (hplain : ∀ j, (backTo cpos (starEach [] (c.X j).env)).any (·.1) = false := by intro _; rfl)
    (hsw : ∀ j, swapsWith (.Call (.Attribute o "append" apos) [e] [] cpos) none pos.line (c.X j).env = pure false := by intro _; rfl) :
    Sm c (.Expr (.Call (.Attribute o "append" apos) [e] [] cpos) pos) (sApp i fp fe) := by
  obtain ⟨to, po, so⟩ := ho
  obtain ⟨te, pe, se⟩ := he
  refine ⟨tDrop (tBM c.W.K "list" rAppend to (tCons te tNil)), fun j => by
    have h := ps_expr (pe_bm PySem.F.plainAttrs_list PySem.F.slot_list_append PySem.F.type_list_append mt_append (po j) (pa_cons (pe j) pa_nil (hs j)) (hbase j) (hfew j) hline (hs j) (hplain j)) (hsw j)
    rw [c.hK j] at h
    exact h, ?_⟩
  intro b F ρ σ X H out D hb S eq k
  unfold sApp at eq
  obtain ⟨π, e1, eq⟩ := Option.bind_eq_some_iff.mp eq
  obtain ⟨x, e2, eq⟩ := Option.bind_eq_some_iff.mp eq
  obtain ⟨d, e3, eq⟩ := Option.bind_eq_some_iff.mp eq
  obtain ⟨ρ', e4, eq⟩ := Option.map_eq_some_iff.mp eq
  subst eq
  cases d_some e3
  obtain ⟨tt, uu, h1, h2, h3⟩ := mutF_own e4 appT_own
  refine so b F ρ σ X H π tt uu _ S e1 h1 h2 h3 fun p v F1 H1 S1 i1 s1 hv hat => ?_
  obtain ⟨t9, u9, u9', f1, f2, f3, _⟩ := mutF_some e4
  obtain ⟨fu, q1, _⟩ := S1.mut (u' := .un) f1 hv f2 hat
  have hl : ∃ vs, H1 p = some (.lst vs) := by
    cases u9 with
    | l ds => obtain ⟨p', vs, ep, _, hp, _⟩ := q1; cases ep; exact ⟨vs, hp⟩
    | _ => cases f3
  obtain ⟨vs0, hl⟩ := hl
  refine ⟨.inl ⟨rfl, vs0, SqL.of hl⟩, ?_⟩
  refine se b F1 ρ σ X H1 _ _ S1 e2 fun y F2 H2 S2 i2 s2 r2 => ?_
  obtain ⟨vs, hp, hz, S3⟩ := S2.app e4 hv (hat.same s2) r2.rep
  exact ⟨p, vs, y, rfl, rfl, hp, hz, k σ F2 _ S3 (i1.trans i2)⟩
/-! o[k] = e -/
def setT (k d : D) : T → Option T
  | .l ds => (T.f k).i?.bind fun j => (ixN ds.length j).map fun n => .l (ds.set n d)
  | .dk ks ds => (T.f k).key?.bind fun q => if ks.length < sizeLine then some (.dk (dput ks ds q d).1 (dput ks ds q d).2) else none
  | _ => none
def sSetIx (i : Nat) (fp : List T → Option (List Sel)) (fk fe : List T → Option T) : FS := fun ρ => (fe ρ).bind fun x => x.d?.bind fun d => (fp ρ).bind fun π => (fk ρ).bind fun z => z.d?.bind fun q => (mutF i π (setT q d) ρ).map .nx
theorem setT_own {k d : D} (u u' : T) (h : setT k d u = some u') : owned u = true := by
  cases u with
  | un => cases h
  | f d => cases h
  | _ => rfl
def rSetU : TSet := fun o i v H Q => rSetL o i v H Q ∨ rSetD o i v H Q
theorem set_U {X : Cx} (hu : X.A.units + 1 < cLine) : PSet X rSetU := by
  intro pins s σ H o i v ov iv u Q I ro ri rv h
  rcases h with h | h
  · exact set_list pins s σ H o i v ov iv u Q I ro ri rv h
  · exact set_dict hu pins s σ H o i v ov iv u Q I ro ri rv h
theorem rep_key {W : Wd} {F : Hp} {d : D} {k : Key} {v : V} (r : Rep W F d v) (h : (T.f d).key? = some k) : v = kV k := by
  cases d with
  | int i => cases h; exact r
  | str x => cases h; exact r
  | _ => cases h
theorem SR.setIx {W : Wd} {b : Bs} {F : Hp} {ρ ρ' : List T} {σ : L2.St} {X : List Tm} {H : Hp} {i : Nat} {π : List Sel} {d q : D} {v y z : V} {p : Addr} (S : SR W b F ρ σ X H) (h : mutF i π (setT q d) ρ = some ρ') (hv : σ[i]? = some (some v)) (ha : AtV H v π p) (r : Rep W F d y) (rq : Rep W F q z)
    {Q : Hp → Prop} (k : ∀ H', SR W b F ρ' σ X H' → Q H') : rSetU (.ref p) z y H Q := by
  obtain ⟨t, u, u', e1, e2, e3, rfl⟩ := mutF_some h
  cases u with
  | l ds =>
    obtain ⟨j, e4, e3⟩ := Option.bind_eq_some_iff.mp (show (T.f q).i?.bind _ = some u' from e3)
    obtain ⟨n, e5, e3⟩ := Option.map_eq_some_iff.mp e3
    subst e3
    have hq : q = .int j := by cases q <;> first | (cases e4; rfl) | cases e4
    subst hq
    obtain ⟨fu, q1, q2, q3⟩ := S.mut (u' := .l (ds.set n d)) e1 hv e2 ha
    obtain ⟨p', vs, ep, rfl, hp, rs⟩ := q1
    cases ep
    have hz : z = .int j := rq
    subst hz
    refine .inl ⟨p, vs, j, n, rfl, rfl, hp, by rw [← rs.len]; exact e5, k _ (q3 _ _ hp (fun _ => stb_lst S rs) (List.mem_singleton.mpr rfl) ⟨p, _, rfl, rfl, upd_same, Reps.set r n rs⟩)⟩
  | dk ks ds =>
    obtain ⟨j, e4, e3⟩ := Option.bind_eq_some_iff.mp (show (T.f q).key?.bind _ = some u' from e3)
    split at e3
    · rename_i hl
      cases e3
      obtain ⟨fu, q1, q2, q3⟩ := S.mut (u' := .dk (dput ks ds j d).1 (dput ks ds j d).2) e1 hv e2 ha
      obtain ⟨p', kvs, ep, rfl, hp, hk, rs⟩ := q1
      cases ep
      have hz := rep_key rq e4
      subst hz
      have hk2 : kvs.length < sizeLine := by rw [← hk, List.length_map] at hl; exact hl
      have dp := dput_ok hk rs r (k := j)
      exact .inr ⟨p, _, rfl, DPut.k hp hk2, k _ (q3 _ _ hp (fun _ => stb_dk) (List.mem_singleton.mpr rfl) ⟨p, _, rfl, rfl, upd_same, dp.1, dp.2⟩)⟩
    · cases e3
  | _ => cases e3
theorem sm_setIx {ek : Expr} {pos' : Pos} (ho : Lo c o i fp) (hk : Ev c ek fk) (he : Ev c e fe)
    (hsw : ∀ j, swapsWithSole [.Subscript o ek pos'] e pos.line (c.X j).env = pure false := by intro _; rfl) (hw : ∀ j, swappedStores [.Subscript o ek pos'] e (c.X j).env = pure none := by intro _; rfl)
    (h1 : ∀ j, (assignEach [.Subscript o ek pos'] (c.X j).env).map (·.2) = [assign (.Subscript o ek pos') (c.X j).env] := by intro _; rfl)
    (ha : ∀ j v, assign (.Subscript o ek pos') (c.X j).env v = (do
      let ov ← holding [v] (eval o (c.X j).env)
      let iv ← holding [v, ov] (eval ek (c.X j).env)
      standAt pos'
      holding [v, ov, iv] (setItem ov iv v)
      release [v, ov, iv] []) := by intro _ _; rfl) : Sm c (.Assign [.Subscript o ek pos'] e pos) (sSetIx i fp fk fe) := by
  obtain ⟨to, po, so⟩ := ho
  obtain ⟨te, pe, se⟩ := he
  obtain ⟨tk, pk, sk⟩ := hk
  refine ⟨tAsg te (L2.gSub to tk rSetU), fun j => ps_asg (pe j) (pg_sub (po j) (pk j) (set_U (c.hu1 j)) (ha j)) (hsw j) (hw j) (h1 j), ?_⟩
  intro b F ρ σ X H out D hb S eq k
  unfold sSetIx at eq
  obtain ⟨x, e2, eq⟩ := Option.bind_eq_some_iff.mp eq
  obtain ⟨d, e3, eq⟩ := Option.bind_eq_some_iff.mp eq
  obtain ⟨π, e1, eq⟩ := Option.bind_eq_some_iff.mp eq
  obtain ⟨z, e5, eq⟩ := Option.bind_eq_some_iff.mp eq
  obtain ⟨q, e6, eq⟩ := Option.bind_eq_some_iff.mp eq
  obtain ⟨ρ', e4, eq⟩ := Option.map_eq_some_iff.mp eq
  subst eq
  cases d_some e3
  cases d_some e6
  obtain ⟨tt, uu, h1, h2, h3⟩ := mutF_own e4 setT_own
  refine se b F ρ σ X H _ _ S e2 fun y F1 H1 S1 i1 s1 r1 => ?_
  refine so b F1 ρ σ X H1 π tt uu _ S1 e1 h1 h2 h3 fun p v F2 H2 S2 i2 s2 hv hat => ?_
  refine sk b F2 ρ σ X H2 _ _ S2 e5 fun w F3 H3 S3 i3 s3 r3 => ?_
  exact S3.setIx e4 hv (hat.same s3) ((r1.ext i2 s2).ext i3 s3).rep r3.rep fun H' S' => k σ F3 H' S' ((i1.trans i2).trans i3)
end
end Z

namespace Z
open PySem PySem.Spec PyProof.Rows L2
/-! ### comprehensions -/
/-- what a pure thing goes over -/
def Sip (W : Wd) (wi : TI) (f : List T → Option (List D)) : Prop :=
  ∀ b F ρ σ X H ds R, SR W b F ρ σ X H → f ρ = some ds → (∀ J F' H', SR W b F' ρ σ X H' → Inc F F' → Same H H' → Wk W F' J ds → R J H') → wi σ H R
def Ip (c : Ctx) (tg e : Expr) (f : List T → Option (List D)) : Prop := ∃ wi, (∀ j, PI (c.X j) tg e wi) ∧ Sip c.W wi f
/-- a target that sets the slots vs alone -/
def Sgc (W : Wd) (g : TG) (f : T → List T → Option (List T)) (vs : List Nat) : Prop :=
  ∀ b F ρ ρ' σ X H t v Q, SR W b F ρ σ (⟨none, t, v⟩ :: X) H → b.io = [] → f t ρ = some ρ' → (∀ σ' F' H', SR W b F' ρ' σ' X H' → Inc F F' → Same H H' → L2.wipe σ' vs = L2.wipe σ vs → Q σ' H') → g v σ H Q
def wipeR (ρ : List T) : List Nat → List T
  | [] => ρ
  | v :: vs => (wipeR ρ vs).set v .un
def Gc (c : Ctx) (e : Expr) (f : T → List T → Option (List T)) (vs : List Nat) : Prop := ∃ g, (∀ j, PG (c.X j) e g) ∧ Sgc c.W g f vs ∧ ∀ t ρ ρ', f t ρ = some ρ' → wipeR ρ' vs = wipeR ρ vs
def Sgcs (W : Wd) (g : TGs) (f : List T → List T → Option (List T)) (vs : List Nat) : Prop :=
  ∀ b F ρ ρ' σ X H ts us Q, ts.length = us.length → SR W b F ρ σ (Xn ts us ++ X) H → b.io = [] → f ts ρ = some ρ' → (∀ σ' F' H', SR W b F' ρ' σ' X H' → Inc F F' → Same H H' → L2.wipe σ' vs = L2.wipe σ vs → Q σ' H') → g us σ H Q
def Gcs (c : Ctx) (es : List Expr) (f : List T → List T → Option (List T)) (vs : List Nat) : Prop := ∃ g, (∀ j, PGs (c.X j) es g) ∧ Sgcs c.W g f vs ∧ ∀ ts ρ ρ', f ts ρ = some ρ' → wipeR ρ' vs = wipeR ρ vs
theorem set_set_comm {α : Type} (l : List α) (i j : Nat) (a : α) : (l.set i a).set j a = (l.set j a).set i a := by
  by_cases h : i = j
  · subst h; rfl
  · exact List.set_comm _ _ h
theorem wipe_set {s : Option V} : ∀ {vs : List Nat} {σ : L2.St} {i : Nat}, i ∈ vs → L2.wipe (σ.set i s) vs = L2.wipe σ vs
  | [], _, _, h => by cases h
  | v :: vs, σ, i, h => by
    have key : ∀ (us : List Nat) (τ : L2.St) (j : Nat) (a : Option V), j ∉ us → L2.wipe (τ.set j a) us = (L2.wipe τ us).set j a := by
      intro us
      induction us with
      | nil => intro τ j a _; rfl
      | cons u us ih =>
        intro τ j a hj
        have hj' : j ≠ u ∧ j ∉ us := ⟨fun h => hj (h ▸ List.mem_cons_self), fun h => hj (List.mem_cons_of_mem _ h)⟩
        show (L2.wipe (τ.set j a) us).set u none = ((L2.wipe τ us).set u none).set j a
        rw [ih τ j a hj'.2, List.set_comm _ _ hj'.1]
    by_cases hm : i ∈ vs
    · show (L2.wipe (σ.set i s) vs).set v none = (L2.wipe σ vs).set v none
      rw [wipe_set hm]
    · have hv : i = v := by
        rcases List.mem_cons.mp h with z | z
        · exact z
        · exact absurd z hm
      subst hv
      show (L2.wipe (σ.set i s) vs).set i none = (L2.wipe σ vs).set i none
      rw [key vs σ i s hm, List.set_set]
theorem wipeR_set {t : T} : ∀ {vs : List Nat} {ρ : List T} {i : Nat}, i ∈ vs → wipeR (ρ.set i t) vs = wipeR ρ vs
  | [], _, _, h => by cases h
  | v :: vs, ρ, i, h => by
    have key : ∀ (us : List Nat) (τ : List T) (j : Nat) (a : T), j ∉ us → wipeR (τ.set j a) us = (wipeR τ us).set j a := by
      intro us
      induction us with
      | nil => intro τ j a _; rfl
      | cons u us ih =>
        intro τ j a hj
        have hj' : j ≠ u ∧ j ∉ us := ⟨fun h => hj (h ▸ List.mem_cons_self), fun h => hj (List.mem_cons_of_mem _ h)⟩
        show (wipeR (τ.set j a) us).set u .un = ((wipeR τ us).set u .un).set j a
        rw [ih τ j a hj'.2, List.set_comm _ _ hj'.1]
    by_cases hm : i ∈ vs
    · show (wipeR (ρ.set i t) vs).set v .un = (wipeR ρ vs).set v .un
      rw [wipeR_set hm]
    · have hv : i = v := by
        rcases List.mem_cons.mp h with z | z
        · exact z
        · exact absurd z hm
      subst hv
      show (wipeR (ρ.set i t) vs).set i .un = (wipeR ρ vs).set i .un
      rw [key vs ρ i t hm, List.set_set]
theorem wipe_wipe (σ : L2.St) : ∀ vs us : List Nat, (∀ v ∈ us, v ∈ vs) → L2.wipe (L2.wipe σ us) vs = L2.wipe σ vs
  | vs, [], _ => rfl
  | vs, u :: us, h => by
    show L2.wipe ((L2.wipe σ us).set u none) vs = _
    rw [wipe_set (h u List.mem_cons_self), wipe_wipe σ vs us fun v hv => h v (List.mem_cons_of_mem _ hv)]
section
variable {W : Wd} {b : Bs} {F F' : Hp} {ρ : List T} {σ : L2.St} {X : List Tm} {H H' : Hp}
def Bs.noio (b : Bs) : Bs := ⟨b.H0, b.F0, b.As, []⟩
theorem locX_noio : ∀ {X : List Tm} {xps : List (List Addr)}, LocX b X xps → LocX b.noio X xps
  | [], _, _ => trivial
  | _ :: _, [], _ => trivial
  | _ :: _, _ :: _, h => ⟨h.1, locX_noio h.2⟩
theorem locX_io : ∀ {X : List Tm} {xps : List (List Addr)}, LocX b.noio X xps → LocX b X xps
  | [], _, _ => trivial
  | _ :: _, [], _ => trivial
  | _ :: _, _ :: _, h => ⟨h.1, locX_io h.2⟩
theorem SR.noio (S : SR W b F ρ σ X H) : SR W b.noio F ρ σ X H := by
  obtain ⟨le, f0, fn, kept, stab, pin, fps, xps, s1, s2, ow, lc1, lc2⟩ := S
  exact ⟨le, f0, fn, kept, stab, (fun p hp => by cases hp), fps, xps, s1, s2, ow, lc1, locX_noio lc2⟩
theorem SR.io (S : SR W b.noio F' ρ σ X H') (h : ∀ p ∈ b.io, σ[p.1]? = some (some p.2)) : SR W b F' ρ σ X H' := by
  obtain ⟨le, f0, fn, kept, stab, pin, fps, xps, s1, s2, ow, lc1, lc2⟩ := S
  exact ⟨le, f0, fn, kept, stab, h, fps, xps, s1, s2, ow, lc1, locX_io lc2⟩
/-- a slot is forgotten -/
theorem SR.unset {i : Nat} (S : SR W b F ρ σ X H) (hio : b.io = []) : SR W b F (ρ.set i .un) (σ.set i none) X H := by
  obtain ⟨le, f0, fn, kept, stab, pin, fps, xps, s1, s2, ⟨nd, ow⟩, lc1, lc2⟩ := S
  have s1' : Slots W F H (ρ.set i .un) (σ.set i none) (fps.set i []) := Slots.set (s' := none) (u := .un) (f' := []) ⟨rfl, rfl⟩ i s1
  have mset : ∀ a ∈ (fps.set i []).flatten, a ∈ fps.flatten := fun a ha => (mem_set_flat ha).elim id fun z => nomatch z
  have n := List.nodup_append.mp nd
  have nset : (fps.set i []).flatten.Nodup := by
    by_cases hi : i < fps.length
    · exact nodup_set n.1 (List.getElem?_eq_getElem hi) List.nodup_nil (fun a ha => nomatch ha)
    · rw [List.set_eq_of_length_le (by omega)]; exact n.1
  refine ⟨le, f0, fn, kept, stab, (by rw [hio]; exact fun p hp => by cases hp), _, xps, s1', s2, ⟨List.nodup_append.mpr ⟨nset, n.2.1, fun a ha c hc e => n.2.2 a (mset a ha) c hc e⟩, fun a ha => ?_⟩, fun j f hj a ha => ?_, lc2⟩
  · rcases List.mem_append.mp ha with z | z
    · exact ow a (List.mem_append_left _ (mset a z))
    · exact ow a (List.mem_append_right _ z)
  · by_cases hij : i = j
    · subst hij
      rw [List.getElem?_set] at hj
      split at hj
      · split at hj
        · cases hj; cases ha
        · cases hj
      · exact lc1 _ f hj a ha
    · rw [List.getElem?_set_ne hij] at hj
      exact lc1 j f hj a ha
/-- .. and told again -/
theorem SR.reset {i : Nat} {ρ' : List T} {σ' : L2.St} (S : SR W b F (ρ'.set i .un) (σ'.set i none) X H) (hio : b.io = []) (h : ∀ t s, ρ'[i]? = some t → σ'[i]? = some s → Slot W F H t s []) (hl : ρ'.length = σ'.length) : SR W b F ρ' σ' X H := by
  by_cases hi : i < ρ'.length
  · obtain ⟨le, f0, fn, kept, stab, pin, fps, xps, s1, s2, ⟨nd, ow⟩, lc1, lc2⟩ := S
    have hlen := s1.len
    rw [List.length_set, List.length_set] at hlen
    have s1' := Slots.set (h ρ'[i] (σ'[i]'(by omega)) (List.getElem?_eq_getElem hi) (List.getElem?_eq_getElem _)) i s1
    rw [List.set_set, List.set_set] at s1'
    rw [List.set_getElem_self, List.set_getElem_self] at s1'
    have mset : ∀ a ∈ (fps.set i []).flatten, a ∈ fps.flatten := fun a ha => (mem_set_flat ha).elim id fun z => nomatch z
    have n := List.nodup_append.mp nd
    have nset : (fps.set i []).flatten.Nodup := nodup_set n.1 (List.getElem?_eq_getElem (show i < fps.length by omega)) List.nodup_nil (fun a ha => nomatch ha)
    refine ⟨le, f0, fn, kept, stab, (by rw [hio]; exact fun p hp => by cases hp), _, xps, s1', s2, ⟨List.nodup_append.mpr ⟨nset, n.2.1, fun a ha c hc e => n.2.2 a (mset a ha) c hc e⟩, fun a ha => ?_⟩, fun j f hj a ha => ?_, lc2⟩
    · rcases List.mem_append.mp ha with z | z
      · exact ow a (List.mem_append_left _ (mset a z))
      · exact ow a (List.mem_append_right _ z)
    · by_cases hij : i = j
      · subst hij
        rw [List.getElem?_set] at hj
        split at hj
        · split at hj
          · cases hj; cases ha
          · cases hj
        · exact lc1 _ f hj a ha
      · rw [List.getElem?_set_ne hij] at hj
        exact lc1 j f hj a ha
  · rw [List.set_eq_of_length_le (by omega), List.set_eq_of_length_le (by omega)] at S
    exact S
theorem SR.wipes (hio : b.io = []) : ∀ (vs : List Nat), SR W b F ρ σ X H → SR W b F (wipeR ρ vs) (L2.wipe σ vs) X H
  | [], S => S
  | v :: vs, S => (SR.wipes hio vs S).unset hio
/-- the slots that a block may have as its own: deep ones -/
def okW (ρ : List T) (vs : List Nat) : Bool := vs.all fun v => match ρ[v]? with
  | none => true
  | some .un => true
  | some (.f _) => true
  | _ => false
theorem wipeR_length (ρ : List T) : ∀ vs : List Nat, (wipeR ρ vs).length = ρ.length
  | [] => rfl
  | v :: vs => by show ((wipeR ρ vs).set v .un).length = _; rw [List.length_set, wipeR_length ρ vs]
theorem wipeR_at (ρ : List T) (i : Nat) : ∀ vs : List Nat, (wipeR ρ vs)[i]? = ρ[i]? ∨ (wipeR ρ vs)[i]? = some .un
  | [] => .inl rfl
  | v :: vs => by
    show ((wipeR ρ vs).set v .un)[i]? = _ ∨ ((wipeR ρ vs).set v .un)[i]? = _
    by_cases h : v = i
    · subst h
      by_cases hl : v < (wipeR ρ vs).length
      · rw [List.getElem?_set_self hl]; exact .inr rfl
      · rw [List.set_eq_of_length_le (by omega)]; exact wipeR_at ρ v vs
    · rw [List.getElem?_set_ne h]
      exact wipeR_at ρ i vs
theorem SR.unwipes {X' : List Tm} {us : List Nat} (hio : b.io = []) (S : SR W b F ρ σ X H) (i1 : Inc F F') (hw : okW ρ us = true) : ∀ (vs : List Nat), (∀ v ∈ vs, v ∈ us) → SR W b F' (wipeR ρ vs) (L2.wipe σ vs) X' H' → SR W b F' ρ σ X' H'
  | [], _, R => R
  | v :: vs, hv, R => by
    have R' : SR W b F' ((wipeR ρ vs).set v .un) ((L2.wipe σ vs).set v none) X' H' := R
    have Sv := SR.wipes hio vs S
    refine SR.unwipes hio S i1 hw vs (fun x hx => hv x (List.mem_cons_of_mem _ hx)) (R'.reset hio (fun t s et es => ?_) Sv.len)
    obtain ⟨s0, fp, e0, r⟩ := Sv.slot et
    rw [es] at e0
    cases e0
    have ht : t = .un ∨ ∃ d, t = .f d := by
      rcases wipeR_at ρ v vs with z | z
      · rw [z] at et
        have := List.all_eq_true.mp hw v (hv v List.mem_cons_self)
        rw [et] at this
        cases t with
        | un => exact .inl rfl
        | f d => exact .inr ⟨d, rfl⟩
        | _ => cases this
      · rw [z] at et; cases et; exact .inl rfl
    rcases ht with rfl | ⟨d, rfl⟩
    · cases s with
      | none => exact ⟨rfl, rfl⟩
      | some w => exact (rfl : ([] : List Addr) = [])
    · cases s with
      | none => exact nomatch r.1
      | some w => exact ⟨rfl, Rep.inc i1 r.2⟩
/-- the list that is being made -/
theorem SR.topApp {ds : List D} {d : D} {D0 : Addr} {y : V} (S : SR W b F ρ σ (⟨none, .l ds, .ref D0⟩ :: X) H) (r : Rep W F d y) : ∃ vs, H D0 = some (.lst vs) ∧ vs.length = ds.length ∧ SR W b F ρ σ (⟨none, .l (ds ++ [d]), .ref D0⟩ :: X) (upd H D0 (.lst (vs ++ [y]))) := by
  obtain ⟨vs, hD, rs⟩ : ∃ vs, H D0 = some (.lst vs) ∧ Reps W F ds vs := by
    obtain ⟨_, _, _, _, _, _, fps, xps, _, s2, _⟩ := S
    obtain ⟨v, vr, f, fr, e1, e2, r1, r2⟩ := s2
    obtain ⟨p, vs, ep, _, hp, rs⟩ := r1
    have e3 : V.ref D0 = v := (List.cons.inj e1).1
    rw [ep] at e3
    cases e3
    exact ⟨vs, hp, rs⟩
  refine ⟨vs, hD, rs.len.symm, ?_⟩
  refine S.wrX (t' := .l (ds ++ [d])) (o := .lst vs) fun fp rf nd hn => ?_
  obtain ⟨p, vs', ep, rfl, hp, rs'⟩ := rf
  cases ep
  rw [hD] at hp
  cases hp
  exact ⟨hD, stb_lstF rs, List.mem_singleton.mpr rfl, [D0], ⟨D0, _, rfl, rfl, upd_same, rs.append ⟨y, [], rfl, r, rfl⟩⟩, nd, fun a h => h⟩
end
/-- the block's contexts -/
def cB (c : Ctx) (scope : Scope) : Ctx where
  J := c.J × Shared × Hp × Addr × List (Str × Addr) × List Addr
  X := fun q => (c.X q.1).blk q.2.1 q.2.2.1 scope (compEnvC scope q.2.2.2.2.1 q.2.2.2.1 (c.X q.1).env) q.2.2.2.2.2
  W := c.W
  P := ⟨c.P.m, []⟩
  E := fun _ _ _ _ => False
  N := c.N
  k := c.k
  hK := fun q => c.hK q.1
  hN := fun q => c.hN q.1
  nd := c.nd
  calm := fun q => c.calm q.1
  room := fun q => c.room q.1
def Tvs (c : Ctx) (es : List Expr) (f : List T → Option Bool) : Prop := ∃ t, (∀ j, PTs (c.X j) es t) ∧ Stv c.W t f
def tYesF : List T → Option Bool := fun _ => some true
theorem tvs_nil {c : Ctx} : Tvs c [] tYesF := ⟨_, fun _ => pts_nil, fun b F ρ σ X H cc Q S e k => by cases e; exact k F H S (Inc.refl F) (Same.refl H)⟩
theorem tvs_one {c : Ctx} {e : Expr} {f : List T → Option Bool} (h : Tv c e f) : Tvs c [e] f := by
  obtain ⟨t, p, s⟩ := h
  exact ⟨t, fun j => pts_one (p j), s⟩
def lcF (fg : T → List T → Option (List T)) (ft : List T → Option Bool) (fe : List T → Option T) (ρ0 : List T) : List D → Option (List D)
  | [] => some []
  | d :: ds => (fg (.f d) ρ0).bind fun ρ1 => (ft ρ1).bind fun b => if b = true then (fe ρ1).bind fun t => t.d?.bind fun e => (lcF fg ft fe ρ0 ds).map fun r => e :: r else lcF fg ft fe ρ0 ds
def fLc (vs : List Nat) (fi : List T → Option (List D)) (fg : T → List T → Option (List T)) (ft : List T → Option Bool) (fe : List T → Option T) : List T → Option T :=
  fun ρ => if okW ρ vs = true then (fi ρ).bind fun ds => (lcF fg ft fe (wipeR ρ vs) ds).bind fun es => if es.length ≤ sizeLine then some (.f (.lst es)) else none else none
theorem sv_lc {W : Wd} {wi : TI} {g : TG} {tt : TT} {te : TE} {vs : List Nat} {fi : List T → Option (List D)} {fg : T → List T → Option (List T)} {ft : List T → Option Bool} {fe : List T → Option T}
    (hi : Sip W wi fi) (hg : Sgc W g fg vs) (hgw : ∀ t ρ ρ', fg t ρ = some ρ' → wipeR ρ' vs = wipeR ρ vs) (ht : Stv W tt ft) (he : Sv W te fe) : Sv W (tLc wi g tt te vs) (fLc vs fi fg ft fe) := by
  intro b F ρ σ X H τ Q S eq k
  unfold fLc at eq
  split at eq
  · rename_i hok
    obtain ⟨ds, e1, eq⟩ := Option.bind_eq_some_iff.mp eq
    obtain ⟨es, e2, eq⟩ := Option.bind_eq_some_iff.mp eq
    split at eq
    · rename_i hz
      cases eq
      refine hi b F ρ σ X H ds _ S e1 fun J F1 H1 S1 i1 s1 wk => ?_
      intro D0 hD
      have S2 : SR W b F1 ρ σ (⟨none, .l [], .ref D0⟩ :: X) (upd H1 D0 (.lst [])) := S1.own hD ⟨D0, [], rfl, rfl, upd_same, rfl⟩
      have s2 : Same H1 (upd H1 D0 (.lst [])) := fun a u e => by rw [upd_ne (ne_of_none e hD)]; exact e
      refine ⟨fun i m H' => m = ds.length - i ∧ i ≤ ds.length ∧ ∃ F' acc rest, SR W b F' ρ σ (⟨none, .l acc, .ref D0⟩ :: X) H' ∧ Inc F1 F' ∧ Same H1 H' ∧ lcF fg ft fe (wipeR ρ vs) (ds.drop i) = some rest ∧ acc ++ rest = es, ⟨ds.length, by simp, Nat.zero_le _, F1, [], es, S2, Inc.refl F1, s2, e2, rfl⟩, ?_⟩
      rintro i m H' ⟨rfl, hi2, F2, acc, rest, S3, i2, s3, e3, e4⟩
      by_cases hlt : i < ds.length
      · refine .inr ⟨wk.go i F2 H' i2 S3.le hlt, fun H'' => i + 1 ≤ ds.length ∧ ∃ F' acc rest, SR W b F' ρ σ (⟨none, .l acc, .ref D0⟩ :: X) H'' ∧ Inc F1 F' ∧ Same H1 H'' ∧ lcF fg ft fe (wipeR ρ vs) (ds.drop (i + 1)) = some rest ∧ acc ++ rest = es, fun H'' h => ⟨ds.length - (i + 1), by omega, rfl, h⟩, fun x H3 y => ?_⟩
        have hd : ds[i]? = some ds[i] := List.getElem?_eq_getElem hlt
        rw [List.drop_eq_getElem_cons hlt] at e3
        obtain ⟨ρ1, e5, e3⟩ := Option.bind_eq_some_iff.mp (show (fg (.f ds[i]) (wipeR ρ vs)).bind _ = some rest from e3)
        obtain ⟨c, e6, e3⟩ := Option.bind_eq_some_iff.mp e3
        -- the item
        obtain ⟨F3, S4, i3, s4⟩ : ∃ F3, SR W b F3 ρ σ (⟨none, .f ds[i], x⟩ :: ⟨none, .l acc, .ref D0⟩ :: X) H3 ∧ Inc F2 F3 ∧ Same H' H3 := by
          rcases wk.yld i F2 H' x H3 ds[i] i2 S3.le hd y with ⟨e, r⟩ | ⟨p, o, hp, e, ex, r⟩
          · subst e
            exact ⟨F2, S3.push r, Inc.refl F2, Same.refl _⟩
          · subst e ex
            obtain ⟨S', i', s'⟩ := S3.laid (o := o) hp
            exact ⟨_, S'.push (r i'), i', s'⟩
        have S5 := SR.wipes (b := b.noio) rfl vs S4.noio
        have S0 := S4.drop.noio
        refine hg b.noio F3 _ ρ1 _ _ H3 _ x _ S5 rfl e5 fun σ4 F4 H4 S6 i4 s5 hw => ?_
        have hw2 : L2.wipe σ4 vs = L2.wipe σ vs := by rw [hw, wipe_wipe σ vs vs fun v h => h]
        refine ⟨hw2, ?_⟩
        refine ht b.noio F4 ρ1 σ4 _ H4 c _ S6 e6 fun F5 H5 S7 i5 s6 => ?_
        have back : ∀ {F6 H6 Y}, SR W b.noio F6 ρ1 σ4 Y H6 → Inc F3 F6 → SR W b F6 ρ σ Y H6 := fun {F6 H6 Y} R ii => by
          have R1 := SR.wipes (b := b.noio) rfl vs R
          rw [hw2, hgw _ _ _ e5] at R1
          have hwR : wipeR (wipeR ρ vs) vs = wipeR ρ vs := by
            have key : ∀ (l l' : List Nat), (∀ v ∈ l', v ∈ l) → wipeR (wipeR ρ l') l = wipeR ρ l := by
              intro l l'
              induction l' with
              | nil => intro _; rfl
              | cons u l' ih =>
                intro h
                show wipeR ((wipeR ρ l').set u .un) l = _
                rw [wipeR_set (h u List.mem_cons_self)]
                exact ih fun v hv => h v (List.mem_cons_of_mem _ hv)
            exact key vs vs fun v h => h
          rw [hwR] at R1
          exact (SR.unwipes rfl S0 ii hok vs (fun v h => h) R1).io S4.pin
        cases c with
        | false =>
          simp only [Bool.false_eq_true, if_false] at e3 ⊢
          exact ⟨hlt, F5, acc, rest, back S7 (i4.trans i5), ((i2.trans i3).trans i4).trans i5, ((s3.trans s4).trans s5).trans s6, e3, e4⟩
        | true =>
          simp only [if_true] at e3 ⊢
          obtain ⟨t, e7, e3⟩ := Option.bind_eq_some_iff.mp e3
          obtain ⟨e, e8, e3⟩ := Option.bind_eq_some_iff.mp e3
          obtain ⟨r, e9, e3⟩ := Option.map_eq_some_iff.mp e3
          subst e3
          cases d_some e8
          refine he b.noio F5 ρ1 σ4 _ H5 _ _ S7 e7 fun w F6 H6 S8 i6 s7 r6 => ?_
          have S9 := back S8 ((i4.trans i5).trans i6)
          obtain ⟨us, hD6, hl6, S10⟩ := S9.topApp r6.rep
          have hlen : acc.length + (r.length + 1) ≤ sizeLine := by
            have := hz
            rw [← e4, List.length_append, List.length_cons] at this
            exact this
          refine ⟨us, hD6, by omega, hlt, F6, acc ++ [e], r, S10, (((i2.trans i3).trans i4).trans i5).trans i6, ?_, e9, by rw [List.append_assoc]; exact e4⟩
          have s10 := (((s3.trans s4).trans s5).trans s6).trans s7
          intro a u ea
          have : a ≠ D0 := fun z => by rw [z, hD] at ea; cases ea
          rw [upd_ne this]
          exact s10 a u ea
      · have hi3 : i = ds.length := by omega
        subst hi3
        rw [List.drop_length] at e3
        cases e3
        rw [List.append_nil] at e4
        subst e4
        refine .inl ⟨wk.stop F2 H' i2 S3.le, ?_⟩
        obtain ⟨F3, S4, i3⟩ := S3.frz (d := .lst acc) rfl rfl
        exact k _ F3 H' S4.drop ((i1.trans i2).trans i3) (s1.trans s3) (.f S4.top)
    · cases eq
  · cases eq

/-! ### their parts -/
section
variable {c : Ctx} {tg e e2 : Expr} {fe : List T → Option T} {fs : List T → Option (List T)} {p pos : Pos} {pos' : Pos}
def jVal (fe : List T → Option T) : List T → Option (List D) := fun ρ => (fe ρ).bind fun t => match t with
  | .f d => d.its
  | _ => none
theorem ip_val (he : Ev c e fe) : Ip c tg e (jVal fe) := by
  obtain ⟨t, q, s⟩ := he
  refine ⟨_, fun j => pi_of (q j) (by have h := iv_U (X := c.X j) (tg := tg); rw [c.hK j] at h; exact h), ?_⟩
  intro b F ρ σ X H ds R S eq k
  unfold jVal at eq
  obtain ⟨τ, e1, eq⟩ := Option.bind_eq_some_iff.mp eq
  refine s b F ρ σ X H _ _ S e1 fun v F1 H1 S1 i1 s1 r1 => ?_
  cases τ with
  | f d =>
    cases d with
    | lst l =>
      cases eq
      obtain ⟨a, vs, ex, hs, r⟩ := r1.rep
      subst ex
      exact .inl ⟨a, rfl, ⟨vs, SqL.le S1.le hs⟩, k _ F1 H1 S1 i1 s1 (wk_list hs r)⟩
    | tup l =>
      cases eq
      obtain ⟨a, vs, ex, hs, r⟩ := r1.rep
      subst ex
      exact .inr (.inl ⟨a, rfl, ⟨vs, SqT.le S1.le hs⟩, k _ F1 H1 S1 i1 s1 (wk_tup hs r)⟩)
    | str x =>
      cases eq
      exact .inr (.inr ⟨x, r1.rep, k _ F1 H1 S1 i1 s1 wk_str⟩)
    | _ => cases eq
  | _ => cases eq
def jL1 (g : List D → List D) (fs : List T → Option (List T)) : List T → Option (List D) := fun ρ => (fs ρ).bind fun ts => match ts with
  | [.f (.lst ds)] => some (g ds)
  | _ => none
def jL2 (g : List D → List D → List D) (fs : List T → Option (List T)) : List T → Option (List D) := fun ρ => (fs ρ).bind fun ts => match ts with
  | [.f (.lst ds), .f (.lst es)] => some (g ds es)
  | _ => none
def jR1 (fs : List T → Option (List T)) : List T → Option (List D) := fun ρ => (fs ρ).bind fun ts => match ts with
  | [.f (.int n)] => if -(2 ^ 62) ≤ n ∧ n < 2 ^ 62 then some (rangeD 0 n.toNat) else none
  | _ => none
def jR2 (fs : List T → Option (List T)) : List T → Option (List D) := fun ρ => (fs ρ).bind fun ts => match ts with
  | [.f (.int m), .f (.int n)] => if -(2 ^ 62) ≤ m ∧ m < 2 ^ 62 ∧ -(2 ^ 62) ≤ n ∧ n < 2 ^ 62 then some (rangeD m (n - m).toNat) else none
  | _ => none
theorem ip_enum {elts : List Expr} {kk : Nat} {tpos : Pos} (hg : ∀ j, Gl (c.X j) "enumerate") (hm : ∀ j, (c.X j).mg "enumerate" = none) (ha : Av c [e] fs) (hs : ∀ j, starEach [e] (c.X j).env = [(false, eval e (c.X j).env)] := by intro _; rfl) :
    Ip c (.Tuple elts kk tpos) (.Call (.Name "enumerate" p) [e] [] pos) (jL1 (enumD 0) fs) := by
  obtain ⟨t, q, s⟩ := ha
  refine ⟨iEnum c.W.K t, fun j => by have h := pi_enum (p := p) (pos := pos) (tpos := tpos) (elts := elts) (kk := kk) (hg j) (hm j) (q j) (hs j); rw [c.hK j] at h; exact h, ?_⟩
  intro b F ρ σ X H r R S e k
  unfold jL1 at e
  obtain ⟨ts, e1, e⟩ := Option.bind_eq_some_iff.mp e
  refine s b F ρ σ X H ts _ S e1 fun vs F1 H1 S1 i1 s1 r1 => ?_
  match ts, e with
  | [.f (.lst ds)], e =>
    cases e
    obtain ⟨x, rfl, r2⟩ := rv1 r1
    obtain ⟨a, us, ex, hs, q⟩ := r2.rep
    subst ex
    exact ⟨a, us, rfl, SqL.le S1.le hs, k _ F1 H1 S1 i1 s1 (wk_enum hs q)⟩
theorem ip_rev (hg : ∀ j, Gl (c.X j) "reversed") (hm : ∀ j, (c.X j).mg "reversed" = none) (ha : Av c [e] fs) (hs : ∀ j, starEach [e] (c.X j).env = [(false, eval e (c.X j).env)] := by intro _; rfl) :
    Ip c tg (.Call (.Name "reversed" p) [e] [] pos) (jL1 List.reverse fs) := by
  obtain ⟨t, q, s⟩ := ha
  refine ⟨iRev c.W.K t, fun j => by have h := pi_reversed (tg := tg) (p := p) (pos := pos) (hg j) (hm j) (q j) (hs j); rw [c.hK j] at h; exact h, ?_⟩
  intro b F ρ σ X H r R S e k
  unfold jL1 at e
  obtain ⟨ts, e1, e⟩ := Option.bind_eq_some_iff.mp e
  refine s b F ρ σ X H ts _ S e1 fun vs F1 H1 S1 i1 s1 r1 => ?_
  match ts, e with
  | [.f (.lst ds)], e =>
    cases e
    obtain ⟨x, rfl, r2⟩ := rv1 r1
    obtain ⟨a, us, ex, hs, q⟩ := r2.rep
    subst ex
    exact ⟨a, us, rfl, SqL.le S1.le hs, k _ F1 H1 S1 i1 s1 (wk_rev hs q)⟩
theorem ip_zip {elts : List Expr} {kk : Nat} {tpos : Pos} (hg : ∀ j, Gl (c.X j) "zip") (hm : ∀ j, (c.X j).mg "zip" = none) (ha : Av c [e, e2] fs) (hs : ∀ j, starEach [e, e2] (c.X j).env = (false, eval e (c.X j).env) :: starEach [e2] (c.X j).env := by intro _; rfl) (hpl : ∀ j, (backTo pos (starEach [e2] (c.X j).env)).any (·.1) = false := by intro _; rfl) :
    Ip c (.Tuple elts kk tpos) (.Call (.Name "zip" p) [e, e2] [] pos) (jL2 zipD fs) := by
  obtain ⟨t, q, s⟩ := ha
  refine ⟨iZip c.W.K t, fun j => by have h := pi_zip (p := p) (pos := pos) (tpos := tpos) (elts := elts) (kk := kk) (hg j) (hm j) (q j) (hs j) (hpl j); rw [c.hK j] at h; exact h, ?_⟩
  intro b F ρ σ X H r R S e k
  unfold jL2 at e
  obtain ⟨ts, e1, e⟩ := Option.bind_eq_some_iff.mp e
  refine s b F ρ σ X H ts _ S e1 fun vs F1 H1 S1 i1 s1 r1 => ?_
  match ts, e with
  | [.f (.lst ds), .f (.lst es)], e =>
    cases e
    obtain ⟨x, y, rfl, r2, r3⟩ := rv2 r1
    obtain ⟨a, us, ex, hs, q⟩ := r2.rep
    obtain ⟨a2, us2, ex2, hs2, q2⟩ := r3.rep
    subst ex ex2
    exact ⟨a, a2, us, us2, rfl, SqL.le S1.le hs, SqL.le S1.le hs2, k _ F1 H1 S1 i1 s1 (wk_zip hs q hs2 q2)⟩
theorem ip_range1 (hg : ∀ j, Gl (c.X j) "range") (hm : ∀ j, (c.X j).mg "range" = none) (ha : Av c [e] fs) (hs : ∀ j, starEach [e] (c.X j).env = [(false, eval e (c.X j).env)] := by intro _; rfl) : Ip c tg (.Call (.Name "range" p) [e] [] pos) (jR1 fs) := by
  obtain ⟨t, q, s⟩ := ha
  refine ⟨_, fun j => pi_range1 (hg j) (hm j) (q j) (hs j), ?_⟩
  intro b F ρ σ X H r R S e k
  unfold jR1 at e
  obtain ⟨ts, e1, e⟩ := Option.bind_eq_some_iff.mp e
  refine s b F ρ σ X H ts _ S e1 fun vs F1 H1 S1 i1 s1 r1 => ?_
  match ts, e with
  | [.f (.int n)], e =>
    simp only at e
    split at e
    · rename_i hn
      cases e
      obtain ⟨x, rfl, r2⟩ := rv1 r1
      exact ⟨n, by rw [show x = V.int n from r2.rep], hn.1, hn.2, k _ F1 H1 S1 i1 s1 wk_range⟩
    · cases e
theorem ip_range2 (hg : ∀ j, Gl (c.X j) "range") (hm : ∀ j, (c.X j).mg "range" = none) (ha : Av c [e, e2] fs) (hs : ∀ j, starEach [e, e2] (c.X j).env = [(false, eval e (c.X j).env), (false, eval e2 (c.X j).env)] := by intro _; rfl) (hs2 : ∀ j, starEach [e2] (c.X j).env = [(false, eval e2 (c.X j).env)] := by intro _; rfl) : Ip c tg (.Call (.Name "range" p) [e, e2] [] pos) (jR2 fs) := by
  obtain ⟨t, q, s⟩ := ha
  refine ⟨_, fun j => pi_range2 (hg j) (hm j) (q j) (hs j) (hs2 j), ?_⟩
  intro b F ρ σ X H r R S e k
  unfold jR2 at e
  obtain ⟨ts, e1, e⟩ := Option.bind_eq_some_iff.mp e
  refine s b F ρ σ X H ts _ S e1 fun vs F1 H1 S1 i1 s1 r1 => ?_
  match ts, e with
  | [.f (.int m), .f (.int n)], e =>
    simp only at e
    split at e
    · rename_i hn
      cases e
      obtain ⟨x, y, rfl, r2, r3⟩ := rv2 r1
      exact ⟨m, n, by rw [show x = V.int m from r2.rep, show y = V.int n from r3.rep], hn, k _ F1 H1 S1 i1 s1 wk_range⟩
    · cases e
end
/-! targets -/
section
variable {c : Ctx} {e : Expr} {es : List Expr} {pos : Pos} {f : T → List T → Option (List T)} {fs : List T → List T → Option (List T)} {vs : List Nat}
theorem gc_n (i : Nat) {x : Str} (hm : vs.contains i = true := by rfl) (hi : c.N[i]? = some x := by rfl) (hx : ∀ j, L2.Loc (c.X j).env.scope x := by intro _; first | exact Or.inl rfl | exact Or.inr rfl) (hf : ∀ j, (c.X j).fn x = true ∨ (c.X j).env.scope.names.lookup x = some .local := by intro _; first | exact Or.inl rfl | exact Or.inr rfl) : Gc c (.Name x pos) (gSet i) vs := by
  have hmem : i ∈ vs := List.contains_iff_mem.mp hm
  refine ⟨_, fun j => pg_name (i := i) (c.hNd j) (by rw [c.hN j]; exact hi) (hx j) (hf j), ?_, fun t ρ ρ' h => by cases h; exact wipeR_set hmem⟩
  intro b F ρ ρ' σ X H t v Q S hio e k
  cases e
  exact k _ F H (S.store (.inl rfl) (.inl (by rw [hio]; exact fun p hp => by cases hp))) (Inc.refl F) (Same.refl H) (wipe_set hmem)
theorem gcs_nil : Gcs c [] gsNil vs := by
  refine ⟨_, fun _ => pgs_nil, ?_, fun ts ρ ρ' h => by cases ts <;> cases h; rfl⟩
  intro b F ρ ρ' σ X H ts us Q hl S hio e k
  cases ts with
  | nil =>
    cases us with
    | nil => cases e; exact ⟨rfl, k _ F H S (Inc.refl F) (Same.refl H) rfl⟩
    | cons _ _ => cases hl
  | cons _ _ => cases e
theorem gcs_cons (h : Gc c e f vs) (k : Gcs c es fs vs) (hs : ∀ j, (assignEach (e :: es) (c.X j).env).map (·.2) = assign e (c.X j).env :: (assignEach es (c.X j).env).map (·.2) := by intro _; rfl) : Gcs c (e :: es) (gsCons f fs) vs := by
  obtain ⟨g, p, q, w⟩ := h
  obtain ⟨g', p', q', w'⟩ := k
  refine ⟨_, fun j => pgs_cons (p j) (p' j) (hs j), ?_, fun ts ρ ρ' h => ?_⟩
  · intro b F ρ ρ' σ X H ts us Q hl S hio e k
    cases ts with
    | nil => cases e
    | cons t ts =>
      cases us with
      | nil => cases hl
      | cons v us =>
        obtain ⟨ρ1, e1, e⟩ := Option.bind_eq_some_iff.mp (show (f t ρ).bind _ = _ from e)
        refine ⟨v, us, rfl, q b F ρ ρ1 σ (Xn ts us ++ X) H t v _ S hio e1 fun σ' F' H' S' i s hw => ?_⟩
        exact q' b F' ρ1 ρ' σ' X H' ts us Q (by simpa using hl) S' hio e fun σ2 F2 H2 S2 i2 s2 hw2 => k σ2 F2 H2 S2 (i.trans i2) (s.trans s2) (hw2.trans hw)
  · cases ts with
    | nil => cases h
    | cons t ts =>
      obtain ⟨ρ1, e1, e⟩ := Option.bind_eq_some_iff.mp (show (f t ρ).bind _ = _ from h)
      rw [w' _ _ _ e, w _ _ _ e1]
theorem gc_tup {n m : Nat} (h : Gcs c es fs vs) (hn : ∀ j, (assignEach es (c.X j).env).length = n := by intro _; rfl) (hst : ∀ j, (assignEach es (c.X j).env).findIdx? (·.1) = none := by intro _; rfl) : Gc c (.Tuple es m pos) (gTupT n fs) vs := by
  obtain ⟨g, p, q, w⟩ := h
  refine ⟨L2.gTup c.W.K n g, fun j => ?_, ?_, fun t ρ ρ' h => ?_⟩
  · have := pg_tup (pos := pos) (k := m) (c.calm j) (p j) (hn j) (hst j)
    rw [c.hK j] at this
    exact this
  · intro b F ρ ρ' σ X H t v Q S hio e k
    unfold gTupT at e
    cases t with
    | f d => cases d with
      | tup ds =>
        simp only at e
        split at e
        · rename_i hl
          obtain ⟨p, us, ex, hs, r⟩ := S.top
          refine ⟨p, us, ex, SqT.le S.le hs, by rw [← r.len]; exact hl, ?_⟩
          exact q b F ρ ρ' σ X H (ds.map .f) us Q (by rw [List.length_map]; exact r.len) (S.drop.pushes r) hio e k
        · cases e
      | _ => cases e
    | _ => cases e
  · unfold gTupT at h
    cases t with
    | f d => cases d with
      | tup ds =>
        simp only at h
        split at h
        · exact w _ _ _ h
        · cases h
      | _ => cases h
    | _ => cases h
end
/-! the whole -/
section
variable {c : Ctx} {elt tg iter : Expr} {ifs : List Expr} {scope : Scope} {pos spos : Pos} {fi : List T → Option (List D)} {fg : T → List T → Option (List T)} {ft : List T → Option Bool} {fe : List T → Option T}
theorem ev_lc (own : List (Str × Nat)) (hi : Ip c tg iter fi) (hg : Gc (cB c scope) tg fg (own.map (·.2))) (ht : Tvs (cB c scope) ifs ft) (he : Ev (cB c scope) elt fe) (ok : ∀ j, blkC c.N (c.X j).env.scope scope own = true := by intro _; rfl)
    (hs : ∀ j x, foldedSetIterable iter (c.X j).env x = pure x := by intro _ _; rfl) : Ev c (.ListComp elt [⟨tg, iter, ifs, 0⟩] scope pos) (fLc (own.map (·.2)) fi fg ft fe) := by
  obtain ⟨wi, pi, si⟩ := hi
  obtain ⟨g, pg, sg, wg⟩ := hg
  obtain ⟨tt, pt, st⟩ := ht
  obtain ⟨te, pe, se⟩ := he
  exact ⟨tLc wi g tt te (own.map (·.2)), fun j => pe_lc (c.calm j) (c.hNd j) (pi j) (blkOk_by (by rw [c.hN j]; exact ok j)) (fun s H C cl fp => pg (j, s, H, C, cl, fp)) (fun s H C cl fp => pt (j, s, H, C, cl, fp)) (fun s H C cl fp => pe (j, s, H, C, cl, fp)) (hs j), sv_lc si sg wg st se⟩
theorem sm_setLc (i : Nat) {y : Str} {py : Pos} (own : List (Str × Nat)) (hi : Ip c tg iter fi) (hg : Gc (cB c scope) tg fg (own.map (·.2))) (ht : Tvs (cB c scope) ifs ft) (he : Ev (cB c scope) elt fe) (ok : ∀ j, blkC c.N (c.X j).env.scope scope own = true := by intro _; rfl)
    (hy : c.N[i]? = some y := by rfl) (hyl : ∀ j, (c.X j).env.scope.names.lookup y = some .local := by intro _; rfl) (hio : c.P.io.contains i = false := by rfl)
    (hsw : ∀ j, swapsWith (.ListComp elt [⟨tg, iter, ifs, 0⟩] scope pos) (some (.Name y py)) spos.line (c.X j).env = pure true := by intro _; rfl)
    (hs : ∀ j x, foldedSetIterable iter (c.X j).env x = pure x := by intro _ _; rfl) : Sm c (.Assign [.Name y py] (.ListComp elt [⟨tg, iter, ifs, 0⟩] scope pos) spos) (sSet i (lift (fLc (own.map (·.2)) fi fg ft fe))) := by
  obtain ⟨wi, pi, si⟩ := hi
  obtain ⟨g, pg, sg, wg⟩ := hg
  obtain ⟨tt, pt, st⟩ := ht
  obtain ⟨te, pe, se⟩ := he
  refine ⟨tAsg (tLc wi g tt te (own.map (·.2))) (gName i), fun j => ps_setLc (c.calm j) (c.hNd j) (by rw [c.hN j]; exact hy) (hyl j) (hsw j) (pi j) (blkOk_by (by rw [c.hN j]; exact ok j)) (fun s H C cl fp => pg (j, s, H, C, cl, fp)) (fun s H C cl fp => pt (j, s, H, C, cl, fp)) (fun s H C cl fp => pe (j, s, H, C, cl, fp)) (hs j), ?_⟩
  intro b F ρ σ X H o D hb S eq k
  unfold sSet lift at eq
  obtain ⟨r, e1, eq⟩ := Option.map_eq_some_iff.mp eq
  obtain ⟨t, e2, e3⟩ := Option.bind_eq_some_iff.mp e1
  obtain ⟨d, e4, e5⟩ := Option.map_eq_some_iff.mp e3
  subst e5 eq
  cases d_some e4
  refine sv_lc si sg wg st se b F ρ σ X H _ _ S e2 fun v F1 H1 S1 i1 s1 r1 => ?_
  exact k _ F1 H1 ((S1.push (o := none) r1.rep).store (.inl rfl) (.inl (notio hb (notin_of hio)))) i1
end
/-! ### a local becomes deep data between two statements -/
def fzS (i : Nat) (ρ : List T) : Option (List T) := match ρ[i]? with
  | some .un => some ρ
  | some t => t.fz.map fun d => ρ.set i (.f d)
  | none => none
def sFz (i : Nat) (f : FS) : FS := fun ρ => (fzS i ρ).bind f
theorem sms_fz (i : Nat) {c : Ctx} {ss : List Stmt} {f : FS} (h : Sms c ss f) (hm : Nat.ble c.P.m i = true := by rfl) (hio : c.P.io.contains i = false := by rfl) : Sms c ss (sFz i f) := by
  obtain ⟨t, p, q⟩ := h
  refine ⟨t, p, ?_⟩
  intro b F ρ σ X H o D hb S e k
  unfold sFz at e
  obtain ⟨ρ1, e1, e⟩ := Option.bind_eq_some_iff.mp e
  unfold fzS at e1
  cases q1 : ρ[i]? with
  | none => rw [q1] at e1; cases e1
  | some t1 =>
    by_cases hu : t1 = .un
    · subst hu
      rw [q1] at e1
      cases e1
      exact q b F ρ σ X H o D hb S e k
    · obtain ⟨d, e2, e3⟩ : ∃ d, t1.fz = some d ∧ ρ.set i (.f d) = ρ1 := by
        rw [q1] at e1
        cases t1 with
        | un => exact absurd rfl hu
        | _ => exact Option.map_eq_some_iff.mp e1
      subst e3
      obtain ⟨s, fp, e4, r⟩ := S.slot q1
      cases s with
      | none => exact absurd r.1 hu
      | some v =>
        have S' := S.take q1 e4
        -- it is new
        have S2 : SR c.W b F (ρ.set i .un) σ (⟨none, t1, v⟩ :: X) H := by
          obtain ⟨le, f0, fn, kept, stab, pin, fps, xps, s1, s2, ow, lc1, lc2⟩ := S'
          refine ⟨le, f0, fn, kept, stab, pin, fps, xps, s1, s2, ow, lc1, ?_⟩
          cases xps with
          | nil => exact trivial
          | cons f fs =>
            refine ⟨fun a ha => ?_, lc2.2⟩
            rcases lc2.1 a ha with z | ⟨j, ej, z⟩
            · exact .inl z
            · cases ej
              rcases z with z | ⟨g, eg, _⟩
              · exact .inl z
              · have := (List.getElem?_eq_some_iff.mp eg).1
                rw [hb.1] at this
                have := Nat.le_of_ble_eq_true hm
                omega
        obtain ⟨F3, S3, i3⟩ := S2.frz rfl e2
        have S4 := S3.store (i := i) (.inl rfl) (.inl (notio hb (notin_of hio)))
        have eσ : σ.set i (some v) = σ := by
          apply List.ext_getElem?
          intro j
          by_cases h : j = i
          · subst h
            have := (List.getElem?_eq_some_iff.mp e4).1
            rw [List.getElem?_set_self (by omega), e4]
          · rw [List.getElem?_set_ne (fun e => h e.symm)]
        rw [eσ, List.set_set] at S4
        exact q b F3 _ σ X H o D hb S4 e (k.mono i3)
section
variable {c : Ctx} {a : Expr} {fa : List T → Option T} {pos : Pos} {ss : List Stmt} {e : Expr} {f : List T → Option T} {fb : List T → Option Bool}
theorem sv_isN {W : Wd} {ta : TE} (sa : Sv W ta fa) : Sv W (tIsN ta) (fIsN false fa) := by
  intro b F ρ σ X H τ Q S e k
  obtain ⟨t, e1, e⟩ := Option.bind_eq_some_iff.mp e
  refine sa b F ρ σ X H t _ S e1 fun v F1 H1 S1 i1 s1 r1 => ?_
  have := isN_out r1 e
  subst this
  rw [Bool.false_xor] at k
  exact (k.mono i1 s1).d S1 rfl
theorem sv_notN {W : Wd} {ta : TE} (sa : Sv W ta fa) : Sv W (tNotN ta) (fIsN true fa) := by
  intro b F ρ σ X H τ Q S e k
  obtain ⟨t, e1, e⟩ := Option.bind_eq_some_iff.mp e
  refine sa b F ρ σ X H t _ S e1 fun v F1 H1 S1 i1 s1 r1 => ?_
  have := isN_out r1 e
  subst this
  rw [Bool.true_xor] at k
  exact (k.mono i1 s1).d S1 rfl
theorem tv_isN {m : Nat} {p2 : Pos} (ha : Ev c a fa) : Tv c (.Compare a [.Is] [.Constant .none m p2] pos) (fT (fIsN false fa)) := by
  obtain ⟨ta, pa, sa⟩ := ha
  exact ⟨_, fun j => pt_cmp (pc_isN (pa j)) rfl, stv_test (sv_isN sa)⟩
theorem tv_notN {m : Nat} {p2 : Pos} (ha : Ev c a fa) : Tv c (.Compare a [.IsNot] [.Constant .none m p2] pos) (fT (fIsN true fa)) := by
  obtain ⟨ta, pa, sa⟩ := ha
  exact ⟨_, fun j => pt_cmp (pc_notN (pa j)) rfl, stv_test (sv_notN sa)⟩
theorem evo (h : Ev c e f) : Eo c e (lift f) := h.o
theorem tvo (h : Tv c e fb) : To c e (liftB fb) := h.o
theorem wvt (h : Wv c e fb) : Tv c e fb := h.tv
end
end Z

namespace Z
open PySem L2
/-! ### what pure defs give -/
def val (r : Option Re) : Option D := match r with
  | some (.ok (.f d) _) => some d
  | _ => none
theorem val_some {d : D} {us : List T} : val (some (.ok (.f d) us)) = some d := rfl
theorem val_ex {r : Option Re} {d : D} (h : val r = some d) : ∃ us, r = some (.ok (.f d) us) := by
  unfold val at h
  split at h
  · cases h; exact ⟨_, rfl⟩
  · cases h
theorem fCallV_eq (G : List T → Option Re) (fs : List T → Option (List T)) (ρ : List T) : fCallV G fs ρ = (fs ρ).bind fun ts => (T.fzs ts).bind fun ds => (val (G (ds.map .f))).bind fun d => if (ts.all isF || d.atom) = true then some (.f d) else none := by
  unfold fCallV
  congr 1
  funext ts
  congr 1
  funext ds
  cases h : G (ds.map .f) with
  | none => rfl
  | some r =>
    cases r with
    | xc C us => rfl
    | ok t us => cases t <;> rfl
def oval (o : Option Out) (m : Nat) : Option D := match o with
  | some (.rt (.f d) ρ) => if m ≤ ρ.length then some d else none
  | some (.nx ρ) => if m ≤ ρ.length then some .non else none
  | _ => none
theorem val_run {m n : Nat} {io : List Nat} {fb : FS} {ts : List T} (h : ts.length = m) : val (runF m n io fb ts) = oval (fb (ts ++ List.replicate (n - m) .un)) m := by
  unfold runF
  rw [if_pos h]
  cases e : fb (ts ++ List.replicate (n - m) .un) with
  | none => rfl
  | some o =>
    cases o with
    | nx ρ =>
      show val (if _ then _ else _) = if _ then _ else _
      split <;> rfl
    | rt t ρ =>
      cases t with
      | f d =>
        show val (if _ then _ else _) = if _ then _ else _
        split <;> rfl
      | _ =>
        show val (if _ then _ else _) = none
        split <;> rfl
    | bk ρ => rfl
    | ct ρ => rfl
    | xc C ρ =>
      show val (if _ then _ else _) = none
      split <;> rfl
/-! ### on ints, texts -/
section
variable {i j : Int} {x y : Str} {a b : Bool} {ds es : List D}
@[simp] theorem gAdd_i : gAdd (.f (.int i)) (.f (.int j)) = some (.f (.int (i + j))) := rfl
@[simp] theorem gSub_i : gSub (.f (.int i)) (.f (.int j)) = some (.f (.int (i - j))) := rfl
@[simp] theorem gBAnd_i : gBAnd (.f (.int i)) (.f (.int j)) = some (.f (.int (Builtin.bitAnd i j))) := rfl
@[simp] theorem gBOr_i : gBOr (.f (.int i)) (.f (.int j)) = some (.f (.int (Builtin.bitOr i j))) := rfl
@[simp] theorem gBXor_i : gBXor (.f (.int i)) (.f (.int j)) = some (.f (.int (Builtin.bitXor i j))) := rfl
@[simp] theorem gLt_i : gLt (.f (.int i)) (.f (.int j)) = some (.f (.bl (decide (i < j)))) := rfl
@[simp] theorem gLe_i : gLe (.f (.int i)) (.f (.int j)) = some (.f (.bl (decide (i ≤ j)))) := rfl
@[simp] theorem gGt_i : gGt (.f (.int i)) (.f (.int j)) = some (.f (.bl (decide (j < i)))) := rfl
@[simp] theorem gGe_i : gGe (.f (.int i)) (.f (.int j)) = some (.f (.bl (decide (j ≤ i)))) := rfl
theorem vdec_int : decide (V.int i = V.int j) = decide (i = j) := by
  by_cases h : i = j
  · subst h; simp
  · have : ¬ V.int i = V.int j := fun e => h (V.int.inj e)
    rw [decide_eq_false this, decide_eq_false h]
theorem vdec_str : decide (V.str x = V.str y) = decide (x = y) := by
  by_cases h : x = y
  · subst h; simp
  · have : ¬ V.str x = V.str y := fun e => h (V.str.inj e)
    rw [decide_eq_false this, decide_eq_false h]
theorem vdec_bl : decide (V.bl a = V.bl b) = decide (a = b) := by
  by_cases h : a = b
  · subst h; simp
  · have : ¬ V.bl a = V.bl b := fun e => h (V.bl.inj e)
    rw [decide_eq_false this, decide_eq_false h]
@[simp] theorem gEq_i : gEq (.f (.int i)) (.f (.int j)) = some (.f (.bl (decide (i = j)))) := by
  show some (T.f (.bl (xor false (decide (V.int i = V.int j))))) = _
  rw [Bool.false_xor, vdec_int]
@[simp] theorem gEq_s : gEq (.f (.str x)) (.f (.str y)) = some (.f (.bl (decide (x = y)))) := by
  show some (T.f (.bl (xor false (decide (V.str x = V.str y))))) = _
  rw [Bool.false_xor, vdec_str]
@[simp] theorem gEq_b : gEq (.f (.bl a)) (.f (.bl b)) = some (.f (.bl (decide (a = b)))) := by
  show some (T.f (.bl (xor false (decide (V.bl a = V.bl b))))) = _
  rw [Bool.false_xor, vdec_bl]
@[simp] theorem gEq_is : gEq (.f (.int i)) (.f (.str y)) = some (.f (.bl false)) := rfl
@[simp] theorem gEq_si : gEq (.f (.str x)) (.f (.int j)) = some (.f (.bl false)) := rfl
@[simp] theorem gNe_i : gNe (.f (.int i)) (.f (.int j)) = some (.f (.bl (!decide (i = j)))) := by
  show some (T.f (.bl (xor true (decide (V.int i = V.int j))))) = _
  rw [Bool.true_xor, vdec_int]
@[simp] theorem gNe_s : gNe (.f (.str x)) (.f (.str y)) = some (.f (.bl (!decide (x = y)))) := by
  show some (T.f (.bl (xor true (decide (V.str x = V.str y))))) = _
  rw [Bool.true_xor, vdec_str]
@[simp] theorem gNe_b : gNe (.f (.bl a)) (.f (.bl b)) = some (.f (.bl (!decide (a = b)))) := by
  show some (T.f (.bl (xor true (decide (V.bl a = V.bl b))))) = _
  rw [Bool.true_xor, vdec_bl]
@[simp] theorem gNe_is : gNe (.f (.int i)) (.f (.str y)) = some (.f (.bl true)) := rfl
@[simp] theorem gNe_si : gNe (.f (.str x)) (.f (.int j)) = some (.f (.bl true)) := rfl
@[simp] theorem gNeg_i : gNeg (.f (.int i)) = some (.f (.int (-i))) := rfl
theorem gI_ok {C : Int → Int → Bool} {g : Int → Int → D} (h : C i j = true) : gI C g (.f (.int i)) (.f (.int j)) = some (.f (g i j)) := by
  show (if C i j = true then _ else none) = _
  rw [if_pos h]
theorem gMod_ok (h : 0 < j) : gMod (.f (.int i)) (.f (.int j)) = some (.f (.int (i % j))) := gI_ok (decide_eq_true h)
theorem log2_small {n : Nat} {k : Nat} (h : n < 2 ^ (k + 1)) : n.log2 < k + 1 := by
  by_cases h0 : n = 0
  · subst h0; simp [Nat.log2_zero]
  · exact (Nat.log2_lt h0).mpr h
theorem gDiv_ok (h : 0 < j) (h2 : j.natAbs < 2 ^ 8999) : gDiv (.f (.int i)) (.f (.int j)) = some (.f (.int (i / j))) := gI_ok (by
  unfold divC
  rw [Bool.and_eq_true]
  exact ⟨decide_eq_true h, decide_eq_true (Nat.lt_succ_of_lt (log2_small h2))⟩)
theorem gMul_ok (h : i.natAbs.log2 + j.natAbs.log2 < 130000000) : gMul (.f (.int i)) (.f (.int j)) = some (.f (.int (i * j))) := gI_ok (decide_eq_true h)
theorem gMul_small (h : i.natAbs < 2 ^ 1000) (h2 : j.natAbs < 2 ^ 1000) : gMul (.f (.int i)) (.f (.int j)) = some (.f (.int (i * j))) := gMul_ok (by
  have a := log2_small (k := 999) h
  have b := log2_small (k := 999) h2
  omega)
theorem gShl_ok (h : 0 ≤ j) (h1 : j ≤ 1000000) (h2 : i.natAbs < 2 ^ 64) : gShl (.f (.int i)) (.f (.int j)) = some (.f (.int (i * 2 ^ j.toNat))) := gI_ok (by
  unfold powC
  rw [Bool.and_eq_true, Bool.and_eq_true]
  exact ⟨⟨decide_eq_true h, decide_eq_true h1⟩, decide_eq_true h2⟩)
theorem gPow_ok (h : 0 ≤ j) (h1 : j ≤ 1000000) (h2 : i.natAbs < 2 ^ 64) : gPow (.f (.int i)) (.f (.int j)) = some (.f (.int (i ^ j.toNat))) := gI_ok (by
  unfold powC
  rw [Bool.and_eq_true, Bool.and_eq_true]
  exact ⟨⟨decide_eq_true h, decide_eq_true h1⟩, decide_eq_true h2⟩)
theorem gShr_ok (h : 0 ≤ j) : gShr (.f (.int i)) (.f (.int j)) = some (.f (.int (i / 2 ^ j.toNat))) := gI_ok (decide_eq_true h)
@[simp] theorem gInt1_i : gInt1 [.f (.int i)] = some (.f (.int i)) := rfl
@[simp] theorem gInt1_b : gInt1 [.f (.bl a)] = some (.f (.int (if a = true then 1 else 0))) := rfl
@[simp] theorem gMax2_i : gMax2 [.f (.int i), .f (.int j)] = some (.f (.int (if j > i then j else i))) := rfl
@[simp] theorem gMin2_i : gMin2 [.f (.int i), .f (.int j)] = some (.f (.int (if j < i then j else i))) := rfl
@[simp] theorem gLen_l : gLen [.f (.lst ds)] = some (.f (.int ds.length)) := rfl
@[simp] theorem gLen_t : gLen [.f (.tup ds)] = some (.f (.int ds.length)) := rfl
@[simp] theorem gLen_o : gLen [.l ds] = some (.f (.int ds.length)) := rfl
theorem gIx_l (h : atI ds i = some d) : gIx (.f (.lst ds)) (.f (.int i)) = some (.f d) := by
  show ((((atI ds i).map T.f).orElse fun _ => none).orElse fun _ => _) = _
  rw [h]
  rfl
theorem gIx_t (h : atI ds i = some d) : gIx (.f (.tup ds)) (.f (.int i)) = some (.f d) := by
  show ((((atI ds i).map T.f).orElse fun _ => none).orElse fun _ => _) = _
  rw [h]
  rfl
theorem gIx_o (h : atI ds i = some d) : gIx (.l ds) (.f (.int i)) = some (.f d) := by
  show ((((atI ds i).map T.f).orElse fun _ => none).orElse fun _ => _) = _
  rw [h]
  rfl
end
end Z

namespace Z
open PySem L2
/-! ### walking: forms without binders, so that simp only goes on only with what is reached -/
section
variable {ρ ρ1 : List T} {d e : D} {ds es : List D} {t x y : T} {i n m : Nat} {b : Bool} {f g : FS} {fa fb fc : List T → Option T}
def nn (r : Option T) : Option T := match r with
  | some .un => none
  | r => r
theorem wz_var : fVar i ρ = nn ρ[i]? := by unfold fVar nn; rfl
theorem nn_f : nn (some (.f d)) = some (.f d) := rfl
theorem nn_l : nn (some (.l ds)) = some (.l ds) := rfl
theorem nn_dk {ks} : nn (some (.dk ks ds)) = some (.dk ks ds) := rfl
theorem nn_ll {ts} : nn (some (.ll ts)) = some (.ll ts) := rfl
theorem nn_tu {ts} : nn (some (.tu ts)) = some (.tu ts) := rfl
theorem nn_o {C ns ts} : nn (some (.o C ns ts)) = some (.o C ns ts) := rfl
def mvK (i : Nat) (ρ : List T) (r : Option T) : Option Re := match r with
  | some .un => none
  | some t => some (.ok t (ρ.set i .un))
  | none => none
theorem wz_mv : fMv i ρ = mvK i ρ ρ[i]? := by unfold fMv mvK; rfl
theorem mvK_f : mvK i ρ (some (.f d)) = some (.ok (.f d) (ρ.set i .un)) := rfl
theorem mvK_l : mvK i ρ (some (.l ds)) = some (.ok (.l ds) (ρ.set i .un)) := rfl
theorem mvK_dk {ks} : mvK i ρ (some (.dk ks ds)) = some (.ok (.dk ks ds) (ρ.set i .un)) := rfl
theorem mvK_ll {ts} : mvK i ρ (some (.ll ts)) = some (.ok (.ll ts) (ρ.set i .un)) := rfl
theorem mvK_tu {ts} : mvK i ρ (some (.tu ts)) = some (.ok (.tu ts) (ρ.set i .un)) := rfl
theorem mvK_o {C ns ts} : mvK i ρ (some (.o C ns ts)) = some (.ok (.o C ns ts) (ρ.set i .un)) := rfl
def k1 (g : T → Option T) (o : Option T) : Option T := o.bind g
theorem wz_f1 {g} : f1 g fa ρ = k1 g (fa ρ) := rfl
theorem k1_s {g} : k1 g (some x) = g x := rfl
def k2 (g : T → T → Option T) (o p : Option T) : Option T := o.bind fun x => p.bind fun y => g x y
theorem wz_f2 {g} : f2 g fa fb ρ = k2 g (fa ρ) (fb ρ) := rfl
theorem k2_s {g} : k2 g (some x) (some y) = g x y := rfl
def kN (g : List T → Option T) (o : Option (List T)) : Option T := o.bind g
theorem wz_fN {g fs} : fN g fs ρ = kN g (fs ρ) := rfl
theorem kN_s {g ts} : kN g (some ts) = g ts := rfl
theorem wz_fC : fC d ρ = some (.f d) := rfl
theorem wz_aNil : aNil ρ = some [] := rfl
def kCons (o : Option T) (p : Option (List T)) : Option (List T) := o.bind fun x => p.map fun xs => x :: xs
theorem wz_aCons {fs} : aCons fa fs ρ = kCons (fa ρ) (fs ρ) := rfl
theorem kCons_s {ts} : kCons (some x) (some ts) = some (x :: ts) := rfl
def kT (o : Option T) : Option Bool := o.bind T.b?
theorem wz_fT : fT fa ρ = kT (fa ρ) := rfl
theorem kT_s : kT (some (.f (.bl b))) = some b := rfl
def kAnd (gb : List T → Option Bool) (ρ : List T) (o : Option Bool) : Option Bool := o.bind fun x => if x = true then gb ρ else some false
def kOr (gb : List T → Option Bool) (ρ : List T) (o : Option Bool) : Option Bool := o.bind fun x => if x = true then some true else gb ρ
def kNot (o : Option Bool) : Option Bool := o.map (!·)
theorem wz_tAnd {ga gb} : tAndF ga gb ρ = kAnd gb ρ (ga ρ) := rfl
theorem wz_tOr {ga gb} : tOrF ga gb ρ = kOr gb ρ (ga ρ) := rfl
theorem wz_tNot {ga} : tNotF ga ρ = kNot (ga ρ) := rfl
theorem kAnd_t {gb} : kAnd gb ρ (some true) = gb ρ := rfl
theorem kAnd_f {gb} : kAnd gb ρ (some false) = some false := rfl
theorem kOr_t {gb} : kOr gb ρ (some true) = some true := rfl
theorem kOr_f {gb} : kOr gb ρ (some false) = gb ρ := rfl
theorem kNot_s : kNot (some b) = some (!b) := rfl
def kIf (fa fb : List T → Option T) (ρ : List T) (o : Option Bool) : Option T := o.bind fun x => if x = true then fa ρ else fb ρ
theorem wz_fIf {g} : fIf g fa fb ρ = kIf fa fb ρ (g ρ) := rfl
theorem kIf_t : kIf fa fb ρ (some true) = fa ρ := rfl
theorem kIf_f : kIf fa fb ρ (some false) = fb ρ := rfl
theorem wz_fAnd : fAnd fa fb ρ = kIf fb (fC (.bl false)) ρ (kT (fa ρ)) := rfl
theorem wz_fOr : fOr fa fb ρ = kIf (fC (.bl true)) fb ρ (kT (fa ρ)) := rfl
def kBl (o : Option Bool) : Option T := o.map fun x => .f (.bl x)
theorem kBl_s : kBl (some b) = some (.f (.bl b)) := rfl
theorem wz_fNot : fNot fa ρ = kBl (kNot (kT (fa ρ))) := by
  show (fT fa ρ).map _ = _
  show (kT (fa ρ)).map _ = _
  cases kT (fa ρ) <;> rfl
def kLift (ρ : List T) (o : Option T) : Option Re := o.bind fun t => t.d?.map fun d => .ok (.f d) ρ
theorem wz_lift : lift fa ρ = kLift ρ (fa ρ) := rfl
theorem kLift_s : kLift ρ (some (.f d)) = some (.ok (.f d) ρ) := rfl
def kFz (r : Option Re) : Option Re := r.bind fun r => match r with
  | .ok t ρ' => t.fz.map fun d => .ok (.f d) ρ'
  | r => some r
theorem wz_fFz {fo} : fFz fo ρ = kFz (fo ρ) := by
  unfold fFz kFz
  cases fo ρ with
  | none => rfl
  | some r => cases r <;> rfl
theorem kFz_f : kFz (some (.ok (.f d) ρ)) = some (.ok (.f d) ρ) := rfl
theorem kFz_l : kFz (some (.ok (.l ds) ρ)) = some (.ok (.f (.lst ds)) ρ) := rfl
theorem kFz_dk {ks} : kFz (some (.ok (.dk ks ds) ρ)) = some (.ok (.f (.dct ks ds)) ρ) := rfl
theorem wz_sNil : sNil ρ = some (.nx ρ) := rfl
def kSeq (g : FS) (o : Option Out) : Option Out := o.bind fun o => match o with
  | .nx ρ1 => g ρ1
  | o => some o
theorem wz_sSeq : sSeq f g ρ = kSeq g (f ρ) := by
  unfold sSeq kSeq
  cases f ρ with
  | none => rfl
  | some r => cases r <;> rfl
theorem kSeq_nx : kSeq g (some (.nx ρ)) = g ρ := rfl
theorem kSeq_rt : kSeq g (some (.rt t ρ)) = some (.rt t ρ) := rfl
theorem kSeq_bk : kSeq g (some (.bk ρ)) = some (.bk ρ) := rfl
theorem kSeq_ct : kSeq g (some (.ct ρ)) = some (.ct ρ) := rfl
theorem kSeq_xc {C} : kSeq g (some (.xc C ρ)) = some (.xc C ρ) := rfl
def kSet (i : Nat) (o : Option Re) : Option Out := o.map fun r => match r with
  | .ok t ρ1 => .nx (ρ1.set i t)
  | .xc C ρ1 => .xc C ρ1
theorem wz_sSet {fo} : sSet i fo ρ = kSet i (fo ρ) := by
  unfold sSet kSet
  cases fo ρ with
  | none => rfl
  | some r => cases r <;> rfl
theorem kSet_s : kSet i (some (.ok t ρ)) = some (.nx (ρ.set i t)) := rfl
def kEx (o : Option Re) : Option Out := o.map fun r => match r with
  | .ok t ρ1 => .nx ρ1
  | .xc C ρ1 => .xc C ρ1
theorem wz_sExpr {fo} : sExpr fo ρ = kEx (fo ρ) := by
  unfold sExpr kEx
  cases fo ρ with
  | none => rfl
  | some r => cases r <;> rfl
theorem kEx_s : kEx (some (.ok t ρ)) = some (.nx ρ) := rfl
def kRet (o : Option Re) : Option Out := o.map fun r => match r with
  | .ok t ρ1 => .rt t ρ1
  | .xc C ρ1 => .xc C ρ1
theorem wz_sRet {fo} : sRet fo ρ = kRet (fo ρ) := by
  unfold sRet kRet
  cases fo ρ with
  | none => rfl
  | some r => cases r <;> rfl
theorem kRet_s : kRet (some (.ok t ρ)) = some (.rt t ρ) := rfl
theorem wz_sRetN : sRetN ρ = some (.rt (.f .non) ρ) := rfl
theorem wz_sBk : sBk ρ = some (.bk ρ) := rfl
theorem wz_sCt : sCt ρ = some (.ct ρ) := rfl
def kLiB (ρ : List T) (o : Option Bool) : Option Rb := o.map fun x => .ok x ρ
theorem wz_liftB {h} : liftB h ρ = kLiB ρ (h ρ) := rfl
theorem kLiB_s : kLiB ρ (some b) = some (.ok b ρ) := rfl
def kTst (r : Option Re) : Option Rb := r.bind fun r => match r with
  | .ok t ρ1 => t.b?.map fun x => .ok x ρ1
  | .xc C ρ1 => some (.xc C ρ1)
theorem wz_oTest {fo} : oTest fo ρ = kTst (fo ρ) := by
  unfold oTest kTst
  cases fo ρ with
  | none => rfl
  | some r => cases r <;> rfl
theorem kTst_s : kTst (some (.ok (.f (.bl b)) ρ)) = some (.ok b ρ) := rfl
def kONot (r : Option Rb) : Option Rb := r.map fun r => match r with
  | .ok x ρ1 => .ok (!x) ρ1
  | r => r
theorem wz_oNot {ga} : oNot ga ρ = kONot (ga ρ) := by
  unfold oNot kONot
  cases ga ρ with
  | none => rfl
  | some r => cases r <;> rfl
theorem kONot_s : kONot (some (.ok b ρ)) = some (.ok (!b) ρ) := rfl
def kIfS (f g : FS) (r : Option Rb) : Option Out := r.bind fun r => match r with
  | .ok x ρ1 => if x = true then f ρ1 else g ρ1
  | .xc C ρ1 => some (.xc C ρ1)
theorem wz_sIf {h} : sIf h f g ρ = kIfS f g (h ρ) := by
  unfold sIf kIfS
  cases h ρ with
  | none => rfl
  | some r => cases r <;> rfl
theorem kIfS_t : kIfS f g (some (.ok true ρ)) = f ρ := rfl
theorem kIfS_f : kIfS f g (some (.ok false ρ)) = g ρ := rfl
theorem kIfS_d {p : Prop} [Decidable p] : kIfS f g (some (.ok (decide p) ρ)) = if p then f ρ else g ρ := by
  by_cases h : p
  · rw [decide_eq_true h, if_pos h]; rfl
  · rw [decide_eq_false h, if_neg h]; rfl
/-! calls -/
def kV (o : Option D) : Option T := o.map .f
theorem kV_s : kV (some d) = some (.f d) := rfl
def kCall (G : List T → Option Re) (o : Option (List T)) : Option T := o.bind fun ts => (T.fzs ts).bind fun ds => (val (G (ds.map .f))).bind fun d => if (ts.all isF || d.atom) = true then some (.f d) else none
theorem wz_fCallV {G fs} : fCallV G fs ρ = kCall G (fs ρ) := fCallV_eq G fs ρ
theorem fzs_f : ∀ (ds : List D), T.fzs (ds.map .f) = some ds
  | [] => rfl
  | d :: ds => by
    show (T.fz (.f d)).bind (fun d => (T.fzs (ds.map .f)).map fun ds => d :: ds) = _
    rw [fzs_f ds]
    rfl
theorem all_f : ∀ (ds : List D), (ds.map T.f).all isF = true
  | [] => rfl
  | d :: ds => by
    show (isF (.f d) && (ds.map T.f).all isF) = true
    rw [all_f ds]
    rfl
theorem kCall_m {G} : kCall G (some (ds.map T.f)) = kV (val (G (ds.map T.f))) := by
  show (T.fzs (ds.map T.f)).bind _ = _
  rw [fzs_f]
  show (val (G (ds.map .f))).bind _ = _
  rw [all_f]
  cases val (G (ds.map .f)) <;> rfl
theorem kCall_0 {G} : kCall G (some []) = kV (val (G [])) := kCall_m (ds := [])
theorem kCall_1 {G d1} : kCall G (some [.f d1]) = kV (val (G [.f d1])) := kCall_m (ds := [d1])
theorem kCall_2 {G d1 d2} : kCall G (some [.f d1, .f d2]) = kV (val (G [.f d1, .f d2])) := kCall_m (ds := [d1, d2])
theorem kCall_3 {G d1 d2 d3} : kCall G (some [.f d1, .f d2, .f d3]) = kV (val (G [.f d1, .f d2, .f d3])) := kCall_m (ds := [d1, d2, d3])
theorem kCall_4 {G d1 d2 d3 d4} : kCall G (some [.f d1, .f d2, .f d3, .f d4]) = kV (val (G [.f d1, .f d2, .f d3, .f d4])) := kCall_m (ds := [d1, d2, d3, d4])
theorem kCall_5 {G d1 d2 d3 d4 d5} : kCall G (some [.f d1, .f d2, .f d3, .f d4, .f d5]) = kV (val (G [.f d1, .f d2, .f d3, .f d4, .f d5])) := kCall_m (ds := [d1, d2, d3, d4, d5])
theorem kCall_6 {G d1 d2 d3 d4 d5 d6} : kCall G (some [.f d1, .f d2, .f d3, .f d4, .f d5, .f d6]) = kV (val (G [.f d1, .f d2, .f d3, .f d4, .f d5, .f d6])) := kCall_m (ds := [d1, d2, d3, d4, d5, d6])
theorem kCall_7 {G d1 d2 d3 d4 d5 d6 d7} : kCall G (some [.f d1, .f d2, .f d3, .f d4, .f d5, .f d6, .f d7]) = kV (val (G [.f d1, .f d2, .f d3, .f d4, .f d5, .f d6, .f d7])) := kCall_m (ds := [d1, d2, d3, d4, d5, d6, d7])
/-- owned things lent to a def that answers with an atom -/
theorem kCall_g {G ts} (h : T.fzs ts = some ds) (hv : val (G (ds.map .f)) = some d) (ha : d.atom = true) : kCall G (some ts) = some (.f d) := by
  show (T.fzs ts).bind _ = _
  rw [h]
  show (val (G (ds.map .f))).bind _ = _
  rw [hv]
  show (if _ then _ else _) = _
  rw [if_pos (by rw [ha, Bool.or_true])]
/-! displays -/
def kDisp (o : Option (List (Key × D))) : Option T := o.bind fun kds => if kds.length ≤ 15 then some (.f (.dct (dmerge [] [] kds).1 (dmerge [] [] kds).2)) else none
theorem wz_fDispD {h} : fDispD h ρ = kDisp (h ρ) := rfl
theorem kDisp_s {kds : List (Key × D)} (h : kds.length ≤ 15) : kDisp (some kds) = some (.f (.dct (dmerge [] [] kds).1 (dmerge [] [] kds).2)) := if_pos h
theorem wz_pNil : pNil ρ = some [] := rfl
def kPair (ok ov : Option T) (o : Option (List (Key × D))) : Option (List (Key × D)) := ok.bind fun k => k.key?.bind fun k => ov.bind fun v => v.d?.bind fun d => o.map fun r => (k, d) :: r
theorem wz_pCons {h} : pCons fa fb h ρ = kPair (fa ρ) (fb ρ) (h ρ) := rfl
theorem kPair_s {x : Str} {r} : kPair (some (.f (.str x))) (some (.f d)) (some r) = some ((.inr x, d) :: r) := rfl
theorem kPair_i {x : Int} {r} : kPair (some (.f (.int x))) (some (.f d)) (some r) = some ((.inl x, d) :: r) := rfl
def kNl (ρ : List T) (o : Option (List D)) : Option Re := o.bind fun ds => if ds.length ≤ sizeLine then some (.ok (.l ds) ρ) else none
def kNl' (ρ : List T) (o : Option (List T)) : Option Re := o.bind fun ts => kNl ρ (deep ts)
theorem wz_fNewL {fs} : fNewL fs ρ = kNl' ρ (fs ρ) := rfl
theorem kNl'_s {ts} : kNl' ρ (some ts) = kNl ρ (deep ts) := rfl
theorem kNl_s (h : ds.length ≤ 16777216) : kNl ρ (some ds) = some (.ok (.l ds) ρ) := if_pos h
theorem wz_fNewD : fNewD ρ = some (.ok (.dk [] []) ρ) := rfl
/-! loops -/
def kFor (fg : T → List T → Option (List T)) (fb : FS) (r : Option Ri) : Option Out := r.bind fun r => match r with
  | .ok ds ρ1 => forF fg fb ds ρ1
  | .xc C ρ1 => some (.xc C ρ1)
theorem wz_sFor {fi fg fb} : sFor fi fg fb ρ = kFor fg fb (fi ρ) := by
  unfold sFor kFor
  cases fi ρ with
  | none => rfl
  | some r => cases r <;> rfl
theorem kFor_s {fg fb} : kFor fg fb (some (.ok ds ρ)) = forF fg fb ds ρ := rfl
theorem for_nil {fg fb} : forF fg fb [] ρ = some (.nx ρ) := rfl
def kBody (fg : T → List T → Option (List T)) (fb : FS) (ds : List D) (o : Option Out) : Option Out := o.bind fun o => match o with
  | .nx ρ2 => forF fg fb ds ρ2
  | .ct ρ2 => forF fg fb ds ρ2
  | .bk ρ2 => some (.nx ρ2)
  | o => some o
def kTgt (fg : T → List T → Option (List T)) (fb : FS) (ds : List D) (o : Option (List T)) : Option Out := o.bind fun ρ1 => kBody fg fb ds (fb ρ1)
theorem for_cons {fg fb} : forF fg fb (d :: ds) ρ = kTgt fg fb ds (fg (.f d) ρ) := by
  show (fg (.f d) ρ).bind _ = (fg (.f d) ρ).bind _
  cases fg (.f d) ρ with
  | none => rfl
  | some ρ1 =>
    show (fb ρ1).bind _ = (fb ρ1).bind _
    cases fb ρ1 with
    | none => rfl
    | some o => cases o <;> rfl
theorem kTgt_s {fg fb} : kTgt fg fb ds (some ρ) = kBody fg fb ds (fb ρ) := rfl
theorem kBody_nx {fg fb} : kBody fg fb ds (some (.nx ρ)) = forF fg fb ds ρ := rfl
theorem kBody_ct {fg fb} : kBody fg fb ds (some (.ct ρ)) = forF fg fb ds ρ := rfl
theorem kBody_bk {fg fb} : kBody fg fb ds (some (.bk ρ)) = some (.nx ρ) := rfl
theorem kBody_rt {fg fb} : kBody fg fb ds (some (.rt t ρ)) = some (.rt t ρ) := rfl
theorem kBody_xc {fg fb C} : kBody fg fb ds (some (.xc C ρ)) = some (.xc C ρ) := rfl
/-- a loop that runs to its end -/
theorem for_inv {fg : T → List T → Option (List T)} {fb : FS} (P : List D → List T → Prop)
    (step : ∀ d ds ρ, P (d :: ds) ρ → ∃ ρ1 ρ2, fg (.f d) ρ = some ρ1 ∧ (fb ρ1 = some (.nx ρ2) ∨ fb ρ1 = some (.ct ρ2)) ∧ P ds ρ2) :
    ∀ {ds : List D} {ρ : List T}, P ds ρ → ∃ ρ', forF fg fb ds ρ = some (.nx ρ') ∧ P [] ρ'
  | [], ρ, h => ⟨ρ, rfl, h⟩
  | d :: ds, ρ, h => by
    obtain ⟨ρ1, ρ2, e1, e2, h2⟩ := step d ds ρ h
    obtain ⟨ρ', e3, h3⟩ := for_inv P step h2
    refine ⟨ρ', ?_, h3⟩
    rw [for_cons, e1, kTgt_s]
    rcases e2 with e2 | e2
    · rw [e2, kBody_nx, e3]
    · rw [e2, kBody_ct, e3]
def kIt (r : Option Re) : Option Ri := r.bind fun r => match r with
  | .ok t ρ1 => t.d?.bind fun d => d.its.map fun ds => .ok ds ρ1
  | .xc C ρ1 => some (.xc C ρ1)
theorem wz_iVal {fo} : iVal fo ρ = kIt (fo ρ) := by
  unfold iVal kIt
  cases fo ρ with
  | none => rfl
  | some r => cases r <;> rfl
theorem kIt_l : kIt (some (.ok (.f (.lst ds)) ρ)) = some (.ok ds ρ) := rfl
theorem kIt_t : kIt (some (.ok (.f (.tup ds)) ρ)) = some (.ok ds ρ) := rfl
theorem kIt_s {z : Str} : kIt (some (.ok (.f (.str z)) ρ)) = some (.ok (signs z) ρ) := rfl
def kI1 (g : List D → List D) (ρ : List T) (o : Option (List T)) : Option Ri := o.bind fun ts => match ts with
  | [.f (.lst ds)] => some (.ok (g ds) ρ)
  | _ => none
theorem wz_iL1 {g fs} : iL1 g fs ρ = kI1 g ρ (fs ρ) := by
  unfold iL1 kI1
  rfl
theorem kI1_s {g} : kI1 g ρ (some [.f (.lst ds)]) = some (.ok (g ds) ρ) := rfl
def kI2 (g : List D → List D → List D) (ρ : List T) (o : Option (List T)) : Option Ri := o.bind fun ts => match ts with
  | [.f (.lst ds), .f (.lst es)] => some (.ok (g ds es) ρ)
  | _ => none
theorem wz_iL2 {g fs} : iL2 g fs ρ = kI2 g ρ (fs ρ) := by
  unfold iL2 kI2
  rfl
theorem kI2_s {g} : kI2 g ρ (some [.f (.lst ds), .f (.lst es)]) = some (.ok (g ds es) ρ) := rfl
def kR1 (ρ : List T) (o : Option (List T)) : Option Ri := o.bind fun ts => match ts with
  | [.f (.int n)] => if -(2 ^ 62) ≤ n ∧ n < 2 ^ 62 then some (.ok (rangeD 0 n.toNat) ρ) else none
  | _ => none
theorem wz_iR1 {fs} : iR1 fs ρ = kR1 ρ (fs ρ) := by
  unfold iR1 kR1
  rfl
theorem kR1_s {k : Int} (h : -(2 ^ 62) ≤ k ∧ k < 2 ^ 62) : kR1 ρ (some [.f (.int k)]) = some (.ok (rangeD 0 k.toNat) ρ) := if_pos h
def kR2 (ρ : List T) (o : Option (List T)) : Option Ri := o.bind fun ts => match ts with
  | [.f (.int m), .f (.int n)] => if -(2 ^ 62) ≤ m ∧ m < 2 ^ 62 ∧ -(2 ^ 62) ≤ n ∧ n < 2 ^ 62 then some (.ok (rangeD m (n - m).toNat) ρ) else none
  | _ => none
theorem wz_iR2 {fs} : iR2 fs ρ = kR2 ρ (fs ρ) := by
  unfold iR2 kR2
  rfl
theorem kR2_s {j k : Int} (h : -(2 ^ 62) ≤ j ∧ j < 2 ^ 62 ∧ -(2 ^ 62) ≤ k ∧ k < 2 ^ 62) : kR2 ρ (some [.f (.int j), .f (.int k)]) = some (.ok (rangeD j (k - j).toNat) ρ) := if_pos h
theorem rangeD_zero {j : Int} : rangeD j 0 = [] := rfl
theorem rangeD_succ {j : Int} : rangeD j (n + 1) = .int j :: rangeD (j + 1) n := by
  unfold rangeD
  rw [List.range_succ_eq_map, List.map_cons, List.map_map]
  congr 1
  · simp
  · refine List.map_congr_left fun a _ => ?_
    show D.int (j + ((a + 1 : Nat) : Int)) = D.int (j + 1 + (a : Int))
    congr 1
    omega
/-! targets -/
theorem wz_gSet : gSet i t ρ = some (ρ.set i t) := rfl
theorem wz_gsNil : gsNil [] ρ = some ρ := rfl
def kGs (g : List T → List T → Option (List T)) (ts : List T) (o : Option (List T)) : Option (List T) := o.bind fun ρ1 => g ts ρ1
theorem wz_gsCons {h g ts} : gsCons h g (t :: ts) ρ = kGs g ts (h t ρ) := rfl
theorem kGs_s {g ts} : kGs g ts (some ρ) = g ts ρ := rfl
theorem wz_gTupT {h} (e : ds.length = n) : gTupT n h (.f (.tup ds)) ρ = h (ds.map .f) ρ := if_pos e
/-! ends -/
theorem oval_rt (m : Nat) (d : D) (ρ : List T) (h : m ≤ ρ.length) : oval (some (.rt (.f d) ρ)) m = some d := if_pos h
theorem oval_nx (m : Nat) (ρ : List T) (h : m ≤ ρ.length) : oval (some (.nx ρ)) m = some .non := if_pos h
/-! values -/
theorem gIx_ds {ks z} (h : dAt ks ds (.inr z) = some d) : gIx (.f (.dct ks ds)) (.f (.str z)) = some (.f d) := by
  show (Option.orElse none fun _ => _) = _
  show (Option.orElse none fun _ => (dAt ks ds (.inr z)).map T.f) = _
  rw [h]
  rfl
theorem gIx_di {ks} {z : Int} (h : dAt ks ds (.inl z) = some d) : gIx (.f (.dct ks ds)) (.f (.int z)) = some (.f d) := by
  show (Option.orElse none fun _ => _) = _
  show (Option.orElse none fun _ => (dAt ks ds (.inl z)).map T.f) = _
  rw [h]
  rfl
theorem deep_nil : deep [] = some [] := rfl
def kDc (d : D) (o : Option (List D)) : Option (List D) := o.map fun ds => d :: ds
theorem deep_f {ts} : deep (.f d :: ts) = kDc d (deep ts) := rfl
theorem kDc_s : kDc d (some ds) = some (d :: ds) := rfl
theorem deep_map : ∀ (ds : List D), deep (ds.map .f) = some ds
  | [] => rfl
  | d :: ds => by
    show kDc d (deep (ds.map .f)) = _
    rw [deep_map ds]
    rfl
def kTp (o : Option (List D)) : Option T := o.bind fun ds => if ds.length ≤ sizeLine then some (.f (.tup ds)) else none
theorem wz_gTup {ts} : Z.gTup ts = kTp (deep ts) := rfl
theorem kTp_s (h : ds.length ≤ 16777216) : kTp (some ds) = some (.f (.tup ds)) := if_pos h
def kLs (o : Option (List D)) : Option T := o.bind fun ds => if ds.length ≤ sizeLine then some (.f (.lst ds)) else none
theorem wz_gLst {ts} : gLst ts = kLs (deep ts) := rfl
theorem kLs_s (h : ds.length ≤ 16777216) : kLs (some ds) = some (.f (.lst ds)) := if_pos h
theorem atI_of {α : Type} {xs : List α} {i : Int} {a : α} (h0 : 0 ≤ i) (h : xs[i.toNat]? = some a) : atI xs i = some a := by
  have hl : i.toNat < xs.length := by
    rcases Nat.lt_or_ge i.toNat xs.length with z | z
    · exact z
    · rw [List.getElem?_eq_none z] at h; cases h
  unfold atI ixN
  rw [if_pos h0, if_pos (by omega)]
  exact h
theorem atI_nat {α : Type} {xs : List α} {i : Nat} {a : α} (h : xs[i]? = some a) : atI xs (i : Int) = some a := atI_of (by omega) (by simpa using h)
theorem cutD_take {α : Type} {xs : List α} {k : Nat} : cutD xs none (some (k : Int)) = xs.take k := by
  unfold cutD
  rw [HT.sIx_none, HT.sIx_nat, List.drop_zero, Nat.sub_zero]
  rcases Nat.le_total k xs.length with h | h
  · rw [Nat.min_eq_left h]
  · rw [Nat.min_eq_right h, List.take_length, List.take_of_length_le h]
theorem cutD_drop {α : Type} {xs : List α} {k : Nat} : cutD xs (some (k : Int)) none = xs.drop k := by
  unfold cutD
  rw [HT.sIx_none, HT.sIx_nat]
  rcases Nat.le_total k xs.length with h | h
  · rw [Nat.min_eq_left h, List.take_of_length_le (by rw [List.length_drop]; exact Nat.le_refl _)]
  · rw [Nat.min_eq_right h, List.drop_of_length_le (Nat.le_refl _), List.drop_of_length_le h]
    simp
theorem gSl_l {lo hi} : gSl (.f (.lst ds)) lo hi = some (.f (.lst (cutD ds lo hi))) := rfl
theorem gSl_o {lo hi} : gSl (.l ds) lo hi = some (.f (.lst (cutD ds lo hi))) := rfl
def kS00 (o : Option T) : Option T := o.bind fun t => gSl t none none
def kS10 (o p : Option T) : Option T := o.bind fun t => p.bind fun x => x.i?.bind fun i => gSl t (some i) none
def kS01 (o p : Option T) : Option T := o.bind fun t => p.bind fun x => x.i?.bind fun i => gSl t none (some i)
def kS11 (o p q : Option T) : Option T := o.bind fun t => p.bind fun x => x.i?.bind fun i => q.bind fun y => y.i?.bind fun j => gSl t (some i) (some j)
theorem wz_sl00 : fSl fa none none ρ = kS00 (fa ρ) := rfl
theorem wz_sl10 : fSl fa (some fb) none ρ = kS10 (fa ρ) (fb ρ) := rfl
theorem wz_sl01 : fSl fa none (some fb) ρ = kS01 (fa ρ) (fb ρ) := rfl
theorem wz_sl11 : fSl fa (some fb) (some fc) ρ = kS11 (fa ρ) (fb ρ) (fc ρ) := rfl
theorem kS00_s : kS00 (some t) = gSl t none none := rfl
theorem kS10_s {i : Int} : kS10 (some t) (some (.f (.int i))) = gSl t (some i) none := rfl
theorem kS01_s {i : Int} : kS01 (some t) (some (.f (.int i))) = gSl t none (some i) := rfl
theorem kS11_s {i j : Int} : kS11 (some t) (some (.f (.int i))) (some (.f (.int j))) = gSl t (some i) (some j) := rfl
def gIsi (n : String) (t : T) : Option T := t.ty.bind fun m => (kitB m n).map fun b => .f (.bl b)
theorem wz_fIsi {n : String} : fIsi n fa ρ = k1 (gIsi n) (fa ρ) := rfl
theorem kitB_ii : kitB "int" "int" = some true := by decide +kernel
theorem kitB_ib : kitB "int" "bool" = some false := by decide +kernel
theorem kitB_nl : kitB "NoneType" "list" = some false := by decide +kernel
theorem kitB_ll : kitB "list" "list" = some true := by decide +kernel
theorem kitB_tt : kitB "tuple" "tuple" = some true := by decide +kernel
theorem kitB_ss : kitB "str" "str" = some true := by decide +kernel
theorem kitB_bb : kitB "bool" "bool" = some true := by decide +kernel
theorem kitB_tl : kitB "tuple" "list" = some false := by decide +kernel
theorem kitB_dd : kitB "dict" "dict" = some true := by decide +kernel
theorem gIsi_ii {i : Int} : gIsi "int" (.f (.int i)) = some (.f (.bl true)) := congrArg (Option.map fun b => T.f (.bl b)) kitB_ii
theorem gIsi_ib {i : Int} : gIsi "bool" (.f (.int i)) = some (.f (.bl false)) := congrArg (Option.map fun b => T.f (.bl b)) kitB_ib
theorem gIsi_ll : gIsi "list" (.f (.lst ds)) = some (.f (.bl true)) := congrArg (Option.map fun b => T.f (.bl b)) kitB_ll
theorem gIsi_lo : gIsi "list" (.l ds) = some (.f (.bl true)) := congrArg (Option.map fun b => T.f (.bl b)) kitB_ll
theorem gIsi_tt : gIsi "tuple" (.f (.tup ds)) = some (.f (.bl true)) := congrArg (Option.map fun b => T.f (.bl b)) kitB_tt
theorem gIsi_ss {i : Str} : gIsi "str" (.f (.str i)) = some (.f (.bl true)) := congrArg (Option.map fun b => T.f (.bl b)) kitB_ss
theorem gIsi_bb {i : Bool} : gIsi "bool" (.f (.bl i)) = some (.f (.bl true)) := congrArg (Option.map fun b => T.f (.bl b)) kitB_bb
theorem gIsi_dd {ks} : gIsi "dict" (.f (.dct ks ds)) = some (.f (.bl true)) := congrArg (Option.map fun b => T.f (.bl b)) kitB_dd
theorem gCat_l (h : ds.length + es.length ≤ 16777216) : gAdd (.f (.lst ds)) (.f (.lst es)) = some (.f (.lst (ds ++ es))) := by
  show (Option.orElse none fun _ => Option.orElse none fun _ => Option.orElse (if ds.length + es.length ≤ sizeLine then some (T.f (.lst (ds ++ es))) else none) fun _ => _) = _
  rw [if_pos (show ds.length + es.length ≤ sizeLine from h)]
  rfl
theorem gCat_s {x y : Str} (h : x.length + y.length ≤ 16777216) : gAdd (.f (.str x)) (.f (.str y)) = some (.f (.str (x ++ y))) := by
  show (Option.orElse none fun _ => Option.orElse (if x.length + y.length ≤ sizeLine then some (T.f (.str (x ++ y))) else none) fun _ => _) = _
  rw [if_pos (show x.length + y.length ≤ sizeLine from h)]
  rfl
theorem dec01 {p : Prop} [Decidable p] : (if decide p = true then (1 : Int) else 0) = if p then 1 else 0 := by
  by_cases h : p
  · rw [decide_eq_true h, if_pos h]; rfl
  · rw [decide_eq_false h, if_neg h]; rfl
end
end Z

namespace Z
open PySem L2
/-! ### rules with number conditions, for a walk that discharges them -/
section
variable {i j : Int} {x y : Str} {a b : Bool} {ds es : List D} {d e : D} {ρ : List T}
theorem str_inj {a b : String} : (Str.ofString a = Str.ofString b) = (a = b) := propext ⟨fun h => by
  rw [Str.ofString_eq_toList, Str.ofString_eq_toList] at h
  injection h with h
  have h2 : a.toList.map Char.toNat = b.toList.map Char.toNat := by simpa using h
  have h3 := (List.map_inj_right (fun x y e => Char.ext (UInt32.toNat_inj.mp e))).mp h2
  exact String.ext h3, fun h => by rw [h]⟩
theorem pow8999 : (10 : Nat) ^ 60 < 2 ^ 8999 := by
  have h : (2 : Nat) ^ 200 ≤ 2 ^ 8999 := Nat.pow_le_pow_right (by decide) (by decide)
  exact Nat.lt_of_lt_of_le (by decide) h
theorem pow1000 : (10 : Nat) ^ 60 < 2 ^ 1000 := by
  have h : (2 : Nat) ^ 200 ≤ 2 ^ 1000 := Nat.pow_le_pow_right (by decide) (by decide)
  exact Nat.lt_of_lt_of_le (by decide) h
theorem gDiv_o (h : 0 < j) (h2 : j ≤ 1000000000000000000000000000000000000000000000000000000000000) : gDiv (.f (.int i)) (.f (.int j)) = some (.f (.int (i / j))) := gDiv_ok h (Nat.lt_of_le_of_lt (by show j.natAbs ≤ 10 ^ 60; omega) pow8999)
theorem gMul_o (h1 : -1000000000000000000000000000000000000000000000000000000000000 ≤ i) (h2 : i ≤ 1000000000000000000000000000000000000000000000000000000000000) (h3 : -1000000000000000000000000000000000000000000000000000000000000 ≤ j) (h4 : j ≤ 1000000000000000000000000000000000000000000000000000000000000) : gMul (.f (.int i)) (.f (.int j)) = some (.f (.int (i * j))) :=
  gMul_small (Nat.lt_of_le_of_lt (by show i.natAbs ≤ 10 ^ 60; omega) pow1000) (Nat.lt_of_le_of_lt (by show j.natAbs ≤ 10 ^ 60; omega) pow1000)
theorem gShl_o (h : 0 ≤ j) (h1 : j ≤ 1000000) : gShl (.f (.int 1)) (.f (.int j)) = some (.f (.int (2 ^ j.toNat))) := by
  rw [gShl_ok h h1 (by decide), Int.one_mul]
theorem gShr_o (h : 0 ≤ j) : gShr (.f (.int i)) (.f (.int j)) = some (.f (.int (i / 2 ^ j.toNat))) := gShr_ok h
def kVT (o : Option D) : Option T := o.map T.f
theorem kVT_s : kVT (some d) = some (.f d) := rfl
theorem or2_none {g h : T → T → Option T} {s t : T} (e : g s t = none) : or2 g h s t = h s t := by
  unfold or2
  rw [e]
  rfl
theorem or2_r {g h : T → T → Option T} {s t : T} (e : h s t = none) : or2 g h s t = g s t := by
  unfold or2
  rw [e]
  cases g s t <;> rfl
theorem gIx_lst : gIx (.f (.lst ds)) (.f (.int i)) = kVT (atI ds i) := by
  unfold gIx
  rw [or2_r rfl, or2_r rfl]
  rfl
theorem gIx_own : gIx (.l ds) (.f (.int i)) = kVT (atI ds i) := by
  unfold gIx
  rw [or2_r rfl, or2_r rfl]
  rfl
theorem gIx_tup : gIx (.f (.tup ds)) (.f (.int i)) = kVT (atI ds i) := by
  unfold gIx
  rw [or2_r rfl, or2_r rfl]
  rfl
theorem gIx_dct {ks} : gIx (.f (.dct ks ds)) (.f (.str x)) = kVT (dAt ks ds (.inr x)) := by
  unfold gIx
  rw [or2_none rfl]
  rfl
theorem gIx_dcti {ks} : gIx (.f (.dct ks ds)) (.f (.int i)) = kVT (dAt ks ds (.inl i)) := by
  unfold gIx
  rw [or2_none rfl]
  rfl
theorem gIx_odct {ks} : gIx (.dk ks ds) (.f (.str x)) = kVT (dAt ks ds (.inr x)) := by
  unfold gIx
  rw [or2_none rfl]
  rfl
theorem gIx_odcti {ks} : gIx (.dk ks ds) (.f (.int i)) = kVT (dAt ks ds (.inl i)) := by
  unfold gIx
  rw [or2_none rfl]
  rfl
theorem atI_pos {α : Type} {xs : List α} (h : 0 ≤ i) : atI xs i = xs[i.toNat]? := by
  unfold atI ixN
  rw [if_pos h]
  by_cases hl : i < xs.length
  · rw [if_pos hl]; rfl
  · rw [if_neg hl]
    show none = _
    rw [List.getElem?_eq_none (by omega)]
theorem atI_neg {α : Type} {xs : List α} (h : i < 0) (h2 : -(xs.length : Int) ≤ i) : atI xs i = xs[(i + xs.length).toNat]? := by
  unfold atI ixN
  rw [if_neg (by omega), if_pos h2]
  rfl
theorem dAt_cons {k q : Key} {ks : List Key} : dAt (k :: ks) (d :: ds) q = if k = q then some d else dAt ks ds q := rfl
theorem gTupT1 {h a} : gTupT 1 h (.f (.tup [a])) ρ = h [.f a] ρ := rfl
theorem gTupT2 {h a b} : gTupT 2 h (.f (.tup [a, b])) ρ = h [.f a, .f b] ρ := rfl
theorem gTupT3 {h a b c} : gTupT 3 h (.f (.tup [a, b, c])) ρ = h [.f a, .f b, .f c] ρ := rfl
theorem gTupT4 {h a b c d} : gTupT 4 h (.f (.tup [a, b, c, d])) ρ = h [.f a, .f b, .f c, .f d] ρ := rfl
theorem gTupT5 {h a b c d e} : gTupT 5 h (.f (.tup [a, b, c, d, e])) ρ = h [.f a, .f b, .f c, .f d, .f e] ρ := rfl
/-! None -/
theorem gIsNn_i {neg : Bool} : gIsNn neg (.f (.int i)) = some (.f (.bl (xor neg false))) := rfl
theorem gIsNn_s {neg : Bool} : gIsNn neg (.f (.str x)) = some (.f (.bl (xor neg false))) := rfl
theorem gIsNn_b {neg : Bool} : gIsNn neg (.f (.bl a)) = some (.f (.bl (xor neg false))) := rfl
theorem gIsNn_n {neg : Bool} : gIsNn neg (.f .non) = some (.f (.bl (xor neg true))) := rfl
theorem gIsNn_l {neg : Bool} : gIsNn neg (.f (.lst ds)) = some (.f (.bl (xor neg false))) := rfl
theorem gIsNn_t {neg : Bool} : gIsNn neg (.f (.tup ds)) = some (.f (.bl (xor neg false))) := rfl
theorem gIsNn_d {neg : Bool} {ks} : gIsNn neg (.f (.dct ks ds)) = some (.f (.bl (xor neg false))) := rfl
theorem gIsNn_o {neg : Bool} : gIsNn neg (.l ds) = some (.f (.bl (xor neg false))) := rfl
theorem gIsNn_od {neg : Bool} {ks} : gIsNn neg (.dk ks ds) = some (.f (.bl (xor neg false))) := rfl
theorem wz_fIsN {neg : Bool} {fa} : fIsN neg fa ρ = k1 (gIsNn neg) (fa ρ) := rfl
/-! chains -/
def kChain (g h : T → T → Option T) (fd : List T → Option T) (ρ : List T) (oa ob : Option T) : Option T := oa.bind fun x => ob.bind fun y => (g x y).bind fun z => z.b?.bind fun k => if k = true then (fd ρ).bind fun w => h y w else some (.f (.bl false))
theorem wz_fChain {g h fa fb fd} : fChain g h fa fb fd ρ = kChain g h fd ρ (fa ρ) (fb ρ) := rfl
def kCh1 (h : T → T → Option T) (fd : List T → Option T) (ρ : List T) (y : T) (o : Option T) : Option T := o.bind fun z => z.b?.bind fun k => if k = true then (fd ρ).bind fun w => h y w else some (.f (.bl false))
theorem kChain_s {g h fd x y} : kChain g h fd ρ (some x) (some y) = kCh1 h fd ρ y (g x y) := rfl
theorem kCh1_t {h fd y} : kCh1 h fd ρ y (some (.f (.bl true))) = k2 h (some y) (fd ρ) := rfl
theorem kCh1_f {h fd y} : kCh1 h fd ρ y (some (.f (.bl false))) = some (.f (.bl false)) := rfl
/-! ends of turns -/
def Wn0 (Q : List T → Prop) (R : Out → Prop) : Option Out → Prop
  | some (.nx ρ) => Q ρ
  | some (.ct ρ) => Q ρ
  | some (.bk ρ) => R (.nx ρ)
  | some (.rt t ρ) => R (.rt t ρ)
  | some (.xc C ρ) => R (.xc C ρ)
  | none => False
structure Wn (Q : List T → Prop) (R : Out → Prop) (o : Option Out) : Prop where
  go : Wn0 Q R o
def kTurn (fb : FS) (o : Option (List T)) : Option Out := o.bind fb
theorem kTurn_s {fb} : kTurn fb (some ρ) = fb ρ := rfl
/-- a loop: P what stands ahead of each turn, R how it may end otherwise -/
theorem for_wp {fg : T → List T → Option (List T)} {fb : FS} (P : List D → List T → Prop) (R : Out → Prop) (step : ∀ d ds ρ, P (d :: ds) ρ → Wn (P ds) R (kTurn fb (fg (.f d) ρ))) :
    ∀ {ds : List D} {ρ : List T}, P ds ρ → ∃ o, forF fg fb ds ρ = some o ∧ ((∃ ρ', o = .nx ρ' ∧ P [] ρ') ∨ R o)
  | [], ρ, h => ⟨.nx ρ, rfl, .inl ⟨ρ, rfl, h⟩⟩
  | d :: ds, ρ, h => by
    have s := step d ds ρ h
    rw [for_cons]
    cases e1 : fg (.f d) ρ with
    | none => rw [e1] at s; exact s.go.elim
    | some ρ1 =>
      rw [e1, kTurn_s] at s
      rw [kTgt_s]
      cases e2 : fb ρ1 with
      | none => rw [e2] at s; exact s.go.elim
      | some o =>
        rw [e2] at s
        cases o with
        | nx ρ2 => rw [kBody_nx]; exact for_wp P R step s.go
        | ct ρ2 => rw [kBody_ct]; exact for_wp P R step s.go
        | bk ρ2 => rw [kBody_bk]; exact ⟨_, rfl, .inr s.go⟩
        | rt t ρ2 => rw [kBody_rt]; exact ⟨_, rfl, .inr s.go⟩
        | xc C ρ2 => rw [kBody_xc]; exact ⟨_, rfl, .inr s.go⟩
theorem for_all {fg : T → List T → Option (List T)} {fb : FS} (P : List D → List T → Prop) (step : ∀ d ds ρ, P (d :: ds) ρ → Wn (P ds) (fun _ => False) (kTurn fb (fg (.f d) ρ))) {ds : List D} {ρ : List T} (h : P ds ρ) : ∃ ρ', forF fg fb ds ρ = some (.nx ρ') ∧ P [] ρ' := by
  obtain ⟨o, e, ⟨ρ', rfl, h'⟩ | h'⟩ := for_wp P (fun _ => False) step h
  · exact ⟨ρ', e, h'⟩
  · exact h'.elim
theorem Wn_of {o : Option Out} {Q R} {ρ' : List T} (h : o = some (.nx ρ')) (hq : Q ρ') : Wn Q R o := ⟨by rw [h]; exact hq⟩
theorem Wn_of_rt {o : Option Out} {Q R t} {ρ' : List T} (h : o = some (.rt t ρ')) (hq : R (.rt t ρ')) : Wn Q R o := ⟨by rw [h]; exact hq⟩
theorem Wn_of_ct {o : Option Out} {Q R} {ρ' : List T} (h : o = some (.ct ρ')) (hq : Q ρ') : Wn Q R o := ⟨by rw [h]; exact hq⟩
theorem Wn_of_bk {o : Option Out} {Q R} {ρ' : List T} (h : o = some (.bk ρ')) (hq : R (.nx ρ')) : Wn Q R o := ⟨by rw [h]; exact hq⟩
/-- what a def answers -/
def Vd (Q : D → Prop) (m : Nat) (o : Option Out) : Prop := ∃ d, oval o m = some d ∧ Q d
theorem oval_rt' {m : Nat} {d : D} (h : m ≤ ρ.length) : oval (some (.rt (.f d) ρ)) m = some d := if_pos h
theorem oval_nx' {m : Nat} (h : m ≤ ρ.length) : oval (some (.nx ρ)) m = some .non := if_pos h
end
end Z

namespace Z
open PySem L2
/-! ### walking: lists made, things changed in place -/
section
variable {ρ ρ1 : List T} {d e : D} {ds es : List D} {t x y : T} {i n m : Nat} {b : Bool} {f g : FS} {fa fb fc fe fk : List T → Option T} {vs : List Nat} {q : Int} {z : Str}
variable {fi : List T → Option (List D)} {fg : T → List T → Option (List T)} {ft : List T → Option Bool}
def okV (o : Option T) : Bool := match o with
  | none => true
  | some .un => true
  | some (.f _) => true
  | _ => false
theorem okW_nil : okW ρ [] = true := rfl
theorem okW_cons {v : Nat} : okW ρ (v :: vs) = (okV ρ[v]? && okW ρ vs) := by
  unfold okW okV
  rw [List.all_cons]
  try rfl
theorem okV_n : okV none = true := rfl
theorem okV_u : okV (some .un) = true := rfl
theorem okV_f : okV (some (.f d)) = true := rfl
theorem wipeR_nil : wipeR ρ [] = ρ := rfl
theorem wipeR_cons {v : Nat} : wipeR ρ (v :: vs) = (wipeR ρ vs).set v .un := rfl
def kLc (fg : T → List T → Option (List T)) (ft : List T → Option Bool) (fe : List T → Option T) (ρ0 : List T) (o : Option (List D)) : Option T := o.bind fun ds => kLs (lcF fg ft fe ρ0 ds)
def kLcB (b : Bool) (o : Option T) : Option T := if b = true then o else none
theorem wz_fLc : fLc vs fi fg ft fe ρ = kLcB (okW ρ vs) (kLc fg ft fe (wipeR ρ vs) (fi ρ)) := rfl
theorem kLcB_t {o} : kLcB true o = o := rfl
theorem kLc_s : kLc fg ft fe ρ (some ds) = kLs (lcF fg ft fe ρ ds) := rfl
def kL3 (rest : Option (List D)) (o : Option T) : Option (List D) := o.bind fun t => t.d?.bind fun e => rest.map fun r => e :: r
def kL2 (fe : List T → Option T) (rest : Option (List D)) (ρ1 : List T) (o : Option Bool) : Option (List D) := o.bind fun b => if b = true then kL3 rest (fe ρ1) else rest
def kL1 (ft : List T → Option Bool) (fe : List T → Option T) (rest : Option (List D)) (o : Option (List T)) : Option (List D) := o.bind fun ρ1 => kL2 fe rest ρ1 (ft ρ1)
theorem lcF_nil : lcF fg ft fe ρ [] = some [] := rfl
theorem lcF_cons : lcF fg ft fe ρ (d :: ds) = kL1 ft fe (lcF fg ft fe ρ ds) (fg (.f d) ρ) := rfl
theorem kL1_s {rest} : kL1 ft fe rest (some ρ1) = kL2 fe rest ρ1 (ft ρ1) := rfl
theorem kL2_t {rest} : kL2 fe rest ρ1 (some true) = kL3 rest (fe ρ1) := rfl
theorem kL2_f {rest} : kL2 fe rest ρ1 (some false) = rest := rfl
theorem kL2_d {rest} {p : Prop} [Decidable p] : kL2 fe rest ρ1 (some (decide p)) = if p then kL3 rest (fe ρ1) else rest := by
  by_cases h : p
  · rw [decide_eq_true h, if_pos h]; rfl
  · rw [decide_eq_false h, if_neg h]; rfl
theorem kL3_s : kL3 (some ds) (some (.f d)) = some (d :: ds) := rfl
theorem tYes_s : tYesF ρ = some true := rfl
/-- one turn -/
def lcT (fg : T → List T → Option (List T)) (ft : List T → Option Bool) (fe : List T → Option T) (ρ0 : List T) (d : D) : Option (List D) := kL1 ft fe (some []) (fg (.f d) ρ0)
theorem wz_lcT : lcT fg ft fe ρ d = kL1 ft fe (some []) (fg (.f d) ρ) := rfl
theorem lcF_of {α : Type} {φ : α → D} {G : α → List D} : ∀ {as : List α}, (∀ a ∈ as, lcT fg ft fe ρ (φ a) = some (G a)) → lcF fg ft fe ρ (as.map φ) = some (as.flatMap G)
  | [], _ => rfl
  | a :: as, h => by
    have h1 := h a List.mem_cons_self
    have h2 := lcF_of (as := as) fun b hb => h b (List.mem_cons_of_mem _ hb)
    rw [List.map_cons, lcF_cons, h2, List.flatMap_cons]
    unfold lcT at h1
    cases e1 : fg (.f (φ a)) ρ with
    | none => rw [e1] at h1; cases h1
    | some ρ1 =>
      rw [e1, kL1_s] at h1
      rw [kL1_s]
      cases e2 : ft ρ1 with
      | none => rw [e2] at h1; cases h1
      | some c =>
        rw [e2] at h1
        cases c with
        | false => rw [kL2_f] at h1 ⊢; rw [← Option.some.inj h1]; rfl
        | true =>
          rw [kL2_t] at h1 ⊢
          cases e3 : fe ρ1 with
          | none => rw [e3] at h1; cases h1
          | some t =>
            rw [e3] at h1
            cases t with
            | f dd =>
              rw [kL3_s] at h1 ⊢
              rw [← Option.some.inj h1]
              rfl
            | _ => cases h1
def kJV (o : Option T) : Option (List D) := o.bind fun t => match t with
  | .f d => d.its
  | _ => none
theorem wz_jVal : jVal fa ρ = kJV (fa ρ) := by unfold jVal kJV; rfl
theorem kJV_l : kJV (some (.f (.lst ds))) = some ds := rfl
theorem kJV_t : kJV (some (.f (.tup ds))) = some ds := rfl
theorem kJV_s : kJV (some (.f (.str z))) = some (signs z) := rfl
def kJ1 (g : List D → List D) (o : Option (List T)) : Option (List D) := o.bind fun ts => match ts with
  | [.f (.lst ds)] => some (g ds)
  | _ => none
theorem wz_jL1 {g fs} : jL1 g fs ρ = kJ1 g (fs ρ) := by unfold jL1 kJ1; rfl
theorem kJ1_s {g} : kJ1 g (some [.f (.lst ds)]) = some (g ds) := rfl
def kJ2 (g : List D → List D → List D) (o : Option (List T)) : Option (List D) := o.bind fun ts => match ts with
  | [.f (.lst ds), .f (.lst es)] => some (g ds es)
  | _ => none
theorem wz_jL2 {g fs} : jL2 g fs ρ = kJ2 g (fs ρ) := by unfold jL2 kJ2; rfl
theorem kJ2_s {g} : kJ2 g (some [.f (.lst ds), .f (.lst es)]) = some (g ds es) := rfl
def kJR1 (o : Option (List T)) : Option (List D) := o.bind fun ts => match ts with
  | [.f (.int n)] => if -(2 ^ 62) ≤ n ∧ n < 2 ^ 62 then some (rangeD 0 n.toNat) else none
  | _ => none
theorem wz_jR1 {fs} : jR1 fs ρ = kJR1 (fs ρ) := by unfold jR1 kJR1; rfl
theorem kJR1_s {k : Int} (h : -(2 ^ 62) ≤ k ∧ k < 2 ^ 62) : kJR1 (some [.f (.int k)]) = some (rangeD 0 k.toNat) := if_pos h
def kJR2 (o : Option (List T)) : Option (List D) := o.bind fun ts => match ts with
  | [.f (.int m), .f (.int n)] => if -(2 ^ 62) ≤ m ∧ m < 2 ^ 62 ∧ -(2 ^ 62) ≤ n ∧ n < 2 ^ 62 then some (rangeD m (n - m).toNat) else none
  | _ => none
theorem wz_jR2 {fs} : jR2 fs ρ = kJR2 (fs ρ) := by unfold jR2 kJR2; rfl
theorem kJR2_s {j k : Int} (h : -(2 ^ 62) ≤ j ∧ j < 2 ^ 62 ∧ -(2 ^ 62) ≤ k ∧ k < 2 ^ 62) : kJR2 (some [.f (.int j), .f (.int k)]) = some (rangeD j (k - j).toNat) := if_pos h
/-! places -/
theorem wz_pHere : pHere ρ = some [] := rfl
def kMu (i : Nat) (ρ : List T) (o : Option T) : Option (List T) := o.map fun u => ρ.set i u
theorem kMu_s : kMu i ρ (some t) = some (ρ.set i t) := rfl
theorem mutF_here {g : T → Option T} : mutF i [] g ρ = kMu i ρ (k1 g ρ[i]?) := by
  unfold mutF kMu k1
  cases ρ[i]? <;> rfl
def kNx (o : Option (List T)) : Option Out := o.map .nx
theorem kNx_s : kNx (some ρ) = some (.nx ρ) := rfl
def kApp (i : Nat) (ρ : List T) (π : Option (List Sel)) (o : Option T) : Option Out := π.bind fun π => o.bind fun x => x.d?.bind fun d => kNx (mutF i π (appT d) ρ)
theorem wz_sApp {fp} : sApp i fp fe ρ = kApp i ρ (fp ρ) (fe ρ) := rfl
theorem kApp_s {π} : kApp i ρ (some π) (some (.f d)) = kNx (mutF i π (appT d) ρ) := rfl
theorem appT_l (h : ds.length < 16777216) : appT d (.l ds) = some (.l (ds ++ [d])) := if_pos h
def kSI (i : Nat) (ρ : List T) (o : Option T) (π : Option (List Sel)) (k : Option T) : Option Out := o.bind fun x => x.d?.bind fun d => π.bind fun π => k.bind fun z => z.d?.bind fun q => kNx (mutF i π (setT q d) ρ)
theorem wz_sSetIx {fp} : sSetIx i fp fk fe ρ = kSI i ρ (fe ρ) (fp ρ) (fk ρ) := rfl
theorem kSI_s {π} {q : D} : kSI i ρ (some (.f d)) (some π) (some (.f q)) = kNx (mutF i π (setT q d) ρ) := rfl
theorem setT_l (h0 : 0 ≤ q) (h : q < ds.length) : setT (.int q) d (.l ds) = some (.l (ds.set q.toNat d)) := by
  show (ixN ds.length q).map _ = _
  unfold ixN
  rw [if_pos h0, if_pos h]
  rfl
theorem setT_ds {ks : List Key} (h : ks.length < 16777216) : setT (.str z) d (.dk ks ds) = some (.dk (dput ks ds (.inr z) d).1 (dput ks ds (.inr z) d).2) := if_pos h
theorem setT_di {ks : List Key} (h : ks.length < 16777216) : setT (.int q) d (.dk ks ds) = some (.dk (dput ks ds (.inl q) d).1 (dput ks ds (.inl q) d).2) := if_pos h
/-! becoming deep -/
def kF2 (i : Nat) (ρ : List T) (o : Option T) : Option (List T) := match o with
  | some .un => some ρ
  | some t => t.fz.map fun d => ρ.set i (.f d)
  | none => none
theorem wz_fzS : fzS i ρ = kF2 i ρ ρ[i]? := by unfold fzS kF2; rfl
theorem kF2_u : kF2 i ρ (some .un) = some ρ := rfl
theorem kF2_f : kF2 i ρ (some (.f d)) = some (ρ.set i (.f d)) := rfl
theorem kF2_l : kF2 i ρ (some (.l ds)) = some (ρ.set i (.f (.lst ds))) := rfl
theorem kF2_d {ks} : kF2 i ρ (some (.dk ks ds)) = some (ρ.set i (.f (.dct ks ds))) := rfl
def kFS (f : FS) (o : Option (List T)) : Option Out := o.bind f
theorem wz_sFz : sFz i f ρ = kFS f (fzS i ρ) := rfl
theorem kFS_s : kFS f (some ρ) = f ρ := rfl
/-! in -/
def lstD (l : List Str) : List D := l.map .str
theorem any_v {z : Str} : ∀ (l : List Str), inV (.str z) ((l.map D.str).map D.v) = decide (z ∈ l)
  | [] => rfl
  | a :: l => by
    have ih := any_v (z := z) l
    unfold inV at ih ⊢
    rw [List.map_cons, List.map_cons, List.any_cons, ih]
    rw [show eqV (D.str a).v (V.str z) = decide (a = z) from rfl]
    by_cases h : a = z
    · subst h; simp
    · have h' : z ≠ a := fun e => h e.symm
      simp [h, h']
theorem flat_strs : ∀ (l : List Str), (l.map D.str).all flatD = true
  | [] => rfl
  | a :: l => by rw [List.map_cons, List.all_cons, flat_strs l]; rfl
theorem any_i {z : Int} : ∀ (l : List Int), inV (.int z) ((l.map D.int).map D.v) = decide (z ∈ l)
  | [] => rfl
  | a :: l => by
    have ih := any_i (z := z) l
    unfold inV at ih ⊢
    rw [List.map_cons, List.map_cons, List.any_cons, ih]
    rw [show eqV (D.int a).v (V.int z) = decide (a = z) from rfl]
    by_cases h : a = z
    · subst h; simp
    · have h' : z ≠ a := fun e => h e.symm
      simp [h, h']
theorem flat_ints : ∀ (l : List Int), (l.map D.int).all flatD = true
  | [] => rfl
  | a :: l => by rw [List.map_cons, List.all_cons, flat_ints l]; rfl
theorem gIn_of {neg : Bool} {w : V} {t u : T} {ds : List D} (h1 : t.v? = some w) (h2 : u.sq? = some ds) (h3 : ds.all flatD = true) : gInQ neg t u = some (.f (.bl (xor neg (inV w (ds.map D.v))))) := by
  unfold gInQ
  rw [h1, h2]
  show (if ds.all flatD = true then _ else none) = _
  rw [if_pos h3]
theorem or2_some {g h : T → T → Option T} {s t u : T} (e : g s t = some u) : or2 g h s t = some u := by
  unfold or2
  rw [e]
  rfl
theorem gIn_ss {l : List Str} : gIn (.f (.str z)) (.f (.lst (l.map D.str))) = some (.f (.bl (decide (z ∈ l)))) := by
  rw [show gIn (.f (.str z)) (.f (.lst (l.map D.str))) = _ from or2_some (gIn_of (neg := false) rfl rfl (flat_strs l)), any_v, Bool.false_xor]
theorem gIn_ii {l : List Int} : gIn (.f (.int q)) (.f (.lst (l.map D.int))) = some (.f (.bl (decide (q ∈ l)))) := by
  rw [show gIn (.f (.int q)) (.f (.lst (l.map D.int))) = _ from or2_some (gIn_of (neg := false) rfl rfl (flat_ints l)), any_i, Bool.false_xor]
theorem gNotIn_ss {l : List Str} : gNotIn (.f (.str z)) (.f (.lst (l.map D.str))) = some (.f (.bl (!decide (z ∈ l)))) := by
  rw [show gNotIn (.f (.str z)) (.f (.lst (l.map D.str))) = _ from or2_some (gIn_of (neg := true) rfl rfl (flat_strs l)), any_v, Bool.true_xor]
theorem gNotIn_ii {l : List Int} : gNotIn (.f (.int q)) (.f (.lst (l.map D.int))) = some (.f (.bl (!decide (q ∈ l)))) := by
  rw [show gNotIn (.f (.int q)) (.f (.lst (l.map D.int))) = _ from or2_some (gIn_of (neg := true) rfl rfl (flat_ints l)), any_i, Bool.true_xor]
-- nosimp lcF_of
-- nosimp any_v
-- nosimp any_i
-- nosimp flat_strs
-- nosimp flat_ints
-- nosimp gIn_of
-- nosimp or2_some
end
/-! == of alike deep things -/
mutual
def D.fine : D → Nat → Bool
  | .non, _ => true
  | .bl _, _ => true
  | .int _, _ => true
  | .str x, _ => PyData.canLay0 (.str x)
  | .tup l, n => decide (0 < n) && D.fines l (n - 1)
  | .lst l, n => decide (0 < n) && D.fines l (n - 1)
  | .dct _ _, _ => false
  | .obj _ _ _, _ => false
def D.fines : List D → Nat → Bool
  | [], _ => true
  | d :: ds, n => D.fine d n && D.fines ds n
end
mutual
theorem D.fine_py : ∀ (d : D) (n : Nat), d.fine n = true → ∃ p, d.py = some p ∧ p.canLay0 = true ∧ p.depth ≤ n
  | .non, n, _ => ⟨_, rfl, rfl, Nat.zero_le _⟩
  | .bl _, n, _ => ⟨_, rfl, rfl, Nat.zero_le _⟩
  | .int _, n, _ => ⟨_, rfl, rfl, Nat.zero_le _⟩
  | .str x, n, h => ⟨_, rfl, h, Nat.zero_le _⟩
  | .tup l, n, h => by
    have h' : (decide (0 < n) && D.fines l (n - 1)) = true := h
    rw [Bool.and_eq_true, decide_eq_true_eq] at h'
    obtain ⟨ps, e, q1, q2⟩ := D.fines_py l (n - 1) h'.2
    refine ⟨.tuple ps, by show (D.pys l).map _ = _; rw [e]; rfl, q1, ?_⟩
    show PyData.depthAll ps + 1 ≤ n
    omega
  | .lst l, n, h => by
    have h' : (decide (0 < n) && D.fines l (n - 1)) = true := h
    rw [Bool.and_eq_true, decide_eq_true_eq] at h'
    obtain ⟨ps, e, q1, q2⟩ := D.fines_py l (n - 1) h'.2
    refine ⟨.list ps, by show (D.pys l).map _ = _; rw [e]; rfl, q1, ?_⟩
    show PyData.depthAll ps + 1 ≤ n
    omega
  | .dct _ _, _, h => by cases h
  | .obj _ _ _, _, h => by cases h
theorem D.fines_py : ∀ (l : List D) (n : Nat), D.fines l n = true → ∃ ps, D.pys l = some ps ∧ PyData.canLayAll0 ps = true ∧ PyData.depthAll ps ≤ n
  | [], n, _ => ⟨[], rfl, rfl, Nat.zero_le _⟩
  | d :: ds, n, h => by
    have h' : (D.fine d n && D.fines ds n) = true := h
    rw [Bool.and_eq_true] at h'
    obtain ⟨p, e, q1, q2⟩ := D.fine_py d n h'.1
    obtain ⟨ps, e2, q3, q4⟩ := D.fines_py ds n h'.2
    refine ⟨p :: ps, ?_, ?_, ?_⟩
    · show (D.py d).bind _ = _
      rw [e]
      show (D.pys ds).map _ = _
      rw [e2]
      rfl
    · show (p.canLay0 && PyData.canLayAll0 ps) = true
      rw [q1, q3]
      rfl
    · show max p.depth (PyData.depthAll ps) ≤ n
      omega
end
theorem shaped_fine {d : D} (h : d.fine 64 = true) : ∃ p, d.py = some p ∧ SeqAt.shaped p = true ∧ PyData.eqv p p = true := by
  obtain ⟨p, e, q1, q2⟩ := D.fine_py d 64 h
  refine ⟨p, e, ?_, SeqAt.eqv_refl p q1⟩
  show (p.canLay0 && decide (p.depth ≤ 64)) = true
  rw [q1, decide_eq_true q2]
  rfl
theorem gEqD_refl {d : D} {s t : T} (neg : Bool) (h1 : s.vd = some d) (h2 : t.vd = some d) (h : d.fine 64 = true) : gEqD neg s t = some (.f (.bl (xor neg true))) := by
  obtain ⟨p, e, q1, q2⟩ := shaped_fine h
  unfold gEqD
  rw [h1, h2]
  show ((d.py).bind fun p => (d.py).bind fun q => _) = _
  rw [e]
  show (if _ then _ else _) = _
  rw [if_pos ⟨q1, q1⟩, q2]
theorem gEq_refl_l {ds : List D} (h : D.fines ds 63 = true) : gEq (.f (.lst ds)) (.f (.lst ds)) = some (.f (.bl true)) := by
  unfold gEq
  rw [or2_none rfl]
  exact gEqD_refl false rfl rfl h
theorem gEq_refl_t {ds : List D} (h : D.fines ds 63 = true) : gEq (.f (.tup ds)) (.f (.tup ds)) = some (.f (.bl true)) := by
  unfold gEq
  rw [or2_none rfl]
  exact gEqD_refl false rfl rfl h
theorem gNe_refl_l {ds : List D} (h : D.fines ds 63 = true) : gNe (.f (.lst ds)) (.f (.lst ds)) = some (.f (.bl false)) := by
  unfold gNe
  rw [or2_none rfl]
  exact gEqD_refl true rfl rfl h
theorem gNe_refl_t {ds : List D} (h : D.fines ds 63 = true) : gNe (.f (.tup ds)) (.f (.tup ds)) = some (.f (.bl false)) := by
  unfold gNe
  rw [or2_none rfl]
  exact gEqD_refl true rfl rfl h
theorem fines_of {α : Type} {φ : α → D} {n : Nat} : ∀ {as : List α}, (∀ a ∈ as, (φ a).fine n = true) → D.fines (as.map φ) n = true
  | [], _ => rfl
  | a :: as, h => by
    show (D.fine (φ a) n && D.fines (as.map φ) n) = true
    rw [h a List.mem_cons_self, fines_of fun b hb => h b (List.mem_cons_of_mem _ hb)]
    rfl
section
variable {i j : Int} {x y : Str} {a b : Bool} {ds es : List D}
theorem gEq_sn : gEq (.f (.str x)) (.f .non) = some (.f (.bl false)) := rfl
theorem gEq_ns : gEq (.f .non) (.f (.str x)) = some (.f (.bl false)) := rfl
theorem gEq_in : gEq (.f (.int i)) (.f .non) = some (.f (.bl false)) := rfl
theorem gEq_ni : gEq (.f .non) (.f (.int i)) = some (.f (.bl false)) := rfl
theorem gEq_nn : gEq (.f .non) (.f .non) = some (.f (.bl true)) := rfl
theorem gNe_sn : gNe (.f (.str x)) (.f .non) = some (.f (.bl true)) := rfl
theorem gNe_ns : gNe (.f .non) (.f (.str x)) = some (.f (.bl true)) := rfl
theorem gNe_in : gNe (.f (.int i)) (.f .non) = some (.f (.bl true)) := rfl
theorem gNe_ni : gNe (.f .non) (.f (.int i)) = some (.f (.bl true)) := rfl
theorem gNe_nn : gNe (.f .non) (.f .non) = some (.f (.bl false)) := rfl
end
/-! sums and picks -/
theorem intsOf_map : ∀ (ns : List Int), intsOf (ns.map D.int) = some ns
  | [] => rfl
  | n :: ns => by
    show (intsOf (ns.map D.int)).map _ = _
    rw [intsOf_map ns]
    rfl
theorem gSum_l {ns : List Int} : gSum [.f (.lst (ns.map D.int))] = some (.f (.int ns.sum)) := by
  show (intsOf (ns.map D.int)).map _ = _
  rw [intsOf_map]
  rfl
theorem gList_l {ds : List D} : gList [.f (.lst ds)] = some (.f (.lst ds)) := rfl
theorem gList_t {ds : List D} : gList [.f (.tup ds)] = some (.f (.lst ds)) := rfl
theorem gTuple_l {ds : List D} : gTuple [.f (.lst ds)] = some (.f (.tup ds)) := rfl
theorem gTuple_t {ds : List D} : gTuple [.f (.tup ds)] = some (.f (.tup ds)) := rfl
theorem pick {α : Type} {xs : List α} (hn : 0 < xs.length) (z : Int) : ∃ x ∈ xs, 0 ≤ z % xs.length ∧ ∀ {β : Type} (f : α → β), (xs.map f)[(z % xs.length).toNat]? = some (f x) := by
  have h0 : 0 ≤ z % (xs.length : Int) := Int.emod_nonneg _ (by omega)
  have h1 : z % (xs.length : Int) < xs.length := Int.emod_lt_of_pos _ (by omega)
  have h2 : (z % (xs.length : Int)).toNat < xs.length := by omega
  refine ⟨xs[(z % (xs.length : Int)).toNat], List.getElem_mem h2, h0, fun f => ?_⟩
  rw [List.getElem?_map, List.getElem?_eq_getElem h2]
  rfl
-- nosimp shaped_fine
-- nosimp gEqD_refl
-- nosimp gEq_refl_l
-- nosimp gEq_refl_t
-- nosimp gNe_refl_l
-- nosimp gNe_refl_t
-- nosimp fines_of
-- nosimp intsOf_map
-- nosimp pick
-- nosimp D.fine_py
-- nosimp D.fines_py
end Z

namespace Z
open PySem L2
/-! ### loops by the place -/
section
variable {fg : T → List T → Option (List T)} {fb : FS}
theorem for_idx (ds : List D) (P : Nat → List T → Prop) (R : Out → Prop) (step : ∀ i d ρ, ds[i]? = some d → P i ρ → Wn (P (i + 1)) R (kTurn fb (fg (.f d) ρ))) {ρ : List T} (h : P 0 ρ) :
    ∃ o, forF fg fb ds ρ = some o ∧ ((∃ ρ', o = .nx ρ' ∧ P ds.length ρ') ∨ R o) := by
  obtain ⟨o, e, h⟩ := for_wp (fg := fg) (fb := fb) (fun l ρ => ∃ i, l = ds.drop i ∧ i ≤ ds.length ∧ P i ρ) R (by
    rintro d l ρ ⟨i, e, hi, hp⟩
    have hlt : i < ds.length := by
      rcases Nat.lt_or_ge i ds.length with z | z
      · exact z
      · rw [List.drop_of_length_le z] at e; cases e
    rw [List.drop_eq_getElem_cons hlt] at e
    have e1 := (List.cons.inj e).1
    have e2 := (List.cons.inj e).2
    have s := step i d ρ (by rw [e1]; exact List.getElem?_eq_getElem hlt) hp
    generalize kTurn fb (fg (.f d) ρ) = o at s ⊢
    refine ⟨?_⟩
    have s := s.go
    cases o with
    | none => exact s
    | some o => cases o with
      | nx ρ2 => exact ⟨i + 1, e2, hlt, s⟩
      | ct ρ2 => exact ⟨i + 1, e2, hlt, s⟩
      | _ => exact s) (ds := ds) (ρ := ρ) ⟨0, rfl, Nat.zero_le _, h⟩
  refine ⟨o, e, h.imp (fun ⟨ρ', e1, i, e2, hi, hp⟩ => ⟨ρ', e1, ?_⟩) id⟩
  have : i = ds.length := by
    rcases Nat.lt_or_ge i ds.length with z | z
    · rw [List.drop_eq_getElem_cons z] at e2; cases e2
    · omega
  rw [← this]
  exact hp
theorem for_idxN (ds : List D) (P : Nat → List T → Prop) (step : ∀ i d ρ, ds[i]? = some d → P i ρ → Wn (P (i + 1)) (fun _ => False) (kTurn fb (fg (.f d) ρ))) {ρ : List T} (h : P 0 ρ) :
    ∃ ρ', forF fg fb ds ρ = some (.nx ρ') ∧ P ds.length ρ' := by
  obtain ⟨o, e, ⟨ρ', rfl, h⟩ | h⟩ := for_idx ds P (fun _ => False) step h
  · exact ⟨ρ', e, h⟩
  · exact h.elim
theorem rangeD_len {lo : Int} {n : Nat} : (rangeD lo n).length = n := by unfold rangeD; rw [List.length_map, List.length_range]
theorem rangeD_at {lo : Int} {n i : Nat} {d : D} (h : (rangeD lo n)[i]? = some d) : i < n ∧ d = .int (lo + i) := by
  unfold rangeD at h
  rw [List.getElem?_map] at h
  obtain ⟨j, e, e2⟩ := Option.map_eq_some_iff.mp h
  have hl := (List.getElem?_eq_some_iff.mp e).1
  rw [List.length_range] at hl
  rw [List.getElem?_range hl] at e
  cases e
  exact ⟨hl, e2.symm⟩
theorem enumD_at : ∀ {ds : List D} {k i : Nat} {d : D}, (enumD k ds)[i]? = some d → ∃ x, ds[i]? = some x ∧ d = .tup [.int ((k + i : Nat) : Int), x]
  | [], _, _, _, h => by simp [enumD] at h
  | x :: ds, k, 0, d, h => ⟨x, rfl, by simpa [enumD] using h.symm⟩
  | x :: ds, k, i + 1, d, h => by
    have h' : (enumD (k + 1) ds)[i]? = some d := by simpa [enumD] using h
    obtain ⟨y, e, r⟩ := enumD_at h'
    exact ⟨y, by simpa using e, by rw [r, show k + 1 + i = k + (i + 1) by omega]⟩
theorem map_at {α : Type} {φ : α → D} {xs : List α} {i : Nat} {d : D} (h : (xs.map φ)[i]? = some d) : ∃ a, xs[i]? = some a ∧ d = φ a := by
  rw [List.getElem?_map] at h
  obtain ⟨a, e, e2⟩ := Option.map_eq_some_iff.mp h
  exact ⟨a, e, e2.symm⟩
theorem at_map {α : Type} {φ : α → D} {xs : List α} {i : Nat} {a : α} (h : xs[i]? = some a) : (xs.map φ)[i]? = some (φ a) := by
  rw [List.getElem?_map, h]
  rfl
/-- over range(n) -/
theorem for_range (n : Nat) (P : Nat → List T → Prop) (step : ∀ (i : Nat) ρ, i < n → P i ρ → Wn (P (i + 1)) (fun _ => False) (kTurn fb (fg (.f (.int (i : Int))) ρ))) {ρ : List T} (h : P 0 ρ) :
    ∃ ρ', forF fg fb (rangeD 0 n) ρ = some (.nx ρ') ∧ P n ρ' := by
  obtain ⟨ρ', e, q⟩ := for_idxN (fg := fg) (fb := fb) (rangeD 0 n) P (fun i d ρ hd hp => by
    obtain ⟨hi, rfl⟩ := rangeD_at hd
    rw [Int.zero_add]
    exact step i ρ hi hp) h
  rw [rangeD_len] at q
  exact ⟨ρ', e, q⟩
/-- over a list's items -/
theorem for_map {α : Type} {φ : α → D} (xs : List α) (P : Nat → List T → Prop) (step : ∀ (i : Nat) a ρ, xs[i]? = some a → P i ρ → Wn (P (i + 1)) (fun _ => False) (kTurn fb (fg (.f (φ a)) ρ))) {ρ : List T} (h : P 0 ρ) :
    ∃ ρ', forF fg fb (xs.map φ) ρ = some (.nx ρ') ∧ P xs.length ρ' := by
  obtain ⟨ρ', e, q⟩ := for_idxN (fg := fg) (fb := fb) (xs.map φ) P (fun i d ρ hd hp => by
    obtain ⟨a, ha, rfl⟩ := map_at hd
    exact step i a ρ ha hp) h
  rw [List.length_map] at q
  exact ⟨ρ', e, q⟩
theorem for_enum {α : Type} {φ : α → D} (xs : List α) (P : Nat → List T → Prop) (step : ∀ (i : Nat) a ρ, xs[i]? = some a → P i ρ → Wn (P (i + 1)) (fun _ => False) (kTurn fb (fg (.f (.tup [.int (i : Int), φ a])) ρ))) {ρ : List T} (h : P 0 ρ) :
    ∃ ρ', forF fg fb (enumD 0 (xs.map φ)) ρ = some (.nx ρ') ∧ P xs.length ρ' := by
  obtain ⟨ρ', e, q⟩ := for_idxN (fg := fg) (fb := fb) (enumD 0 (xs.map φ)) P (fun i d ρ hd hp => by
    obtain ⟨x, hx, rfl⟩ := enumD_at hd
    obtain ⟨a, ha, rfl⟩ := map_at hx
    rw [Nat.zero_add]
    exact step i a ρ ha hp) h
  rw [enumD_len, List.length_map] at q
  exact ⟨ρ', e, q⟩
end
end Z

set_option maxHeartbeats 4000000
set_option exponentiation.threshold 3000
namespace K
open PySem PySem.Spec PyProof.Rows L2 Z
def top (i : Nat) : Stmt := PySem.Challenge.pw_deedloom_k30_deeds_that_lean.main.body.getD i (.Pass ⟨0, 0, 0, 0⟩)
structure Bi (mg : Str → Option Value) : Prop where
  isinstance_ : mg "isinstance" = none
  str_ : mg "str" = none
  int_ : mg "int" = none
  bool_ : mg "bool" = none
  len_ : mg "len" = none
  enumerate_ : mg "enumerate" = none
  range_ : mg "range" = none
  list_ : mg "list" = none
  sum_ : mg "sum" = none
abbrev s_reads : Stmt := top 1
theorem sc_reads : FnScope ["deed", "operands", "operand"] ["deed"] (defScope s_reads) := ⟨rfl, rfl, rfl, by decide +kernel, rfl, by decide +kernel, by decide +kernel⟩
def m_reads_1 : List T → Option T := fVar 2
def n_reads_1 : List T → Option Bool := fT (fIsi "str" (fVar 2))
def b_reads : FS := sSeq (sSet 1 (lift (fSl (fVar 0) (some (fC (.int 2))) none))) (sSeq (sIf (liftB (fT (f2 gEq (f2 gIx (fVar 0) (fC (.int 0))) (fC (.str "tell"))))) (sSet 1 (lift (fSl (fVar 0) (some (fC (.int 1))) none))) (sNil)) (sRet (lift (fLc [2] (jVal (fVar 1)) (gSet 2) (n_reads_1) (m_reads_1)))))
def g_reads : List T → Option Re := runF 1 3 [] b_reads
theorem ok_reads {P : Program} {w : World} {W : Wd} {mg : Str → Option Value} {base : Heap} {f : Addr} {fd : FuncData} (F : Fun W.K "reads" "reads" s_reads f fd) (B : Bi mg) : FnOk P w W.K mg base CX0 1 f fd ["deed"] (spF W [] g_reads) :=
  fnZ F sc_reads (by decide) (by decide) fun _ _ _ _ _ _ hr =>
  sms_cons (sm_s 1 (evo (ev_sl10 (ev_v 0) (ev_int)))) (sms_cons (sm_if (tvo (tv_c c_eq (ev_ix (ev_v 0) (ev_int)) (ev_str))) (sms_one (sm_s 1 (evo (ev_sl10 (ev_v 0) (ev_int))))) (sms_nil)) (sms_one (sm_ret (evo (ev_lc [("operand", 2)] (ip_val (ev_v 1)) (gc_n 2) (tvs_one (tv_val (ev_isi (by intro _; rfl) (fun _ => B.isinstance_) (ev_v 2) (by intro _; rfl) (fun _ => B.str_) (by decide +kernel)) (by intro _ _; rfl))) (ev_v 2))))))
abbrev s_writes : Stmt := top 2
theorem sc_writes : FnScope ["deed"] ["deed"] (defScope s_writes) := ⟨rfl, rfl, rfl, by decide +kernel, rfl, by decide +kernel, by decide +kernel⟩
def b_writes : FS := sSeq (sIf (liftB (fT (f2 gEq (f2 gIx (fVar 0) (fC (.int 0))) (fC (.str "tell"))))) (sRet (lift (fC .non))) (sNil)) (sRet (lift (f2 gIx (fVar 0) (fC (.int 1)))))
def g_writes : List T → Option Re := runF 1 1 [] b_writes
theorem ok_writes {P : Program} {w : World} {W : Wd} {mg : Str → Option Value} {base : Heap} {f : Addr} {fd : FuncData} (F : Fun W.K "writes" "writes" s_writes f fd) (B : Bi mg) : FnOk P w W.K mg base CX0 1 f fd ["deed"] (spF W [] g_writes) :=
  fnZ F sc_writes (by decide) (by decide) fun _ _ _ _ _ _ hr =>
  sms_cons (sm_if (tvo (tv_c c_eq (ev_ix (ev_v 0) (ev_int)) (ev_str))) (sms_one (sm_ret (evo (ev_non)))) (sms_nil)) (sms_one (sm_ret (evo (ev_ix (ev_v 0) (ev_int)))))
abbrev s_gap : Stmt := top 3
theorem sc_gap : FnScope ["deeds", "j", "k", "one", "other", "name"] ["deeds", "j", "k"] (defScope s_gap) := ⟨rfl, rfl, rfl, by decide +kernel, rfl, by decide +kernel, by decide +kernel⟩
def b_gap : FS := sSeq (sSet 3 (lift (f2 gIx (fVar 0) (fVar 1)))) (sSeq (sSet 4 (lift (f2 gIx (fVar 0) (fVar 2)))) (sSeq (sIf (liftB (tAndF (fT (f2 gEq (f2 gIx (fVar 3) (fC (.int 0))) (fC (.str "tell")))) (fT (f2 gEq (f2 gIx (fVar 4) (fC (.int 0))) (fC (.str "tell")))))) (sRet (lift (fC (.int 1)))) (sNil)) (sSeq (sSet 5 (lift (fCallV g_writes (aCons (fVar 3) (aNil))))) (sSeq (sIf (liftB (tAndF (fT (fIsN true (fVar 5))) (tOrF (fT (f2 gIn (fVar 5) (fCallV g_reads (aCons (fVar 4) (aNil))))) (fT (f2 gEq (fVar 5) (fCallV g_writes (aCons (fVar 4) (aNil)))))))) (sRet (lift (fC (.int 1)))) (sNil)) (sSeq (sSet 5 (lift (fCallV g_writes (aCons (fVar 4) (aNil))))) (sSeq (sIf (liftB (tAndF (fT (fIsN true (fVar 5))) (fT (f2 gIn (fVar 5) (fCallV g_reads (aCons (fVar 3) (aNil))))))) (sRet (lift (fC (.int 0)))) (sNil)) (sRet (lift (fC .non)))))))))
def g_gap : List T → Option Re := runF 3 6 [] b_gap
theorem ok_gap {P : Program} {w : World} {W : Wd} {mg : Str → Option Value} {base : Heap} {f : Addr} {fd : FuncData} (F : Fun W.K "gap" "gap" s_gap f fd) (B : Bi mg) (C_reads : Cl P w W mg base CX0 1 "reads" [] g_reads) (C_writes : Cl P w W mg base CX0 1 "writes" [] g_writes) : FnOk P w W.K mg base CX0 2 f fd ["deeds", "j", "k"] (spF W [] g_gap) :=
  fnZ F sc_gap (by decide) (by decide) fun _ _ _ _ _ _ hr =>
  sms_cons (sm_s 3 (evo (ev_ix (ev_v 0) (ev_v 1)))) (sms_cons (sm_s 4 (evo (ev_ix (ev_v 0) (ev_v 2)))) (sms_cons (sm_if (tvo (wvt (wv_and (tv_c c_eq (ev_ix (ev_v 3) (ev_int)) (ev_str)) (wv_and1 (tv_c c_eq (ev_ix (ev_v 4) (ev_int)) (ev_str)))))) (sms_one (sm_ret (evo (ev_int)))) (sms_nil)) (sms_cons (sm_s 5 (evo (ev_call (fun _ => C_writes) (by exact Nat.le_of_ble_eq_true rfl) (by intro _; rfl) (E := E0) (fun _ => pass0') (av_cons (ev_v 3) (av_nil))))) (sms_cons (sm_if (tvo (wvt (wv_and (tv_notN (ev_v 5)) (wv_and1 (wvt (wv_or (tv_c c_in (ev_v 5) (ev_call (fun _ => C_reads) (by exact Nat.le_of_ble_eq_true rfl) (by intro _; rfl) (E := E0) (fun _ => pass0') (av_cons (ev_v 4) (av_nil)))) (wv_or1 (tv_c c_eq (ev_v 5) (ev_call (fun _ => C_writes) (by exact Nat.le_of_ble_eq_true rfl) (by intro _; rfl) (E := E0) (fun _ => pass0') (av_cons (ev_v 4) (av_nil))))))))))) (sms_one (sm_ret (evo (ev_int)))) (sms_nil)) (sms_cons (sm_s 5 (evo (ev_call (fun _ => C_writes) (by exact Nat.le_of_ble_eq_true rfl) (by intro _; rfl) (E := E0) (fun _ => pass0') (av_cons (ev_v 4) (av_nil))))) (sms_cons (sm_if (tvo (wvt (wv_and (tv_notN (ev_v 5)) (wv_and1 (tv_c c_in (ev_v 5) (ev_call (fun _ => C_reads) (by exact Nat.le_of_ble_eq_true rfl) (by intro _; rfl) (E := E0) (fun _ => pass0') (av_cons (ev_v 3) (av_nil)))))))) (sms_one (sm_ret (evo (ev_int)))) (sms_nil)) (sms_one (sm_ret (evo (ev_non))))))))))
abbrev s_law_whole : Stmt := top 5
theorem sc_law_whole : FnScope ["_law_found"] ["_law_found"] (defScope s_law_whole) := ⟨rfl, rfl, rfl, by decide +kernel, rfl, by decide +kernel, by decide +kernel⟩
def b_law_whole : FS := sRet (lift (fAnd (fIsi "int" (fVar 0)) (fNot (fIsi "bool" (fVar 0)))))
def g_law_whole : List T → Option Re := runF 1 1 [] b_law_whole
theorem ok_law_whole {P : Program} {w : World} {W : Wd} {mg : Str → Option Value} {base : Heap} {f : Addr} {fd : FuncData} (F : Fun W.K "_law_whole" "_law_whole" s_law_whole f fd) (B : Bi mg) : FnOk P w W.K mg base CX0 1 f fd ["_law_found"] (spF W [] g_law_whole) :=
  fnZ F sc_law_whole (by decide) (by decide) fun _ _ _ _ _ _ hr =>
  sms_one (sm_ret (evo (ev_and (ev_isi (by intro _; rfl) (fun _ => B.isinstance_) (ev_v 0) (by intro _; rfl) (fun _ => B.int_) (by decide +kernel)) (ev_one (ev_not (ev_isi (by intro _; rfl) (fun _ => B.isinstance_) (ev_v 0) (by intro _; rfl) (fun _ => B.bool_) (by decide +kernel)))))))
abbrev s_law_mixed : Stmt := top 6
theorem sc_law_mixed : FnScope ["_law_cell", "_law_k", "_law_number"] ["_law_cell", "_law_k"] (defScope s_law_mixed) := ⟨rfl, rfl, rfl, by decide +kernel, rfl, by decide +kernel, by decide +kernel⟩
def b_law_mixed : FS := sSeq (sIf (liftB (fT (f2 gGe (fVar 0) (f2 gPow (fC (.int 10)) (fC (.int 40)))))) (sRet (lift (f2 gMod (f2 gDiv (f2 gSub (fVar 0) (f2 gPow (fC (.int 10)) (fC (.int 40)))) (f2 gShl (fC (.int 1)) (f2 gMul (fC (.int 100)) (f2 gMod (fVar 1) (fC (.int 60)))))) (f2 gShl (fC (.int 1)) (fC (.int 100)))))) (sNil)) (sSeq (sSet 2 (lift (f2 gMod (f2 gMul (f2 gAdd (f2 gAdd (f2 gAdd (f2 gMul (fVar 0) (fVar 0)) (f2 gMul (fC (.int 3)) (fVar 0))) (f2 gMul (fC (.int 7919)) (fVar 1))) (fC (.int 1))) (fC (.int 48271))) (fC (.int 2147483629))))) (sRet (lift (f2 gMod (f2 gAdd (f2 gMul (fVar 2) (fVar 2)) (fC (.int 7))) (fC (.int 2147483587))))))
def g_law_mixed : List T → Option Re := runF 2 3 [] b_law_mixed
theorem ok_law_mixed {P : Program} {w : World} {W : Wd} {mg : Str → Option Value} {base : Heap} {f : Addr} {fd : FuncData} (F : Fun W.K "_law_mixed" "_law_mixed" s_law_mixed f fd) (B : Bi mg) : FnOk P w W.K mg base CX0 1 f fd ["_law_cell", "_law_k"] (spF W [] g_law_mixed) :=
  fnZ F sc_law_mixed (by decide) (by decide) fun _ _ _ _ _ _ hr =>
  sms_cons (sm_if (tvo (tv_c c_ge (ev_v 0) (ev_pow (ev_int) (ev_int)))) (sms_one (sm_ret (evo (ev_mod (ev_div (ev_sub (ev_v 0) (ev_pow (ev_int) (ev_int))) (ev_shl (ev_int) (ev_mul (ev_int) (ev_mod (ev_v 1) (ev_int))))) (ev_shl (ev_int) (ev_int)))))) (sms_nil)) (sms_cons (sm_s 2 (evo (ev_mod (ev_mul (ev_add (ev_add (ev_add (ev_mul (ev_v 0) (ev_v 0)) (ev_mul (ev_int) (ev_v 0))) (ev_mul (ev_int) (ev_v 1))) (ev_int)) (ev_int)) (ev_int)))) (sms_one (sm_ret (evo (ev_mod (ev_add (ev_mul (ev_v 2) (ev_v 2)) (ev_int)) (ev_int))))))
abbrev s_law_operand : Stmt := top 7
theorem sc_law_operand : FnScope ["_law_mixed_here", "_law_names", "_law_width"] ["_law_mixed_here", "_law_names", "_law_width"] (defScope s_law_operand) := ⟨rfl, rfl, rfl, by decide +kernel, rfl, by decide +kernel, by decide +kernel⟩
def b_law_operand : FS := sSeq (sIf (liftB (tAndF (fT (f2 gGt (f2 gMod (fVar 0) (fC (.int 3))) (fC (.int 0)))) (fT (f2 gGt (fN gLen (aCons (fVar 1) (aNil))) (fC (.int 0)))))) (sRet (lift (f2 gIx (fVar 1) (f2 gMod (f2 gDiv (fVar 0) (fC (.int 3))) (fN gLen (aCons (fVar 1) (aNil))))))) (sNil)) (sRet (lift (f2 gMod (f2 gDiv (fVar 0) (fC (.int 3))) (f2 gShl (fC (.int 1)) (fVar 2)))))
def g_law_operand : List T → Option Re := runF 3 3 [] b_law_operand
theorem ok_law_operand {P : Program} {w : World} {W : Wd} {mg : Str → Option Value} {base : Heap} {f : Addr} {fd : FuncData} (F : Fun W.K "_law_operand" "_law_operand" s_law_operand f fd) (B : Bi mg) : FnOk P w W.K mg base CX0 1 f fd ["_law_mixed_here", "_law_names", "_law_width"] (spF W [] g_law_operand) :=
  fnZ F sc_law_operand (by decide) (by decide) fun _ _ _ _ _ _ hr =>
  sms_cons (sm_if (tvo (wvt (wv_and (tv_c c_gt (ev_mod (ev_v 0) (ev_int)) (ev_int)) (wv_and1 (tv_c c_gt (ev_callB (fun j => callLen j) sn_len (by intro _; rfl) (fun _ => B.len_) (by decide +kernel) (av_cons (ev_v 1) (av_nil))) (ev_int)))))) (sms_one (sm_ret (evo (ev_ix (ev_v 1) (ev_mod (ev_div (ev_v 0) (ev_int)) (ev_callB (fun j => callLen j) sn_len (by intro _; rfl) (fun _ => B.len_) (by decide +kernel) (av_cons (ev_v 1) (av_nil)))))))) (sms_nil)) (sms_one (sm_ret (evo (ev_mod (ev_div (ev_v 0) (ev_int)) (ev_shl (ev_int) (ev_v 2))))))
abbrev s_law_deed : Stmt := top 8
theorem sc_law_deed : FnScope ["_law_mixed_here", "_law_names", "_law_width", "_law_one", "_law_name", "_law_op"] ["_law_mixed_here", "_law_names", "_law_width"] (defScope s_law_deed) := ⟨rfl, rfl, rfl, by decide +kernel, rfl, by decide +kernel, by decide +kernel⟩
def b_law_deed : FS := sSeq (sSet 3 (lift (fCallV g_law_operand (aCons (f2 gDiv (fVar 0) (fC (.int 16))) (aCons (fVar 1) (aCons (fVar 2) (aNil))))))) (sSeq (sIf (liftB (tOrF (fT (f2 gEq (f2 gMod (fVar 0) (fC (.int 9))) (fC (.int 0)))) (fT (f2 gEq (fN gLen (aCons (fVar 1) (aNil))) (fC (.int 0)))))) (sRet (lift (fN gTup (aCons (fC (.str "tell")) (aCons (fVar 3) (aNil)))))) (sNil)) (sSeq (sSet 4 (lift (f2 gIx (fVar 1) (f2 gMod (f2 gDiv (fVar 0) (fC (.int 7))) (fN gLen (aCons (fVar 1) (aNil))))))) (sSeq (sIf (liftB (fT (f2 gEq (f2 gMod (fVar 0) (fC (.int 9))) (fC (.int 1))))) (sRet (lift (fN gTup (aCons (fC (.str "copy")) (aCons (fVar 4) (aCons (fVar 3) (aNil))))))) (sNil)) (sSeq (sSet 5 (lift (f2 gIx (fN gLst (aCons (fC (.str "plus")) (aCons (fC (.str "less")) (aCons (fC (.str "and")) (aCons (fC (.str "or")) (aCons (fC (.str "xor")) (aCons (fC (.str "below")) (aCons (fC (.str "same")) (aNil))))))))) (f2 gSub (f2 gMod (fVar 0) (fC (.int 9))) (fC (.int 2)))))) (sRet (lift (fN gTup (aCons (fVar 5) (aCons (fVar 4) (aCons (fVar 3) (aCons (fCallV g_law_operand (aCons (f2 gDiv (fVar 0) (fC (.int 1009))) (aCons (fVar 1) (aCons (fVar 2) (aNil))))) (aNil))))))))))))
def g_law_deed : List T → Option Re := runF 3 6 [] b_law_deed
theorem ok_law_deed {P : Program} {w : World} {W : Wd} {mg : Str → Option Value} {base : Heap} {f : Addr} {fd : FuncData} (F : Fun W.K "_law_deed" "_law_deed" s_law_deed f fd) (B : Bi mg) (C_law_operand : Cl P w W mg base CX0 1 "_law_operand" [] g_law_operand) : FnOk P w W.K mg base CX0 2 f fd ["_law_mixed_here", "_law_names", "_law_width"] (spF W [] g_law_deed) :=
  fnZ F sc_law_deed (by decide) (by decide) fun _ _ _ _ _ _ hr =>
  sms_cons (sm_s 3 (evo (ev_call (fun _ => C_law_operand) (by exact Nat.le_of_ble_eq_true rfl) (by intro _; rfl) (E := E0) (fun _ => pass0') (av_cons (ev_div (ev_v 0) (ev_int)) (av_cons (ev_v 1) (av_cons (ev_v 2) (av_nil))))))) (sms_cons (sm_if (tvo (wvt (wv_or (tv_c c_eq (ev_mod (ev_v 0) (ev_int)) (ev_int)) (wv_or1 (tv_c c_eq (ev_callB (fun j => callLen j) sn_len (by intro _; rfl) (fun _ => B.len_) (by decide +kernel) (av_cons (ev_v 1) (av_nil))) (ev_int)))))) (sms_one (sm_ret (evo (ev_tup (av_cons (ev_str) (av_cons (ev_v 3) (av_nil))))))) (sms_nil)) (sms_cons (sm_s 4 (evo (ev_ix (ev_v 1) (ev_mod (ev_div (ev_v 0) (ev_int)) (ev_callB (fun j => callLen j) sn_len (by intro _; rfl) (fun _ => B.len_) (by decide +kernel) (av_cons (ev_v 1) (av_nil))))))) (sms_cons (sm_if (tvo (tv_c c_eq (ev_mod (ev_v 0) (ev_int)) (ev_int))) (sms_one (sm_ret (evo (ev_tup (av_cons (ev_str) (av_cons (ev_v 4) (av_cons (ev_v 3) (av_nil)))))))) (sms_nil)) (sms_cons (sm_s 5 (evo (ev_ix (ev_lst (av_cons (ev_str) (av_cons (ev_str) (av_cons (ev_str) (av_cons (ev_str) (av_cons (ev_str) (av_cons (ev_str) (av_cons (ev_str) (av_nil))))))))) (ev_sub (ev_mod (ev_v 0) (ev_int)) (ev_int))))) (sms_one (sm_ret (evo (ev_tup (av_cons (ev_v 5) (av_cons (ev_v 4) (av_cons (ev_v 3) (av_cons (ev_call (fun _ => C_law_operand) (by exact Nat.le_of_ble_eq_true rfl) (by intro _; rfl) (E := E0) (fun _ => pass0') (av_cons (ev_div (ev_v 0) (ev_int)) (av_cons (ev_v 1) (av_cons (ev_v 2) (av_nil))))) (av_nil)))))))))))))
abbrev s_law_reads : Stmt := top 9
theorem sc_law_reads : FnScope ["_law_deed_here", "_law_operands", "_law_one"] ["_law_deed_here"] (defScope s_law_reads) := ⟨rfl, rfl, rfl, by decide +kernel, rfl, by decide +kernel, by decide +kernel⟩
def m_law_reads_1 : List T → Option T := fVar 2
def n_law_reads_1 : List T → Option Bool := fT (fIsi "str" (fVar 2))
def b_law_reads : FS := sSeq (sSet 1 (lift (fSl (fVar 0) (some (fC (.int 2))) none))) (sSeq (sIf (liftB (fT (f2 gEq (f2 gIx (fVar 0) (fC (.int 0))) (fC (.str "tell"))))) (sSet 1 (lift (fSl (fVar 0) (some (fC (.int 1))) none))) (sNil)) (sRet (lift (fLc [2] (jVal (fVar 1)) (gSet 2) (n_law_reads_1) (m_law_reads_1)))))
def g_law_reads : List T → Option Re := runF 1 3 [] b_law_reads
theorem ok_law_reads {P : Program} {w : World} {W : Wd} {mg : Str → Option Value} {base : Heap} {f : Addr} {fd : FuncData} (F : Fun W.K "_law_reads" "_law_reads" s_law_reads f fd) (B : Bi mg) : FnOk P w W.K mg base CX0 1 f fd ["_law_deed_here"] (spF W [] g_law_reads) :=
  fnZ F sc_law_reads (by decide) (by decide) fun _ _ _ _ _ _ hr =>
  sms_cons (sm_s 1 (evo (ev_sl10 (ev_v 0) (ev_int)))) (sms_cons (sm_if (tvo (tv_c c_eq (ev_ix (ev_v 0) (ev_int)) (ev_str))) (sms_one (sm_s 1 (evo (ev_sl10 (ev_v 0) (ev_int))))) (sms_nil)) (sms_one (sm_ret (evo (ev_lc [("_law_one", 2)] (ip_val (ev_v 1)) (gc_n 2) (tvs_one (tv_val (ev_isi (by intro _; rfl) (fun _ => B.isinstance_) (ev_v 2) (by intro _; rfl) (fun _ => B.str_) (by decide +kernel)) (by intro _ _; rfl))) (ev_v 2))))))
abbrev s_law_gap : Stmt := top 10
theorem sc_law_gap : FnScope ["_law_one", "_law_other"] ["_law_one", "_law_other"] (defScope s_law_gap) := ⟨rfl, rfl, rfl, by decide +kernel, rfl, by decide +kernel, by decide +kernel⟩
def b_law_gap : FS := sSeq (sIf (liftB (fT (f2 gEq (f2 gIx (fVar 0) (fC (.int 0))) (fC (.str "tell"))))) (sIf (liftB (fT (f2 gEq (f2 gIx (fVar 1) (fC (.int 0))) (fC (.str "tell"))))) (sRet (lift (fC (.int 1)))) (sNil)) (sIf (liftB (fT (f2 gIn (f2 gIx (fVar 0) (fC (.int 1))) (fCallV g_law_reads (aCons (fVar 1) (aNil)))))) (sRet (lift (fC (.int 1)))) (sNil))) (sSeq (sIf (liftB (fT (f2 gEq (f2 gIx (fVar 1) (fC (.int 0))) (fC (.str "tell"))))) (sRet (lift (fC .non))) (sNil)) (sSeq (sIf (liftB (tAndF (fT (f2 gNe (f2 gIx (fVar 0) (fC (.int 0))) (fC (.str "tell")))) (fT (f2 gEq (f2 gIx (fVar 0) (fC (.int 1))) (f2 gIx (fVar 1) (fC (.int 1))))))) (sRet (lift (fC (.int 1)))) (sNil)) (sSeq (sIf (liftB (fT (f2 gIn (f2 gIx (fVar 1) (fC (.int 1))) (fCallV g_law_reads (aCons (fVar 0) (aNil)))))) (sRet (lift (fC (.int 0)))) (sNil)) (sRet (lift (fC .non))))))
def g_law_gap : List T → Option Re := runF 2 2 [] b_law_gap
theorem ok_law_gap {P : Program} {w : World} {W : Wd} {mg : Str → Option Value} {base : Heap} {f : Addr} {fd : FuncData} (F : Fun W.K "_law_gap" "_law_gap" s_law_gap f fd) (B : Bi mg) (C_law_reads : Cl P w W mg base CX0 1 "_law_reads" [] g_law_reads) : FnOk P w W.K mg base CX0 2 f fd ["_law_one", "_law_other"] (spF W [] g_law_gap) :=
  fnZ F sc_law_gap (by decide) (by decide) fun _ _ _ _ _ _ hr =>
  sms_cons (sm_if (tvo (tv_c c_eq (ev_ix (ev_v 0) (ev_int)) (ev_str))) (sms_one (sm_if (tvo (tv_c c_eq (ev_ix (ev_v 1) (ev_int)) (ev_str))) (sms_one (sm_ret (evo (ev_int)))) (sms_nil))) (sms_one (sm_if (tvo (tv_c c_in (ev_ix (ev_v 0) (ev_int)) (ev_call (fun _ => C_law_reads) (by exact Nat.le_of_ble_eq_true rfl) (by intro _; rfl) (E := E0) (fun _ => pass0') (av_cons (ev_v 1) (av_nil))))) (sms_one (sm_ret (evo (ev_int)))) (sms_nil)))) (sms_cons (sm_if (tvo (tv_c c_eq (ev_ix (ev_v 1) (ev_int)) (ev_str))) (sms_one (sm_ret (evo (ev_non)))) (sms_nil)) (sms_cons (sm_if (tvo (wvt (wv_and (tv_c c_ne (ev_ix (ev_v 0) (ev_int)) (ev_str)) (wv_and1 (tv_c c_eq (ev_ix (ev_v 0) (ev_int)) (ev_ix (ev_v 1) (ev_int))))))) (sms_one (sm_ret (evo (ev_int)))) (sms_nil)) (sms_cons (sm_if (tvo (tv_c c_in (ev_ix (ev_v 1) (ev_int)) (ev_call (fun _ => C_law_reads) (by exact Nat.le_of_ble_eq_true rfl) (by intro _; rfl) (E := E0) (fun _ => pass0') (av_cons (ev_v 0) (av_nil))))) (sms_one (sm_ret (evo (ev_int)))) (sms_nil)) (sms_one (sm_ret (evo (ev_non)))))))
abbrev s_law_deeds : Stmt := top 11
theorem sc_law_deeds : FnScope ["_law_cells", "_law_most", "_law_boxes", "_law_deeds_here", "_law_k", "_law_cell"] ["_law_cells", "_law_most", "_law_boxes"] (defScope s_law_deeds) := ⟨rfl, rfl, rfl, by decide +kernel, rfl, by decide +kernel, by decide +kernel⟩
def l_law_deeds_1 : FS := sApp 3 pHere (fCallV g_law_deed (aCons (fCallV g_law_mixed (aCons (fVar 5) (aCons (fVar 4) (aNil)))) (aCons (fSl (fN gLst (aCons (fC (.str "a")) (aCons (fC (.str "bb")) (aCons (fC (.str "bc")) (aCons (fC (.str "dddddd")) (aCons (fC (.str "x")) (aCons (fC (.str "y")) (aNil)))))))) none (some (fVar 2))) (aCons (fC (.int 4)) (aNil)))))
def b_law_deeds : FS := sSeq (sSet 3 (fNewL (aNil))) (sSeq (sFor (iL1 (enumD 0) (aCons (fSl (fVar 0) none (some (fVar 1))) (aNil))) (gTupT 2 (gsCons (gSet 4) (gsCons (gSet 5) (gsNil)))) (l_law_deeds_1)) (sRet (fFz (fMv 3))))
def g_law_deeds : List T → Option Re := runF 3 6 [] b_law_deeds
theorem ok_law_deeds {P : Program} {w : World} {W : Wd} {mg : Str → Option Value} {base : Heap} {f : Addr} {fd : FuncData} (F : Fun W.K "_law_deeds" "_law_deeds" s_law_deeds f fd) (B : Bi mg) (C_law_deed : Cl P w W mg base CX0 2 "_law_deed" [] g_law_deed) (C_law_mixed : Cl P w W mg base CX0 1 "_law_mixed" [] g_law_mixed) : FnOk P w W.K mg base CX0 3 f fd ["_law_cells", "_law_most", "_law_boxes"] (spF W [] g_law_deeds) :=
  fnZ F sc_law_deeds (by decide) (by decide) fun _ _ _ _ _ _ hr =>
  sms_cons (sm_s 3 (eo_newl (av_nil))) (sms_cons (sm_for (fun _ => PassesOwn.never) (iw_enum (by intro _; rfl) (fun _ => B.enumerate_) (av_cons (ev_sl01 (ev_v 0) (ev_v 1)) (av_nil))) (gt_tup (gts_cons (gt_n 4) (gts_cons (gt_n 5) (gts_nil)))) (sms_one (sm_app (lo_v 3) (ev_call (fun _ => C_law_deed) (by exact Nat.le_of_ble_eq_true rfl) (by intro _; rfl) (E := E0) (fun _ => pass0') (av_cons (ev_call (fun _ => C_law_mixed) (by exact Nat.le_of_ble_eq_true rfl) (by intro _; rfl) (E := E0) (fun _ => pass0') (av_cons (ev_v 5) (av_cons (ev_v 4) (av_nil)))) (av_cons (ev_sl01 (ev_lst (av_cons (ev_str) (av_cons (ev_str) (av_cons (ev_str) (av_cons (ev_str) (av_cons (ev_str) (av_cons (ev_str) (av_nil)))))))) (ev_v 2)) (av_cons (ev_int) (av_nil)))))))) (sms_one (sm_ret (eo_fz (eo_m 3)))))
abbrev s_law : Stmt := top 12
theorem sc_law : FnScope ["_law_script", "_law_first", "_law_deeds_here", "_law_handed", "_law_k", "_law_j", "_law_due", "_law_found"] ["_law_script"] (defScope s_law) := ⟨rfl, rfl, rfl, by decide +kernel, rfl, by decide +kernel, by decide +kernel⟩
def l_law_2 : FS := sSeq (sSet 6 (lift (fCallV g_law_gap (aCons (f2 gIx (fVar 2) (fVar 5)) (aCons (f2 gIx (fVar 2) (fVar 4)) (aNil)))))) (sSeq (sSet 7 (lift (fCallV g_gap (aCons (fVar 3) (aCons (fVar 5) (aCons (fVar 4) (aNil))))))) (sIf (liftB (fT (fIsN false (fVar 6)))) (sIf (liftB (fT (fIsN true (fVar 7)))) (sRet (lift (fC (.bl false)))) (sNil)) (sIf (liftB (tOrF (tNotF (fT (fCallV g_law_whole (aCons (fVar 7) (aNil))))) (fT (f2 gNe (fVar 7) (fVar 6))))) (sRet (lift (fC (.bl false)))) (sNil))))
def l_law_1 : FS := sFor (iR1 (aCons (fVar 4) (aNil))) (gSet 5) (l_law_2)
def b_law : FS := sSeq (sSet 1 (lift (fN gSum (aCons (fSl (fVar 0) none (some (fC (.int 63)))) (aNil))))) (sSeq (sSet 2 (lift (fCallV g_law_deeds (aCons (fSl (fVar 0) none (some (fC (.int 63)))) (aCons (f2 gMod (fVar 1) (fC (.int 9))) (aCons (f2 gAdd (fC (.int 1)) (f2 gMod (f2 gDiv (fVar 1) (fC (.int 9))) (fC (.int 6)))) (aNil))))))) (sSeq (sSet 3 (lift (fN gList (aCons (fVar 2) (aNil))))) (sSeq (sFor (iR1 (aCons (fN gLen (aCons (fVar 2) (aNil))) (aNil))) (gSet 4) (l_law_1)) (sRet (lift (f2 gEq (fVar 3) (fVar 2)))))))
def g_law : List T → Option Re := runF 1 8 [] b_law
theorem ok_law {P : Program} {w : World} {W : Wd} {mg : Str → Option Value} {base : Heap} {f : Addr} {fd : FuncData} (F : Fun W.K "law" "law" s_law f fd) (B : Bi mg) (C_law_whole : Cl P w W mg base CX0 1 "_law_whole" [] g_law_whole) (C_gap : Cl P w W mg base CX0 2 "gap" [] g_gap) (C_law_gap : Cl P w W mg base CX0 2 "_law_gap" [] g_law_gap) (C_law_deeds : Cl P w W mg base CX0 3 "_law_deeds" [] g_law_deeds) : FnOk P w W.K mg base CX0 4 f fd ["_law_script"] (spF W [] g_law) :=
  fnZ F sc_law (by decide) (by decide) fun _ _ _ _ _ _ hr =>
  sms_cons (sm_s 1 (evo (ev_callB (fun j => callSum j) sn_sum (by intro _; rfl) (fun _ => B.sum_) (by decide +kernel) (av_cons (ev_sl01 (ev_v 0) (ev_int)) (av_nil))))) (sms_cons (sm_s 2 (evo (ev_call (fun _ => C_law_deeds) (by exact Nat.le_of_ble_eq_true rfl) (by intro _; rfl) (E := E0) (fun _ => pass0') (av_cons (ev_sl01 (ev_v 0) (ev_int)) (av_cons (ev_mod (ev_v 1) (ev_int)) (av_cons (ev_add (ev_int) (ev_mod (ev_div (ev_v 1) (ev_int)) (ev_int))) (av_nil))))))) (sms_cons (sm_s 3 (evo (ev_callTy (fun j => callList j) sn_list (by intro _; rfl) (fun _ => B.list_) (by decide +kernel) (av_cons (ev_v 2) (av_nil))))) (sms_cons (sm_for (fun _ => PassesOwn.never) (iw_range1 (by intro _; rfl) (fun _ => B.range_) (av_cons (ev_callB (fun j => callLen j) sn_len (by intro _; rfl) (fun _ => B.len_) (by decide +kernel) (av_cons (ev_v 2) (av_nil))) (av_nil))) (gt_n 4) (sms_one (sm_for (fun _ => PassesOwn.never) (iw_range1 (by intro _; rfl) (fun _ => B.range_) (av_cons (ev_v 4) (av_nil))) (gt_n 5) (sms_cons (sm_s 6 (evo (ev_call (fun _ => C_law_gap) (by exact Nat.le_of_ble_eq_true rfl) (by intro _; rfl) (E := E0) (fun _ => pass0') (av_cons (ev_ix (ev_v 2) (ev_v 5)) (av_cons (ev_ix (ev_v 2) (ev_v 4)) (av_nil)))))) (sms_cons (sm_s 7 (evo (ev_call (fun _ => C_gap) (by exact Nat.le_of_ble_eq_true rfl) (by intro _; rfl) (E := E0) (fun _ => pass0') (av_cons (ev_v 3) (av_cons (ev_v 5) (av_cons (ev_v 4) (av_nil))))))) (sms_one (sm_if (tvo (tv_isN (ev_v 6))) (sms_one (sm_if (tvo (tv_notN (ev_v 7))) (sms_one (sm_ret (evo (ev_bl)))) (sms_nil))) (sms_one (sm_if (tvo (wvt (wv_or (tv_not (tv_val (ev_call (fun _ => C_law_whole) (by exact Nat.le_of_ble_eq_true rfl) (by intro _; rfl) (E := E0) (fun _ => pass0') (av_cons (ev_v 7) (av_nil))) (by intro _ _; rfl))) (wv_or1 (tv_c c_ne (ev_v 7) (ev_v 6)))))) (sms_one (sm_ret (evo (ev_bl)))) (sms_nil)))))))))) (sms_one (sm_ret (evo (ev_c c_eq (ev_v 3) (ev_v 2))))))))
theorem all_mk {l : PySem.W.OpenLaw} {w : World} {K : PySem.W.Frag} {h : Heap} {mg : Str → Option Value} {fa f1 f2 f3 f4 f5 f6 f7 f8 f9 f10 f11 : Addr} (X : K.In h) (G : h.Ns mainGlobals mg) (hfa : mg "law" = some (.ref fa))
    {od1 an1 od2 an2 od3 an3 od4 an4 od5 an5 od6 an6 od7 an7 od8 an8 od9 an9 od10 an10 od11 an11 : Option Addr} {sl1 sl2 sl3 sl4 sl5 sl6 sl7 sl8 sl9 sl10 sl11 : Array (Option Value)} {oc1 kV1 dc1 pm1 cd1 ct1 oc2 kV2 dc2 pm2 cd2 ct2 oc3 kV3 dc3 pm3 cd3 ct3 oc4 kV4 dc4 pm4 cd4 ct4 oc5 kV5 dc5 pm5 cd5 ct5 oc6 kV6 dc6 pm6 cd6 ct6 oc7 kV7 dc7 pm7 cd7 ct7 oc8 kV8 dc8 pm8 cd8 ct8 oc9 kV9 dc9 pm9 cd9 ct9 oc10 kV10 dc10 pm10 cd10 ct10 oc11 kV11 dc11 pm11 cd11 ct11 : Value}
    (a1 : PySem.W.nsIn K mainGlobals "reads" = some (some (.ref f1))) (l1 : K.lookup f1 = some ⟨oc1, od1, .func (PySem.W.fnOf "reads" "reads" (defArgs s_reads) (defBody s_reads) (defScope s_reads) .none kV1 dc1 pm1 an1 cd1 ct1), sl1⟩) (c1 : PySem.W.codeIn K cd1 "reads" = true) (k1 : PySem.W.keepIn K (.ref f1) = true)
    (a2 : PySem.W.nsIn K mainGlobals "writes" = some (some (.ref f2))) (l2 : K.lookup f2 = some ⟨oc2, od2, .func (PySem.W.fnOf "writes" "writes" (defArgs s_writes) (defBody s_writes) (defScope s_writes) .none kV2 dc2 pm2 an2 cd2 ct2), sl2⟩) (c2 : PySem.W.codeIn K cd2 "writes" = true) (k2 : PySem.W.keepIn K (.ref f2) = true)
    (a3 : PySem.W.nsIn K mainGlobals "gap" = some (some (.ref f3))) (l3 : K.lookup f3 = some ⟨oc3, od3, .func (PySem.W.fnOf "gap" "gap" (defArgs s_gap) (defBody s_gap) (defScope s_gap) .none kV3 dc3 pm3 an3 cd3 ct3), sl3⟩) (c3 : PySem.W.codeIn K cd3 "gap" = true) (k3 : PySem.W.keepIn K (.ref f3) = true)
    (a4 : PySem.W.nsIn K mainGlobals "_law_whole" = some (some (.ref f4))) (l4 : K.lookup f4 = some ⟨oc4, od4, .func (PySem.W.fnOf "_law_whole" "_law_whole" (defArgs s_law_whole) (defBody s_law_whole) (defScope s_law_whole) .none kV4 dc4 pm4 an4 cd4 ct4), sl4⟩) (c4 : PySem.W.codeIn K cd4 "_law_whole" = true) (k4 : PySem.W.keepIn K (.ref f4) = true)
    (a5 : PySem.W.nsIn K mainGlobals "_law_mixed" = some (some (.ref f5))) (l5 : K.lookup f5 = some ⟨oc5, od5, .func (PySem.W.fnOf "_law_mixed" "_law_mixed" (defArgs s_law_mixed) (defBody s_law_mixed) (defScope s_law_mixed) .none kV5 dc5 pm5 an5 cd5 ct5), sl5⟩) (c5 : PySem.W.codeIn K cd5 "_law_mixed" = true) (k5 : PySem.W.keepIn K (.ref f5) = true)
    (a6 : PySem.W.nsIn K mainGlobals "_law_operand" = some (some (.ref f6))) (l6 : K.lookup f6 = some ⟨oc6, od6, .func (PySem.W.fnOf "_law_operand" "_law_operand" (defArgs s_law_operand) (defBody s_law_operand) (defScope s_law_operand) .none kV6 dc6 pm6 an6 cd6 ct6), sl6⟩) (c6 : PySem.W.codeIn K cd6 "_law_operand" = true) (k6 : PySem.W.keepIn K (.ref f6) = true)
    (a7 : PySem.W.nsIn K mainGlobals "_law_deed" = some (some (.ref f7))) (l7 : K.lookup f7 = some ⟨oc7, od7, .func (PySem.W.fnOf "_law_deed" "_law_deed" (defArgs s_law_deed) (defBody s_law_deed) (defScope s_law_deed) .none kV7 dc7 pm7 an7 cd7 ct7), sl7⟩) (c7 : PySem.W.codeIn K cd7 "_law_deed" = true) (k7 : PySem.W.keepIn K (.ref f7) = true)
    (a8 : PySem.W.nsIn K mainGlobals "_law_reads" = some (some (.ref f8))) (l8 : K.lookup f8 = some ⟨oc8, od8, .func (PySem.W.fnOf "_law_reads" "_law_reads" (defArgs s_law_reads) (defBody s_law_reads) (defScope s_law_reads) .none kV8 dc8 pm8 an8 cd8 ct8), sl8⟩) (c8 : PySem.W.codeIn K cd8 "_law_reads" = true) (k8 : PySem.W.keepIn K (.ref f8) = true)
    (a9 : PySem.W.nsIn K mainGlobals "_law_gap" = some (some (.ref f9))) (l9 : K.lookup f9 = some ⟨oc9, od9, .func (PySem.W.fnOf "_law_gap" "_law_gap" (defArgs s_law_gap) (defBody s_law_gap) (defScope s_law_gap) .none kV9 dc9 pm9 an9 cd9 ct9), sl9⟩) (c9 : PySem.W.codeIn K cd9 "_law_gap" = true) (k9 : PySem.W.keepIn K (.ref f9) = true)
    (a10 : PySem.W.nsIn K mainGlobals "_law_deeds" = some (some (.ref f10))) (l10 : K.lookup f10 = some ⟨oc10, od10, .func (PySem.W.fnOf "_law_deeds" "_law_deeds" (defArgs s_law_deeds) (defBody s_law_deeds) (defScope s_law_deeds) .none kV10 dc10 pm10 an10 cd10 ct10), sl10⟩) (c10 : PySem.W.codeIn K cd10 "_law_deeds" = true) (k10 : PySem.W.keepIn K (.ref f10) = true)
    (a11 : PySem.W.nsIn K mainGlobals "law" = some (some (.ref f11))) (l11 : K.lookup f11 = some ⟨oc11, od11, .func (PySem.W.fnOf "law" "law" (defArgs s_law) (defBody s_law) (defScope s_law) .none kV11 dc11 pm11 an11 cd11 ct11), sl11⟩) (c11 : PySem.W.codeIn K cd11 "law" = true) (k11 : PySem.W.keepIn K (.ref f11) = true)
    (z_isinstance : PySem.W.nsIn K mainGlobals "isinstance" = some none)
    (z_str : PySem.W.nsIn K mainGlobals "str" = some none)
    (z_int : PySem.W.nsIn K mainGlobals "int" = some none)
    (z_bool : PySem.W.nsIn K mainGlobals "bool" = some none)
    (z_len : PySem.W.nsIn K mainGlobals "len" = some none)
    (z_enumerate : PySem.W.nsIn K mainGlobals "enumerate" = some none)
    (z_range : PySem.W.nsIn K mainGlobals "range" = some none)
    (z_list : PySem.W.nsIn K mainGlobals "list" = some none)
    (z_sum : PySem.W.nsIn K mainGlobals "sum" = some none)
    : ∃ fd : FuncData, (∀ (s : Shared) (v : Value), BindsTo s fd ⟨[v], []⟩ [("_law_script", v)]) ∧ ∀ base : Heap, K.In base → base.Ns mainGlobals mg → FnOk l.prog w K mg base CX0 4 fa fd ["_law_script"] (spF ⟨K, fun _ => 0⟩ [] g_law) := by
  have e := hfa.symm.trans (PySem.W.mg_of X G a11)
  cases e
  have B : Bi mg := ⟨PySem.W.mg_none_of X G z_isinstance, PySem.W.mg_none_of X G z_str, PySem.W.mg_none_of X G z_int, PySem.W.mg_none_of X G z_bool, PySem.W.mg_none_of X G z_len, PySem.W.mg_none_of X G z_enumerate, PySem.W.mg_none_of X G z_range, PySem.W.mg_none_of X G z_list, PySem.W.mg_none_of X G z_sum⟩
  have F1 := fun_mk (st := s_reads) l1 c1 k1
  have b1 := F1.binds (ps := ["deed"]) fun _ _ _ _ _ _ us hl => match us, hl with | [_], _ => rfl
  have F2 := fun_mk (st := s_writes) l2 c2 k2
  have b2 := F2.binds (ps := ["deed"]) fun _ _ _ _ _ _ us hl => match us, hl with | [_], _ => rfl
  have F3 := fun_mk (st := s_gap) l3 c3 k3
  have b3 := F3.binds (ps := ["deeds", "j", "k"]) fun _ _ _ _ _ _ us hl => match us, hl with | [_, _, _], _ => rfl
  have F4 := fun_mk (st := s_law_whole) l4 c4 k4
  have b4 := F4.binds (ps := ["_law_found"]) fun _ _ _ _ _ _ us hl => match us, hl with | [_], _ => rfl
  have F5 := fun_mk (st := s_law_mixed) l5 c5 k5
  have b5 := F5.binds (ps := ["_law_cell", "_law_k"]) fun _ _ _ _ _ _ us hl => match us, hl with | [_, _], _ => rfl
  have F6 := fun_mk (st := s_law_operand) l6 c6 k6
  have b6 := F6.binds (ps := ["_law_mixed_here", "_law_names", "_law_width"]) fun _ _ _ _ _ _ us hl => match us, hl with | [_, _, _], _ => rfl
  have F7 := fun_mk (st := s_law_deed) l7 c7 k7
  have b7 := F7.binds (ps := ["_law_mixed_here", "_law_names", "_law_width"]) fun _ _ _ _ _ _ us hl => match us, hl with | [_, _, _], _ => rfl
  have F8 := fun_mk (st := s_law_reads) l8 c8 k8
  have b8 := F8.binds (ps := ["_law_deed_here"]) fun _ _ _ _ _ _ us hl => match us, hl with | [_], _ => rfl
  have F9 := fun_mk (st := s_law_gap) l9 c9 k9
  have b9 := F9.binds (ps := ["_law_one", "_law_other"]) fun _ _ _ _ _ _ us hl => match us, hl with | [_, _], _ => rfl
  have F10 := fun_mk (st := s_law_deeds) l10 c10 k10
  have b10 := F10.binds (ps := ["_law_cells", "_law_most", "_law_boxes"]) fun _ _ _ _ _ _ us hl => match us, hl with | [_, _, _], _ => rfl
  have F11 := fun_mk (st := s_law) l11 c11 k11
  have b11 := F11.binds (ps := ["_law_script"]) fun _ _ _ _ _ _ us hl => match us, hl with | [_], _ => rfl
  refine ⟨PySem.W.fnOf "law" "law" (defArgs s_law) (defBody s_law) (defScope s_law) .none kV11 dc11 pm11 an11 cd11 ct11, fun s v => .of_eq rfl, fun base _ _ => ?_⟩
  have C_reads : Cl l.prog w ⟨K, fun _ => 0⟩ mg base CX0 1 "reads" [] g_reads := .mk' (ok_reads (W := ⟨K, fun _ => 0⟩) F1 B) (PySem.W.mg_of X G a1) k1 b1
  have C_writes : Cl l.prog w ⟨K, fun _ => 0⟩ mg base CX0 1 "writes" [] g_writes := .mk' (ok_writes (W := ⟨K, fun _ => 0⟩) F2 B) (PySem.W.mg_of X G a2) k2 b2
  have C_gap : Cl l.prog w ⟨K, fun _ => 0⟩ mg base CX0 2 "gap" [] g_gap := .mk' (ok_gap (W := ⟨K, fun _ => 0⟩) F3 B C_reads C_writes) (PySem.W.mg_of X G a3) k3 b3
  have C_law_whole : Cl l.prog w ⟨K, fun _ => 0⟩ mg base CX0 1 "_law_whole" [] g_law_whole := .mk' (ok_law_whole (W := ⟨K, fun _ => 0⟩) F4 B) (PySem.W.mg_of X G a4) k4 b4
  have C_law_mixed : Cl l.prog w ⟨K, fun _ => 0⟩ mg base CX0 1 "_law_mixed" [] g_law_mixed := .mk' (ok_law_mixed (W := ⟨K, fun _ => 0⟩) F5 B) (PySem.W.mg_of X G a5) k5 b5
  have C_law_operand : Cl l.prog w ⟨K, fun _ => 0⟩ mg base CX0 1 "_law_operand" [] g_law_operand := .mk' (ok_law_operand (W := ⟨K, fun _ => 0⟩) F6 B) (PySem.W.mg_of X G a6) k6 b6
  have C_law_deed : Cl l.prog w ⟨K, fun _ => 0⟩ mg base CX0 2 "_law_deed" [] g_law_deed := .mk' (ok_law_deed (W := ⟨K, fun _ => 0⟩) F7 B C_law_operand) (PySem.W.mg_of X G a7) k7 b7
  have C_law_reads : Cl l.prog w ⟨K, fun _ => 0⟩ mg base CX0 1 "_law_reads" [] g_law_reads := .mk' (ok_law_reads (W := ⟨K, fun _ => 0⟩) F8 B) (PySem.W.mg_of X G a8) k8 b8
  have C_law_gap : Cl l.prog w ⟨K, fun _ => 0⟩ mg base CX0 2 "_law_gap" [] g_law_gap := .mk' (ok_law_gap (W := ⟨K, fun _ => 0⟩) F9 B C_law_reads) (PySem.W.mg_of X G a9) k9 b9
  have C_law_deeds : Cl l.prog w ⟨K, fun _ => 0⟩ mg base CX0 3 "_law_deeds" [] g_law_deeds := .mk' (ok_law_deeds (W := ⟨K, fun _ => 0⟩) F10 B C_law_deed C_law_mixed) (PySem.W.mg_of X G a10) k10 b10
  exact ok_law (W := ⟨K, fun _ => 0⟩) F11 B C_law_whole C_gap C_law_gap C_law_deeds
theorem walk {l : PySem.W.OpenLaw} {q : Program} {loose : List Str} {XP : (Str → Option Value) → Heap → Prop} {YP : World → Heap → Prop} {d : DefRec} {K : Params → PySem.W.Frag} (hn : l.most = some 63) (hdf : d.params.defaults = [])
    (hY : ∀ (w : World) (h : Heap), YP w h → (K w.params).In h) (ht : ∀ ns : List Int, ns.length ≤ 63 → (∀ z ∈ ns, Builtin.Int.intBits z ≤ 1048576) → ∃ us, g_law [.f (.lst (ns.map .int))] = some (.ok (.f (.bl true)) us))
    (F : ∀ (w : World) (mg : Str → Option Value) (fa : Addr) (h : Heap), (K w.params).In h → h.Ns mainGlobals mg → mg d.name = some (.ref fa) →
      ∃ fd : FuncData, (∀ (s : Shared) (u : Value), BindsTo s fd ⟨[u], []⟩ [("_law_script", u)]) ∧ ∀ base : Heap, (K w.params).In base → base.Ns mainGlobals mg → FnOk l.prog w (K w.params) mg base CX0 4 fa fd ["_law_script"] (spF ⟨K w.params, fun _ => 0⟩ [] g_law)) :
    PySem.W.WalkO q loose XP YP l.row.toRowW d [] (fun f vs => PySem.call f vs) :=
  L2.walk_ofB (n := 63) (k := 4) (x := "_law_script") (CX := fun _ => CX0) (sp := fun w => spF ⟨K w.params, fun _ => 0⟩ [] g_law) hn (by decide) hdf ⟨rfl, by decide, by decide⟩ hY F (fun w H a ns hl hb _ hS => law_sp (W := ⟨K w.params, fun _ => 0⟩) hS (ht ns hl hb)) fun _ _ _ _ _ z => z
end K
namespace K
open PySem L2 Z
local macro_rules | `(tactic| walk_at "w") => `(tactic| simp -implicitDefEqProofs (disch := ((try simp only [List.length_cons, List.length_nil, List.length_map, List.length_append, List.length_range, List.length_take, List.length_set, List.length_reverse, enumD_len]) <;> omega)) only [wz_var, nn_f, nn_l, nn_dk, nn_ll, nn_tu, nn_o, wz_mv, mvK_f, mvK_l, mvK_dk, mvK_ll, mvK_tu, mvK_o, wz_f1, k1_s, wz_f2, k2_s, wz_fN, kN_s, wz_fC, wz_aNil, wz_aCons, kCons_s, wz_fT, kT_s, wz_tAnd, wz_tOr, wz_tNot, kAnd_t, kAnd_f, kOr_t, kOr_f, kNot_s, wz_fIf, kIf_t, kIf_f, wz_fAnd, wz_fOr, kBl_s, wz_fNot, wz_lift, kLift_s, wz_fFz, kFz_f, kFz_l, kFz_dk, wz_sNil, wz_sSeq, kSeq_nx, kSeq_rt, kSeq_bk, kSeq_ct, kSeq_xc, wz_sSet, kSet_s, wz_sExpr, kEx_s, wz_sRet, kRet_s, wz_sRetN, wz_sBk, wz_sCt, wz_liftB, kLiB_s, wz_oTest, kTst_s, wz_oNot, kONot_s, wz_sIf, kIfS_t, kIfS_f, kIfS_d, kV_s, wz_fCallV, kCall_0, kCall_1, kCall_2, kCall_3, kCall_4, kCall_5, kCall_6, kCall_7, wz_fDispD, wz_pNil, wz_pCons, kPair_s, kPair_i, wz_fNewL, kNl'_s, wz_fNewD, wz_sFor, kFor_s, for_nil, for_cons, kTgt_s, kBody_nx, kBody_ct, kBody_bk, kBody_rt, kBody_xc, wz_iVal, kIt_l, kIt_t, kIt_s, wz_iL1, kI1_s, wz_iL2, kI2_s, wz_iR1, kR1_s, wz_iR2, kR2_s, wz_gSet, wz_gsNil, wz_gsCons, kGs_s, deep_nil, deep_f, kDc_s, wz_gTup, wz_gLst, gSl_l, gSl_o, wz_sl00, wz_sl10, wz_sl01, wz_sl11, kS00_s, kS10_s, kS01_s, kS11_s, wz_fIsi, gIsi_ii, gIsi_ib, gIsi_ll, gIsi_lo, gIsi_tt, gIsi_ss, gIsi_bb, gIsi_dd, dec01, str_inj, gDiv_o, gMul_o, gShl_o, gShr_o, kVT_s, gIx_lst, gIx_own, gIx_tup, gIx_dct, gIx_dcti, gIx_odct, gIx_odcti, atI_pos, atI_neg, gTupT1, gTupT2, gTupT3, gTupT4, gTupT5, gIsNn_i, gIsNn_s, gIsNn_b, gIsNn_n, gIsNn_l, gIsNn_t, gIsNn_d, gIsNn_o, gIsNn_od, wz_fIsN, wz_fChain, kChain_s, kCh1_t, kCh1_f, kTurn_s, okW_nil, okW_cons, okV_n, okV_u, okV_f, wipeR_nil, wipeR_cons, wz_fLc, kLcB_t, kLc_s, lcF_nil, lcF_cons, kL1_s, kL2_t, kL2_f, kL2_d, kL3_s, tYes_s, wz_lcT, wz_jVal, kJV_l, kJV_t, kJV_s, wz_jL1, kJ1_s, wz_jL2, kJ2_s, wz_jR1, kJR1_s, wz_jR2, kJR2_s, wz_pHere, kMu_s, mutF_here, kNx_s, wz_sApp, kApp_s, appT_l, wz_sSetIx, kSI_s, setT_l, setT_ds, setT_di, wz_fzS, kF2_u, kF2_f, kF2_l, kF2_d, wz_sFz, kFS_s, gIn_ss, gIn_ii, gNotIn_ss, gNotIn_ii, gEq_sn, gEq_ns, gEq_in, gEq_ni, gEq_nn, gNe_sn, gNe_ns, gNe_in, gNe_ni, gNe_nn, gSum_l, gList_l, gList_t, gTuple_l, gTuple_t, kTp_s, kLs_s, kNl_s, kDisp_s, gCat_l, gCat_s, oval_rt', oval_nx', gMod_ok, Sum.inr.injEq, Sum.inl.injEq, reduceCtorEq, String.reduceEq, reduceIte, gAdd_i, gSub_i, gBAnd_i, gBOr_i, gBXor_i, gLt_i, gLe_i, gGt_i, gGe_i, gEq_i, gEq_s, gEq_b, gEq_is, gEq_si, gNe_i, gNe_s, gNe_b, gNe_is, gNe_si, gNeg_i, gInt1_i, gInt1_b, gMax2_i, gMin2_i, gLen_l, gLen_t, gLen_o, List.getElem?_cons_zero, List.getElem?_cons_succ, List.set_cons_zero, List.set_cons_succ, List.length_cons, List.length_nil, List.map_cons, List.map_nil, List.cons_append, List.nil_append, List.replicate, List.length_map, Nat.zero_add, Nat.reduceAdd, Nat.reduceSub, Nat.reduceLeDiff, Bool.not_true, Bool.not_false, Bool.not_not, if_true, if_false, Bool.false_eq_true, decide_true, decide_false, eq_self, Int.reduceLT, Int.reduceLE, Int.reduceEq, Int.reduceToNat, Int.toNat_natCast, Bool.true_xor, Bool.true_and, Bool.and_true, Bool.false_and, Bool.and_false, Bool.true_or, Bool.or_true, Bool.false_or, Bool.or_false, Bool.false_xor, Bool.xor_false, Bool.xor_true, not_true, not_false])
local macro_rules | `(tactic| walk_at "W") => `(tactic| simp -implicitDefEqProofs (disch := ((try simp only [List.length_cons, List.length_nil, List.length_map, List.length_append, List.length_range, List.length_take, List.length_set, List.length_reverse, enumD_len]) <;> omega)) only [wz_var, nn_f, nn_l, nn_dk, nn_ll, nn_tu, nn_o, wz_mv, mvK_f, mvK_l, mvK_dk, mvK_ll, mvK_tu, mvK_o, wz_f1, k1_s, wz_f2, k2_s, wz_fN, kN_s, wz_fC, wz_aNil, wz_aCons, kCons_s, wz_fT, kT_s, wz_tAnd, wz_tOr, wz_tNot, kAnd_t, kAnd_f, kOr_t, kOr_f, kNot_s, wz_fIf, kIf_t, kIf_f, wz_fAnd, wz_fOr, kBl_s, wz_fNot, wz_lift, kLift_s, wz_fFz, kFz_f, kFz_l, kFz_dk, wz_sNil, wz_sSeq, kSeq_nx, kSeq_rt, kSeq_bk, kSeq_ct, kSeq_xc, wz_sSet, kSet_s, wz_sExpr, kEx_s, wz_sRet, kRet_s, wz_sRetN, wz_sBk, wz_sCt, wz_liftB, kLiB_s, wz_oTest, kTst_s, wz_oNot, kONot_s, wz_sIf, kIfS_t, kIfS_f, kIfS_d, kV_s, wz_fCallV, kCall_0, kCall_1, kCall_2, kCall_3, kCall_4, kCall_5, kCall_6, kCall_7, wz_fDispD, wz_pNil, wz_pCons, kPair_s, kPair_i, wz_fNewL, kNl'_s, wz_fNewD, wz_sFor, kFor_s, for_nil, for_cons, kTgt_s, kBody_nx, kBody_ct, kBody_bk, kBody_rt, kBody_xc, wz_iVal, kIt_l, kIt_t, kIt_s, wz_iL1, kI1_s, wz_iL2, kI2_s, wz_iR1, kR1_s, wz_iR2, kR2_s, wz_gSet, wz_gsNil, wz_gsCons, kGs_s, deep_nil, deep_f, kDc_s, wz_gTup, wz_gLst, gSl_l, gSl_o, wz_sl00, wz_sl10, wz_sl01, wz_sl11, kS00_s, kS10_s, kS01_s, kS11_s, wz_fIsi, gIsi_ii, gIsi_ib, gIsi_ll, gIsi_lo, gIsi_tt, gIsi_ss, gIsi_bb, gIsi_dd, dec01, str_inj, gDiv_o, gMul_o, gShl_o, gShr_o, kVT_s, gIx_lst, gIx_own, gIx_tup, gIx_dct, gIx_dcti, gIx_odct, gIx_odcti, atI_pos, atI_neg, gTupT1, gTupT2, gTupT3, gTupT4, gTupT5, gIsNn_i, gIsNn_s, gIsNn_b, gIsNn_n, gIsNn_l, gIsNn_t, gIsNn_d, gIsNn_o, gIsNn_od, wz_fIsN, wz_fChain, kChain_s, kCh1_t, kCh1_f, kTurn_s, okW_nil, okW_cons, okV_n, okV_u, okV_f, wipeR_nil, wipeR_cons, wz_fLc, kLcB_t, kLc_s, lcF_nil, lcF_cons, kL1_s, kL2_t, kL2_f, kL2_d, kL3_s, tYes_s, wz_lcT, wz_jVal, kJV_l, kJV_t, kJV_s, wz_jL1, kJ1_s, wz_jL2, kJ2_s, wz_jR1, kJR1_s, wz_jR2, kJR2_s, wz_pHere, kMu_s, mutF_here, kNx_s, wz_sApp, kApp_s, appT_l, wz_sSetIx, kSI_s, setT_l, setT_ds, setT_di, wz_fzS, kF2_u, kF2_f, kF2_l, kF2_d, wz_sFz, kFS_s, gIn_ss, gIn_ii, gNotIn_ss, gNotIn_ii, gEq_sn, gEq_ns, gEq_in, gEq_ni, gEq_nn, gNe_sn, gNe_ns, gNe_in, gNe_ni, gNe_nn, gSum_l, gList_l, gList_t, gTuple_l, gTuple_t, kTp_s, kLs_s, kNl_s, kDisp_s, gCat_l, gCat_s, oval_rt', oval_nx', gMod_ok, Sum.inr.injEq, Sum.inl.injEq, reduceCtorEq, String.reduceEq, reduceIte, gAdd_i, gSub_i, gBAnd_i, gBOr_i, gBXor_i, gLt_i, gLe_i, gGt_i, gGe_i, gEq_i, gEq_s, gEq_b, gEq_is, gEq_si, gNe_i, gNe_s, gNe_b, gNe_is, gNe_si, gNeg_i, gInt1_i, gInt1_b, gMax2_i, gMin2_i, gLen_l, gLen_t, gLen_o, List.getElem?_cons_zero, List.getElem?_cons_succ, List.set_cons_zero, List.set_cons_succ, List.length_cons, List.length_nil, List.map_cons, List.map_nil, List.cons_append, List.nil_append, List.replicate, List.length_map, Nat.zero_add, Nat.reduceAdd, Nat.reduceSub, Nat.reduceLeDiff, Bool.not_true, Bool.not_false, Bool.not_not, if_true, if_false, Bool.false_eq_true, decide_true, decide_false, eq_self, Int.reduceLT, Int.reduceLE, Int.reduceEq, Int.reduceToNat, Int.toNat_natCast, Bool.true_xor, Bool.true_and, Bool.and_true, Bool.false_and, Bool.and_false, Bool.true_or, Bool.or_true, Bool.false_or, Bool.or_false, Bool.false_xor, Bool.xor_false, Bool.xor_true, not_true, not_false, *])
/-! deeds -/
def ops : List Str := ["plus", "less", "and", "or", "xor", "below", "same"]
inductive Opd where
  | nm (x : Str)
  | wd (i : Int)
def Opd.d : Opd → D
  | .nm x => .str x
  | .wd i => .int i
def Opd.rd : Opd → List Str
  | .nm x => [x]
  | .wd _ => []
def Opd.Ok (names : List Str) (w : Nat) : Opd → Prop
  | .nm x => x ∈ names
  | .wd i => 0 ≤ i ∧ i < 2 ^ w
inductive Deed where
  | tell (a : Opd)
  | copy (n : Str) (a : Opd)
  | op (p n : Str) (a b : Opd)
def Deed.d : Deed → D
  | .tell a => .tup [.str "tell", a.d]
  | .copy n a => .tup [.str "copy", .str n, a.d]
  | .op p n a b => .tup [.str p, .str n, a.d, b.d]
def Deed.Ok (names : List Str) (w : Nat) : Deed → Prop
  | .tell a => a.Ok names w
  | .copy n a => n ∈ names ∧ a.Ok names w
  | .op p n a b => p ∈ ops ∧ n ∈ names ∧ a.Ok names w ∧ b.Ok names w
def Deed.rd : Deed → List Str
  | .tell a => a.rd
  | .copy _ a => a.rd
  | .op _ _ a b => a.rd ++ b.rd
def Deed.wr : Deed → Option Str
  | .tell _ => none
  | .copy n _ => some n
  | .op _ n _ _ => some n
def gp (d e : Deed) : Option Int := match d, e with
  | .tell _, .tell _ => some 1
  | d, e => match d.wr, e.wr with
    | some n, some m => if n ∈ e.rd ∨ n = m then some 1 else if m ∈ d.rd then some 0 else none
    | some n, none => if n ∈ e.rd then some 1 else none
    | none, some m => if m ∈ d.rd then some 0 else none
    | none, none => none
def gD : Option Int → D
  | none => .non
  | some i => .int i
theorem isi_nm {x : Str} : gIsi "str" (.f (.str x)) = some (.f (.bl true)) := gIsi_ss
theorem kitB_is : kitB "int" "str" = some false := by decide +kernel
theorem isi_wd {i : Int} : gIsi "str" (.f (.int i)) = some (.f (.bl false)) := congrArg (Option.map fun b => T.f (.bl b)) kitB_is
theorem opd_isi (a : Opd) : gIsi "str" (.f a.d) = some (.f (.bl (match a with | .nm _ => true | .wd _ => false))) := by
  cases a with
  | nm x => exact isi_nm
  | wd i => exact isi_wd
theorem tell_of {p : Str} (h : p ∈ ops) : (p = "tell") = False ∧ (p = "copy") = False := by
  simp only [ops, List.mem_cons, List.mem_nil_iff, or_false] at h
  rcases h with rfl | rfl | rfl | rfl | rfl | rfl | rfl <;> exact ⟨eq_false (by decide), eq_false (by decide)⟩
theorem cut_1 {a b : D} : cutD [a, b] (some 1) none = [b] := rfl
theorem cut_2a {a b c : D} : cutD [a, b, c] (some 2) none = [c] := rfl
theorem cut_2b {a b c d : D} : cutD [a, b, c, d] (some 2) none = [c, d] := rfl
theorem cut_2c {a b : D} : cutD [a, b] (some 2) none = [] := rfl
theorem gSl_t {ds : List D} {i : Int} (h : 0 < i) (h2 : ds ≠ []) : gSl (.f (.tup ds)) (some i) none = some (.f (.tup (cutD ds (some i) none))) := by
  show (if HT.sIx ds.length 0 (some i) = 0 ∧ HT.sIx ds.length ds.length none = ds.length then none else _) = _
  rw [if_neg]
  rintro ⟨z, _⟩
  obtain ⟨n, rfl⟩ := Int.eq_ofNat_of_zero_le (Int.le_of_lt h)
  rw [HT.sIx_nat] at z
  cases ds with
  | nil => exact h2 rfl
  | cons a l =>
    rw [List.length_cons] at z
    omega
theorem reads_ok (dd : Deed) {names : List Str} {w : Nat} (h : dd.Ok names w) : val (g_reads [.f dd.d]) = some (.lst (dd.rd.map .str)) := by
  have hv : val (g_reads [.f dd.d]) = oval (b_reads ([.f dd.d] ++ List.replicate (3 - 1) .un)) 1 := val_run (m := 1) (n := 3) rfl
  rw [hv]
  clear hv
  have c1 := @cut_1
  have c2 := @cut_2a
  have c3 := @cut_2b
  have c4 := @cut_2c
  have s1 : ∀ {ds : List D} {a : D}, gSl (.f (.tup (a :: ds))) (some 1) none = some (.f (.tup (cutD (a :: ds) (some 1) none))) := gSl_t (by decide) (by simp)
  have s2 : ∀ {ds : List D} {a : D}, gSl (.f (.tup (a :: ds))) (some 2) none = some (.f (.tup (cutD (a :: ds) (some 2) none))) := gSl_t (by decide) (by simp)
  have k1 := @isi_nm
  have k2 := @isi_wd
  cases dd with
  | tell a =>
    clear h
    cases a with
    | nm x =>
      unfold b_reads m_reads_1 n_reads_1 Deed.d Opd.d Deed.rd Opd.rd
      walk_at "W"
    | wd i =>
      unfold b_reads m_reads_1 n_reads_1 Deed.d Opd.d Deed.rd Opd.rd
      walk_at "W"
  | copy n a =>
    clear h
    cases a with
    | nm x =>
      unfold b_reads m_reads_1 n_reads_1 Deed.d Opd.d Deed.rd Opd.rd
      walk_at "W"
    | wd i =>
      unfold b_reads m_reads_1 n_reads_1 Deed.d Opd.d Deed.rd Opd.rd
      walk_at "W"
  | op p n a b =>
    have hp := (tell_of h.1).1
    clear h
    cases a with
    | nm x =>
      cases b with
      | nm y =>
        unfold b_reads m_reads_1 n_reads_1 Deed.d Opd.d Deed.rd Opd.rd
        walk_at "W"
      | wd j =>
        unfold b_reads m_reads_1 n_reads_1 Deed.d Opd.d Deed.rd Opd.rd
        walk_at "W"
    | wd i =>
      cases b with
      | nm y =>
        unfold b_reads m_reads_1 n_reads_1 Deed.d Opd.d Deed.rd Opd.rd
        walk_at "W"
      | wd j =>
        unfold b_reads m_reads_1 n_reads_1 Deed.d Opd.d Deed.rd Opd.rd
        walk_at "W"
theorem law_reads_ok (dd : Deed) {names : List Str} {w : Nat} (h : dd.Ok names w) : val (g_law_reads [.f dd.d]) = some (.lst (dd.rd.map .str)) := by
  have hv : val (g_law_reads [.f dd.d]) = oval (b_law_reads ([.f dd.d] ++ List.replicate (3 - 1) .un)) 1 := val_run (m := 1) (n := 3) rfl
  rw [hv]
  clear hv
  have c1 := @cut_1
  have c2 := @cut_2a
  have c3 := @cut_2b
  have c4 := @cut_2c
  have s1 : ∀ {ds : List D} {a : D}, gSl (.f (.tup (a :: ds))) (some 1) none = some (.f (.tup (cutD (a :: ds) (some 1) none))) := gSl_t (by decide) (by simp)
  have s2 : ∀ {ds : List D} {a : D}, gSl (.f (.tup (a :: ds))) (some 2) none = some (.f (.tup (cutD (a :: ds) (some 2) none))) := gSl_t (by decide) (by simp)
  have k1 := @isi_nm
  have k2 := @isi_wd
  cases dd with
  | tell a =>
    clear h
    cases a with
    | nm x =>
      unfold b_law_reads m_law_reads_1 n_law_reads_1 Deed.d Opd.d Deed.rd Opd.rd
      walk_at "W"
    | wd i =>
      unfold b_law_reads m_law_reads_1 n_law_reads_1 Deed.d Opd.d Deed.rd Opd.rd
      walk_at "W"
  | copy n a =>
    clear h
    cases a with
    | nm x =>
      unfold b_law_reads m_law_reads_1 n_law_reads_1 Deed.d Opd.d Deed.rd Opd.rd
      walk_at "W"
    | wd i =>
      unfold b_law_reads m_law_reads_1 n_law_reads_1 Deed.d Opd.d Deed.rd Opd.rd
      walk_at "W"
  | op p n a b =>
    have hp := (tell_of h.1).1
    clear h
    cases a with
    | nm x =>
      cases b with
      | nm y =>
        unfold b_law_reads m_law_reads_1 n_law_reads_1 Deed.d Opd.d Deed.rd Opd.rd
        walk_at "W"
      | wd j =>
        unfold b_law_reads m_law_reads_1 n_law_reads_1 Deed.d Opd.d Deed.rd Opd.rd
        walk_at "W"
    | wd i =>
      cases b with
      | nm y =>
        unfold b_law_reads m_law_reads_1 n_law_reads_1 Deed.d Opd.d Deed.rd Opd.rd
        walk_at "W"
      | wd j =>
        unfold b_law_reads m_law_reads_1 n_law_reads_1 Deed.d Opd.d Deed.rd Opd.rd
        walk_at "W"
theorem writes_ok (dd : Deed) {names : List Str} {w : Nat} (h : dd.Ok names w) : val (g_writes [.f dd.d]) = some (match dd.wr with | some n => .str n | none => .non) := by
  have hv : val (g_writes [.f dd.d]) = oval (b_writes ([.f dd.d] ++ List.replicate (1 - 1) .un)) 1 := val_run (m := 1) (n := 1) rfl
  rw [hv]
  clear hv
  cases dd with
  | tell a =>
    clear h
    unfold b_writes Deed.d Deed.wr
    walk_at "W"
  | copy n a =>
    clear h
    unfold b_writes Deed.d Deed.wr
    walk_at "W"
  | op p n a b =>
    have hp := (tell_of h.1).1
    clear h
    unfold b_writes Deed.d Deed.wr
    walk_at "W"
theorem gIsNn_T {neg : Bool} {o : Option Str} : gIsNn neg (.f (match o with | some n => .str n | none => .non)) = some (.f (.bl (xor neg o.isNone))) := by
  cases o <;> rfl
theorem gap_ok {ds : List Deed} {j k : Nat} {d e : Deed} (hj : ds[j]? = some d) (hk : ds[k]? = some e) {names : List Str} {w : Nat} (h1 : d.Ok names w) (h2 : e.Ok names w) : val (g_gap [.f (.lst (ds.map Deed.d)), .f (.int (j : Int)), .f (.int (k : Int))]) = some (gD (gp d e)) := by
  have hv : val (g_gap [.f (.lst (ds.map Deed.d)), .f (.int (j : Int)), .f (.int (k : Int))]) = oval (b_gap ([.f (.lst (ds.map Deed.d)), .f (.int (j : Int)), .f (.int (k : Int))] ++ List.replicate (6 - 3) .un)) 3 := val_run (m := 3) (n := 6) rfl
  rw [hv]
  clear hv
  have x1 : (ds.map Deed.d)[j]? = some d.d := by rw [List.getElem?_map, hj]; rfl
  have x2 : (ds.map Deed.d)[k]? = some e.d := by rw [List.getElem?_map, hk]; rfl
  have r1 := reads_ok d h1
  have r2 := reads_ok e h2
  have w1 := writes_ok d h1
  have w2 := writes_ok e h2
  clear hj hk
  cases d with
  | tell a =>
    cases e with
    | tell b =>
      clear h1 h2
      have gd0 : gD none = .non := rfl
      have gd1 : ∀ i, gD (some i) = .int i := fun _ => rfl
      generalize hg : gp _ _ = r
      simp only [Deed.d, Deed.wr] at *
      unfold b_gap
      simp [gp, Deed.wr] at hg
      subst hg
      walk_at "W"
    | copy n b =>
      clear h1 h2
      have gd0 : gD none = .non := rfl
      have gd1 : ∀ i, gD (some i) = .int i := fun _ => rfl
      generalize hg : gp _ _ = r
      simp only [Deed.d, Deed.wr] at *
      unfold b_gap
      by_cases q : n ∈ (Deed.tell a).rd
      · simp [gp, Deed.wr, q] at hg
        subst hg
        walk_at "W"
      · simp [gp, Deed.wr, q] at hg
        subst hg
        walk_at "W"
    | op p n b b2 =>
      have hp := (tell_of h2.1).1
      clear h1 h2
      have gd0 : gD none = .non := rfl
      have gd1 : ∀ i, gD (some i) = .int i := fun _ => rfl
      generalize hg : gp _ _ = r
      simp only [Deed.d, Deed.wr] at *
      unfold b_gap
      by_cases q : n ∈ (Deed.tell a).rd
      · simp [gp, Deed.wr, q] at hg
        subst hg
        walk_at "W"
      · simp [gp, Deed.wr, q] at hg
        subst hg
        walk_at "W"
  | copy n a =>
    cases e with
    | tell b =>
      clear h1 h2
      have gd0 : gD none = .non := rfl
      have gd1 : ∀ i, gD (some i) = .int i := fun _ => rfl
      generalize hg : gp _ _ = r
      simp only [Deed.d, Deed.wr] at *
      unfold b_gap
      by_cases q : n ∈ (Deed.tell b).rd
      · simp [gp, Deed.wr, q] at hg
        subst hg
        walk_at "W"
      · simp [gp, Deed.wr, q] at hg
        subst hg
        walk_at "W"
    | copy m b =>
      clear h1 h2
      have gd0 : gD none = .non := rfl
      have gd1 : ∀ i, gD (some i) = .int i := fun _ => rfl
      generalize hg : gp _ _ = r
      simp only [Deed.d, Deed.wr] at *
      unfold b_gap
      by_cases q : n ∈ (Deed.copy m b).rd
      · simp [gp, Deed.wr, q] at hg
        subst hg
        walk_at "W"
      · by_cases q2 : n = m
        · subst q2
          simp [gp, Deed.wr, q] at hg
          subst hg
          walk_at "W"
        · by_cases q3 : m ∈ (Deed.copy n a).rd
          · simp [gp, Deed.wr, q3, q2, q] at hg
            subst hg
            walk_at "W"
          · simp [gp, Deed.wr, q3, q2, q] at hg
            subst hg
            walk_at "W"
    | op p m b b2 =>
      have hp := (tell_of h2.1).1
      clear h1 h2
      have gd0 : gD none = .non := rfl
      have gd1 : ∀ i, gD (some i) = .int i := fun _ => rfl
      generalize hg : gp _ _ = r
      simp only [Deed.d, Deed.wr] at *
      unfold b_gap
      by_cases q : n ∈ (Deed.op p m b b2).rd
      · simp [gp, Deed.wr, q] at hg
        subst hg
        walk_at "W"
      · by_cases q2 : n = m
        · subst q2
          simp [gp, Deed.wr, q] at hg
          subst hg
          walk_at "W"
        · by_cases q3 : m ∈ (Deed.copy n a).rd
          · simp [gp, Deed.wr, q3, q2, q] at hg
            subst hg
            walk_at "W"
          · simp [gp, Deed.wr, q3, q2, q] at hg
            subst hg
            walk_at "W"
  | op p n a a2 =>
    have hp := (tell_of h1.1).1
    cases e with
    | tell b =>
      clear h1 h2
      have gd0 : gD none = .non := rfl
      have gd1 : ∀ i, gD (some i) = .int i := fun _ => rfl
      generalize hg : gp _ _ = r
      simp only [Deed.d, Deed.wr] at *
      unfold b_gap
      by_cases q : n ∈ (Deed.tell b).rd
      · simp [gp, Deed.wr, q] at hg
        subst hg
        walk_at "W"
      · simp [gp, Deed.wr, q] at hg
        subst hg
        walk_at "W"
    | copy m b =>
      clear h1 h2
      have gd0 : gD none = .non := rfl
      have gd1 : ∀ i, gD (some i) = .int i := fun _ => rfl
      generalize hg : gp _ _ = r
      simp only [Deed.d, Deed.wr] at *
      unfold b_gap
      by_cases q : n ∈ (Deed.copy m b).rd
      · simp [gp, Deed.wr, q] at hg
        subst hg
        walk_at "W"
      · by_cases q2 : n = m
        · subst q2
          simp [gp, Deed.wr, q] at hg
          subst hg
          walk_at "W"
        · by_cases q3 : m ∈ (Deed.op p n a a2).rd
          · simp [gp, Deed.wr, q3, q2, q] at hg
            subst hg
            walk_at "W"
          · simp [gp, Deed.wr, q3, q2, q] at hg
            subst hg
            walk_at "W"
    | op p2 m b b2 =>
      have hp2 := (tell_of h2.1).1
      clear h1 h2
      have gd0 : gD none = .non := rfl
      have gd1 : ∀ i, gD (some i) = .int i := fun _ => rfl
      generalize hg : gp _ _ = r
      simp only [Deed.d, Deed.wr] at *
      unfold b_gap
      by_cases q : n ∈ (Deed.op p2 m b b2).rd
      · simp [gp, Deed.wr, q] at hg
        subst hg
        walk_at "W"
      · by_cases q2 : n = m
        · subst q2
          simp [gp, Deed.wr, q] at hg
          subst hg
          walk_at "W"
        · by_cases q3 : m ∈ (Deed.op p n a a2).rd
          · simp [gp, Deed.wr, q3, q2, q] at hg
            subst hg
            walk_at "W"
          · simp [gp, Deed.wr, q3, q2, q] at hg
            subst hg
            walk_at "W"
theorem law_gap_ok {d e : Deed} {names : List Str} {w : Nat} (h1 : d.Ok names w) (h2 : e.Ok names w) : val (g_law_gap [.f d.d, .f e.d]) = some (gD (gp d e)) := by
  have hv : val (g_law_gap [.f d.d, .f e.d]) = oval (b_law_gap ([.f d.d, .f e.d] ++ List.replicate (2 - 2) .un)) 2 := val_run (m := 2) (n := 2) rfl
  rw [hv]
  clear hv
  have r1 := law_reads_ok d h1
  have r2 := law_reads_ok e h2
  cases d with
  | tell a =>
    cases e with
    | tell b =>
      clear h1 h2
      have gd0 : gD none = .non := rfl
      have gd1 : ∀ i, gD (some i) = .int i := fun _ => rfl
      generalize hg : gp _ _ = r
      simp only [Deed.d, Deed.wr] at *
      unfold b_law_gap
      simp [gp, Deed.wr] at hg
      subst hg
      walk_at "W"
    | copy n b =>
      clear h1 h2
      have gd0 : gD none = .non := rfl
      have gd1 : ∀ i, gD (some i) = .int i := fun _ => rfl
      generalize hg : gp _ _ = r
      simp only [Deed.d, Deed.wr] at *
      unfold b_law_gap
      by_cases q : n ∈ (Deed.tell a).rd
      · simp [gp, Deed.wr, q] at hg
        subst hg
        walk_at "W"
      · simp [gp, Deed.wr, q] at hg
        subst hg
        walk_at "W"
    | op p n b b2 =>
      have hp := (tell_of h2.1).1
      clear h1 h2
      have gd0 : gD none = .non := rfl
      have gd1 : ∀ i, gD (some i) = .int i := fun _ => rfl
      generalize hg : gp _ _ = r
      simp only [Deed.d, Deed.wr] at *
      unfold b_law_gap
      by_cases q : n ∈ (Deed.tell a).rd
      · simp [gp, Deed.wr, q] at hg
        subst hg
        walk_at "W"
      · simp [gp, Deed.wr, q] at hg
        subst hg
        walk_at "W"
  | copy n a =>
    cases e with
    | tell b =>
      clear h1 h2
      have gd0 : gD none = .non := rfl
      have gd1 : ∀ i, gD (some i) = .int i := fun _ => rfl
      generalize hg : gp _ _ = r
      simp only [Deed.d, Deed.wr] at *
      unfold b_law_gap
      by_cases q : n ∈ (Deed.tell b).rd
      · simp [gp, Deed.wr, q] at hg
        subst hg
        walk_at "W"
      · simp [gp, Deed.wr, q] at hg
        subst hg
        walk_at "W"
    | copy m b =>
      clear h1 h2
      have gd0 : gD none = .non := rfl
      have gd1 : ∀ i, gD (some i) = .int i := fun _ => rfl
      generalize hg : gp _ _ = r
      simp only [Deed.d, Deed.wr] at *
      unfold b_law_gap
      by_cases q : n ∈ (Deed.copy m b).rd
      · simp [gp, Deed.wr, q] at hg
        subst hg
        walk_at "W"
      · by_cases q2 : n = m
        · subst q2
          simp [gp, Deed.wr, q] at hg
          subst hg
          walk_at "W"
        · by_cases q3 : m ∈ (Deed.copy n a).rd
          · simp [gp, Deed.wr, q3, q2, q] at hg
            subst hg
            walk_at "W"
          · simp [gp, Deed.wr, q3, q2, q] at hg
            subst hg
            walk_at "W"
    | op p m b b2 =>
      have hp := (tell_of h2.1).1
      clear h1 h2
      have gd0 : gD none = .non := rfl
      have gd1 : ∀ i, gD (some i) = .int i := fun _ => rfl
      generalize hg : gp _ _ = r
      simp only [Deed.d, Deed.wr] at *
      unfold b_law_gap
      by_cases q : n ∈ (Deed.op p m b b2).rd
      · simp [gp, Deed.wr, q] at hg
        subst hg
        walk_at "W"
      · by_cases q2 : n = m
        · subst q2
          simp [gp, Deed.wr, q] at hg
          subst hg
          walk_at "W"
        · by_cases q3 : m ∈ (Deed.copy n a).rd
          · simp [gp, Deed.wr, q3, q2, q] at hg
            subst hg
            walk_at "W"
          · simp [gp, Deed.wr, q3, q2, q] at hg
            subst hg
            walk_at "W"
  | op p n a a2 =>
    have hp := (tell_of h1.1).1
    cases e with
    | tell b =>
      clear h1 h2
      have gd0 : gD none = .non := rfl
      have gd1 : ∀ i, gD (some i) = .int i := fun _ => rfl
      generalize hg : gp _ _ = r
      simp only [Deed.d, Deed.wr] at *
      unfold b_law_gap
      by_cases q : n ∈ (Deed.tell b).rd
      · simp [gp, Deed.wr, q] at hg
        subst hg
        walk_at "W"
      · simp [gp, Deed.wr, q] at hg
        subst hg
        walk_at "W"
    | copy m b =>
      clear h1 h2
      have gd0 : gD none = .non := rfl
      have gd1 : ∀ i, gD (some i) = .int i := fun _ => rfl
      generalize hg : gp _ _ = r
      simp only [Deed.d, Deed.wr] at *
      unfold b_law_gap
      by_cases q : n ∈ (Deed.copy m b).rd
      · simp [gp, Deed.wr, q] at hg
        subst hg
        walk_at "W"
      · by_cases q2 : n = m
        · subst q2
          simp [gp, Deed.wr, q] at hg
          subst hg
          walk_at "W"
        · by_cases q3 : m ∈ (Deed.op p n a a2).rd
          · simp [gp, Deed.wr, q3, q2, q] at hg
            subst hg
            walk_at "W"
          · simp [gp, Deed.wr, q3, q2, q] at hg
            subst hg
            walk_at "W"
    | op p2 m b b2 =>
      have hp2 := (tell_of h2.1).1
      clear h1 h2
      have gd0 : gD none = .non := rfl
      have gd1 : ∀ i, gD (some i) = .int i := fun _ => rfl
      generalize hg : gp _ _ = r
      simp only [Deed.d, Deed.wr] at *
      unfold b_law_gap
      by_cases q : n ∈ (Deed.op p2 m b b2).rd
      · simp [gp, Deed.wr, q] at hg
        subst hg
        walk_at "W"
      · by_cases q2 : n = m
        · subst q2
          simp [gp, Deed.wr, q] at hg
          subst hg
          walk_at "W"
        · by_cases q3 : m ∈ (Deed.op p n a a2).rd
          · simp [gp, Deed.wr, q3, q2, q] at hg
            subst hg
            walk_at "W"
          · simp [gp, Deed.wr, q3, q2, q] at hg
            subst hg
            walk_at "W"
theorem two_cast (w : Nat) : (2 : Int) ^ w = ((2 ^ w : Nat) : Int) := by
  rw [Int.natCast_pow]
  rfl
theorem log2_bits {z : Int} (h : Builtin.Int.intBits z ≤ 1048576) : z.natAbs.log2 ≤ 1048576 := by
  unfold Builtin.Int.intBits at h
  split at h
  · rename_i h0
    have : z = 0 := by simpa using h0
    subst this
    simp
  · omega
theorem mixed_ok {c k : Int} (hb : Builtin.Int.intBits c ≤ 1048576) (h0 : 0 ≤ k) (h1 : k < 1000) : ∃ m : Int, 0 ≤ m ∧ m < 2 ^ 100 ∧ val (g_law_mixed [.f (.int c), .f (.int k)]) = some (.int m) := by
  have hv : val (g_law_mixed [.f (.int c), .f (.int k)]) = oval (b_law_mixed ([.f (.int c), .f (.int k)] ++ List.replicate (3 - 2) .un)) 2 := val_run (m := 2) (n := 3) rfl
  rw [hv]
  clear hv
  unfold b_law_mixed
  have e40 : gPow (.f (.int 10)) (.f (.int 40)) = some (.f (.int (10 ^ 40))) := gPow_ok (by decide) (by decide) (by decide)
  have hk60 : 0 ≤ k % 60 ∧ k % 60 < 60 := ⟨Int.emod_nonneg _ (by decide), Int.emod_lt_of_pos _ (by decide)⟩
  by_cases hc : (10 : Int) ^ 40 ≤ c
  · have hp : (0 : Int) < 2 ^ (100 * (k % 60)).toNat := Int.pow_pos (by decide)
    have e5 : gDiv (.f (.int (c - 10 ^ 40))) (.f (.int (2 ^ (100 * (k % 60)).toNat))) = some (.f (.int ((c - 10 ^ 40) / (2 ^ (100 * (k % 60)).toNat)))) := gDiv_ok hp (by
      rw [Int.natAbs_pow]
      exact Nat.pow_lt_pow_right (by decide) (by omega))
    have e6 := gMod_ok (i := (c - 10 ^ 40) / (2 ^ (100 * (k % 60)).toNat)) (j := 2 ^ (100 : Int).toNat) (by decide)
    refine ⟨((c - 10 ^ 40) / (2 ^ (100 * (k % 60)).toNat)) % (2 ^ (100 : Int).toNat), Int.emod_nonneg _ (by decide), Int.emod_lt_of_pos _ (by decide), ?_⟩
    have hcd := decide_eq_true hc
    clear hp hb hk60
    walk_at "W"
  · have hs : (c * c).natAbs = c.natAbs * c.natAbs := Int.natAbs_mul c c
    have hl := log2_bits hb
    have m1 : gMul (.f (.int c)) (.f (.int c)) = some (.f (.int (c * c))) := gMul_ok (by omega)
    have m2 : gMul (.f (.int 3)) (.f (.int c)) = some (.f (.int (3 * c))) := gMul_ok (by
      have a : (3 : Int).natAbs.log2 < 7 := by decide
      omega)
    have bc : c.natAbs < 2 ^ 1048577 := by
      by_cases z : c.natAbs = 0
      · rw [z]; exact Nat.two_pow_pos _
      · exact (Nat.log2_lt z).mp (by omega)
    have bx : (c * c + 3 * c + 7919 * k + 1).natAbs < 2 ^ 2097158 := by
      have q1 : c.natAbs * c.natAbs < 2 ^ 1048577 * 2 ^ 1048577 := Nat.mul_lt_mul'' bc bc
      rw [← Nat.pow_add] at q1
      have q2 : (2 : Nat) ^ 1048577 ≤ 2 ^ (1048577 + 1048577) := Nat.pow_le_pow_right (by decide) (by decide)
      have q3 : (2 : Nat) ^ 24 ≤ 2 ^ (1048577 + 1048577) := Nat.pow_le_pow_right (by decide) (by decide)
      have q4 : (2 : Nat) ^ 2097158 = 2 ^ (1048577 + 1048577) * 2 ^ 4 := by rw [← Nat.pow_add]
      rw [q4]
      generalize (2 : Nat) ^ (1048577 + 1048577) = G at *
      generalize (2 : Nat) ^ 1048577 = G2 at *
      generalize hcc : c * c = cc at *
      omega
    have m4 : gMul (.f (.int (c * c + 3 * c + 7919 * k + 1))) (.f (.int 48271)) = some (.f (.int ((c * c + 3 * c + 7919 * k + 1) * 48271))) := gMul_ok (by
      have a : (48271 : Int).natAbs.log2 < 17 := by decide
      have b : (c * c + 3 * c + 7919 * k + 1).natAbs.log2 < 2097158 := log2_small (k := 2097157) bx
      omega)
    have m5 := gMod_ok (i := (c * c + 3 * c + 7919 * k + 1) * 48271) (j := 2147483629) (by decide)
    generalize hn : (c * c + 3 * c + 7919 * k + 1) * 48271 % 2147483629 = n at m5
    have hn0 : 0 ≤ n := by rw [← hn]; exact Int.emod_nonneg _ (by decide)
    have hn1 : n < 2147483629 := by rw [← hn]; exact Int.emod_lt_of_pos _ (by decide)
    refine ⟨(n * n + 7) % 2147483587, Int.emod_nonneg _ (by decide), Int.lt_trans (Int.emod_lt_of_pos _ (by decide)) (by decide), ?_⟩
    have hcd := decide_eq_false hc
    clear hc hn bx bc hl hs hb hk60
    walk_at "W"
theorem whole_ok (i : Int) : val (g_law_whole [.f (.int i)]) = some (.bl true) := by
  have hv : val (g_law_whole [.f (.int i)]) = oval (b_law_whole ([.f (.int i)] ++ List.replicate (1 - 1) .un)) 1 := val_run (m := 1) (n := 1) rfl
  rw [hv]
  unfold b_law_whole
  walk_at "w"
theorem law_operand_ok {m : Int} {names : List Str} {w : Nat} (hm : 0 ≤ m) (hn : 0 < names.length) (hw : w ≤ 100) :
    ∃ a : Opd, a.Ok names w ∧ val (g_law_operand [.f (.int m), .f (.lst (names.map .str)), .f (.int (w : Int))]) = some a.d := by
  have hv : val (g_law_operand [.f (.int m), .f (.lst (names.map .str)), .f (.int (w : Int))]) = oval (b_law_operand ([.f (.int m), .f (.lst (names.map .str)), .f (.int (w : Int))] ++ List.replicate (3 - 3) .un)) 3 := val_run (m := 3) (n := 3) rfl
  rw [hv]
  clear hv
  unfold b_law_operand
  by_cases h : 0 < m % 3
  · obtain ⟨x, hx, h0, hp⟩ := pick hn (m / 3)
    have hp := hp D.str
    refine ⟨.nm x, hx, ?_⟩
    have ed : (Opd.nm x).d = .str x := rfl
    have hn2 : 0 < (names.length : Int) := by omega
    rw [ed]
    clear ed hx
    walk_at "W"
  · have hp : (0 : Int) < 2 ^ w := Int.pow_pos (by decide)
    refine ⟨.wd (m / 3 % 2 ^ w), ⟨Int.emod_nonneg _ (by omega), Int.emod_lt_of_pos _ hp⟩, ?_⟩
    have ed : (Opd.wd (m / 3 % 2 ^ w)).d = .int (m / 3 % 2 ^ w) := rfl
    rw [ed]
    clear ed
    walk_at "W"
theorem seven (j : Nat) (h : j < 7) : ∃ op, op ∈ ops ∧ [D.str "plus", .str "less", .str "and", .str "or", .str "xor", .str "below", .str "same"][j]? = some (.str op) := by
  have h3 : j = 0 ∨ j = 1 ∨ j = 2 ∨ j = 3 ∨ j = 4 ∨ j = 5 ∨ j = 6 := by omega
  rcases h3 with rfl | rfl | rfl | rfl | rfl | rfl | rfl
  · exact ⟨"plus", by simp [ops], rfl⟩
  · exact ⟨"less", by simp [ops], rfl⟩
  · exact ⟨"and", by simp [ops], rfl⟩
  · exact ⟨"or", by simp [ops], rfl⟩
  · exact ⟨"xor", by simp [ops], rfl⟩
  · exact ⟨"below", by simp [ops], rfl⟩
  · exact ⟨"same", by simp [ops], rfl⟩
theorem law_deed_ok {m : Int} {names : List Str} {w : Nat} (hm : 0 ≤ m) (hn : 0 < names.length) (hw : w ≤ 100) :
    ∃ d : Deed, d.Ok names w ∧ val (g_law_deed [.f (.int m), .f (.lst (names.map .str)), .f (.int (w : Int))]) = some d.d := by
  have hv : val (g_law_deed [.f (.int m), .f (.lst (names.map .str)), .f (.int (w : Int))]) = oval (b_law_deed ([.f (.int m), .f (.lst (names.map .str)), .f (.int (w : Int))] ++ List.replicate (6 - 3) .un)) 3 := val_run (m := 3) (n := 6) rfl
  rw [hv]
  clear hv
  unfold b_law_deed
  obtain ⟨a, ha, ea⟩ := law_operand_ok (m := m / 16) (names := names) (w := w) (by omega) hn hw
  obtain ⟨b, hb, eb⟩ := law_operand_ok (m := m / 1009) (names := names) (w := w) (by omega) hn hw
  obtain ⟨x, hx, h0, hp⟩ := pick hn (m / 7)
  have hp := hp D.str
  have hn2 : 0 < (names.length : Int) := by omega
  have hn3 : ¬ (names.length : Int) = 0 := by omega
  by_cases h1 : m % 9 = 0
  · refine ⟨.tell a, ha, ?_⟩
    simp only [Deed.d]
    clear ha hb hx
    walk_at "W"
  · by_cases h2 : m % 9 = 1
    · refine ⟨.copy x a, ⟨hx, ha⟩, ?_⟩
      simp only [Deed.d]
      clear ha hb hx
      have h1 := eq_false h1
      have h2 := eq_true h2
      walk_at "W"
    · obtain ⟨op, hop, ho⟩ := seven (m % 9 - 2).toNat (by omega)
      refine ⟨.op op x a b, ⟨hop, hx, ha, hb⟩, ?_⟩
      simp only [Deed.d]
      clear ha hb hx hop
      walk_at "W"
def nm6 : List Str := ["a", "bb", "bc", "dddddd", "x", "y"]
theorem law_deeds_ok {ns : List Int} {most b : Nat} (hb : ∀ z ∈ ns, Builtin.Int.intBits z ≤ 1048576) (hm : most ≤ 900) (h1 : 1 ≤ b) (h6 : b ≤ 6) :
    ∃ ds : List Deed, ds.length ≤ most ∧ (∀ d ∈ ds, d.Ok (nm6.take b) 4) ∧ val (g_law_deeds [.f (.lst (ns.map .int)), .f (.int (most : Int)), .f (.int (b : Int))]) = some (.lst (ds.map Deed.d)) := by
  have hv : val (g_law_deeds [.f (.lst (ns.map .int)), .f (.int (most : Int)), .f (.int (b : Int))]) = oval (b_law_deeds ([.f (.lst (ns.map .int)), .f (.int (most : Int)), .f (.int (b : Int))] ++ List.replicate (6 - 3) .un)) 3 := val_run (m := 3) (n := 6) rfl
  rw [hv]
  clear hv
  unfold b_law_deeds
  have hlen : 0 < (nm6.take b).length := by rw [List.length_take]; show 0 < min b 6; omega
  obtain ⟨ρ', l1, ds, s4, s5, hd1, hd2, rfl⟩ := for_enum (φ := D.int) (fg := gTupT 2 (gsCons (gSet 4) (gsCons (gSet 5) gsNil))) (fb := l_law_deeds_1) (ρ := [.f (.lst (ns.map .int)), .f (.int (most : Int)), .f (.int (b : Int)), .l [], .un, .un]) (ns.take most)
    (fun i ρ => ∃ (ds : List Deed) (s4 s5 : T), ds.length = i ∧ (∀ d ∈ ds, d.Ok (nm6.take b) 4) ∧ ρ = [.f (.lst (ns.map .int)), .f (.int (most : Int)), .f (.int (b : Int)), .l (ds.map Deed.d), s4, s5]) (by
    rintro i c ρ hc ⟨ds, s4, s5, hd1, hd2, rfl⟩
    have hi : i < most := by
      have := (List.getElem?_eq_some_iff.mp hc).1
      rw [List.length_take] at this
      omega
    obtain ⟨m, hm0, hm1, e1⟩ := mixed_ok (c := c) (k := (i : Int)) (hb c (List.mem_of_mem_take (List.mem_of_getElem? hc))) (by omega) (by omega)
    obtain ⟨d, hd, e2⟩ := law_deed_ok (w := 4) hm0 hlen (by omega)
    have hcut : cutD [D.str "a", .str "bb", .str "bc", .str "dddddd", .str "x", .str "y"] none (some (b : Int)) = (nm6.take b).map D.str := by
      rw [cutD_take, List.map_take]
      rfl
    have e2 : val (g_law_deed [.f (.int m), .f (.lst ((nm6.take b).map .str)), .f (.int 4)]) = some d.d := e2
    have hl2 : ds.length < 1000 := by omega
    unfold l_law_deeds_1
    have hnew : ∀ d' ∈ ds ++ [d], d'.Ok (nm6.take b) 4 := fun d' h => by
      rcases List.mem_append.mp h with z | z
      · exact hd2 d' z
      · rw [List.mem_singleton.mp z]; exact hd
    have hll : (ds ++ [d]).length = i + 1 := by simp; omega
    clear hb hd hd2 hc hlen hd1
    apply Wn_of
    case h =>
      walk_at "W"
      rfl
    case hq => exact ⟨ds ++ [d], _, _, hll, hnew, by rw [List.map_append]; rfl⟩) ⟨[], _, _, rfl, (fun d h => by cases h), rfl⟩
  refine ⟨ds, by rw [hd1, List.length_take]; omega, hd2, ?_⟩
  have hcut : cutD (ns.map D.int) none (some (most : Int)) = (ns.take most).map D.int := by rw [cutD_take, List.map_take]
  clear hb hd1 hd2
  walk_at "W"

theorem gp_is (d e : Deed) : gp d e = none ∨ ∃ i, gp d e = some i := by
  cases gp d e with
  | none => exact .inl rfl
  | some i => exact .inr ⟨i, rfl⟩
theorem strs_fine {x : Str} (h : x ∈ nm6) : PyData.canLay0 (.str x) = true := by
  simp only [nm6, List.mem_cons, List.mem_nil_iff, or_false] at h
  rcases h with rfl | rfl | rfl | rfl | rfl | rfl <;> decide +kernel
theorem ops_fine {x : Str} (h : x ∈ ops) : PyData.canLay0 (.str x) = true := by
  simp only [ops, List.mem_cons, List.mem_nil_iff, or_false] at h
  rcases h with rfl | rfl | rfl | rfl | rfl | rfl | rfl <;> decide +kernel
theorem opd_fine {a : Opd} {names : List Str} {w n : Nat} (hn : ∀ x ∈ names, PyData.canLay0 (.str x) = true) (h : a.Ok names w) : a.d.fine n = true := by
  cases a with
  | nm x => exact hn x h
  | wd i => rfl
theorem deed_fine {d : Deed} {names : List Str} {w n : Nat} (hn : ∀ x ∈ names, PyData.canLay0 (.str x) = true) (h : d.Ok names w) : d.d.fine (n + 1) = true := by
  cases d with
  | tell a =>
    show (decide (0 < n + 1) && (PyData.canLay0 (.str "tell") && (a.d.fine n && true))) = true
    rw [opd_fine hn h, decide_eq_true (by omega), show PyData.canLay0 (.str "tell") = true by decide +kernel]
    rfl
  | copy x a =>
    show (decide (0 < n + 1) && (PyData.canLay0 (.str "copy") && (PyData.canLay0 (.str x) && (a.d.fine n && true)))) = true
    rw [opd_fine hn h.2, hn x h.1, decide_eq_true (by omega), show PyData.canLay0 (.str "copy") = true by decide +kernel]
    rfl
  | op p x a b =>
    show (decide (0 < n + 1) && (PyData.canLay0 (.str p) && (PyData.canLay0 (.str x) && (a.d.fine n && (b.d.fine n && true))))) = true
    rw [ops_fine h.1, opd_fine hn h.2.2.1, opd_fine hn h.2.2.2, hn x h.2.1, decide_eq_true (by omega)]
    rfl
theorem law_true (ns : List Int) (hl : ns.length ≤ 63) (hb : ∀ z ∈ ns, Builtin.Int.intBits z ≤ 1048576) : ∃ us, g_law [.f (.lst (ns.map .int))] = some (.ok (.f (.bl true)) us) := by
  refine val_ex ?_
  have hv : val (g_law [.f (.lst (ns.map .int))]) = oval (b_law ([.f (.lst (ns.map .int))] ++ List.replicate (8 - 1) .un)) 1 := val_run (m := 1) (n := 8) rfl
  rw [hv]
  clear hv
  unfold b_law
  have hcut : cutD (ns.map D.int) none (some 63) = ns.map D.int := by
    rw [show (63 : Int) = ((63 : Nat) : Int) from rfl, cutD_take, List.take_of_length_le (by rw [List.length_map]; exact hl)]
  generalize hs : ns.sum = s
  have hm9 : 0 ≤ s % 9 ∧ s % 9 < 9 := by omega
  have hb6 : 0 ≤ 1 + s / 9 % 6 ∧ 1 + s / 9 % 6 ≤ 6 ∧ 1 ≤ 1 + s / 9 % 6 := by omega
  obtain ⟨most, hm⟩ := Int.eq_ofNat_of_zero_le hm9.1
  obtain ⟨b, hbx⟩ := Int.eq_ofNat_of_zero_le hb6.1
  obtain ⟨ds, hd1, hd2, e1⟩ := law_deeds_ok (ns := ns) (most := most) (b := b) hb (by omega) (by omega) (by omega)
  have hfine : D.fines (ds.map Deed.d) 63 = true := fines_of fun d hd => deed_fine (names := nm6.take b) (w := 4) (n := 62) (fun x hx => strs_fine (List.mem_of_mem_take hx)) (hd2 d hd)
  have hlen : ds.length ≤ 8 := by omega
  obtain ⟨ρ', l1, s4, s5, s6, s7, rfl⟩ := for_range (fg := gSet 4) (fb := l_law_1) (ρ := [.f (.lst (ns.map .int)), .f (.int s), .f (.lst (ds.map Deed.d)), .f (.lst (ds.map Deed.d)), .un, .un, .un, .un]) ds.length
    (fun i ρ => ∃ s4 s5 s6 s7, ρ = [.f (.lst (ns.map .int)), .f (.int s), .f (.lst (ds.map Deed.d)), .f (.lst (ds.map Deed.d)), s4, s5, s6, s7]) (by
    rintro i ρ hi ⟨s4, s5, s6, s7, rfl⟩
    obtain ⟨ρ', l2, s5, s6, s7, rfl⟩ := for_range (fg := gSet 5) (fb := l_law_2) (ρ := [.f (.lst (ns.map .int)), .f (.int s), .f (.lst (ds.map Deed.d)), .f (.lst (ds.map Deed.d)), .f (.int (i : Int)), s5, s6, s7]) i
      (fun j ρ => ∃ s5 s6 s7, ρ = [.f (.lst (ns.map .int)), .f (.int s), .f (.lst (ds.map Deed.d)), .f (.lst (ds.map Deed.d)), .f (.int (i : Int)), s5, s6, s7]) (by
      rintro j ρ hj ⟨s5, s6, s7, rfl⟩
      have hi1 := List.getElem?_eq_getElem hi
      have hj1 := List.getElem?_eq_getElem (show j < ds.length by omega)
      generalize ds[i] = di at hi1
      generalize ds[j] = dj at hj1
      have oi := hd2 di (List.mem_of_getElem? hi1)
      have oj := hd2 dj (List.mem_of_getElem? hj1)
      have g1 := law_gap_ok oj oi
      have g2 := gap_ok hj1 hi1 oj oi
      have wh := whole_ok
      have x1 := at_map (φ := Deed.d) hi1
      have x2 := at_map (φ := Deed.d) hj1
      unfold l_law_2
      clear hi1 hj1 oi oj hd2 hfine hb e1 hcut
      rcases gp_is dj di with z | ⟨r, z⟩
      · rw [z] at g1 g2
        rw [show gD none = .non from rfl] at g1 g2
        apply Wn_of
        case h =>
          walk_at "W"
          rfl
        case hq => exact ⟨_, _, _, rfl⟩
      · rw [z] at g1 g2
        rw [show gD (some r) = .int r from rfl] at g1 g2
        apply Wn_of
        case h =>
          walk_at "W"
          rfl
        case hq => exact ⟨_, _, _, rfl⟩) ⟨_, _, _, rfl⟩
    unfold l_law_1
    clear hd2 hfine hb e1 hcut
    apply Wn_of
    case h =>
      walk_at "W"
      rfl
    case hq => exact ⟨_, _, _, _, rfl⟩) ⟨_, _, _, _, rfl⟩
  have eq := gEq_refl_l hfine
  clear hd2 hfine hb
  walk_at "W"
end K
open PySem PySem.W PyProof.Rows
set_option maxRecDepth 100000 in
set_option maxHeartbeats 0 in
theorem PySem.Challenge.cw_deedloom_k30_deeds_that_lean_holds : PySem.Challenge.rw_deedloom_k30_deeds_that_lean.Holds := by
  w_on; o_law; k_head; (case hw => w_witness2)
  k_fill
  refine K.walk (l := PySem.Challenge.rw_deedloom_k30_deeds_that_lean) rfl rfl (fun w h Y => PySem.W.kIn_of Y) K.law_true ?F
  case F =>
    intro w mg fa h KX G hmg
    refine' K.all_mk KX G hmg ?a1 ?l1 ?c1 ?k1 ?a2 ?l2 ?c2 ?k2 ?a3 ?l3 ?c3 ?k3 ?a4 ?l4 ?c4 ?k4 ?a5 ?l5 ?c5 ?k5 ?a6 ?l6 ?c6 ?k6 ?a7 ?l7 ?c7 ?k7 ?a8 ?l8 ?c8 ?k8 ?a9 ?l9 ?c9 ?k9 ?a10 ?l10 ?c10 ?k10 ?a11 ?l11 ?c11 ?k11 ?z_isinstance ?z_str ?z_int ?z_bool ?z_len ?z_enumerate ?z_range ?z_list ?z_sum
    (case a1 => k_is)
    (case l1 => k_is)
    (case c1 => k_is)
    (case k1 => k_is)
    (case a2 => k_is)
    (case l2 => k_is)
    (case c2 => k_is)
    (case k2 => k_is)
    (case a3 => k_is)
    (case l3 => k_is)
    (case c3 => k_is)
    (case k3 => k_is)
    (case a4 => k_is)
    (case l4 => k_is)
    (case c4 => k_is)
    (case k4 => k_is)
    (case a5 => k_is)
    (case l5 => k_is)
    (case c5 => k_is)
    (case k5 => k_is)
    (case a6 => k_is)
    (case l6 => k_is)
    (case c6 => k_is)
    (case k6 => k_is)
    (case a7 => k_is)
    (case l7 => k_is)
    (case c7 => k_is)
    (case k7 => k_is)
    (case a8 => k_is)
    (case l8 => k_is)
    (case c8 => k_is)
    (case k8 => k_is)
    (case a9 => k_is)
    (case l9 => k_is)
    (case c9 => k_is)
    (case k9 => k_is)
    (case a10 => k_is)
    (case l10 => k_is)
    (case c10 => k_is)
    (case k10 => k_is)
    (case a11 => k_is)
    (case l11 => k_is)
    (case c11 => k_is)
    (case k11 => k_is)
    (case z_isinstance => k_is)
    (case z_str => k_is)
    (case z_int => k_is)
    (case z_bool => k_is)
    (case z_len => k_is)
    (case z_enumerate => k_is)
    (case z_range => k_is)
    (case z_list => k_is)
    (case z_sum => k_is)
