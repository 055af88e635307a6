import PyProof.Rows.All
import Wide.All
import OpenK.AllK
import Wide.FinOn
import HandS.ForMost
import HandS.Wide
import HandS.IsInst
import HandS.RaiseMore
import HandS.EndBits
import HandS.Small
import HandS.Finally
import PyProof.DictCopy
import HandS.Style
import HandS.More
import HandS.Sort
import KE.KDictList
import HandS.SortInts
import HandS.Text
import KE.KDictCopyH
import PySem.Challenge.RW_deedloom_k32_whole_least_layings
set_option Elab.async false
set_option linter.all false
set_option maxRecDepth 100000
namespace Z
open PySem L2

/-- deep data, never changed -/
inductive D where
  | non | bl (b : Bool) | int (i : Int) | str (x : Str)
  | tup (l : List D) | lst (l : List D) | dct (ks : List Key) (vs : List D) | obj (C : Nat) (ns : List Str) (vs : List D)

/-- what a slot holds: forgotten, deep data, or a thing of its own that may be changed -/
inductive T where
  | un | f (d : D) | l (ds : List D) | dk (ks : List Key) (ds : List D) | di (ks : List (List Int)) (ds : List D)
  | ll (ts : List T) | tu (ts : List T) | o (C : Nat) (ns : List Str) (ts : List T)

/-- the written part, and where the classes of the program stand, by their numbers -/
structure Wd where
  K : PySem.W.Frag
  cl : Nat → Addr

mutual
def Rep (W : Wd) (F : Hp) : D → V → Prop
  | .non, v => v = .non
  | .bl b, v => v = .bl b
  | .int i, v => v = .int i
  | .str x, v => v = .str x
  | .tup l, v => ∃ p vs, v = .ref p ∧ SqT W.K F p vs ∧ Reps W F l vs
  | .lst l, v => ∃ p vs, v = .ref p ∧ SqL W.K F p vs ∧ Reps W F l vs
  | .dct ks ds, v => ∃ p kvs, v = .ref p ∧ Rd F p (.dK kvs) ∧ kvs.map (·.1) = ks ∧ Reps W F ds (kvs.map (·.2))
  | .obj C ns ds, v => ∃ p dx kvs, v = .ref p ∧ F p = some (.ins (W.cl C) dx kvs) ∧ kvs.map (·.1) = ns ∧ Reps W F ds (kvs.map (·.2))
def Reps (W : Wd) (F : Hp) : List D → List V → Prop
  | [], vs => vs = []
  | d :: ds, vs => ∃ v r, vs = v :: r ∧ Rep W F d v ∧ Reps W F ds r
end

/-- a flat number: a whole number or a bool -/
def D.num : D → Option Int
  | .int i => some i
  | .bl b => some (if b = true then 1 else 0)
  | _ => none
def numsOf : List D → Option (List Int)
  | [] => some []
  | d :: ds => d.num.bind fun i => (numsOf ds).map fun is => i :: is
/-- what a tuple of numbers hashes to -/
def kH (ks : List Int) : Int := reduceHash (Builtin.Tuple.tupleHashOf (ks.map hashInt))
/-- a dict whose keys are tuples of numbers: each key, where its tuple stands, its value -/
def dxO (p : Addr) (xs : List (List Int × Addr × V)) : HO := .ext fun h => xs.length ≤ sizeLine ∧ (p == sysModules) = false ∧ ∃ ys : List (List Int × Addr × Value),
  Paired (fun (x : List Int × Addr × V) (y : List Int × Addr × Value) => x.1 = y.1 ∧ x.2.1 = y.2.1 ∧ L2.RelV x.2.2 y.2.2) xs ys ∧
  ∃ o es ep, h.get? p = some o ∧ o.ExactDict ∧ o.data = .dict es ep ∧ es.toList = ys.map (fun y => (⟨kH y.1, .ref y.2.1, y.2.2⟩ : DictEntry)) ∧ (ys.map (·.1)).Nodup

mutual
def RelT (W : Wd) (F H : Hp) : T → V → List Addr → Prop
  | .un, _, fp => fp = []
  | .f d, v, fp => fp = [] ∧ Rep W F d v
  | .l ds, v, fp => ∃ p vs, v = .ref p ∧ fp = [p] ∧ H p = some (.lst vs) ∧ Reps W F ds vs
  | .dk ks ds, v, fp => ∃ p kvs, v = .ref p ∧ fp = [p] ∧ H p = some (.dK kvs) ∧ kvs.map (·.1) = ks ∧ Reps W F ds (kvs.map (·.2))
  | .di ks ds, v, fp => ∃ p xs, v = .ref p ∧ fp = [p] ∧ H p = some (dxO p xs) ∧ xs.map (·.1) = ks ∧ (∀ x ∈ xs, ∃ l, numsOf l = some x.1 ∧ Rep W F (.tup l) (.ref x.2.1)) ∧ Reps W F ds (xs.map (·.2.2))
  | .ll ts, v, fp => ∃ p vs fps, v = .ref p ∧ fp = p :: fps.flatten ∧ H p = some (.lst vs) ∧ RelTs W F H ts vs fps
  | .tu ts, v, fp => ∃ p vs fps, v = .ref p ∧ fp = p :: fps.flatten ∧ H p = some (.tup vs) ∧ RelTs W F H ts vs fps
  | .o C ns ts, v, fp => ∃ p dx kvs fps, v = .ref p ∧ fp = p :: fps.flatten ∧ H p = some (.ins (W.cl C) dx kvs) ∧ kvs.map (·.1) = ns ∧ RelTs W F H ts (kvs.map (·.2)) fps
def RelTs (W : Wd) (F H : Hp) : List T → List V → List (List Addr) → Prop
  | [], vs, fps => vs = [] ∧ fps = []
  | t :: ts, vs, fps => ∃ v vr f fr, vs = v :: vr ∧ fps = f :: fr ∧ RelT W F H t v f ∧ RelTs W F H ts vr fr
end

/-- all that F has -/
def Inc (F F' : Hp) : Prop := ∀ a o, F a = some o → F' a = some o
theorem Inc.refl (F : Hp) : Inc F F := fun _ _ h => h
theorem Inc.trans {F G J : Hp} (a : Inc F G) (b : Inc G J) : Inc F J := fun p o h => b p o (a p o h)
/-- .. but that a dict may be locked -/
def Le (F H : Hp) : Prop := ∀ a o, F a = some o → H a = some o ∨ ∃ u kvs, o = .dK kvs ∧ H a = some (.frz u o)
theorem Le.refl (F : Hp) : Le F F := fun _ _ h => .inl h
theorem Le.of {F H : Hp} (h : Inc F H) : Le F H := fun a o e => .inl (h a o e)
theorem Le.some {F H : Hp} (h : Le F H) {a : Addr} {o : HO} (e : F a = some o) : ∃ u, H a = some u := by
  rcases h a o e with z | ⟨u, kvs, _, z⟩
  · exact ⟨_, z⟩
  · exact ⟨_, z⟩
theorem Le.none {F H : Hp} (h : Le F H) {a : Addr} (e : H a = Option.none) : F a = Option.none := by
  cases q : F a with
  | none => rfl
  | some o =>
    obtain ⟨u, z⟩ := h.some q
    rw [e] at z
    cases z
theorem Inc.le {F G H : Hp} (a : Inc F G) (b : Le G H) : Le F H := fun p o e => b p o (a p o e)
theorem Le.inc {F G H : Hp} (a : Le F G) (b : Inc G H) : Le F H := fun p o e => by
  rcases a p o e with z | ⟨u, kvs, e1, z⟩
  · exact .inl (b _ _ z)
  · exact .inr ⟨u, kvs, e1, b _ _ z⟩
theorem Rd.le {F H : Hp} (h : Le F H) {a : Addr} {u : HO} (r : Rd F a u) : Rd H a u := by
  rcases r with e | ⟨o, e⟩
  · rcases h a u e with z | ⟨o, kvs, e1, z⟩
    · exact .inl z
    · exact .inr ⟨o, z⟩
  · rcases h a _ e with z | ⟨_, kvs, e1, z⟩
    · exact .inr ⟨o, z⟩
    · cases e1
theorem SqL.le {K : PySem.W.Frag} {F H : Hp} (h : Le F H) {a : Addr} {vs : List V} (r : SqL K F a vs) : SqL K H a vs := by
  rcases r with r | r
  · exact .inl (Rd.le h r)
  · exact .inr r
theorem SqT.le {K : PySem.W.Frag} {F H : Hp} (h : Le F H) {a : Addr} {vs : List V} (r : SqT K F a vs) : SqT K H a vs := by
  rcases r with r | r
  · exact .inl (Rd.le h r)
  · exact .inr r
theorem ins_le {F H : Hp} (h : Le F H) {a C dx : Addr} {kvs : List (Str × V)} (e : F a = some (.ins C dx kvs)) : H a = some (.ins C dx kvs) := by
  rcases h a _ e with z | ⟨_, _, e1, _⟩
  · exact z
  · cases e1
mutual
theorem Rep.le {W : Wd} {F H : Hp} (h : Le F H) : ∀ (d : D) (v : V), Rep W F d v → Rep W H d v
  | .non, _, r => r
  | .bl _, _, r => r
  | .int _, _, r => r
  | .str _, _, r => r
  | .tup l, _, r => by
    obtain ⟨p, vs, e, s, q⟩ := r
    exact ⟨p, vs, e, SqT.le h s, Reps.le h l vs q⟩
  | .lst l, _, r => by
    obtain ⟨p, vs, e, s, q⟩ := r
    exact ⟨p, vs, e, SqL.le h s, Reps.le h l vs q⟩
  | .dct ks ds, _, r => by
    obtain ⟨p, kvs, e, s, k, q⟩ := r
    exact ⟨p, kvs, e, Rd.le h s, k, Reps.le h ds _ q⟩
  | .obj C ns ds, _, r => by
    obtain ⟨p, dx, kvs, e, s, k, q⟩ := r
    exact ⟨p, dx, kvs, e, ins_le h s, k, Reps.le h ds _ q⟩
theorem Reps.le {W : Wd} {F H : Hp} (h : Le F H) : ∀ (ds : List D) (vs : List V), Reps W F ds vs → Reps W H ds vs
  | [], _, r => r
  | d :: ds, _, r => by
    obtain ⟨v, vr, e, a, b⟩ := r
    exact ⟨v, vr, e, Rep.le h d v a, Reps.le h ds vr b⟩
end
theorem Rep.inc {W : Wd} {F H : Hp} (h : Inc F H) {d : D} {v : V} (r : Rep W F d v) : Rep W H d v := Rep.le (Le.of h) d v r
theorem Reps.inc {W : Wd} {F H : Hp} (h : Inc F H) {d : List D} {v : List V} (r : Reps W F d v) : Reps W H d v := Reps.le (Le.of h) d v r

mutual
theorem RelT.mono {W : Wd} {F F' H H' : Hp} (hF : Inc F F') : ∀ (t : T) (v : V) (fp : List Addr), (∀ a ∈ fp, H' a = H a) → RelT W F H t v fp → RelT W F' H' t v fp
  | .un, _, _, _, r => r
  | .f d, _, _, _, r => ⟨r.1, Rep.inc hF r.2⟩
  | .l ds, _, _, h, r => by
    obtain ⟨p, vs, e1, e2, e3, q⟩ := r
    exact ⟨p, vs, e1, e2, by rw [h p (by rw [e2]; exact List.mem_singleton.mpr rfl)]; exact e3, q.inc hF⟩
  | .dk ks ds, _, _, h, r => by
    obtain ⟨p, kvs, e1, e2, e3, k, q⟩ := r
    exact ⟨p, kvs, e1, e2, by rw [h p (by rw [e2]; exact List.mem_singleton.mpr rfl)]; exact e3, k, q.inc hF⟩
  | .di ks ds, _, _, h, r => by
    obtain ⟨p, xs, e1, e2, e3, k, kk, q⟩ := r
    exact ⟨p, xs, e1, e2, by rw [h p (by rw [e2]; exact List.mem_singleton.mpr rfl)]; exact e3, k, fun x hx => let ⟨l, a, b⟩ := kk x hx; ⟨l, a, b.inc hF⟩, q.inc hF⟩
  | .ll ts, _, _, h, r => by
    obtain ⟨p, vs, fps, e1, e2, e3, q⟩ := r
    exact ⟨p, vs, fps, e1, e2, by rw [h p (by rw [e2]; exact List.mem_cons_self)]; exact e3, RelTs.mono hF ts vs fps (fun a ha => h a (by rw [e2]; exact List.mem_cons_of_mem _ ha)) q⟩
  | .tu ts, _, _, h, r => by
    obtain ⟨p, vs, fps, e1, e2, e3, q⟩ := r
    exact ⟨p, vs, fps, e1, e2, by rw [h p (by rw [e2]; exact List.mem_cons_self)]; exact e3, RelTs.mono hF ts vs fps (fun a ha => h a (by rw [e2]; exact List.mem_cons_of_mem _ ha)) q⟩
  | .o C ns ts, _, _, h, r => by
    obtain ⟨p, dx, kvs, fps, e1, e2, e3, k, q⟩ := r
    exact ⟨p, dx, kvs, fps, e1, e2, by rw [h p (by rw [e2]; exact List.mem_cons_self)]; exact e3, k, RelTs.mono hF ts _ fps (fun a ha => h a (by rw [e2]; exact List.mem_cons_of_mem _ ha)) q⟩
theorem RelTs.mono {W : Wd} {F F' H H' : Hp} (hF : Inc F F') : ∀ (ts : List T) (vs : List V) (fps : List (List Addr)), (∀ a ∈ fps.flatten, H' a = H a) → RelTs W F H ts vs fps → RelTs W F' H' ts vs fps
  | [], _, _, _, r => r
  | t :: ts, _, _, h, r => by
    obtain ⟨v, vr, f, fr, e1, e2, a, b⟩ := r
    subst e2
    rw [List.flatten_cons] at h
    exact ⟨v, vr, f, fr, e1, rfl, RelT.mono hF t v f (fun x hx => h x (List.mem_append_left _ hx)) a, RelTs.mono hF ts vr fr (fun x hx => h x (List.mem_append_right _ hx)) b⟩
end
mutual
theorem RelT.there {W : Wd} {F H : Hp} : ∀ (t : T) (v : V) (fp : List Addr), RelT W F H t v fp → ∀ a ∈ fp, ∃ o, H a = some o
  | .un, _, fp, r, a, ha => by
    have r' : fp = [] := r
    subst r'
    cases ha
  | .f d, _, fp, r, a, ha => by
    have r' : fp = [] := r.1
    subst r'
    cases ha
  | .l ds, _, _, r, a, ha => by
    obtain ⟨p, vs, e1, e2, e3, q⟩ := r
    subst e2
    cases List.mem_singleton.mp ha
    exact ⟨_, e3⟩
  | .dk ks ds, _, _, r, a, ha => by
    obtain ⟨p, kvs, e1, e2, e3, k, q⟩ := r
    subst e2
    cases List.mem_singleton.mp ha
    exact ⟨_, e3⟩
  | .di ks ds, _, _, r, a, ha => by
    obtain ⟨p, xs, e1, e2, e3, k, kk, q⟩ := r
    subst e2
    cases List.mem_singleton.mp ha
    exact ⟨_, e3⟩
  | .ll ts, _, _, r, a, ha => by
    obtain ⟨p, vs, fps, e1, e2, e3, q⟩ := r
    subst e2
    rcases List.mem_cons.mp ha with z | z
    · subst z; exact ⟨_, e3⟩
    · exact RelTs.there ts vs fps q a z
  | .tu ts, _, _, r, a, ha => by
    obtain ⟨p, vs, fps, e1, e2, e3, q⟩ := r
    subst e2
    rcases List.mem_cons.mp ha with z | z
    · subst z; exact ⟨_, e3⟩
    · exact RelTs.there ts vs fps q a z
  | .o C ns ts, _, _, r, a, ha => by
    obtain ⟨p, dx, kvs, fps, e1, e2, e3, k, q⟩ := r
    subst e2
    rcases List.mem_cons.mp ha with z | z
    · subst z; exact ⟨_, e3⟩
    · exact RelTs.there ts _ fps q a z
theorem RelTs.there {W : Wd} {F H : Hp} : ∀ (ts : List T) (vs : List V) (fps : List (List Addr)), RelTs W F H ts vs fps → ∀ a ∈ fps.flatten, ∃ o, H a = some o
  | [], _, fps, r, a, ha => by
    have r' : fps = [] := r.2
    subst r'
    cases ha
  | t :: ts, _, _, r, a, ha => by
    obtain ⟨v, vr, f, fr, e1, e2, q1, q2⟩ := r
    subst e2
    rw [List.flatten_cons] at ha
    rcases List.mem_append.mp ha with z | z
    · exact RelT.there t v f q1 a z
    · exact RelTs.there ts vr fr q2 a z
end

/-! ### the slots -/
def Slot (W : Wd) (F H : Hp) (t : T) (s : Option V) (fp : List Addr) : Prop := match s with
  | none => t = .un ∧ fp = []
  | some v => RelT W F H t v fp
def Slots (W : Wd) (F H : Hp) : List T → St → List (List Addr) → Prop
  | [], σ, fps => σ = [] ∧ fps = []
  | t :: ts, σ, fps => ∃ s sr f fr, σ = s :: sr ∧ fps = f :: fr ∧ Slot W F H t s f ∧ Slots W F H ts sr fr
theorem Slot.mono {W : Wd} {F F' H H' : Hp} (hF : Inc F F') {t : T} {s : Option V} {fp : List Addr} (h : ∀ a ∈ fp, H' a = H a) (r : Slot W F H t s fp) : Slot W F' H' t s fp := by
  cases s with
  | none => exact r
  | some v => exact RelT.mono hF t v fp h r
theorem Slots.mono {W : Wd} {F F' H H' : Hp} (hF : Inc F F') : ∀ {ts : List T} {σ : St} {fps : List (List Addr)}, (∀ a ∈ fps.flatten, H' a = H a) → Slots W F H ts σ fps → Slots W F' H' ts σ fps
  | [], _, _, _, r => r
  | t :: ts, _, _, h, r => by
    obtain ⟨v, vr, f, fr, e1, e2, a, b⟩ := r
    subst e2
    rw [List.flatten_cons] at h
    exact ⟨v, vr, f, fr, e1, rfl, a.mono hF (fun x hx => h x (List.mem_append_left _ hx)), Slots.mono hF (fun x hx => h x (List.mem_append_right _ hx)) b⟩
theorem Slots.there {W : Wd} {F H : Hp} : ∀ {ts : List T} {σ : St} {fps : List (List Addr)}, Slots W F H ts σ fps → ∀ a ∈ fps.flatten, ∃ o, H a = some o
  | [], _, fps, r, a, ha => by
    have r' : fps = [] := r.2
    subst r'
    cases ha
  | t :: ts, _, _, r, a, ha => by
    obtain ⟨s, sr, f, fr, e1, e2, q1, q2⟩ := r
    subst e2
    rw [List.flatten_cons] at ha
    rcases List.mem_append.mp ha with z | z
    · cases s with
      | none => rw [q1.2] at z; cases z
      | some v => exact RelT.there t v f q1 a z
    · exact Slots.there q2 a z
theorem Slots.len {W : Wd} {F H : Hp} : ∀ {ts : List T} {σ : St} {fps : List (List Addr)}, Slots W F H ts σ fps → ts.length = σ.length ∧ ts.length = fps.length
  | [], _, _, r => by rw [r.1, r.2]; exact ⟨rfl, rfl⟩
  | t :: ts, _, _, r => by
    obtain ⟨s, sr, f, fr, e1, e2, q1, q2⟩ := r
    have q := Slots.len q2
    rw [e1, e2]
    simp [q.1, q.2]
    omega
theorem Slots.get {W : Wd} {F H : Hp} : ∀ {ts : List T} {σ : St} {fps : List (List Addr)} {i : Nat} {t : T}, Slots W F H ts σ fps → ts[i]? = some t → ∃ s f, σ[i]? = some s ∧ fps[i]? = some f ∧ Slot W F H t s f
  | [], _, _, _, _, _, e => by simp at e
  | t :: ts, _, _, 0, u, r, e => by
    obtain ⟨s, sr, f, fr, e1, e2, q1, q2⟩ := r
    simp at e
    subst e e1 e2
    exact ⟨s, f, rfl, rfl, q1⟩
  | t :: ts, _, _, i + 1, u, r, e => by
    obtain ⟨s, sr, f, fr, e1, e2, q1, q2⟩ := r
    subst e1 e2
    obtain ⟨s', f', a, b, c⟩ := Slots.get (i := i) (t := u) q2 (by simpa using e)
    exact ⟨s', f', by simpa using a, by simpa using b, c⟩
theorem Slots.set {W : Wd} {F H : Hp} {u : T} {s' : Option V} {f' : List Addr} (h : Slot W F H u s' f') : ∀ {ts : List T} {σ : St} {fps : List (List Addr)} (i : Nat), Slots W F H ts σ fps → Slots W F H (ts.set i u) (σ.set i s') (fps.set i f')
  | [], _, _, _, r => by rw [r.1, r.2]; exact ⟨rfl, rfl⟩
  | t :: ts, _, _, 0, r => by
    obtain ⟨s, sr, f, fr, e1, e2, q1, q2⟩ := r
    subst e1 e2
    exact ⟨s', sr, f', fr, rfl, rfl, h, q2⟩
  | t :: ts, _, _, i + 1, r => by
    obtain ⟨s, sr, f, fr, e1, e2, q1, q2⟩ := r
    subst e1 e2
    exact ⟨s, sr.set i s', f, fr.set i f', rfl, rfl, q1, Slots.set h i q2⟩

/-! ### lists of addresses -/
theorem mem_set_flat {l : List (List Addr)} {i : Nat} {f : List Addr} {a : Addr} (h : a ∈ (l.set i f).flatten) : a ∈ l.flatten ∨ a ∈ f := by
  obtain ⟨g, hg, ha⟩ := List.mem_flatten.mp h
  rcases List.mem_or_eq_of_mem_set hg with z | z
  · exact .inl (List.mem_flatten.mpr ⟨g, z, ha⟩)
  · subst z; exact .inr ha
/-- one part exchanged by one of old and new places -/
theorem nodup_set : ∀ {l : List (List Addr)} {i : Nat} {f g : List Addr}, l.flatten.Nodup → l[i]? = some g → f.Nodup → (∀ a ∈ f, a ∈ g ∨ a ∉ l.flatten) → (l.set i f).flatten.Nodup
  | [], _, _, _, _, e, _, _ => by simp at e
  | x :: l, 0, f, g, n, e, nf, h => by
    simp at e
    subst e
    rw [List.flatten_cons] at n h
    rw [List.set_cons_zero, List.flatten_cons]
    have n' := List.nodup_append.mp n
    refine List.nodup_append.mpr ⟨nf, n'.2.1, fun a ha b hb e => ?_⟩
    subst e
    rcases h a ha with z | z
    · exact n'.2.2 a z a hb rfl
    · exact z (List.mem_append_right _ hb)
  | x :: l, i + 1, f, g, n, e, nf, h => by
    rw [List.flatten_cons] at n h
    rw [List.set_cons_succ, List.flatten_cons]
    have n' := List.nodup_append.mp n
    have e' : l[i]? = some g := by simpa using e
    refine List.nodup_append.mpr ⟨n'.1, nodup_set n'.2.1 e' nf (fun a ha => (h a ha).imp id fun z m => z (List.mem_append_right _ m)), fun a ha b hb e => ?_⟩
    subst e
    rcases mem_set_flat hb with z | z
    · exact n'.2.2 a ha a z rfl
    · rcases h a z with q | q
      · exact n'.2.2 a ha a (List.mem_flatten.mpr ⟨g, List.mem_of_getElem? e', q⟩) rfl
      · exact q (List.mem_append_left _ ha)

/-! ### the state -/
/-- an entry: the heap, what was deep, of each parameter what it may hold, the parameters that are handed back -/
structure Bs where
  H0 : Hp
  F0 : Hp
  As : List (List Addr)
  io : List (Nat × V)
abbrev Bs.A (b : Bs) : List Addr := b.As.flatten
/-- a thing on the way: the slot that it was taken from (none: it is new), the thing, the value -/
structure Tm where
  og : Option Nat
  t : T
  v : V
/-- an instance's class and dict stay, and what it holds by the name that stays -/
def Stb (_ : Addr → Prop) : HO → HO → Prop := fun o o' => ∀ C dx kvs, o = .ins C dx kvs → ∃ kvs', o' = .ins C dx kvs' ∧ ∀ v, kvs.lookup (Str.ofString "endings") = some v → kvs'.lookup (Str.ofString "endings") = some v
theorem Stb.refl {G : Addr → Prop} : ∀ o, Stb G o o := fun _ _ _ kvs e => ⟨kvs, e, fun _ h => h⟩
theorem Stb.trans {G G' G'' : Addr → Prop} {o o1 o2 : HO} (h1 : Stb G o o1) (h2 : Stb G' o1 o2) : Stb G'' o o2 := fun C dx kvs e =>
  let ⟨_, e1, q1⟩ := h1 C dx kvs e
  let ⟨kvs2, e2, q2⟩ := h2 C dx _ e1
  ⟨kvs2, e2, fun v h => q2 v (q1 v h)⟩
theorem Stb.lst {G : Addr → Prop} {vs : List V} {o : HO} : Stb G (.lst vs) o := fun _ _ _ e => nomatch e
theorem Stb.dk {G : Addr → Prop} {kvs : List (Key × V)} {o : HO} : Stb G (.dK kvs) o := fun _ _ _ e => nomatch e
theorem Stb.frz {G : Addr → Prop} {x : Obj} {u o : HO} : Stb G (.frz x u) o := fun _ _ _ e => nomatch e
def GB (W : Wd) (b : Bs) (a : Addr) : Prop := b.F0 a = none ∧ W.K.lookup a = none ∧ ∃ u, b.H0 a = some u
def GF (W : Wd) (F : Hp) (a : Addr) : Prop := F a = none ∧ W.K.lookup a = none
def Own (F : Hp) (l : List Addr) : Prop := l.Nodup ∧ ∀ a ∈ l, F a = none
/-- younger than the entry, or the parameter's own -/
def Frm (b : Bs) (_ : Nat) (a : Addr) : Prop := b.H0 a = none ∨ a ∈ b.A
def Og (b : Bs) (_ : Option Nat) (a : Addr) : Prop := b.H0 a = none ∨ a ∈ b.A
def LocS (b : Bs) (fps : List (List Addr)) : Prop := ∀ i f, fps[i]? = some f → ∀ a ∈ f, Frm b i a
def LocX (b : Bs) : List Tm → List (List Addr) → Prop
  | [], _ => True
  | _ :: _, [] => True
  | x :: X, f :: fs => (∀ a ∈ f, Og b x.og a) ∧ LocX b X fs
/-- slots ρ are what σ holds in H; X: what is held besides (on the way) -/
structure SR (W : Wd) (b : Bs) (F : Hp) (ρ : List T) (σ : St) (X : List Tm) (H : Hp) : Prop where
  le : Le F H
  f0 : Inc b.F0 F
  fn : ∀ a o, F a = some o → b.F0 a = some o ∨ b.H0 a = none ∨ a ∈ b.A
  kept : ∀ a o, b.H0 a = some o → a ∉ b.A → H a = some o
  stab : ∀ a o, b.H0 a = some o → a ∈ b.A → ∃ u, H a = some u ∧ Stb (GB W b) o u
  pin : ∀ p ∈ b.io, σ[p.1]? = some (some p.2)
  ow : ∃ fps xps, Slots W F H ρ σ fps ∧ RelTs W F H (X.map (·.t)) (X.map (·.v)) xps ∧ Own F (fps.flatten ++ xps.flatten) ∧ LocS b fps ∧ LocX b X xps
theorem Frm.old {b : Bs} {i : Nat} {a : Addr} (h : Frm b i a) : b.H0 a = none ∨ a ∈ b.A := h
theorem Og.old {b : Bs} {i : Option Nat} {a : Addr} (h : Og b i a) : b.H0 a = none ∨ a ∈ b.A := h
theorem LocS.old {b : Bs} {fps : List (List Addr)} (h : LocS b fps) {a : Addr} (ha : a ∈ fps.flatten) : b.H0 a = none ∨ a ∈ b.A := by
  obtain ⟨f, hf, ha⟩ := List.mem_flatten.mp ha
  obtain ⟨i, hi⟩ := List.mem_iff_getElem?.mp hf
  exact (h i f hi a ha).old
theorem LocX.old {b : Bs} : ∀ {X : List Tm} {xps : List (List Addr)}, X.length = xps.length → LocX b X xps → ∀ {a : Addr}, a ∈ xps.flatten → b.H0 a = none ∨ a ∈ b.A
  | [], [], _, _, _, ha => by cases ha
  | [], _ :: _, e, _, _, _ => by cases e
  | x :: X, [], e, _, _, _ => by cases e
  | x :: X, f :: fs, e, h, a, ha => by
    rw [List.flatten_cons] at ha
    rcases List.mem_append.mp ha with z | z
    · exact (h.1 a z).old
    · exact LocX.old (by simpa using e) h.2 z
theorem RelTs.lenA {W : Wd} {F H : Hp} : ∀ {ts : List T} {vs : List V} {fps : List (List Addr)}, RelTs W F H ts vs fps → ts.length = vs.length ∧ ts.length = fps.length
  | [], _, _, r => by
    rw [r.1, r.2]
    exact ⟨rfl, rfl⟩
  | t :: ts, _, _, r => by
    obtain ⟨v, vr, f, fr, e1, e2, a, b⟩ := r
    have q := RelTs.lenA b
    rw [e1, e2]
    simp only [List.length_cons]
    omega
section
variable {W : Wd} {b : Bs} {F F' : Hp} {ρ : List T} {σ : St} {X : List Tm} {H H' : Hp}
/-- a free place was free at the entry -/
theorem SR.new0 {p : Addr} (S : SR W b F ρ σ X H) (hp : H p = none) : b.H0 p = none := by
  cases q : b.H0 p with
  | none => rfl
  | some u =>
    by_cases hA : p ∈ b.A
    · obtain ⟨u', z', _⟩ := S.stab p u q hA
      rw [z'] at hp
      cases hp
    · rw [S.kept p u q hA] at hp
      cases hp
theorem SR.len (S : SR W b F ρ σ X H) : ρ.length = σ.length := by
  obtain ⟨fps, xps, s1, _⟩ := S.ow
  exact s1.len.1
theorem SR.slot {i : Nat} {t : T} (S : SR W b F ρ σ X H) (h : ρ[i]? = some t) : ∃ s fp, σ[i]? = some s ∧ Slot W F H t s fp := by
  obtain ⟨fps, xps, s1, s2, _⟩ := S.ow
  obtain ⟨s, f, e1, _, r⟩ := s1.get h
  exact ⟨s, f, e1, r⟩
/-- nothing is changed, new things may stand -/
theorem SR.ext (S : SR W b F ρ σ X H) (hH : Same H H') (hF : Inc F F') (hL : Le F' H') (hn : ∀ a o, F' a = some o → F a = some o ∨ H a = none) : SR W b F' ρ σ X H' := by
  have S0 := S
  obtain ⟨le, f0, fn, kept, stab, pin, fps, xps, s1, s2, ⟨nd, ow⟩, lc⟩ := S
  have there : ∀ a ∈ fps.flatten ++ xps.flatten, ∃ o, H a = some o := fun a ha => by
    rcases List.mem_append.mp ha with z | z
    · exact Slots.there s1 a z
    · exact RelTs.there _ _ _ s2 a z
  have stay : ∀ a ∈ fps.flatten ++ xps.flatten, H' a = H a := fun a ha => by
    obtain ⟨o, e⟩ := there a ha
    rw [e]
    exact hH _ _ e
  refine ⟨hL, f0.trans hF, fun a o e => ?_, fun a o e na => hH _ _ (kept a o e na), fun a o e ha => (stab a o e ha).elim fun u q => ⟨u, hH _ _ q.1, q.2⟩, pin, fps, xps, s1.mono hF (fun a ha => stay a (List.mem_append_left _ ha)), RelTs.mono hF _ _ _ (fun a ha => stay a (List.mem_append_right _ ha)) s2, ⟨nd, fun a ha => ?_⟩, lc⟩
  · rcases hn a o e with z | z
    · exact fn a o z
    · exact .inr (.inl (S0.new0 z))
  · cases q : F' a with
    | none => rfl
    | some u =>
      obtain ⟨o, e⟩ := there a ha
      rcases hn a u q with z | z
      · rw [ow a ha] at z; cases z
      · rw [e] at z; cases z
/-- a new thing is laid, for ever -/
theorem SR.laid (S : SR W b F ρ σ X H) {p : Addr} {o : HO} (hp : H p = none) : SR W b (upd F p o) ρ σ X (upd H p o) ∧ Inc F (upd F p o) ∧ Same H (upd H p o) := by
  have hF : F p = none := S.le.none hp
  have i1 : Inc F (upd F p o) := fun a u e => by rw [upd_ne (ne_of_none e hF)]; exact e
  have i2 : Same H (upd H p o) := fun a u e => by rw [upd_ne (ne_of_none e hp)]; exact e
  refine ⟨S.ext i2 i1 (fun a u e => ?_) (fun a u e => ?_), i1, i2⟩
  · by_cases h : a = p
    · subst h
      rw [upd_same] at e ⊢
      exact .inl e
    · rw [upd_ne h] at e ⊢
      exact S.le a u e
  · by_cases h : a = p
    · subst h; exact .inr hp
    · rw [upd_ne h] at e
      exact .inl e
/-- a new thing is laid that may be changed -/
theorem SR.own (S : SR W b F ρ σ X H) {p : Addr} {o : HO} {t : T} (hp : H p = none) (ht : RelT W F (upd H p o) t (.ref p) [p]) : SR W b F ρ σ (⟨none, t, .ref p⟩ :: X) (upd H p o) := by
  have hF : F p = none := S.le.none hp
  have hnew := S.new0 hp
  have i2 : Same H (upd H p o) := fun a u e => by rw [upd_ne (ne_of_none e hp)]; exact e
  obtain ⟨fps0, xps0, t1, t2, _⟩ := S.ow
  have S' := S.ext (F' := F) i2 (Inc.refl F) (S.le.inc i2) (fun a u e => .inl e)
  obtain ⟨le, f0, fn, kept, stab, pin, _⟩ := S'
  obtain ⟨_, _, _, _, _, _, fps0, xps0, t1, t2, ⟨nd0, ow0⟩, lc1, lc2⟩ := S
  have there : ∀ a ∈ fps0.flatten ++ xps0.flatten, a ≠ p := fun a ha e => by
    subst e
    have : ∃ o, H a = some o := by
      rcases List.mem_append.mp ha with z | z
      · exact Slots.there t1 a z
      · exact RelTs.there _ _ _ t2 a z
    obtain ⟨o, q⟩ := this
    rw [q] at hp
    cases hp
  have stay : ∀ a ∈ fps0.flatten ++ xps0.flatten, (upd H p o) a = H a := fun a ha => upd_ne (there a ha)
  refine ⟨le, f0, fn, kept, stab, pin, fps0, [p] :: xps0, t1.mono (Inc.refl F) (fun a ha => stay a (List.mem_append_left _ ha)), ⟨_, _, _, _, rfl, rfl, ht, RelTs.mono (Inc.refl F) _ _ _ (fun a ha => stay a (List.mem_append_right _ ha)) t2⟩, ⟨?_, fun a ha => ?_⟩, lc1, fun a ha => .inl (by rw [List.mem_singleton.mp ha]; exact hnew), lc2⟩
  · rw [List.flatten_cons]
    have n := List.nodup_append.mp nd0
    refine List.nodup_append.mpr ⟨n.1, List.nodup_append.mpr ⟨by simp, n.2.1, fun a ha c hc e => ?_⟩, fun a ha c hc e => ?_⟩
    · have z := List.mem_singleton.mp ha
      rw [← e, z] at hc
      exact there p (List.mem_append_right _ hc) rfl
    · subst e
      rcases List.mem_append.mp hc with z | z
      · have z := List.mem_singleton.mp z
        rw [z] at ha
        exact there p (List.mem_append_left _ ha) rfl
      · exact n.2.2 a ha a z rfl
  · rw [List.flatten_cons] at ha
    rcases List.mem_append.mp ha with z | z
    · exact ow0 a (List.mem_append_left _ z)
    · rcases List.mem_append.mp z with z | z
      · rw [List.mem_singleton.mp z]; exact hF
      · exact ow0 a (List.mem_append_right _ z)
/-- what is held besides is dropped -/
theorem SR.drop {x : Tm} (S : SR W b F ρ σ (x :: X) H) : SR W b F ρ σ X H := by
  obtain ⟨le, f0, fn, kept, stab, pin, fps, xps, s1, s2, ⟨nd, ow⟩, lc1, lc2⟩ := S
  obtain ⟨v, vr, f, fr, e1, e2, r1, r2⟩ := s2
  subst e2
  have e3 : X.map (·.v) = vr := (List.cons.inj e1).2
  subst e3
  have sub : List.Sublist (fps.flatten ++ fr.flatten) (fps.flatten ++ (f :: fr).flatten) := by
    rw [List.flatten_cons]
    exact List.Sublist.append (List.Sublist.refl _) (List.sublist_append_right _ _)
  exact ⟨le, f0, fn, kept, stab, pin, fps, fr, s1, r2, ⟨nd.sublist sub, fun a ha => ow a (sub.subset ha)⟩, lc1, lc2.2⟩
/-- the last thing held, as deep data -/
theorem SR.top {d : D} {v : V} {o : Option Nat} (S : SR W b F ρ σ (⟨o, .f d, v⟩ :: X) H) : Rep W F d v := by
  obtain ⟨fps, xps, s1, s2, _⟩ := S.ow
  obtain ⟨v', vr, f, fr, e1, e2, r1, r2⟩ := s2
  have e3 : v = v' := (List.cons.inj e1).1
  subst e3
  exact r1.2
theorem SR.push {d : D} {v : V} {o : Option Nat} (S : SR W b F ρ σ X H) (r : Rep W F d v) : SR W b F ρ σ (⟨o, .f d, v⟩ :: X) H := by
  obtain ⟨le, f0, fn, kept, stab, pin, fps, xps, s1, s2, ⟨nd, ow⟩, lc1, lc2⟩ := S
  exact ⟨le, f0, fn, kept, stab, pin, fps, [] :: xps, s1, ⟨_, _, _, _, rfl, rfl, ⟨rfl, r⟩, s2⟩, ⟨by rw [List.flatten_cons]; exact nd, fun a ha => ow a (by rw [List.flatten_cons] at ha; exact ha)⟩, lc1, ⟨fun a ha => (by cases ha), lc2⟩⟩
/-- the last thing held is stored in a slot -/
theorem SR.store {t : T} {v : V} {i : Nat} {o : Option Nat} (S : SR W b F ρ σ (⟨o, t, v⟩ :: X) H) (ho : o = none ∨ o = some i) (hio : (∀ p ∈ b.io, p.1 ≠ i) ∨ σ[i]? = some (some v)) : SR W b F (ρ.set i t) (σ.set i (some v)) X H := by
  by_cases hi : i < ρ.length
  · obtain ⟨le, f0, fn, kept, stab, pin, fps, xps, s1, s2, ⟨nd, ow⟩, lc1, lc2⟩ := S
    obtain ⟨v', vr, f, fr, e1, e2, r1, r2⟩ := s2
    subst e2
    have e3 : v = v' := (List.cons.inj e1).1
    have e4 : X.map (·.v) = vr := (List.cons.inj e1).2
    subst e3 e4
    have hl := s1.len
    obtain ⟨g, hg⟩ : ∃ g, fps[i]? = some g := ⟨fps[i]'(by omega), List.getElem?_eq_getElem _⟩
    rw [List.flatten_cons] at nd ow
    have n := List.nodup_append.mp nd
    have n2 := List.nodup_append.mp n.2.1
    refine ⟨le, f0, fn, kept, stab, fun p hp => ?_, fps.set i f, fr, Slots.set (s' := some v) r1 i s1, r2, ⟨?_, fun a ha => ?_⟩, fun j g hj a ha => ?_, lc2.2⟩
    · by_cases e : p.1 = i
      · rcases hio with z | z
        · exact absurd e (z p hp)
        · have := pin p hp
          rw [e, z] at this
          rw [e, List.getElem?_set_self (by omega)]
          exact this
      · rw [List.getElem?_set_ne (fun q => e q.symm)]
        exact pin p hp
    · refine List.nodup_append.mpr ⟨nodup_set n.1 hg n2.1 (fun a ha => .inr fun m => n.2.2 a m a (List.mem_append_left _ ha) rfl), n2.2.1, fun a ha c hc e => ?_⟩
      subst e
      rcases mem_set_flat ha with z | z
      · exact n.2.2 a z a (List.mem_append_right _ hc) rfl
      · exact n2.2.2 a z a hc rfl
    · rcases List.mem_append.mp ha with z | z
      · rcases mem_set_flat z with z | z
        · exact ow a (List.mem_append_left _ z)
        · exact ow a (List.mem_append_right _ (List.mem_append_left _ z))
      · exact ow a (List.mem_append_right _ (List.mem_append_right _ z))
    · by_cases hij : j = i
      · subst hij
        rw [List.getElem?_set_self (by omega)] at hj
        cases hj
        exact lc2.1 a ha
      · rw [List.getElem?_set_ne (fun e => hij e.symm)] at hj
        exact lc1 j g hj a ha
  · have S' := S.drop
    rw [List.set_eq_of_length_le (by omega), List.set_eq_of_length_le (by have := S.len; omega)]
    exact S'
/-- a slot's thing is taken out -/
theorem SR.take {t : T} {v : V} {i : Nat} (S : SR W b F ρ σ X H) (hi : ρ[i]? = some t) (hv : σ[i]? = some (some v)) : SR W b F (ρ.set i .un) σ (⟨some i, t, v⟩ :: X) H := by
  obtain ⟨le, f0, fn, kept, stab, pin, fps, xps, s1, s2, ⟨nd, ow⟩, lc1, lc2⟩ := S
  obtain ⟨s, f, e1, e2, r⟩ := s1.get hi
  rw [hv] at e1
  cases e1
  have hl := s1.len
  have hlt : i < fps.length := (List.getElem?_eq_some_iff.mp e2).1
  have s1' : Slots W F H (ρ.set i .un) (σ.set i (some v)) (fps.set i []) := Slots.set (s' := some v) (u := .un) (f' := []) rfl i s1
  have eσ : σ.set i (some v) = σ := by
    apply List.ext_getElem?
    intro j
    by_cases h : j = i
    · subst h
      rw [List.getElem?_set_self (by omega), hv]
    · rw [List.getElem?_set_ne (fun e => h e.symm)]
  rw [eσ] at s1'
  have n := List.nodup_append.mp nd
  have hf : ∀ a ∈ f, a ∈ fps.flatten := fun a ha => List.mem_flatten.mpr ⟨f, List.mem_of_getElem? e2, ha⟩
  have nset : (fps.set i []).flatten.Nodup := nodup_set n.1 e2 List.nodup_nil (fun a ha => nomatch ha)
  have mset : ∀ a ∈ (fps.set i []).flatten, a ∈ fps.flatten := fun a ha => (mem_set_flat ha).elim id fun z => nomatch z
  have nf : f.Nodup := (List.sublist_flatten_of_mem (List.mem_of_getElem? e2)).nodup n.1
  have dj : ∀ a ∈ (fps.set i []).flatten, a ∉ f := by
    have key : ∀ {l : List (List Addr)} {i : Nat} {f : List Addr}, l.flatten.Nodup → l[i]? = some f → ∀ a ∈ (l.set i []).flatten, a ∉ f := by
      intro l
      induction l with
      | nil => intro i f _ e; simp at e
      | cons x l ih =>
        intro i f nd e a ha hf
        rw [List.flatten_cons] at nd
        have n := List.nodup_append.mp nd
        cases i with
        | zero =>
          simp at e
          subst e
          rw [List.set_cons_zero, List.flatten_cons, List.nil_append] at ha
          exact n.2.2 a hf a ha rfl
        | succ i =>
          rw [List.set_cons_succ, List.flatten_cons] at ha
          have e' : l[i]? = some f := by simpa using e
          rcases List.mem_append.mp ha with z | z
          · exact n.2.2 a z a (List.mem_flatten.mpr ⟨f, List.mem_of_getElem? e', hf⟩) rfl
          · exact ih n.2.1 e' a z hf
    exact key n.1 e2
  refine ⟨le, f0, fn, kept, stab, pin, fps.set i [], f :: xps, s1', ⟨_, _, _, _, rfl, rfl, r, s2⟩, ⟨?_, fun a ha => ?_⟩, fun j g hj a ha => ?_, fun a ha => lc1 i f e2 a ha, lc2⟩
  · rw [List.flatten_cons]
    refine List.nodup_append.mpr ⟨nset, List.nodup_append.mpr ⟨nf, n.2.1, fun a ha c hc e => ?_⟩, fun a ha c hc e => ?_⟩
    · exact n.2.2 a (hf a ha) c hc e
    · subst e
      rcases List.mem_append.mp hc with z | z
      · exact dj a ha z
      · exact n.2.2 a (mset a ha) a z rfl
  · rw [List.flatten_cons] at ha
    rcases List.mem_append.mp ha with z | z
    · exact ow a (List.mem_append_left _ (mset a z))
    · rcases List.mem_append.mp z with z | z
      · exact ow a (List.mem_append_left _ (hf a z))
      · exact ow a (List.mem_append_right _ z)
  · by_cases hij : j = i
    · subst hij
      rw [List.getElem?_set_self hlt] at hj
      cases hj
      cases ha
    · rw [List.getElem?_set_ne (fun e => hij e.symm)] at hj
      exact lc1 j g hj a ha
/-- .. and put back -/
theorem SR.back {t : T} {v : V} {i : Nat} (S : SR W b F ρ σ (⟨some i, t, v⟩ :: X) H) (hv : σ[i]? = some (some v)) : SR W b F (ρ.set i t) σ X H := by
  have S' := S.store (.inr rfl) (.inr hv)
  have eσ : σ.set i (some v) = σ := by
    apply List.ext_getElem?
    intro j
    by_cases h : j = i
    · subst h
      have hlt : j < σ.length := (List.getElem?_eq_some_iff.mp hv).1
      rw [List.getElem?_set_self hlt, hv]
    · rw [List.getElem?_set_ne (fun e => h e.symm)]
  rw [eσ] at S'
  exact S'
end
end Z

namespace Z
open PySem L2

/-! ### what is seen of a thing -/
def RelV (W : Wd) (F H : Hp) (t : T) (v : V) : Prop := ∃ fp, RelT W F H t v fp
theorem RelV.f {W : Wd} {F H : Hp} {d : D} {v : V} (r : Rep W F d v) : RelV W F H (.f d) v := ⟨[], rfl, r⟩
theorem RelV.rep {W : Wd} {F H : Hp} {d : D} {v : V} (r : RelV W F H (.f d) v) : Rep W F d v := r.elim fun _ q => q.2
theorem RelV.ext {W : Wd} {F F' H H' : Hp} {t : T} {v : V} (r : RelV W F H t v) (hF : Inc F F') (hH : Same H H') : RelV W F' H' t v := by
  obtain ⟨fp, r⟩ := r
  refine ⟨fp, RelT.mono hF t v fp (fun a ha => ?_) r⟩
  obtain ⟨o, e⟩ := RelT.there t v fp r a ha
  rw [e]
  exact hH _ _ e

def T.i? : T → Option Int | .f (.int i) => some i | _ => none
def T.s? : T → Option Str | .f (.str x) => some x | _ => none
def T.b? : T → Option Bool | .f (.bl b) => some b | _ => none
def T.d? : T → Option D | .f d => some d | _ => none
def T.ls? : T → Option (List D) | .f (.lst xs) => some xs | .l xs => some xs | _ => none
def T.ts? : T → Option (List D) | .f (.tup xs) => some xs | _ => none
def T.sq? : T → Option (List D) | .f (.lst xs) => some xs | .l xs => some xs | .f (.tup xs) => some xs | _ => none
def T.dk? : T → Option (List Key × List D) | .f (.dct ks ds) => some (ks, ds) | .dk ks ds => some (ks, ds) | _ => none
/-- int keys, text keys -/
def T.key? : T → Option Key | .f (.int i) => some (.inl i) | .f (.str x) => some (.inr x) | _ => none

section
variable {W : Wd} {F H : Hp} {t : T} {v : V}
theorem RelV.int {i : Int} (r : RelV W F H t v) (h : t.i? = some i) : v = .int i := by
  cases t with
  | f d => cases d with
    | int j => cases h; exact r.rep
    | _ => cases h
  | _ => cases h
theorem RelV.str {x : Str} (r : RelV W F H t v) (h : t.s? = some x) : v = .str x := by
  cases t with
  | f d => cases d with
    | str j => cases h; exact r.rep
    | _ => cases h
  | _ => cases h
theorem RelV.bl {x : Bool} (r : RelV W F H t v) (h : t.b? = some x) : v = .bl x := by
  cases t with
  | f d => cases d with
    | bl j => cases h; exact r.rep
    | _ => cases h
  | _ => cases h
theorem RelV.key {k : Key} (r : RelV W F H t v) (h : t.key? = some k) : v = kV k := by
  cases t with
  | f d => cases d with
    | int j => cases h; exact r.rep
    | str j => cases h; exact r.rep
    | _ => cases h
  | _ => cases h
theorem RelV.ls {ds : List D} (r : RelV W F H t v) (h : t.ls? = some ds) (le : Le F H) : ∃ p vs, v = .ref p ∧ SqL W.K H p vs ∧ Reps W F ds vs := by
  cases t with
  | f d => cases d with
    | lst l =>
      cases h
      obtain ⟨p, vs, e, s, q⟩ := r.rep
      exact ⟨p, vs, e, SqL.le le s, q⟩
    | _ => cases h
  | l l =>
    cases h
    obtain ⟨fp, p, vs, e, _, s, q⟩ := r
    exact ⟨p, vs, e, .inl (.inl s), q⟩
  | _ => cases h
theorem RelV.ts {ds : List D} (r : RelV W F H t v) (h : t.ts? = some ds) (le : Le F H) : ∃ p vs, v = .ref p ∧ SqT W.K H p vs ∧ Reps W F ds vs := by
  cases t with
  | f d => cases d with
    | tup l =>
      cases h
      obtain ⟨p, vs, e, s, q⟩ := r.rep
      exact ⟨p, vs, e, SqT.le le s, q⟩
    | _ => cases h
  | _ => cases h
theorem RelV.sq {ds : List D} (r : RelV W F H t v) (h : t.sq? = some ds) (le : Le F H) : ∃ p vs, v = .ref p ∧ (SqL W.K H p vs ∨ SqT W.K H p vs) ∧ Reps W F ds vs := by
  cases t with
  | f d => cases d with
    | tup l =>
      cases h
      obtain ⟨p, vs, e, s, q⟩ := r.rep
      exact ⟨p, vs, e, .inr (SqT.le le s), q⟩
    | lst l =>
      cases h
      obtain ⟨p, vs, e, s, q⟩ := r.rep
      exact ⟨p, vs, e, .inl (SqL.le le s), q⟩
    | _ => cases h
  | l l =>
    cases h
    obtain ⟨fp, p, vs, e, _, s, q⟩ := r
    exact ⟨p, vs, e, .inl (.inl (.inl s)), q⟩
  | _ => cases h
theorem RelV.dk {ks : List Key} {ds : List D} (r : RelV W F H t v) (h : t.dk? = some (ks, ds)) (le : Le F H) : ∃ p kvs, v = .ref p ∧ Rd H p (.dK kvs) ∧ kvs.map (·.1) = ks ∧ Reps W F ds (kvs.map (·.2)) := by
  cases t with
  | f d => cases d with
    | dct a b =>
      cases h
      obtain ⟨p, kvs, e, s, k, q⟩ := r.rep
      exact ⟨p, kvs, e, Rd.le le s, k, q⟩
    | _ => cases h
  | dk a b =>
    cases h
    obtain ⟨fp, p, kvs, e, _, s, k, q⟩ := r
    exact ⟨p, kvs, e, .inl s, k, q⟩
  | _ => cases h
end

theorem Reps.len {W : Wd} {F : Hp} : ∀ {ds : List D} {vs : List V}, Reps W F ds vs → ds.length = vs.length
  | [], _, r => by
    have r' : _ = [] := r
    rw [r']
    rfl
  | d :: ds, _, r => by
    obtain ⟨v, vr, e, a, b⟩ := r
    rw [e, List.length_cons, List.length_cons, Reps.len b]
theorem Reps.get {W : Wd} {F : Hp} : ∀ {ds : List D} {vs : List V} {i : Nat} {d : D}, Reps W F ds vs → ds[i]? = some d → ∃ v, vs[i]? = some v ∧ Rep W F d v
  | [], _, _, _, _, e => by simp at e
  | d :: ds, _, 0, _, r, e => by
    obtain ⟨v, vr, e1, a, b⟩ := r
    simp at e
    subst e e1
    exact ⟨v, rfl, a⟩
  | d :: ds, _, i + 1, _, r, e => by
    obtain ⟨v, vr, e1, a, b⟩ := r
    subst e1
    obtain ⟨u, h1, h2⟩ := Reps.get b (by simpa using e)
    exact ⟨u, by simpa using h1, h2⟩
theorem Reps.append {W : Wd} {F : Hp} : ∀ {ds es : List D} {vs us : List V}, Reps W F ds vs → Reps W F es us → Reps W F (ds ++ es) (vs ++ us)
  | [], _, _, _, r, q => by
    have r' : _ = [] := r
    subst r'
    exact q
  | d :: ds, _, _, _, r, q => by
    obtain ⟨v, vr, e, a, b⟩ := r
    subst e
    exact ⟨v, _, rfl, a, Reps.append b q⟩
theorem Reps.take {W : Wd} {F : Hp} : ∀ {ds : List D} {vs : List V} (n : Nat), Reps W F ds vs → Reps W F (ds.take n) (vs.take n)
  | _, _, 0, _ => rfl
  | [], _, n + 1, r => by
    have r' : _ = [] := r
    subst r'
    exact rfl
  | d :: ds, _, n + 1, r => by
    obtain ⟨v, vr, e, a, b⟩ := r
    subst e
    exact ⟨v, _, rfl, a, Reps.take n b⟩
theorem Reps.drop {W : Wd} {F : Hp} : ∀ {ds : List D} {vs : List V} (n : Nat), Reps W F ds vs → Reps W F (ds.drop n) (vs.drop n)
  | _, _, 0, r => r
  | [], _, n + 1, r => by
    have r' : _ = [] := r
    subst r'
    exact rfl
  | d :: ds, _, n + 1, r => by
    obtain ⟨v, vr, e, a, b⟩ := r
    subst e
    exact Reps.drop n b
theorem Reps.set {W : Wd} {F : Hp} {d' : D} {v' : V} (h : Rep W F d' v') : ∀ {ds : List D} {vs : List V} (n : Nat), Reps W F ds vs → Reps W F (ds.set n d') (vs.set n v')
  | [], _, n, r => by
    have r' : _ = [] := r
    subst r'
    exact rfl
  | d :: ds, _, 0, r => by
    obtain ⟨v, vr, e, a, b⟩ := r
    subst e
    exact ⟨v', _, rfl, h, b⟩
  | d :: ds, _, n + 1, r => by
    obtain ⟨v, vr, e, a, b⟩ := r
    subst e
    exact ⟨v, _, rfl, a, Reps.set h n b⟩
theorem Reps.ints {W : Wd} {F : Hp} : ∀ {ns : List Int} {vs : List V}, Reps W F (ns.map D.int) vs → vs = ns.map V.int
  | [], _, r => r
  | n :: ns, _, r => by
    obtain ⟨v, vr, e, a, b⟩ := r
    have a' : v = .int n := a
    rw [e, a', Reps.ints b]
    rfl
theorem Reps.strs {W : Wd} {F : Hp} : ∀ {ns : List Str} {vs : List V}, Reps W F (ns.map D.str) vs → vs = ns.map V.str
  | [], _, r => r
  | n :: ns, _, r => by
    obtain ⟨v, vr, e, a, b⟩ := r
    have a' : v = .str n := a
    rw [e, a', Reps.strs b]
    rfl
theorem Reps.bls {W : Wd} {F : Hp} : ∀ {ns : List Bool} {vs : List V}, Reps W F (ns.map D.bl) vs → vs = ns.map V.bl
  | [], _, r => r
  | n :: ns, _, r => by
    obtain ⟨v, vr, e, a, b⟩ := r
    have a' : v = .bl n := a
    rw [e, a', Reps.bls b]
    rfl
theorem Reps.of_ints {W : Wd} {F : Hp} : ∀ (ns : List Int), Reps W F (ns.map D.int) (ns.map V.int)
  | [] => rfl
  | n :: ns => ⟨_, _, rfl, rfl, Reps.of_ints ns⟩
theorem Reps.of_strs {W : Wd} {F : Hp} : ∀ (ns : List Str), Reps W F (ns.map D.str) (ns.map V.str)
  | [] => rfl
  | n :: ns => ⟨_, _, rfl, rfl, Reps.of_strs ns⟩

/-! ### judgements -/
/-- what is wanted of a pure thing's value -/
def Kp (W : Wd) (b : Bs) (F : Hp) (ρ : List T) (σ : St) (X : List Tm) (H : Hp) (t : T) (Q : VK) : Prop :=
  ∀ v F' H', SR W b F' ρ σ X H' → Inc F F' → Same H H' → RelV W F' H' t v → Q v H'
def Sv (W : Wd) (t : TE) (f : List T → Option T) : Prop :=
  ∀ b F ρ σ X H τ Q, SR W b F ρ σ X H → f ρ = some τ → Kp W b F ρ σ X H τ Q → t σ H Q
def Stv (W : Wd) (t : TT) (f : List T → Option Bool) : Prop :=
  ∀ b F ρ σ X H c Q, SR W b F ρ σ X H → f ρ = some c → (∀ F' H', SR W b F' ρ σ X H' → Inc F F' → Same H H' → Q c H') → t σ H Q
/-- arguments -/
def RelVs (W : Wd) (F H : Hp) (ts : List T) (vs : List V) : Prop := ∃ fps, RelTs W F H ts vs fps
def Sav (W : Wd) (t : TA) (f : List T → Option (List T)) : Prop :=
  ∀ b F ρ σ X H τs Q, SR W b F ρ σ X H → f ρ = some τs → (∀ vs F' H', SR W b F' ρ σ X H' → Inc F F' → Same H H' → RelVs W F' H' τs vs → Q vs H') → t σ H Q

theorem RelVs.ext {W : Wd} {F F' H H' : Hp} {ts : List T} {vs : List V} (r : RelVs W F H ts vs) (hF : Inc F F') (hH : Same H H') : RelVs W F' H' ts vs := by
  obtain ⟨fp, r⟩ := r
  refine ⟨fp, RelTs.mono hF ts vs fp (fun a ha => ?_) r⟩
  obtain ⟨o, e⟩ := RelTs.there ts vs fp r a ha
  rw [e]
  exact hH _ _ e
theorem RelVs.nil {W : Wd} {F H : Hp} : RelVs W F H [] [] := ⟨[], rfl, rfl⟩
theorem RelVs.cons {W : Wd} {F H : Hp} {t : T} {v : V} {ts : List T} {vs : List V} (a : RelV W F H t v) (b : RelVs W F H ts vs) : RelVs W F H (t :: ts) (v :: vs) := by
  obtain ⟨f, a⟩ := a
  obtain ⟨fs, b⟩ := b
  exact ⟨f :: fs, _, _, _, _, rfl, rfl, a, b⟩
theorem RelVs.inv {W : Wd} {F H : Hp} {t : T} {ts : List T} {vs : List V} (r : RelVs W F H (t :: ts) vs) : ∃ v vr, vs = v :: vr ∧ RelV W F H t v ∧ RelVs W F H ts vr := by
  obtain ⟨fs, v, vr, f, fr, e1, e2, a, b⟩ := r
  exact ⟨v, vr, e1, ⟨f, a⟩, ⟨fr, b⟩⟩
theorem RelVs.inv0 {W : Wd} {F H : Hp} {vs : List V} (r : RelVs W F H [] vs) : vs = [] := r.elim fun _ q => q.1

section
variable {W : Wd} {b : Bs} {F : Hp} {ρ : List T} {σ : St} {X : List Tm} {H : Hp} {Q : VK}
/-- the value is there -/
theorem Kp.here {t : T} {v : V} (k : Kp W b F ρ σ X H t Q) (S : SR W b F ρ σ X H) (r : RelV W F H t v) : Q v H := k v F H S (Inc.refl F) (Same.refl H) r
theorem Kp.d {d : D} {v : V} (k : Kp W b F ρ σ X H (.f d) Q) (S : SR W b F ρ σ X H) (r : Rep W F d v) : Q v H := k.here S (.f r)
/-- the value is new -/
theorem Kp.new {d : D} {o : HO} (k : Kp W b F ρ σ X H (.f d) Q) (S : SR W b F ρ σ X H) (r : ∀ p, H p = none → Inc F (upd F p o) → Rep W (upd F p o) d (.ref p)) : ∀ p, H p = none → Q (.ref p) (upd H p o) := fun p hp => by
  obtain ⟨S', i, s⟩ := S.laid (o := o) hp
  exact k _ _ _ S' i s (.f (r p hp i))
theorem Kp.lst {ds : List D} {vs : List V} (k : Kp W b F ρ σ X H (.f (.lst ds)) Q) (S : SR W b F ρ σ X H) (r : Reps W F ds vs) : ∀ p, H p = none → Q (.ref p) (upd H p (.lst vs)) :=
  k.new S fun p hp i => ⟨p, vs, rfl, .inl (.inl upd_same), r.inc i⟩
theorem Kp.tup {ds : List D} {vs : List V} (k : Kp W b F ρ σ X H (.f (.tup ds)) Q) (S : SR W b F ρ σ X H) (r : Reps W F ds vs) : ∀ p, H p = none → Q (.ref p) (upd H p (.tup vs)) :=
  k.new S fun p hp i => ⟨p, vs, rfl, .inl (.inl upd_same), r.inc i⟩
theorem Kp.mono {F1 H1 : Hp} {t : T} (k : Kp W b F ρ σ X H t Q) (i : Inc F F1) (s : Same H H1) : Kp W b F1 ρ σ X H1 t Q := fun v F' H' S' i' s' r => k v F' H' S' (i.trans i') (s.trans s') r
end

/-- rules by values -/
def S2 (W : Wd) (r : R2) (g : T → T → Option T) : Prop :=
  ∀ b F ρ σ X H t1 t2 τ x y Q, SR W b F ρ σ X H → RelV W F H t1 x → RelV W F H t2 y → g t1 t2 = some τ → Kp W b F ρ σ X H τ Q → r x y H Q
def S1 (W : Wd) (r : V → Hp → VK → Prop) (g : T → Option T) : Prop :=
  ∀ b F ρ σ X H t1 τ x Q, SR W b F ρ σ X H → RelV W F H t1 x → g t1 = some τ → Kp W b F ρ σ X H τ Q → r x H Q
def Sn (W : Wd) (r : List V → Hp → VK → Prop) (g : List T → Option T) : Prop :=
  ∀ b F ρ σ X H ts τ xs Q, SR W b F ρ σ X H → RelVs W F H ts xs → g ts = some τ → Kp W b F ρ σ X H τ Q → r xs H Q
def or2 (g h : T → T → Option T) : T → T → Option T := fun a b => (g a b).orElse fun _ => h a b
def orn (g h : List T → Option T) : List T → Option T := fun a => (g a).orElse fun _ => h a
theorem S2.or {W : Wd} {r r' : R2} {g h : T → T → Option T} (a : S2 W r g) (b : S2 W r' h) : S2 W (fun x y H Q => r x y H Q ∨ r' x y H Q) (or2 g h) := by
  intro bs F ρ σ X H t1 t2 τ x y Q S r1 r2 e k
  unfold or2 at e
  cases q : g t1 t2 with
  | some z =>
    rw [q] at e
    exact .inl (a bs F ρ σ X H t1 t2 τ x y Q S r1 r2 (q.trans e) k)
  | none =>
    rw [q] at e
    exact .inr (b bs F ρ σ X H t1 t2 τ x y Q S r1 r2 e k)
theorem Sn.or {W : Wd} {r r' : List V → Hp → VK → Prop} {g h : List T → Option T} (a : Sn W r g) (b : Sn W r' h) : Sn W (fun x H Q => r x H Q ∨ r' x H Q) (orn g h) := by
  intro bs F ρ σ X H t1 τ x Q S r1 e k
  unfold orn at e
  cases q : g t1 with
  | some z =>
    rw [q] at e
    exact .inl (a bs F ρ σ X H t1 τ x Q S r1 (q.trans e) k)
  | none =>
    rw [q] at e
    exact .inr (b bs F ρ σ X H t1 τ x Q S r1 e k)
theorem OpR_or {X : Cx} {f : Value → Value → Sem Value} {r r' : R2} (h : OpR X f r) (h' : OpR X f r') : OpR X f (fun x y H Q => r x y H Q ∨ r' x y H Q) := by
  intro pins s σ H x y v u Q I rx ry q
  rcases q with q | q
  · exact h pins s σ H x y v u Q I rx ry q
  · exact h' pins s σ H x y v u Q I rx ry q
theorem CallR_or {X : Cx} {f : Value} {r r' : List V → Hp → VK → Prop} (h : CallR X f r) (h' : CallR X f r') : CallR X f (fun x H Q => r x H Q ∨ r' x H Q) := by
  intro pins s σ H x v Q I rx q
  rcases q with q | q
  · exact h pins s σ H x v Q I rx q
  · exact h' pins s σ H x v Q I rx q

/-! ### the whole: a thing of syntax, in a family of contexts -/
/-- how many parameters, which are handed back -/
structure Sg where
  m : Nat
  io : List Nat
  al : List (Nat × Nat)
structure Ctx where
  J : Type
  X : J → Cx
  W : Wd
  P : Sg
  E : St → XK
  N : List Str
  k : Nat
  hK : ∀ j, (X j).K = W.K
  hN : ∀ j, (X j).N = N
  nd : N.Nodup
  calm : ∀ j, (X j).calm = true
  room : ∀ j, Room k (X j).A
theorem Ctx.hu (c : Ctx) (j : c.J) : (c.X j).A.units + 64 < cLine := by have := (c.room j).un; omega
theorem Ctx.hu1 (c : Ctx) (j : c.J) : (c.X j).A.units + 1 < cLine := by have := (c.room j).un; omega
theorem Ctx.hNd (c : Ctx) (j : c.J) : (c.X j).N.Nodup := by rw [c.hN j]; exact c.nd

def Ev (c : Ctx) (e : Expr) (f : List T → Option T) : Prop := ∃ t, (∀ j, PE (c.X j) e t) ∧ Sv c.W t f
def Tv (c : Ctx) (e : Expr) (f : List T → Option Bool) : Prop := ∃ t, (∀ j, PT (c.X j) e t) ∧ Stv c.W t f
def Av (c : Ctx) (es : List Expr) (f : List T → Option (List T)) : Prop := ∃ t, (∀ j, PA (c.X j) es t) ∧ Sav c.W t f

/-! ### pure expressions -/
def fVar (i : Nat) : List T → Option T := fun ρ => match ρ[i]? with
  | some .un => none
  | r => r
def fC (d : D) : List T → Option T := fun _ => some (.f d)
def f1 (g : T → Option T) (a : List T → Option T) : List T → Option T := fun ρ => (a ρ).bind g
def f2 (g : T → T → Option T) (a b : List T → Option T) : List T → Option T := fun ρ => (a ρ).bind fun x => (b ρ).bind fun y => g x y
def fN (g : List T → Option T) (a : List T → Option (List T)) : List T → Option T := fun ρ => (a ρ).bind g

section
variable {c : Ctx} {a e' : Expr} {fa fb fc : List T → Option T} {pos : Pos}
theorem sv_var {W : Wd} {i : Nat} : Sv W (tVar i) (fVar i) := by
  intro b F ρ σ X H τ Q S e k
  unfold fVar at e
  cases q : ρ[i]? with
  | none => rw [q] at e; cases e
  | some t =>
    have ht : t ≠ .un := by
      rintro rfl
      rw [q] at e
      cases e
    have e2 : t = τ := by
      rw [q] at e
      cases t with
      | un => exact absurd rfl ht
      | _ => exact Option.some.inj e
    subst e2
    obtain ⟨s, fp, e1, r⟩ := S.slot q
    cases s with
    | none => exact absurd r.1 ht
    | some v => exact ⟨v, e1, k.here S ⟨fp, r⟩⟩
theorem ev_var {i : Nat} {x : Str} (hi : c.N[i]? = some x) (hv : ∀ j, Vis (c.X j).env.scope x) (hd : (x == ("__debug__" : Str)) = false := by decide) (hcd : (x == ("__classdict__" : Str)) = false := by decide) : Ev c (.Name x pos) (fVar i) :=
  ⟨_, fun j => pe_var (i := i) (by rw [c.hN j]; exact hi) (hv j) hd hcd, sv_var⟩
theorem sv_C {W : Wd} {d : D} {v : V} (h : ∀ F, Rep W F d v) : Sv W (tC v) (fC d) := by
  intro b F ρ σ X H τ Q S e k
  cases e
  exact k.d S (h F)
theorem ev_int {i : Int} {m : Nat} : Ev c (.Constant (.int i) m pos) (fC (.int i)) := ⟨_, fun _ => pe_int, sv_C fun _ => rfl⟩
theorem ev_str {x : Str} {m : Nat} : Ev c (.Constant (.str x) m pos) (fC (.str x)) := ⟨_, fun _ => pe_str, sv_C fun _ => rfl⟩
theorem ev_bl {x : Bool} {m : Nat} : Ev c (.Constant (.bool x) m pos) (fC (.bl x)) := ⟨_, fun _ => pe_bl, sv_C fun _ => rfl⟩
theorem ev_non {m : Nat} : Ev c (.Constant .none m pos) (fC .non) := ⟨_, fun _ => pe_non, sv_C fun _ => rfl⟩
/-- a constant of the module's top -/
theorem ev_glob {x : Str} {d : D} {v : V} {u : Value} (hg : ∀ j, Gl (c.X j) x) (hm : ∀ j, (c.X j).mg x = some u) (r : L2.RelV v u) (h : ∀ F, Rep c.W F d v) (hd : (x == ("__debug__" : Str)) = false := by decide) : Ev c (.Name x pos) (fC d) :=
  ⟨_, fun j => pe_glob (hg j) (hm j) r hd, sv_C h⟩

theorem sv_2 {W : Wd} {ta tb : TE} {r : R2} {g : T → T → Option T} (ha : Sv W ta fa) (hb : Sv W tb fb) (hr : S2 W r g) : Sv W (tOp r ta tb) (f2 g fa fb) := by
  intro b F ρ σ X H τ Q S e k
  unfold f2 at e
  obtain ⟨t1, e1, e⟩ := Option.bind_eq_some_iff.mp e
  obtain ⟨t2, e2, e⟩ := Option.bind_eq_some_iff.mp e
  refine ha b F ρ σ X H t1 _ S e1 fun x F1 H1 S1 i1 s1 r1 => ?_
  refine hb b F1 ρ σ X H1 t2 _ S1 e2 fun y F2 H2 S2 i2 s2 r2 => ?_
  exact hr b F2 ρ σ X H2 t1 t2 τ x y Q S2 (r1.ext i2 s2) r2 e (k.mono (i1.trans i2) (s1.trans s2))
theorem sv_1 {W : Wd} {ta : TE} {r : V → Hp → VK → Prop} {g : T → Option T} (ha : Sv W ta fa) (hr : S1 W r g) : Sv W (tUn r ta) (f1 g fa) := by
  intro b F ρ σ X H τ Q S e k
  unfold f1 at e
  obtain ⟨t1, e1, e⟩ := Option.bind_eq_some_iff.mp e
  refine ha b F ρ σ X H t1 _ S e1 fun x F1 H1 S1 i1 s1 r1 => ?_
  exact hr b F1 ρ σ X H1 t1 τ x Q S1 r1 e (k.mono i1 s1)
theorem ev_op {op : Operator} {r : R2} {g : T → T → Option T} (ho : ∀ j, OpR (c.X j) (binaryOp op) r) (hr : S2 c.W r g) (ha : Ev c a fa) (hb : Ev c e' fb) : Ev c (.BinOp a op e' pos) (f2 g fa fb) := by
  obtain ⟨ta, pa, sa⟩ := ha
  obtain ⟨tb, pb, sb⟩ := hb
  exact ⟨_, fun j => pe_op (ho j) (pa j) (pb j), sv_2 sa sb hr⟩
theorem ev_cmp {op : CmpOp} {r : R2} {g : T → T → Option T} (ho : ∀ j, OpR (c.X j) (compareOp op) r) (hr : S2 c.W r g) (ha : Ev c a fa) (hb : Ev c e' fb) (hm : behindInMarks op e' = false) : Ev c (.Compare a [op] [e'] pos) (f2 g fa fb) := by
  obtain ⟨ta, pa, sa⟩ := ha
  obtain ⟨tb, pb, sb⟩ := hb
  exact ⟨_, fun j => pe_cmpR (ho j) (pa j) (pb j) hm, sv_2 sa sb hr⟩
/-- a value that is True or False, as a test -/
def fT (fa : List T → Option T) : List T → Option Bool := fun ρ => (fa ρ).bind T.b?
theorem stv_test {W : Wd} {t : TE} (h : Sv W t fa) : Stv W (tTest t) (fT fa) := by
  intro b F ρ σ X H cc Q S e k
  unfold fT at e
  obtain ⟨t1, e1, e⟩ := Option.bind_eq_some_iff.mp e
  refine h b F ρ σ X H t1 _ S e1 fun x F1 H1 S1 i1 s1 r1 => ?_
  exact ⟨cc, r1.bl e, k F1 H1 S1 i1 s1⟩
theorem tv_cmp {op : CmpOp} {r : R2} {g : T → T → Option T} (ho : ∀ j, OpR (c.X j) (compareOp op) r) (hr : S2 c.W r g) (ha : Ev c a fa) (hb : Ev c e' fb) (hm : behindInMarks op e' = false) : Tv c (.Compare a [op] [e'] pos) (fT (f2 g fa fb)) := by
  obtain ⟨ta, pa, sa⟩ := ha
  obtain ⟨tb, pb, sb⟩ := hb
  exact ⟨_, fun j => pt_cmpR (ho j) (pa j) (pb j) hm, stv_test (sv_2 sa sb hr)⟩
theorem tv_val (ha : Ev c a fa) (he : ∀ j whole, isTrue a (c.X j).env whole = (do let v ← whole; standAt a.pos; holding [v] (truthy v))) : Tv c a (fT fa) := by
  obtain ⟨ta, pa, sa⟩ := ha
  exact ⟨_, fun j => pt_val (pa j) (he j), stv_test sa⟩
theorem ev_un {op : UnaryOp} {r : V → Hp → VK → Prop} {g : T → Option T} (ho : ∀ j, UnR (c.X j) (unaryOp op) r) (hr : S1 c.W r g) (ha : Ev c a fa) : Ev c (.UnaryOp op a pos) (f1 g fa) := by
  obtain ⟨ta, pa, sa⟩ := ha
  exact ⟨_, fun j => pe_un (ho j) (pa j), sv_1 sa hr⟩
end

/-! ### and, or, not, if-else -/
section
variable {c : Ctx} {a b e' : Expr} {fa fb : List T → Option T} {ga gb gc : List T → Option Bool} {pos : Pos} {rest : List Expr}
def tAndF (ga gb : List T → Option Bool) : List T → Option Bool := fun ρ => (ga ρ).bind fun x => if x = true then gb ρ else some false
def tOrF (ga gb : List T → Option Bool) : List T → Option Bool := fun ρ => (ga ρ).bind fun x => if x = true then some true else gb ρ
def tNotF (ga : List T → Option Bool) : List T → Option Bool := fun ρ => (ga ρ).map (!·)
def Wv (c : Ctx) (e : Expr) (f : List T → Option Bool) : Prop := ∃ t, (∀ j, PW (c.X j) e t) ∧ Stv c.W t f
theorem Wv.tv (h : Wv c a ga) : Tv c a ga := by
  obtain ⟨t, p, s⟩ := h
  exact ⟨t, fun j => (p j).pt, s⟩
theorem wv_and1 (ha : Tv c a ga) : Wv c (.BoolOp .And [a] pos) ga := by
  obtain ⟨t, p, s⟩ := ha
  exact ⟨t, fun j => pw_and1 (p j), s⟩
theorem wv_or1 (ha : Tv c a ga) : Wv c (.BoolOp .Or [a] pos) ga := by
  obtain ⟨t, p, s⟩ := ha
  exact ⟨t, fun j => pw_or1 (p j), s⟩
theorem wv_and (ha : Tv c a ga) (hb : Wv c (.BoolOp .And (b :: rest) pos) gb) : Wv c (.BoolOp .And (a :: b :: rest) pos) (tAndF ga gb) := by
  obtain ⟨t, p, s⟩ := ha
  obtain ⟨u, q, s'⟩ := hb
  refine ⟨_, fun j => pw_and (p j) (q j), ?_⟩
  intro b F ρ σ X H cc Q S e k
  unfold tAndF at e
  obtain ⟨x, e1, e⟩ := Option.bind_eq_some_iff.mp e
  refine s b F ρ σ X H x _ S e1 fun F1 H1 S1 i1 s1 => ?_
  cases x with
  | true => exact iteT (s' b F1 ρ σ X H1 cc Q S1 e fun F2 H2 S2 i2 s2 => k F2 H2 S2 (i1.trans i2) (s1.trans s2))
  | false =>
    cases e
    exact iteF (k F1 H1 S1 i1 s1)
theorem wv_or (ha : Tv c a ga) (hb : Wv c (.BoolOp .Or (b :: rest) pos) gb) : Wv c (.BoolOp .Or (a :: b :: rest) pos) (tOrF ga gb) := by
  obtain ⟨t, p, s⟩ := ha
  obtain ⟨u, q, s'⟩ := hb
  refine ⟨_, fun j => pw_or (p j) (q j), ?_⟩
  intro b F ρ σ X H cc Q S e k
  unfold tOrF at e
  obtain ⟨x, e1, e⟩ := Option.bind_eq_some_iff.mp e
  refine s b F ρ σ X H x _ S e1 fun F1 H1 S1 i1 s1 => ?_
  cases x with
  | false => exact iteF (s' b F1 ρ σ X H1 cc Q S1 e fun F2 H2 S2 i2 s2 => k F2 H2 S2 (i1.trans i2) (s1.trans s2))
  | true =>
    cases e
    exact iteT (k F1 H1 S1 i1 s1)
theorem tv_not (ha : Tv c a ga) : Tv c (.UnaryOp .Not a pos) (tNotF ga) := by
  obtain ⟨t, p, s⟩ := ha
  refine ⟨_, fun j => pt_not (p j), ?_⟩
  intro b F ρ σ X H cc Q S e k
  unfold tNotF at e
  obtain ⟨x, e1, e⟩ := Option.map_eq_some_iff.mp e
  subst e
  exact s b F ρ σ X H x _ S e1 fun F1 H1 S1 i1 s1 => k F1 H1 S1 i1 s1
/-- as values -/
def fAnd (fa fb : List T → Option T) : List T → Option T := fun ρ => (fT fa ρ).bind fun x => if x = true then fb ρ else some (.f (.bl false))
def fOr (fa fb : List T → Option T) : List T → Option T := fun ρ => (fT fa ρ).bind fun x => if x = true then some (.f (.bl true)) else fb ρ
def fNot (fa : List T → Option T) : List T → Option T := fun ρ => (fT fa ρ).map fun x => .f (.bl (!x))
theorem ev_one {op : BoolOp} (ha : Ev c a fa) : Ev c (.BoolOp op [a] pos) fa := by
  obtain ⟨t, p, s⟩ := ha
  exact ⟨t, fun j => pe_one (p j), s⟩
theorem ev_and (ha : Ev c a fa) (hb : Ev c (.BoolOp .And (b :: rest) pos) fb) : Ev c (.BoolOp .And (a :: b :: rest) pos) (fAnd fa fb) := by
  obtain ⟨t, p, s⟩ := ha
  obtain ⟨u, q, s'⟩ := hb
  refine ⟨_, fun j => pe_and (p j) (q j), ?_⟩
  intro b F ρ σ X H τ Q S e k
  unfold fAnd fT at e
  obtain ⟨x, e1, e⟩ := Option.bind_eq_some_iff.mp e
  obtain ⟨t1, e0, e1⟩ := Option.bind_eq_some_iff.mp e1
  refine s b F ρ σ X H t1 _ S e0 fun v F1 H1 S1 i1 s1 r1 => ⟨x, r1.bl e1, ?_⟩
  cases x with
  | true => exact iteT (s' b F1 ρ σ X H1 τ Q S1 e (k.mono i1 s1))
  | false =>
    cases e
    exact iteF ((k.mono i1 s1).d S1 rfl)
theorem ev_or (ha : Ev c a fa) (hb : Ev c (.BoolOp .Or (b :: rest) pos) fb) : Ev c (.BoolOp .Or (a :: b :: rest) pos) (fOr fa fb) := by
  obtain ⟨t, p, s⟩ := ha
  obtain ⟨u, q, s'⟩ := hb
  refine ⟨_, fun j => pe_or (p j) (q j), ?_⟩
  intro b F ρ σ X H τ Q S e k
  unfold fOr fT at e
  obtain ⟨x, e1, e⟩ := Option.bind_eq_some_iff.mp e
  obtain ⟨t1, e0, e1⟩ := Option.bind_eq_some_iff.mp e1
  refine s b F ρ σ X H t1 _ S e0 fun v F1 H1 S1 i1 s1 r1 => ⟨x, r1.bl e1, ?_⟩
  cases x with
  | false => exact iteF (s' b F1 ρ σ X H1 τ Q S1 e (k.mono i1 s1))
  | true =>
    cases e
    exact iteT ((k.mono i1 s1).d S1 rfl)
theorem ev_not (ha : Ev c a fa) : Ev c (.UnaryOp .Not a pos) (fNot fa) := by
  obtain ⟨t, p, s⟩ := ha
  refine ⟨_, fun j => pe_not (p j), ?_⟩
  intro b F ρ σ X H τ Q S e k
  unfold fNot fT at e
  obtain ⟨x, e1, e⟩ := Option.map_eq_some_iff.mp e
  obtain ⟨t1, e0, e1⟩ := Option.bind_eq_some_iff.mp e1
  subst e
  exact s b F ρ σ X H t1 _ S e0 fun v F1 H1 S1 i1 s1 r1 => ⟨x, r1.bl e1, (k.mono i1 s1).d S1 rfl⟩
def fIf (g : List T → Option Bool) (fa fb : List T → Option T) : List T → Option T := fun ρ => (g ρ).bind fun x => if x = true then fa ρ else fb ρ
theorem ev_if {t : Expr} (ht : Tv c t ga) (ha : Ev c a fa) (hb : Ev c b fb) : Ev c (.IfExp t a b pos) (fIf ga fa fb) := by
  obtain ⟨t0, p0, s0⟩ := ht
  obtain ⟨t, p, s⟩ := ha
  obtain ⟨u, q, s'⟩ := hb
  refine ⟨_, fun j => pe_ifExp (p0 j) (p j) (q j), ?_⟩
  intro b F ρ σ X H τ Q S e k
  unfold fIf at e
  obtain ⟨x, e1, e⟩ := Option.bind_eq_some_iff.mp e
  refine s0 b F ρ σ X H x _ S e1 fun F1 H1 S1 i1 s1 => ?_
  cases x with
  | true => exact iteT (s b F1 ρ σ X H1 τ Q S1 e (k.mono i1 s1))
  | false => exact iteF (s' b F1 ρ σ X H1 τ Q S1 e (k.mono i1 s1))
end

/-! ### arguments, tuples, lists -/
section
variable {c : Ctx} {a : Expr} {es : List Expr} {fa : List T → Option T} {fs : List T → Option (List T)} {pos : Pos}
def aNil : List T → Option (List T) := fun _ => some []
def aCons (fa : List T → Option T) (fs : List T → Option (List T)) : List T → Option (List T) := fun ρ => (fa ρ).bind fun x => (fs ρ).map fun xs => x :: xs
theorem av_nil : Av c [] aNil := by
  refine ⟨_, fun _ => pa_nil, ?_⟩
  intro b F ρ σ X H τs Q S e k
  cases e
  exact k [] F H S (Inc.refl F) (Same.refl H) RelVs.nil
theorem av_cons (ha : Ev c a fa) (hr : Av c es fs) (hs : ∀ j, starEach (a :: es) (c.X j).env = (false, eval a (c.X j).env) :: starEach es (c.X j).env := by intro _; rfl) : Av c (a :: es) (aCons fa fs) := by
  obtain ⟨t, p, s⟩ := ha
  obtain ⟨u, q, s'⟩ := hr
  refine ⟨_, fun j => pa_cons (p j) (q j) (hs j), ?_⟩
  intro b F ρ σ X H τs Q S e k
  unfold aCons at e
  obtain ⟨x, e1, e⟩ := Option.bind_eq_some_iff.mp e
  obtain ⟨xs, e2, e⟩ := Option.map_eq_some_iff.mp e
  subst e
  refine s b F ρ σ X H x _ S e1 fun v F1 H1 S1 i1 s1 r1 => ?_
  exact s' b F1 ρ σ X H1 xs _ S1 e2 fun vs F2 H2 S2 i2 s2 r2 => k (v :: vs) F2 H2 S2 (i1.trans i2) (s1.trans s2) (.cons (r1.ext i2 s2) r2)
/-- deep data alone -/
def deep : List T → Option (List D)
  | [] => some []
  | t :: ts => (T.d? t).bind fun d => (deep ts).map fun ds => d :: ds
theorem RelVs.deep {W : Wd} {F H : Hp} : ∀ {ts : List T} {ds : List D} {vs : List V}, RelVs W F H ts vs → deep ts = some ds → Reps W F ds vs
  | [], _, _, r, e => by
    cases e
    exact r.inv0
  | t :: ts, _, _, r, e => by
    obtain ⟨v, vr, e1, a, b⟩ := r.inv
    obtain ⟨d, e2, e⟩ := Option.bind_eq_some_iff.mp (show (T.d? t).bind _ = _ from e)
    obtain ⟨ds, e3, e⟩ := Option.map_eq_some_iff.mp e
    subst e
    refine ⟨v, vr, e1, ?_, RelVs.deep b e3⟩
    cases t with
    | f d' =>
      cases e2
      exact a.rep
    | _ => cases e2
def gTup (ts : List T) : Option T := (deep ts).bind fun ds => if ds.length ≤ sizeLine then some (.f (.tup ds)) else none
def gLst (ts : List T) : Option T := (deep ts).bind fun ds => if ds.length ≤ sizeLine then some (.f (.lst ds)) else none
theorem ev_tup {m : Nat} (h : Av c es fs) : Ev c (.Tuple es m pos) (fN gTup fs) := by
  obtain ⟨t, p, s⟩ := h
  refine ⟨_, fun j => pe_tup (p j), ?_⟩
  intro b F ρ σ X H τ Q S e k
  unfold fN gTup at e
  obtain ⟨xs, e1, e⟩ := Option.bind_eq_some_iff.mp e
  obtain ⟨ds, e2, e⟩ := Option.bind_eq_some_iff.mp e
  split at e
  · rename_i hl
    cases e
    refine s b F ρ σ X H xs _ S e1 fun vs F1 H1 S1 i1 s1 r1 => ?_
    have r2 := r1.deep e2
    exact ⟨by rw [← r2.len]; exact hl, (k.mono i1 s1).tup S1 r2⟩
  · cases e
theorem ev_lst (h : Av c es fs) : Ev c (.List es pos) (fN gLst fs) := by
  obtain ⟨t, p, s⟩ := h
  refine ⟨_, fun j => pe_lst (p j), ?_⟩
  intro b F ρ σ X H τ Q S e k
  unfold fN gLst at e
  obtain ⟨xs, e1, e⟩ := Option.bind_eq_some_iff.mp e
  obtain ⟨ds, e2, e⟩ := Option.bind_eq_some_iff.mp e
  split at e
  · rename_i hl
    cases e
    refine s b F ρ σ X H xs _ S e1 fun vs F1 H1 S1 i1 s1 r1 => ?_
    have r2 := r1.deep e2
    exact ⟨by rw [← r2.len]; exact hl, (k.mono i1 s1).lst S1 r2⟩
  · cases e
/-- a builtin's call -/
theorem sv_cb {W : Wd} {r : List V → Hp → VK → Prop} {t : TA} {g : List T → Option T} (hr : Sn W r g) (h : Sav W t fs) : Sv W (tCB r t) (fN g fs) := by
  intro b F ρ σ X H τ Q S e k
  unfold fN at e
  obtain ⟨xs, e1, e⟩ := Option.bind_eq_some_iff.mp e
  exact h b F ρ σ X H xs _ S e1 fun vs F1 H1 S1 i1 s1 r1 => hr b F1 ρ σ X H1 xs τ vs Q S1 r1 e (k.mono i1 s1)
theorem ev_callB {id : String} {r : List V → Hp → VK → Prop} {g : List T → Option T} {x : Str} {p : Pos} (hc : ∀ j, CallR (c.X j) (.builtin id) r) (hr : Sn c.W r g) (hg : ∀ j, Gl (c.X j) x) (hm : ∀ j, (c.X j).mg x = none) (hv : bootBuiltins x = some (.builtin id))
    (ha : Av c (a :: es) fs) (hn : x ≠ "__name__" := by decide) (hdb : (x == ("__debug__" : Str)) = false := by decide)
    (he : ∀ j, starEach (a :: es) (c.X j).env = (false, eval a (c.X j).env) :: starEach es (c.X j).env := by intro _; rfl) (hpl : ∀ j, (backTo pos (starEach es (c.X j).env)).any (·.1) = false := by intro _; rfl) : Ev c (.Call (.Name x p) (a :: es) [] pos) (fN g fs) := by
  obtain ⟨t, q, s⟩ := ha
  exact ⟨_, fun j => pe_callB (hc j) (hg j) (hm j) hv (q j) hn hdb (he j) (hpl j), sv_cb hr s⟩
theorem ev_callTy {id : String} {r : List V → Hp → VK → Prop} {g : List T → Option T} {x : Str} {p : Pos} (hc : ∀ j, CallR (c.X j) (.type id) r) (hr : Sn c.W r g) (hg : ∀ j, Gl (c.X j) x) (hm : ∀ j, (c.X j).mg x = none) (hv : bootBuiltins x = some (.type id))
    (ha : Av c (a :: es) fs) (hn : x ≠ "__name__" := by decide) (hdb : (x == ("__debug__" : Str)) = false := by decide)
    (he : ∀ j, starEach (a :: es) (c.X j).env = (false, eval a (c.X j).env) :: starEach es (c.X j).env := by intro _; rfl) (hpl : ∀ j, (backTo pos (starEach es (c.X j).env)).any (·.1) = false := by intro _; rfl) : Ev c (.Call (.Name x p) (a :: es) [] pos) (fN g fs) := by
  obtain ⟨t, q, s⟩ := ha
  exact ⟨_, fun j => pe_callTy (hc j) (hg j) (hm j) hv (q j) hn hdb (he j) (hpl j), sv_cb hr s⟩
end
end Z

namespace Z
open PySem PySem.Spec PyProof.Rows L2
section
variable {W : Wd} {X : Cx}

/-! ### ints -/
def gI (C : Int → Int → Bool) (g : Int → Int → D) : T → T → Option T := fun a b => a.i?.bind fun i => b.i?.bind fun j => if C i j = true then some (.f (g i j)) else none
theorem s2_i {r : R2} {C : Int → Int → Bool} {g : Int → Int → D} {u : Int → Int → V} (hu : ∀ F i j, Rep W F (g i j) (u i j)) (hr : ∀ i j H Q, C i j = true → Q (u i j) H → r (.int i) (.int j) H Q) : S2 W r (gI C g) := by
  intro b F ρ σ X H t1 t2 τ x y Q S r1 r2 e k
  unfold gI at e
  obtain ⟨i, e1, e⟩ := Option.bind_eq_some_iff.mp e
  obtain ⟨j, e2, e⟩ := Option.bind_eq_some_iff.mp e
  split at e
  · rename_i hC
    cases e
    rw [r1.int e1, r2.int e2]
    exact hr i j H Q hC (k.d S (hu _ _ _))
  · cases e
def always : Int → Int → Bool := fun _ _ => true
abbrev gIa (g : Int → Int → D) := gI always g
theorem s2_i0 {g : Int → Int → D} {u : Int → Int → V} (hu : ∀ F i j, Rep W F (g i j) (u i j)) : S2 W (rI0 u) (gIa g) := s2_i hu fun i j H Q _ q => ⟨i, j, rfl, rfl, q⟩
theorem s2_iC {P : Int → Int → Prop} {C : Int → Int → Bool} {g : Int → Int → D} {u : Int → Int → V} (hu : ∀ F i j, Rep W F (g i j) (u i j)) (hC : ∀ i j, C i j = true → P i j) : S2 W (rI P u) (gI C g) := s2_i hu fun i j H Q h q => ⟨i, j, rfl, rfl, hC i j h, q⟩
theorem rep_int {W : Wd} {F : Hp} {i : Int} : Rep W F (.int i) (.int i) := rfl
theorem rep_bl {W : Wd} {F : Hp} {i : Bool} : Rep W F (.bl i) (.bl i) := rfl
theorem rep_str {W : Wd} {F : Hp} {i : Str} : Rep W F (.str i) (.str i) := rfl
theorem rep_non {W : Wd} {F : Hp} : Rep W F .non .non := rfl

def gSub := gIa fun i j => .int (i - j)
theorem s2_sub : S2 W (rI0 fun i j => .int (i - j)) gSub := s2_i0 fun _ _ _ => rfl
def mulC (i j : Int) : Bool := decide (i.natAbs.log2 + j.natAbs.log2 < 130000000)
def gMul := gI mulC fun i j => .int (i * j)
def CMulX (i j : Int) : Prop := i.natAbs.log2 + j.natAbs.log2 < 130000000
theorem CMulX.ok {i j : Int} (h : CMulX i j) : IntMulOk i j := by
  have b : ∀ x : Int, Builtin.Int.intBits x ≤ x.natAbs.log2 + 1 := fun x => by
    unfold Builtin.Int.intBits
    split <;> omega
  have h1 := b i
  have h2 := b j
  have h3 : i.natAbs.log2 + j.natAbs.log2 < 130000000 := h
  have e : bitsLine = 134217728 := by decide
  unfold IntMulOk
  intro z
  rw [Bool.and_eq_true] at z
  have z2 := z.2
  unfold Builtin.Int.intTooBig at z2
  have z3 := of_decide_eq_true z2
  rw [e] at z3
  omega
theorem op_mulX : OpR X (binaryOp .Mult) (rI CMulX fun i j => .int (i * j)) := opI fun _ _ _ _ _ _ _ hc q => PyProof.Rows.mul_int q hc.ok
theorem s2_mul : S2 W (rI CMulX fun i j => .int (i * j)) gMul := s2_iC (fun _ _ _ => rfl) fun i j h => (show i.natAbs.log2 + j.natAbs.log2 < 130000000 from of_decide_eq_true h)
def divC (_ j : Int) : Bool := decide (0 < j) && decide (j.natAbs.log2 < 9000)
def gDiv := gI divC fun i j => .int (i / j)
theorem s2_div : S2 W (rI CDivW fun i j => .int (i / j)) gDiv := s2_iC (fun _ _ _ => rfl) fun _ _ h => by
  unfold divC at h
  rw [Bool.and_eq_true] at h
  exact ⟨of_decide_eq_true h.1, of_decide_eq_true h.2⟩
def modC (_ j : Int) : Bool := decide (0 < j)
def gMod := gI modC fun i j => .int (i % j)
theorem s2_mod : S2 W (rI (fun _ j => 0 < j) fun i j => .int (i % j)) gMod := s2_iC (fun _ _ _ => rfl) fun _ _ h => of_decide_eq_true h
def powC (i j : Int) : Bool := decide (0 ≤ j) && decide (j ≤ 1000000) && decide (i.natAbs < 2 ^ 64)
theorem powC_ok {i j : Int} (h : powC i j = true) : CPow i j := by
  unfold powC at h
  rw [Bool.and_eq_true, Bool.and_eq_true] at h
  exact ⟨of_decide_eq_true h.1.1, of_decide_eq_true h.1.2, of_decide_eq_true h.2⟩
def gPow := gI powC fun i j => .int (i ^ j.toNat)
theorem s2_pow : S2 W (rI CPow fun i j => .int (i ^ j.toNat)) gPow := s2_iC (fun _ _ _ => rfl) fun _ _ h => powC_ok h
def gShl := gI powC fun i j => .int (i * 2 ^ j.toNat)
theorem s2_shl : S2 W (rI CPow fun i j => .int (i * 2 ^ j.toNat)) gShl := s2_iC (fun _ _ _ => rfl) fun _ _ h => powC_ok h
def shrC (_ j : Int) : Bool := decide (0 ≤ j)
def gShr := gI shrC fun i j => .int (i / 2 ^ j.toNat)
theorem s2_shr : S2 W (rI (fun _ j => 0 ≤ j) fun i j => .int (i / 2 ^ j.toNat)) gShr := s2_iC (fun _ _ _ => rfl) fun _ _ h => of_decide_eq_true h
def gBAnd := gIa fun i j => .int (Builtin.bitAnd i j)
theorem s2_band : S2 W (rI0 fun i j => .int (Builtin.bitAnd i j)) gBAnd := s2_i0 fun _ _ _ => rfl
def gBOr := gIa fun i j => .int (Builtin.bitOr i j)
theorem s2_bor : S2 W (rI0 fun i j => .int (Builtin.bitOr i j)) gBOr := s2_i0 fun _ _ _ => rfl
def gBXor := gIa fun i j => .int (Builtin.bitXor i j)
theorem s2_bxor : S2 W (rI0 fun i j => .int (Builtin.bitXor i j)) gBXor := s2_i0 fun _ _ _ => rfl
def gLt := gIa fun i j => .bl (decide (i < j))
theorem s2_lt : S2 W (rI0 fun i j => .bl (decide (i < j))) gLt := s2_i0 fun _ _ _ => rfl
def gLe := gIa fun i j => .bl (decide (i ≤ j))
theorem s2_le : S2 W (rI0 fun i j => .bl (decide (i ≤ j))) gLe := s2_i0 fun _ _ _ => rfl
def gGt := gIa fun i j => .bl (decide (j < i))
theorem s2_gt : S2 W (rI0 fun i j => .bl (decide (j < i))) gGt := s2_i0 fun _ _ _ => rfl
def gGe := gIa fun i j => .bl (decide (j ≤ i))
theorem s2_ge : S2 W (rI0 fun i j => .bl (decide (j ≤ i))) gGe := s2_i0 fun _ _ _ => rfl
def gNeg : T → Option T := fun t => t.i?.map fun i => .f (.int (-i))
theorem s1_neg : S1 W (rU fun i => .int (-i)) gNeg := by
  intro b F ρ σ X H t1 τ x Q S r1 e k
  unfold gNeg at e
  obtain ⟨i, e1, e⟩ := Option.map_eq_some_iff.mp e
  subst e
  exact ⟨i, r1.int e1, k.d S rfl⟩

/-! ### + -/
def gCatS : T → T → Option T := fun a b => a.s?.bind fun x => b.s?.bind fun y => if x.length + y.length ≤ sizeLine then some (.f (.str (x ++ y))) else none
def gCatL : T → T → Option T := fun a b => a.ls?.bind fun x => b.ls?.bind fun y => if x.length + y.length ≤ sizeLine then some (.f (.lst (x ++ y))) else none
def gCatT : T → T → Option T := fun a b => a.ts?.bind fun x => b.ts?.bind fun y => if x ≠ [] ∧ x.length + y.length ≤ sizeLine then some (.f (.tup (x ++ y))) else none
def rCatS : R2 := fun x y H Q => ∃ i j, x = .str i ∧ y = .str j ∧ i.length + j.length ≤ sizeLine ∧ Q (.str (i ++ j)) H
def rCatL (K : PySem.W.Frag) : R2 := fun x y H Q => ∃ l b xs zs, x = .ref l ∧ y = .ref b ∧ SqL K H l xs ∧ SqL K H b zs ∧ xs.length + zs.length ≤ sizeLine ∧ ∀ p, H p = none → Q (.ref p) (upd H p (.lst (xs ++ zs)))
theorem op_catL : OpR X (binaryOp .Add) (rCatL X.K) := by
  intro pins s σ H x y v u Q I rx ry h
  obtain ⟨l, b, xs, zs, rfl, rfl, hH, hB, hz, q⟩ := h
  cases rx
  cases ry
  obtain ⟨its, r, pl, hl⟩ := I.list hH
  obtain ⟨its2, r2, pl2, hl2⟩ := I.list hB
  obtain ⟨⟨cls, dd, data, sl⟩, ho, hc, n, hd⟩ := id pl.isList
  obtain ⟨⟨cls2, dd2, data2, sl2⟩, ho2, hc2, n2, hd2⟩ := id pl2.isList
  simp only at hc hd hc2 hd2
  subst hc hd hc2 hd2
  have e1 := r.length
  have e2 := r2.length
  have ea : its.toArray ++ its2.toArray = (its ++ its2).toArray := by simp
  refine concat_meets ⟨_, ho, rfl⟩ ⟨_, ho2, rfl⟩ noFill_list_add seq_list_add PySem.F.slot_list_add PySem.F.entry_list_add (PySem.F.args_list_add_2 _ _) (PyProof.Rows.list_addW l b its.toArray its2.toArray n n2 dd dd2 sl sl2 (by rw [List.size_toArray, List.size_toArray, ← e1, ← e2]; exact hz)) ⟨ho, ho2, ?_⟩
  rw [ea]
  exact ⟨.ref _, _, I.lnew (t' := s.toks) (r.append r2) (by rw [List.length_append]; omega), rfl, q _ I.fresh⟩
theorem s2_catS : S2 W rCatS gCatS := by
  intro b F ρ σ X H t1 t2 τ x y Q S r1 r2 e k
  unfold gCatS at e
  obtain ⟨i, e1, e⟩ := Option.bind_eq_some_iff.mp e
  obtain ⟨j, e2, e⟩ := Option.bind_eq_some_iff.mp e
  split at e
  · rename_i hz
    cases e
    exact ⟨i, j, r1.str e1, r2.str e2, hz, k.d S rfl⟩
  · cases e
theorem s2_catL : S2 W (rCatL W.K) gCatL := by
  intro b F ρ σ X H t1 t2 τ x y Q S r1 r2 e k
  unfold gCatL at e
  obtain ⟨i, e1, e⟩ := Option.bind_eq_some_iff.mp e
  obtain ⟨j, e2, e⟩ := Option.bind_eq_some_iff.mp e
  split at e
  · rename_i hz
    cases e
    obtain ⟨p, vs, ex, hs, q⟩ := r1.ls e1 S.le
    obtain ⟨p2, vs2, ex2, hs2, q2⟩ := r2.ls e2 S.le
    exact ⟨p, p2, vs, vs2, ex, ex2, hs, hs2, by rw [← q.len, ← q2.len]; exact hz, k.lst S (q.append q2)⟩
  · cases e
theorem s2_catT : S2 W (rCatT W.K) gCatT := by
  intro b F ρ σ X H t1 t2 τ x y Q S r1 r2 e k
  unfold gCatT at e
  obtain ⟨i, e1, e⟩ := Option.bind_eq_some_iff.mp e
  obtain ⟨j, e2, e⟩ := Option.bind_eq_some_iff.mp e
  split at e
  · rename_i hz
    cases e
    obtain ⟨p, vs, ex, hs, q⟩ := r1.ts e1 S.le
    obtain ⟨p2, vs2, ex2, hs2, q2⟩ := r2.ts e2 S.le
    refine ⟨p, p2, vs, vs2, ex, ex2, hs, hs2, fun z => ?_, by rw [← q.len, ← q2.len]; exact hz.2, fun z => ?_, fun z => k.tup S (q.append q2)⟩
    · have := q.len
      rw [z] at this
      exact hz.1 (List.length_eq_zero_iff.mp this)
    · have hj : j = [] := by
        have := q2.len
        rw [z] at this
        exact List.length_eq_zero_iff.mp this
      subst hj
      subst ex
      rw [List.append_nil] at k
      refine k.here S ?_
      cases t1 with
      | f d => cases d with
        | tup l => cases e1; exact r1
        | _ => cases e1
      | _ => cases e1
  · cases e
def gAddI := gIa fun i j => .int (i + j)
def gAdd : T → T → Option T := or2 gAddI (or2 gCatS (or2 gCatL gCatT))
def rAddU (K : PySem.W.Frag) : R2 := fun x y H Q => rI0 (fun i j => .int (i + j)) x y H Q ∨ rCatS x y H Q ∨ rCatL K x y H Q ∨ rCatT K x y H Q
theorem op_addU : OpR X (binaryOp .Add) (rAddU X.K) := OpR_or op_add (OpR_or op_add_str (OpR_or op_catL op_catT))
theorem s2_add : S2 W (rAddU W.K) gAdd := S2.or (s2_i0 fun _ _ _ => rfl) (S2.or s2_catS (S2.or s2_catL s2_catT))

/-! ### == -/
/-- scalars -/
def T.v? : T → Option V | .f .non => some .non | .f (.bl b) => some (.bl b) | .f (.int i) => some (.int i) | .f (.str x) => some (.str x) | _ => none
theorem RelV.v {F H : Hp} {t : T} {v x : V} (r : RelV W F H t v) (h : t.v? = some x) : v = x := by
  cases t with
  | f d => cases d with
    | non => cases h; exact r.rep
    | bl j => cases h; exact r.rep
    | int j => cases h; exact r.rep
    | str j => cases h; exact r.rep
    | _ => cases h
  | _ => cases h
def T.vd : T → Option D | .f d => some d | .l ds => some (.lst ds) | .dk ks ds => some (.dct ks ds) | _ => none
theorem RelV.vd {F H : Hp} {t : T} {v : V} {d : D} (r : RelV W F H t v) (h : t.vd = some d) (le : Le F H) : Rep W H d v := by
  cases t with
  | f d' => cases h; exact Rep.le le _ _ r.rep
  | l ds =>
    cases h
    obtain ⟨fp, p, vs, e, _, s, q⟩ := r
    exact ⟨p, vs, e, .inl (.inl s), Reps.le le _ _ q⟩
  | dk ks ds =>
    cases h
    obtain ⟨fp, p, kvs, e, _, s, k, q⟩ := r
    exact ⟨p, kvs, e, .inl s, k, Reps.le le _ _ q⟩
  | _ => cases h
mutual
def D.py : D → Option PyData
  | .non => some .none
  | .bl b => some (.bool b)
  | .int i => some (.int i)
  | .str x => some (.str x)
  | .tup l => (D.pys l).map .tuple
  | .lst l => (D.pys l).map .list
  | .dct _ _ => none
  | .obj _ _ _ => none
def D.pys : List D → Option (List PyData)
  | [] => some []
  | d :: ds => (D.py d).bind fun x => (D.pys ds).map fun xs => x :: xs
end
mutual
theorem Rep.dp {H : Hp} : ∀ (d : D) (v : V) (p : PyData), Rep W H d v → d.py = some p → Dp W.K H v p
  | .non, _, _, r, e => by
    unfold D.py at e
    cases e
    have r' : _ = V.non := r
    subst r'
    exact .non
  | .bl b, _, _, r, e => by
    unfold D.py at e
    cases e
    have r' : _ = V.bl b := r
    subst r'
    exact .bl b
  | .int b, _, _, r, e => by
    unfold D.py at e
    cases e
    have r' : _ = V.int b := r
    subst r'
    exact .int b
  | .str b, _, _, r, e => by
    unfold D.py at e
    cases e
    have r' : _ = V.str b := r
    subst r'
    exact .str b
  | .tup l, _, _, r, e => by
    unfold D.py at e
    obtain ⟨ps, e1, e⟩ := Option.map_eq_some_iff.mp e
    subst e
    obtain ⟨p, vs, e, s, q⟩ := r
    subst e
    exact .tup s (Reps.dp l vs ps q e1)
  | .lst l, _, _, r, e => by
    unfold D.py at e
    obtain ⟨ps, e1, e⟩ := Option.map_eq_some_iff.mp e
    subst e
    obtain ⟨p, vs, e, s, q⟩ := r
    subst e
    exact .lst s (Reps.dp l vs ps q e1)
  | .dct _ _, _, _, _, e => by
    unfold D.py at e
    cases e
  | .obj _ _ _, _, _, _, e => by
    unfold D.py at e
    cases e
theorem Reps.dp {H : Hp} : ∀ (ds : List D) (vs : List V) (ps : List PyData), Reps W H ds vs → D.pys ds = some ps → DpAll W.K H vs ps
  | [], _, _, r, e => by
    unfold D.pys at e
    cases e
    have r' : _ = [] := r
    subst r'
    exact .nil
  | d :: ds, _, _, r, e => by
    unfold D.pys at e
    obtain ⟨x, e1, e⟩ := Option.bind_eq_some_iff.mp e
    obtain ⟨xs, e2, e⟩ := Option.map_eq_some_iff.mp e
    subst e
    obtain ⟨v, vr, e, a, b⟩ := r
    subst e
    exact .cons (Rep.dp d v x a e1) (Reps.dp ds vr xs b e2)
end
def gEqS (neg : Bool) : T → T → Option T := fun a b => a.v?.bind fun x => b.v?.bind fun y => if scal x y = true then some (.f (.bl (xor neg (decide (x = y))))) else none
def gEqD (neg : Bool) : T → T → Option T := fun a b => a.vd.bind fun x => b.vd.bind fun y => x.py.bind fun p => y.py.bind fun q => if SeqAt.shaped p = true ∧ SeqAt.shaped q = true then some (.f (.bl (xor neg (PyData.eqv p q)))) else none
def gEq := or2 (gEqS false) (gEqD false)
def gNe := or2 (gEqS true) (gEqD true)
theorem s2_eqS : S2 W rEq (gEqS false) := by
  intro b F ρ σ X H t1 t2 τ x y Q S r1 r2 e k
  unfold gEqS at e
  obtain ⟨i, e1, e⟩ := Option.bind_eq_some_iff.mp e
  obtain ⟨j, e2, e⟩ := Option.bind_eq_some_iff.mp e
  rw [r1.v e1, r2.v e2]
  split at e
  · rename_i hz
    cases e
    rw [Bool.false_xor] at k
    exact ⟨hz, k.d S rfl⟩
  · cases e
theorem s2_neS : S2 W rNe (gEqS true) := by
  intro b F ρ σ X H t1 t2 τ x y Q S r1 r2 e k
  unfold gEqS at e
  obtain ⟨i, e1, e⟩ := Option.bind_eq_some_iff.mp e
  obtain ⟨j, e2, e⟩ := Option.bind_eq_some_iff.mp e
  rw [r1.v e1, r2.v e2]
  split at e
  · rename_i hz
    cases e
    rw [Bool.true_xor] at k
    exact ⟨hz, k.d S rfl⟩
  · cases e
theorem s2_eqD : S2 W (rEqD W.K) (gEqD false) := by
  intro b F ρ σ X H t1 t2 τ x y Q S r1 r2 e k
  unfold gEqD at e
  obtain ⟨i, e1, e⟩ := Option.bind_eq_some_iff.mp e
  obtain ⟨j, e2, e⟩ := Option.bind_eq_some_iff.mp e
  obtain ⟨p, e3, e⟩ := Option.bind_eq_some_iff.mp e
  obtain ⟨q, e4, e⟩ := Option.bind_eq_some_iff.mp e
  split at e
  · rename_i hz
    cases e
    rw [Bool.false_xor] at k
    exact ⟨p, q, Rep.dp i x p (r1.vd e1 S.le) e3, Rep.dp j y q (r2.vd e2 S.le) e4, hz.1, hz.2, k.d S rfl⟩
  · cases e
theorem s2_neD : S2 W (rNeD W.K) (gEqD true) := by
  intro b F ρ σ X H t1 t2 τ x y Q S r1 r2 e k
  unfold gEqD at e
  obtain ⟨i, e1, e⟩ := Option.bind_eq_some_iff.mp e
  obtain ⟨j, e2, e⟩ := Option.bind_eq_some_iff.mp e
  obtain ⟨p, e3, e⟩ := Option.bind_eq_some_iff.mp e
  obtain ⟨q, e4, e⟩ := Option.bind_eq_some_iff.mp e
  split at e
  · rename_i hz
    cases e
    rw [Bool.true_xor] at k
    exact ⟨p, q, Rep.dp i x p (r1.vd e1 S.le) e3, Rep.dp j y q (r2.vd e2 S.le) e4, hz.1, hz.2, k.d S rfl⟩
  · cases e
def rEqU (K : PySem.W.Frag) : R2 := fun x y H Q => rEq x y H Q ∨ rEqD K x y H Q
def rNeU (K : PySem.W.Frag) : R2 := fun x y H Q => rNe x y H Q ∨ rNeD K x y H Q
theorem op_eqU (hu : X.A.units + 64 < cLine) : OpR X (compareOp .Eq) (rEqU X.K) := OpR_or op_eq (op_eqD hu)
theorem op_neU (hu : X.A.units + 64 < cLine) : OpR X (compareOp .NotEq) (rNeU X.K) := OpR_or op_ne (op_neD hu)
theorem s2_eq : S2 W (rEqU W.K) gEq := S2.or s2_eqS s2_eqD
theorem s2_ne : S2 W (rNeU W.K) gNe := S2.or s2_neS s2_neD
def gIsN : T → Option T := fun t => match t with
  | .f d => some (.f (.bl (match d with | .non => true | _ => false)))
  | _ => some (.f (.bl false))
theorem RelV.non {F H : Hp} {t : T} {v : V} {c : Bool} (r : RelV W F H t v) (h : gIsN t = some (.f (.bl c))) (hu : t ≠ .un) : decide (v = .non) = c := by
  cases t with
  | un => exact absurd rfl hu
  | f d => cases d with
    | non => cases h; rw [show v = V.non from r.rep]; rfl
    | bl j => cases h; rw [show v = V.bl j from r.rep]; rfl
    | int j => cases h; rw [show v = V.int j from r.rep]; rfl
    | str j => cases h; rw [show v = V.str j from r.rep]; rfl
    | tup j => cases h; obtain ⟨p, vs, e, _⟩ := r.rep; rw [e]; rfl
    | lst j => cases h; obtain ⟨p, vs, e, _⟩ := r.rep; rw [e]; rfl
    | dct j => cases h; obtain ⟨p, vs, e, _⟩ := r.rep; rw [e]; rfl
    | obj j => cases h; obtain ⟨p, _, vs, e, _⟩ := r.rep; rw [e]; rfl
  | l ds => cases h; obtain ⟨fp, p, vs, e, _⟩ := r; rw [e]; rfl
  | dk ds => cases h; obtain ⟨fp, p, vs, e, _⟩ := r; rw [e]; rfl
  | di ks ds => cases h; obtain ⟨fp, p, vs, e, _⟩ := r; rw [e]; rfl
  | ll ds => cases h; obtain ⟨fp, p, vs, _, e, _⟩ := r; rw [e]; rfl
  | tu ds => cases h; obtain ⟨fp, p, vs, _, e, _⟩ := r; rw [e]; rfl
  | o ds => cases h; obtain ⟨fp, p, _, vs, _, e, _⟩ := r; rw [e]; rfl

/-! ### in -/
def flatD : D → Bool | .non => true | .bl _ => true | .int _ => true | .str _ => true | _ => false
def D.v : D → V | .bl b => .bl b | .int i => .int i | .str x => .str x | _ => .non
theorem Rep.flat {F : Hp} {d : D} {v : V} (r : Rep W F d v) (h : flatD d = true) : v = d.v ∧ flatV v = true := by
  cases d with
  | non => have r' : v = _ := r; subst r'; exact ⟨rfl, rfl⟩
  | bl b => have r' : v = _ := r; subst r'; exact ⟨rfl, rfl⟩
  | int b => have r' : v = _ := r; subst r'; exact ⟨rfl, rfl⟩
  | str b => have r' : v = _ := r; subst r'; exact ⟨rfl, rfl⟩
  | _ => cases h
theorem Reps.flat {F : Hp} : ∀ {ds : List D} {vs : List V}, Reps W F ds vs → ds.all flatD = true → vs = ds.map D.v ∧ vs.all flatV = true
  | [], _, r, _ => by
    have r' : _ = [] := r
    subst r'
    exact ⟨rfl, rfl⟩
  | d :: ds, _, r, h => by
    obtain ⟨v, vr, e, a, b⟩ := r
    rw [List.all_cons, Bool.and_eq_true] at h
    obtain ⟨h1, h2⟩ := a.flat h.1
    obtain ⟨h3, h4⟩ := Reps.flat b h.2
    subst e
    rw [List.all_cons, h2, h4, h3, List.map_cons, ← h1]
    exact ⟨rfl, rfl⟩
def gInQ (neg : Bool) : T → T → Option T := fun a b => a.v?.bind fun x => b.sq?.bind fun ds => if ds.all flatD = true then some (.f (.bl (xor neg (inV x (ds.map D.v))))) else none
def gInS (neg : Bool) : T → T → Option T := fun a b => a.s?.bind fun x => b.s?.bind fun y => some (.f (.bl (xor neg (!(Builtin.Str.occurrences y x 0 y.length 1).isEmpty))))
def gInD (neg : Bool) : T → T → Option T := fun a b => a.key?.bind fun k => b.dk?.bind fun ds => some (.f (.bl (xor neg (ds.1.any fun q => decide (q = k)))))
theorem v_flat {t : T} {x : V} (h : t.v? = some x) : flatV x = true := by
  cases t with
  | f d => cases d with
    | non => cases h; rfl
    | bl j => cases h; rfl
    | int j => cases h; rfl
    | str j => cases h; rfl
    | _ => cases h
  | _ => cases h
theorem s2_inQ (neg : Bool) : S2 W (rIn W.K neg) (gInQ neg) := by
  intro b F ρ σ X H t1 t2 τ x y Q S r1 r2 e k
  unfold gInQ at e
  obtain ⟨i, e1, e⟩ := Option.bind_eq_some_iff.mp e
  obtain ⟨ds, e2, e⟩ := Option.bind_eq_some_iff.mp e
  rw [r1.v e1]
  split at e
  · rename_i hz
    cases e
    obtain ⟨p, vs, ex, hs, q⟩ := r2.sq e2 S.le
    obtain ⟨h1, h2⟩ := q.flat hz
    subst h1
    refine ⟨p, _, ex, hs, v_flat e1, h2, ?_⟩
    cases neg with
    | true => rw [Bool.true_xor] at k; exact k.d S rfl
    | false => rw [Bool.false_xor] at k; exact k.d S rfl
  · cases e
def rInS (neg : Bool) : R2 := fun x y H Q => ∃ i j, x = .str i ∧ y = .str j ∧ Q (.bl (xor neg (!(Builtin.Str.occurrences j i 0 j.length 1).isEmpty))) H
theorem s2_inS (neg : Bool) : S2 W (rInS neg) (gInS neg) := by
  intro b F ρ σ X H t1 t2 τ x y Q S r1 r2 e k
  unfold gInS at e
  obtain ⟨i, e1, e⟩ := Option.bind_eq_some_iff.mp e
  obtain ⟨j, e2, e⟩ := Option.bind_eq_some_iff.mp e
  cases e
  exact ⟨i, j, r1.str e1, r2.str e2, k.d S rfl⟩
def rInD (neg : Bool) : R2 := fun y x H Q => ∃ a o, x = .ref a ∧ DGet H a y o ∧ Q (.bl (xor neg o.isSome)) H
theorem mem_valV {kvs : List (Key × V)} {k : Key} : (valV kvs k).isSome = (kvs.map (·.1)).any fun q => decide (q = k) := by
  rw [← valV_any, List.any_map]
  rfl
theorem s2_inD (neg : Bool) : S2 W (rInD neg) (gInD neg) := by
  intro b F ρ σ X H t1 t2 τ x y Q S r1 r2 e k
  unfold gInD at e
  obtain ⟨i, e1, e⟩ := Option.bind_eq_some_iff.mp e
  obtain ⟨⟨ks, ds⟩, e2, e⟩ := Option.bind_eq_some_iff.mp e
  cases e
  obtain ⟨p, kvs, ex, hs, hk, q⟩ := r2.dk e2 S.le
  rw [r1.key e1]
  refine ⟨p, _, ex, .inl ⟨kvs, i, hs, rfl, rfl⟩, ?_⟩
  rw [mem_valV, hk]
  exact k.d S rfl
theorem op_inD (hu : X.A.units + 1 < cLine) : OpR X (compareOp .In) (rInD false) := by
  intro pins s σ H x y v u Q I rx ry h
  obtain ⟨a, o, rfl, g, q⟩ := h
  cases ry
  rw [Bool.false_xor] at q
  exact d_in hu I g rx fun s' I' => ⟨.bl _, H, I', rfl, q⟩
theorem op_notInD (hu : X.A.units + 1 < cLine) : OpR X (compareOp .NotIn) (rInD true) := by
  intro pins s σ H x y v u Q I rx ry h
  obtain ⟨a, o, rfl, g, q⟩ := h
  cases ry
  rw [Bool.true_xor] at q
  exact d_notIn hu I g rx fun s' I' => ⟨.bl _, H, I', rfl, q⟩
theorem op_inS : OpR X (compareOp .In) (rInS false) := by
  intro pins s σ H x y v u Q I rx ry h
  obtain ⟨i, j, e1, e2, q⟩ := h
  rw [Bool.false_xor] at q
  exact op_in_str pins s σ H x y v u Q I rx ry ⟨i, j, e1, e2, q⟩
theorem op_notInS : OpR X (compareOp .NotIn) (rInS true) := by
  intro pins s σ H x y v u Q I rx ry h
  obtain ⟨i, j, e1, e2, q⟩ := h
  rw [Bool.true_xor] at q
  exact op_notin_str pins s σ H x y v u Q I rx ry ⟨i, j, e1, e2, q⟩
def rInU (K : PySem.W.Frag) (neg : Bool) : R2 := fun x y H Q => rIn K neg x y H Q ∨ rInS neg x y H Q ∨ rInD neg x y H Q
def gIn := or2 (gInQ false) (or2 (gInS false) (gInD false))
def gNotIn := or2 (gInQ true) (or2 (gInS true) (gInD true))
theorem op_inU (hu : X.A.units + 1 < cLine) : OpR X (compareOp .In) (rInU X.K false) := OpR_or op_in_seq (OpR_or op_inS (op_inD hu))
theorem op_notInU (hu : X.A.units + 1 < cLine) : OpR X (compareOp .NotIn) (rInU X.K true) := OpR_or op_notIn_seq (OpR_or op_notInS (op_notInD hu))
theorem s2_in : S2 W (rInU W.K false) gIn := S2.or (s2_inQ false) (S2.or (s2_inS false) (s2_inD false))
theorem s2_notIn : S2 W (rInU W.K true) gNotIn := S2.or (s2_inQ true) (S2.or (s2_inS true) (s2_inD true))

/-! ### [ ] -/
/-- what stands in a dict at a key -/
def dAt : List Key → List D → Key → Option D
  | k :: ks, d :: ds, q => if k = q then some d else dAt ks ds q
  | _, _, _ => none
theorem dAt_val {F : Hp} : ∀ {kvs : List (Key × V)} {ds : List D} {k : Key} {d : D}, Reps W F ds (kvs.map (·.2)) → dAt (kvs.map (·.1)) ds k = some d → ∃ v, valV kvs k = some v ∧ Rep W F d v
  | [], _, _, _, _, e => by simp [dAt] at e
  | p :: r, [], _, _, q, _ => by
    have q' : _ = [] := q
    cases q'
  | p :: r, d :: ds, k, d', q, e => by
    obtain ⟨v, vr, e1, a, b⟩ := q
    rw [List.map_cons] at e1 e
    have e2 : p.2 = v := (List.cons.inj e1).1
    have e3 : r.map (·.2) = vr := (List.cons.inj e1).2
    subst e2 e3
    unfold dAt at e
    split at e
    · rename_i hk
      cases e
      exact ⟨_, valV_pos hk, a⟩
    · rename_i hk
      rw [valV_neg hk]
      exact dAt_val b e
def gIxQ : T → T → Option T := fun a b => a.sq?.bind fun ds => b.i?.bind fun i => (atI ds i).map .f
def gIxS : T → T → Option T := fun a b => a.s?.bind fun z => b.i?.bind fun i => if z.length ≤ sizeLine then (atI z.cps.toList i).map fun c => .f (.str ⟨#[c]⟩) else none
def gIxD : T → T → Option T := fun a b => a.dk?.bind fun ds => b.key?.bind fun k => (dAt ds.1 ds.2 k).map .f
/-- a part of one's own -/
def T.tsq? : T → Option (List T) | .ll ts => some ts | .tu ts => some ts | _ => none
def gIxO : T → T → Option T := fun a b => a.tsq?.bind fun ds => b.i?.bind fun i => (atI ds i).bind fun t => match t with | .un => none | t => some t
theorem RelTs.at {F H : Hp} : ∀ {ts : List T} {vs : List V} {fps : List (List Addr)} {i : Nat} {t : T}, RelTs W F H ts vs fps → ts[i]? = some t → ∃ v f, vs[i]? = some v ∧ fps[i]? = some f ∧ RelT W F H t v f
  | [], _, _, _, _, _, e => by simp at e
  | t :: ts, _, _, 0, _, r, e => by
    obtain ⟨v, vr, f, fr, e1, e2, a, b⟩ := r
    simp at e
    subst e e1 e2
    exact ⟨v, f, rfl, rfl, a⟩
  | t :: ts, _, _, i + 1, _, r, e => by
    obtain ⟨v, vr, f, fr, e1, e2, a, b⟩ := r
    subst e1 e2
    obtain ⟨u, g, h1, h2, h3⟩ := RelTs.at (i := i) b (by simpa using e)
    exact ⟨u, g, by simpa using h1, by simpa using h2, h3⟩
theorem RelTs.len {F H : Hp} : ∀ {ts : List T} {vs : List V} {fps : List (List Addr)}, RelTs W F H ts vs fps → ts.length = vs.length ∧ ts.length = fps.length
  | [], _, _, r => by
    rw [r.1, r.2]
    exact ⟨rfl, rfl⟩
  | t :: ts, _, _, r => by
    obtain ⟨v, vr, f, fr, e1, e2, a, b⟩ := r
    have q := RelTs.len b
    rw [e1, e2]
    simp only [List.length_cons]
    omega
theorem atI_map {α β : Type} {xs : List α} {ys : List β} {i : Int} {a : α} (hl : xs.length = ys.length) (h : atI xs i = some a) : ∃ j : Nat, xs[j]? = some a ∧ ∀ c, ys[j]? = some c → atI ys i = some c := by
  unfold atI at h ⊢
  obtain ⟨j, e1, e2⟩ := Option.bind_eq_some_iff.mp h
  refine ⟨j, e2, fun c e => ?_⟩
  rw [← hl, e1]
  exact e
theorem s2_ixQ : S2 W (fun x y H Q => rIxL W.K x y H Q ∨ rIxT W.K x y H Q) gIxQ := by
  intro b F ρ σ X H t1 t2 τ x y Q S r1 r2 e k
  unfold gIxQ at e
  obtain ⟨ds, e1, e⟩ := Option.bind_eq_some_iff.mp e
  obtain ⟨i, e2, e⟩ := Option.bind_eq_some_iff.mp e
  obtain ⟨d, e3, e⟩ := Option.map_eq_some_iff.mp e
  subst e
  obtain ⟨p, vs, ex, hs, q⟩ := r1.sq e1 S.le
  obtain ⟨j, h1, h2⟩ := atI_map q.len e3
  obtain ⟨v, h3, h4⟩ := q.get h1
  rcases hs with hs | hs
  · exact .inl ⟨p, vs, i, v, ex, r2.int e2, hs, h2 v h3, k.d S h4⟩
  · exact .inr ⟨p, vs, i, v, ex, r2.int e2, hs, h2 v h3, k.d S h4⟩
theorem s2_ixO : S2 W (fun x y H Q => rIxL W.K x y H Q ∨ rIxT W.K x y H Q) gIxO := by
  intro b F ρ σ X H t1 t2 τ x y Q S r1 r2 e k
  unfold gIxO at e
  obtain ⟨ds, e1, e⟩ := Option.bind_eq_some_iff.mp e
  obtain ⟨i, e2, e⟩ := Option.bind_eq_some_iff.mp e
  obtain ⟨d, e3, e⟩ := Option.bind_eq_some_iff.mp e
  have e4 : d = τ := by
    cases d <;> first | exact Option.some.inj e | cases e
  subst e4
  cases t1 with
  | ll ts =>
    cases e1
    obtain ⟨fp, p, vs, fps, ex, _, hs, q⟩ := r1
    obtain ⟨j, h1, h2⟩ := atI_map q.len.1 e3
    obtain ⟨v, f, h3, _, h4⟩ := q.at h1
    exact .inl ⟨p, vs, i, v, ex, r2.int e2, .inl (.inl hs), h2 v h3, k.here S ⟨f, h4⟩⟩
  | tu ts =>
    cases e1
    obtain ⟨fp, p, vs, fps, ex, _, hs, q⟩ := r1
    obtain ⟨j, h1, h2⟩ := atI_map q.len.1 e3
    obtain ⟨v, f, h3, _, h4⟩ := q.at h1
    exact .inr ⟨p, vs, i, v, ex, r2.int e2, .inl (.inl hs), h2 v h3, k.here S ⟨f, h4⟩⟩
  | _ => cases e1
theorem s2_ixS : S2 W rIxS gIxS := by
  intro b F ρ σ X H t1 t2 τ x y Q S r1 r2 e k
  unfold gIxS at e
  obtain ⟨z, e1, e⟩ := Option.bind_eq_some_iff.mp e
  obtain ⟨i, e2, e⟩ := Option.bind_eq_some_iff.mp e
  split at e
  · rename_i hz
    obtain ⟨c, e3, e⟩ := Option.map_eq_some_iff.mp e
    subst e
    exact ⟨z, i, c, r1.str e1, r2.int e2, hz, e3, k.d S rfl⟩
  · cases e
def rIxDk : R2 := fun x y H Q => ∃ a v, x = .ref a ∧ DGet H a y (some v) ∧ Q v H
theorem s2_ixD : S2 W rIxDk gIxD := by
  intro b F ρ σ X H t1 t2 τ x y Q S r1 r2 e k
  unfold gIxD at e
  obtain ⟨⟨ks, ds⟩, e1, e⟩ := Option.bind_eq_some_iff.mp e
  obtain ⟨i, e2, e⟩ := Option.bind_eq_some_iff.mp e
  obtain ⟨d, e3, e⟩ := Option.map_eq_some_iff.mp e
  subst e
  obtain ⟨p, kvs, ex, hs, hk, q⟩ := r1.dk e1 S.le
  subst hk
  obtain ⟨v, h1, h2⟩ := dAt_val q e3
  rw [r2.key e2]
  exact ⟨p, v, ex, .inl ⟨kvs, i, hs, rfl, h1.symm⟩, k.d S h2⟩
theorem subT {prog : Program} {w : World} {A : Around} {E : Value → Shared → Prop} {s : Shared} {value slice : Expr} {o i : Value} {T id : String} {Q : Value → Shared → Prop} (hT : s.TypeIs o T)
    (hl : typeLookup (.type T) "__getitem__" = pure (some (.builtin id))) (h : wpAny (model prog w) A (getItem o i) Q E s)
    (hs : subscripted slice false o i = operate [o, i] (getItem o i)) :
    wpAny (model prog w) A (subscriptTail value slice o i) Q E s := by
  unfold subscriptTail
  refine wpAny_bind ?_
  rw [getitemInPython_of_ne hT.not_modules]
  refine wpAny_bind (wpAny_specialOf hT hl ?_)
  have fin : wpAny (model prog w) A (subscripted slice false o i) (fun r s₃ => wpAny (model prog w) A (letTemporaryGo value o r >>= fun _ => pure r) Q E s₃) E s := by
    rw [hs]
    exact wpAny_operating (wpAny_mono h (fun r s₃ h₃ => wpAny_bind (wpAny_letTemporaryGo (wpAny_pure h₃))) fun _ _ x => x)
  first
    | exact wpAny_pure (wpAny_bind fin)
    | exact wpAny_bind (wpAny_pure (wpAny_bind fin))
    | exact wpAny_bind fin
theorem ix_dict (hu : X.A.units + 1 < cLine) : IxR X rIxDk := by
  intro value slice pins s σ H x y v u Q I rx ry h hs
  obtain ⟨a, z, rfl, g, q⟩ := h
  cases rx
  exact subT (dict_typeIs I g) PySem.F.slot_dict_getitem.lookup (d_getItem hu I g ry fun w' s' I' rw' => ⟨z, H, I', rw', q⟩) hs
def rIxU (K : PySem.W.Frag) : R2 := fun x y H Q => ((rIxL K x y H Q ∨ rIxT K x y H Q) ∨ (rIxL K x y H Q ∨ rIxT K x y H Q)) ∨ rIxS x y H Q ∨ rIxDk x y H Q
def gIx := or2 (or2 gIxQ gIxO) (or2 gIxS gIxD)
theorem ix_U (hu : X.A.units + 1 < cLine) : IxR X (rIxU X.K) := ((ix_list.or ix_tup).or (ix_list.or ix_tup)).or (ix_str.or (ix_dict hu))
theorem s2_ix : S2 W (rIxU W.K) gIx := S2.or (S2.or s2_ixQ s2_ixO) (S2.or s2_ixS s2_ixD)
end
end Z

namespace Z
open PySem L2

/-! ### things on the way, in another order -/
theorem perm_lift {W : Wd} {b : Bs} {F H : Hp} {X Y : List Tm} (p : X.Perm Y) : ∀ xps, RelTs W F H (X.map (·.t)) (X.map (·.v)) xps → LocX b X xps → ∃ yps, RelTs W F H (Y.map (·.t)) (Y.map (·.v)) yps ∧ LocX b Y yps ∧ xps.flatten.Perm yps.flatten := by
  induction p with
  | nil => exact fun xps r l => ⟨xps, r, l, .refl _⟩
  | cons x p ih =>
    rintro xps ⟨v, vr, f, fr, e1, e2, a, r⟩ l
    have e3 := (List.cons.inj e1).1
    have e4 := (List.cons.inj e1).2
    subst e2 e3 e4
    obtain ⟨yps, r', l', q⟩ := ih fr r l.2
    exact ⟨f :: yps, ⟨_, _, _, _, rfl, rfl, a, r'⟩, ⟨l.1, l'⟩, by rw [List.flatten_cons, List.flatten_cons]; exact q.append_left f⟩
  | swap x y l =>
    rintro xps ⟨v, vr, f, fr, e1, e2, a, r⟩ lx
    have e3 := (List.cons.inj e1).1
    have e4 := (List.cons.inj e1).2
    subst e2 e3
    obtain ⟨v', vr', f', fr', e5, e6, a', r'⟩ := r
    rw [← e4] at e5
    have e7 := (List.cons.inj e5).1
    have e8 := (List.cons.inj e5).2
    subst e6 e7 e8
    refine ⟨f' :: f :: fr', ⟨_, _, _, _, rfl, rfl, a', _, _, _, _, rfl, rfl, a, r'⟩, ⟨lx.2.1, lx.1, lx.2.2⟩, ?_⟩
    rw [List.flatten_cons, List.flatten_cons, List.flatten_cons, List.flatten_cons, ← List.append_assoc, ← List.append_assoc]
    exact List.perm_append_comm.append_right _
  | trans p q ih1 ih2 =>
    intro xps r l
    obtain ⟨yps, r1, l1, q1⟩ := ih1 xps r l
    obtain ⟨zps, r2, l2, q2⟩ := ih2 yps r1 l1
    exact ⟨zps, r2, l2, q1.trans q2⟩
section
variable {W : Wd} {b : Bs} {F F' : Hp} {ρ : List T} {σ : St} {X Y : List Tm} {H H' : Hp}
theorem SR.perm (S : SR W b F ρ σ X H) (p : X.Perm Y) : SR W b F ρ σ Y H := by
  obtain ⟨le, f0, fn, kept, stab, pin, fps, xps, s1, s2, ⟨nd, ow⟩, lc1, lc2⟩ := S
  obtain ⟨yps, r, l, q⟩ := perm_lift p xps s2 lc2
  have q' := q.append_left fps.flatten
  exact ⟨le, f0, fn, kept, stab, pin, fps, yps, s1, r, ⟨q'.nodup_iff.mp nd, fun a ha => ow a (q'.mem_iff.mpr ha)⟩, lc1, l⟩
theorem SR.there (S : SR W b F ρ σ X H) : ∀ {fps xps : List (List Addr)}, Slots W F H ρ σ fps → RelTs W F H (X.map (·.t)) (X.map (·.v)) xps → ∀ a ∈ fps.flatten ++ xps.flatten, ∃ o, H a = some o := fun {fps xps} s1 s2 a ha => by
  rcases List.mem_append.mp ha with z | z
  · exact Slots.there s1 a z
  · exact RelTs.there _ _ _ s2 a z
/-- the thing held last is changed at one of its places -/
theorem SR.wrX {x : Tm} {t' : T} {p : Addr} {o o' : HO} (S : SR W b F ρ σ (x :: X) H)
    (h : ∀ fp, RelT W F H x.t x.v fp → fp.Nodup → (∀ a ∈ fp, F a = none) → H p = some o ∧ Stb (GF W F) o o' ∧ p ∈ fp ∧ ∃ fp', RelT W F (upd H p o') t' x.v fp' ∧ fp'.Nodup ∧ ∀ a ∈ fp', a ∈ fp) :
    SR W b F ρ σ (⟨x.og, t', x.v⟩ :: X) (upd H p o') := by
  obtain ⟨le, f0, fn, kept, stab, pin, fps, xps, s1, s2, ⟨nd, ow⟩, lc1, lc2⟩ := S
  obtain ⟨v, vr, f, fr, e1, e2, r, r2⟩ := s2
  have e3 : x.v = v := (List.cons.inj e1).1
  have e4 : X.map (·.v) = vr := (List.cons.inj e1).2
  subst e2 e3 e4
  rw [List.flatten_cons] at nd ow
  have n := List.nodup_append.mp nd
  have n2 := List.nodup_append.mp n.2.1
  obtain ⟨hp, hst, hpf, fp', r', nd', sub⟩ := h f r n2.1 fun a ha => ow a (List.mem_append_right _ (List.mem_append_left _ ha))
  have old : b.H0 p = none ∨ p ∈ b.A := Og.old (lc2.1 p hpf)
  have st1 : ∀ a ∈ fps.flatten, upd H p o' a = H a := fun a ha => upd_ne fun e => n.2.2 a ha p (List.mem_append_left _ hpf) e
  have st2 : ∀ a ∈ fr.flatten, upd H p o' a = H a := fun a ha => upd_ne fun e => n2.2.2 p hpf a ha e.symm
  have Fp : F p = none := ow p (List.mem_append_right _ (List.mem_append_left _ hpf))
  refine ⟨fun a u e => ?_, f0, fn, fun a u e na => ?_, fun a u e ha => ?_, pin, fps, fp' :: fr, s1.mono (Inc.refl F) st1, ⟨_, _, _, _, rfl, rfl, r', RelTs.mono (Inc.refl F) _ _ _ st2 r2⟩, ⟨?_, fun a ha => ?_⟩, lc1, fun a ha => lc2.1 a (sub a ha), lc2.2⟩
  · rw [upd_ne (ne_of_none e Fp)]
    exact le a u e
  · have ne : a ≠ p := fun q => by
      subst q
      rcases old with z | z
      · rw [z] at e; cases e
      · exact na z
    rw [upd_ne ne]
    exact kept a u e na
  · obtain ⟨u1, h1, h2⟩ := stab a u e ha
    by_cases q : a = p
    · subst q
      rw [hp] at h1
      cases h1
      exact ⟨o', upd_same, h2.trans hst⟩
    · exact ⟨u1, by rw [upd_ne q]; exact h1, h2⟩
  · rw [List.flatten_cons]
    exact List.nodup_append.mpr ⟨n.1, List.nodup_append.mpr ⟨nd', n2.2.1, fun a ha c hc e => n2.2.2 a (sub a ha) c hc e⟩, fun a ha c hc e => n.2.2 a ha c ((List.mem_append.mp hc).elim (fun z => List.mem_append_left _ (sub c z)) fun z => List.mem_append_right _ z) e⟩
  · rw [List.flatten_cons] at ha
    rcases List.mem_append.mp ha with z | z
    · exact ow a (List.mem_append_left _ z)
    · rcases List.mem_append.mp z with z | z
      · exact ow a (List.mem_append_right _ (List.mem_append_left _ (sub a z)))
      · exact ow a (List.mem_append_right _ (List.mem_append_right _ z))

/-! ### a thing of one's own becomes deep data -/
mutual
def T.fz : T → Option D
  | .un => none
  | .f d => some d
  | .l ds => some (.lst ds)
  | .dk ks ds => some (.dct ks ds)
  | .di _ _ => none
  | .ll ts => (T.fzs ts).map .lst
  | .tu ts => (T.fzs ts).map .tup
  | .o C ns ts => (T.fzs ts).map (.obj C ns)
def T.fzs : List T → Option (List D)
  | [] => some []
  | t :: ts => (T.fz t).bind fun d => (T.fzs ts).map fun ds => d :: ds
end
mutual
theorem RelT.fz {F F' H : Hp} (hF : Inc F F') : ∀ (t : T) (v : V) (fp : List Addr) (d : D), RelT W F H t v fp → (∀ a ∈ fp, F' a = H a) → t.fz = some d → Rep W F' d v
  | .un, _, _, _, _, _, e => by unfold T.fz at e; cases e
  | .f d, _, _, _, r, _, e => by
    unfold T.fz at e
    cases e
    exact r.2.inc hF
  | .l ds, _, _, _, r, h, e => by
    unfold T.fz at e
    cases e
    obtain ⟨p, vs, e1, e2, e3, q⟩ := r
    exact ⟨p, vs, e1, .inl (.inl (by rw [h p (by rw [e2]; exact List.mem_singleton.mpr rfl)]; exact e3)), q.inc hF⟩
  | .dk ks ds, _, _, _, r, h, e => by
    unfold T.fz at e
    cases e
    obtain ⟨p, kvs, e1, e2, e3, k, q⟩ := r
    exact ⟨p, kvs, e1, .inl (by rw [h p (by rw [e2]; exact List.mem_singleton.mpr rfl)]; exact e3), k, q.inc hF⟩
  | .di _ _, _, _, _, _, _, e => by unfold T.fz at e; cases e
  | .ll ts, _, _, _, r, h, e => by
    unfold T.fz at e
    obtain ⟨ds, e0, e⟩ := Option.map_eq_some_iff.mp e
    subst e
    obtain ⟨p, vs, fps, e1, e2, e3, q⟩ := r
    exact ⟨p, vs, e1, .inl (.inl (by rw [h p (by rw [e2]; exact List.mem_cons_self)]; exact e3)), RelTs.fz hF ts vs fps ds q (fun a ha => h a (by rw [e2]; exact List.mem_cons_of_mem _ ha)) e0⟩
  | .tu ts, _, _, _, r, h, e => by
    unfold T.fz at e
    obtain ⟨ds, e0, e⟩ := Option.map_eq_some_iff.mp e
    subst e
    obtain ⟨p, vs, fps, e1, e2, e3, q⟩ := r
    exact ⟨p, vs, e1, .inl (.inl (by rw [h p (by rw [e2]; exact List.mem_cons_self)]; exact e3)), RelTs.fz hF ts vs fps ds q (fun a ha => h a (by rw [e2]; exact List.mem_cons_of_mem _ ha)) e0⟩
  | .o C ns ts, _, _, _, r, h, e => by
    unfold T.fz at e
    obtain ⟨ds, e0, e⟩ := Option.map_eq_some_iff.mp e
    subst e
    obtain ⟨p, dx, kvs, fps, e1, e2, e3, k, q⟩ := r
    exact ⟨p, dx, kvs, e1, by rw [h p (by rw [e2]; exact List.mem_cons_self)]; exact e3, k, RelTs.fz hF ts _ fps ds q (fun a ha => h a (by rw [e2]; exact List.mem_cons_of_mem _ ha)) e0⟩
theorem RelTs.fz {F F' H : Hp} (hF : Inc F F') : ∀ (ts : List T) (vs : List V) (fps : List (List Addr)) (ds : List D), RelTs W F H ts vs fps → (∀ a ∈ fps.flatten, F' a = H a) → T.fzs ts = some ds → Reps W F' ds vs
  | [], _, _, _, r, _, e => by
    unfold T.fzs at e
    cases e
    exact r.1
  | t :: ts, _, _, _, r, h, e => by
    unfold T.fzs at e
    obtain ⟨d, e1, e⟩ := Option.bind_eq_some_iff.mp e
    obtain ⟨ds, e2, e⟩ := Option.map_eq_some_iff.mp e
    subst e
    obtain ⟨v, vr, f, fr, e3, e4, a, b⟩ := r
    subst e4
    rw [List.flatten_cons] at h
    exact ⟨v, vr, e3, RelT.fz hF t v f d a (fun x hx => h x (List.mem_append_left _ hx)) e1, RelTs.fz hF ts vr fr ds b (fun x hx => h x (List.mem_append_right _ hx)) e2⟩
end
theorem SR.frz {x : Tm} {d : D} (S : SR W b F ρ σ (x :: X) H) (ho : x.og = none) (hd : x.t.fz = some d) : ∃ F', SR W b F' ρ σ (⟨none, .f d, x.v⟩ :: X) H ∧ Inc F F' := by
  obtain ⟨le, f0, fn, kept, stab, pin, fps, xps, s1, s2, ⟨nd, ow⟩, lc1, lc2⟩ := S
  obtain ⟨v, vr, f, fr, e1, e2, r, r2⟩ := s2
  have e3 : x.v = v := (List.cons.inj e1).1
  have e4 : X.map (·.v) = vr := (List.cons.inj e1).2
  subst e2 e3 e4
  rw [List.flatten_cons] at nd ow
  have n := List.nodup_append.mp nd
  have n2 := List.nodup_append.mp n.2.1
  have there := RelT.there _ _ _ r
  have new : ∀ a ∈ f, b.H0 a = none ∨ a ∈ b.A := fun a ha => lc2.1 a ha
  refine ⟨fun a => if a ∈ f then H a else F a, ⟨?_, ?_, ?_, kept, stab, pin, fps, [] :: fr, s1.mono ?_ fun _ _ => rfl, ⟨_, _, _, _, rfl, rfl, ⟨rfl, RelT.fz ?_ _ _ f d r (fun a ha => if_pos ha) hd⟩, RelTs.mono ?_ _ _ _ (fun _ _ => rfl) r2⟩, ⟨?_, fun a ha => ?_⟩, lc1, fun a ha => (by cases ha), lc2.2⟩, ?_⟩
  case refine_1 =>
    intro a o e
    by_cases h : a ∈ f
    · simp only [if_pos h] at e; exact .inl e
    · simp only [if_neg h] at e; exact le a o e
  case refine_3 =>
    intro a o e
    by_cases h : a ∈ f
    · exact .inr (new a h)
    · simp only [if_neg h] at e; exact fn a o e
  case refine_7 =>
    rw [List.flatten_cons, List.nil_append]
    exact List.nodup_append.mpr ⟨n.1, n2.2.1, fun a ha c hc e => n.2.2 a ha c (List.mem_append_right _ hc) e⟩
  case refine_8 =>
    rw [List.flatten_cons, List.nil_append] at ha
    have nf : a ∉ f := fun z => by
      rcases List.mem_append.mp ha with y | y
      · exact n.2.2 a y a (List.mem_append_left _ z) rfl
      · exact n2.2.2 a z a y rfl
    simp only [if_neg nf]
    rcases List.mem_append.mp ha with y | y
    · exact ow a (List.mem_append_left _ y)
    · exact ow a (List.mem_append_right _ (List.mem_append_right _ y))
  all_goals
    have i : Inc F (fun a => if a ∈ f then H a else F a) := fun a o e => by
      by_cases h : a ∈ f
      · rw [ow a (List.mem_append_right _ (List.mem_append_left _ h))] at e; cases e
      · show (if a ∈ f then H a else F a) = some o
        rw [if_neg h]; exact e
    first
      | exact i
      | exact f0.trans i
end

/-! ### a call: the things held first are handed to it -/
/-- the things Xa on the way, behind a call that left ts' of them -/
def setTs : List Tm → List T → List Tm
  | x :: X, t :: ts => ⟨x.og, t, x.v⟩ :: setTs X ts
  | X, _ => X
theorem setTs_v : ∀ (X : List Tm) (ts : List T), (setTs X ts).map (·.v) = X.map (·.v)
  | [], _ => by unfold setTs; rfl
  | x :: X, [] => rfl
  | x :: X, t :: ts => by
    show x.v :: (setTs X ts).map (·.v) = _
    rw [setTs_v X ts]
    rfl
theorem setTs_t : ∀ (X : List Tm) (ts : List T), X.length = ts.length → (setTs X ts).map (·.t) = ts
  | [], [], _ => rfl
  | [], _ :: _, h => by cases h
  | x :: X, [], h => by cases h
  | x :: X, t :: ts, h => by
    show t :: (setTs X ts).map (·.t) = _
    rw [setTs_t X ts (by simpa using h)]
theorem LocX.any {b : Bs} : ∀ {X : List Tm} {yps : List (List Addr)}, (∀ a ∈ yps.flatten, b.H0 a = none ∨ a ∈ b.A) → LocX b X yps
  | [], _, _ => trivial
  | _ :: _, [], _ => trivial
  | x :: X, f :: fs, h => ⟨fun a ha => h a (List.mem_flatten.mpr ⟨f, List.mem_cons_self, ha⟩), LocX.any fun a ha => h a (by rw [List.flatten_cons]; exact List.mem_append_right _ ha)⟩
theorem LocX.append {b : Bs} : ∀ {X Y : List Tm} {xps yps : List (List Addr)}, X.length = xps.length → (LocX b (X ++ Y) (xps ++ yps) ↔ LocX b X xps ∧ LocX b Y yps)
  | [], _, [], _, _ => ⟨fun h => ⟨trivial, h⟩, fun h => h.2⟩
  | [], _, _ :: _, _, h => by cases h
  | x :: X, _, [], _, h => by cases h
  | x :: X, Y, f :: fs, yps, h => by
    have ih := LocX.append (b := b) (X := X) (Y := Y) (xps := fs) (yps := yps) (by simpa using h)
    exact ⟨fun q => ⟨⟨q.1, (ih.mp q.2).1⟩, (ih.mp q.2).2⟩, fun q => ⟨q.1.1, ih.mpr ⟨q.1.2, q.2⟩⟩⟩
theorem RelTs.split {W : Wd} {F H : Hp} : ∀ {ts us : List T} {vs ws : List V} {fps : List (List Addr)}, ts.length = vs.length → RelTs W F H (ts ++ us) (vs ++ ws) fps → ∃ f1 f2, fps = f1 ++ f2 ∧ RelTs W F H ts vs f1 ∧ RelTs W F H us ws f2
  | [], _, [], _, fps, _, r => ⟨[], fps, rfl, ⟨rfl, rfl⟩, r⟩
  | [], _, _ :: _, _, _, h, _ => by cases h
  | _ :: _, _, [], _, _, h, _ => by cases h
  | t :: ts, us, v :: vs, ws, _, h, r => by
    obtain ⟨v', vr, f, fr, e1, e2, a, b⟩ := r
    have e3 := (List.cons.inj e1).1
    have e4 := (List.cons.inj e1).2
    subst e2 e3 e4
    obtain ⟨f1, f2, e, q1, q2⟩ := RelTs.split (by simpa using h) b
    subst e
    exact ⟨f :: f1, f2, rfl, ⟨_, _, _, _, rfl, rfl, a, q1⟩, q2⟩
theorem RelTs.join {W : Wd} {F H : Hp} : ∀ {ts us : List T} {vs ws : List V} {f1 f2 : List (List Addr)}, RelTs W F H ts vs f1 → RelTs W F H us ws f2 → RelTs W F H (ts ++ us) (vs ++ ws) (f1 ++ f2)
  | [], _, _, _, _, _, r, q => by
    rw [r.1, r.2]
    exact q
  | t :: ts, _, _, _, _, _, r, q => by
    obtain ⟨v', vr, f, fr, e1, e2, a, b⟩ := r
    rw [e1, e2]
    exact ⟨_, _, _, _, rfl, rfl, a, RelTs.join b q⟩

/-- a def's entry: its arguments, each at its place -/
def bsOf (H F : Hp) (fps : List (List Addr)) (io : List Nat) (vs : List V) : Bs := ⟨H, F, fps, io.filterMap fun i => vs[i]?.map fun v => (i, v)⟩
section
variable {W : Wd} {b : Bs} {F F' : Hp} {ρ : List T} {σ : St} {X Xa : List Tm} {H H' : Hp}
theorem SR.callX {ts' : List T} {io : List Nat} {xa : List (List Addr)} {τs : List Tm} (S : SR W b F ρ σ (Xa ++ X) H) {fps xps : List (List Addr)}
    (s1 : Slots W F H ρ σ fps) (sa : RelTs W F H (Xa.map (·.t)) (Xa.map (·.v)) xa) (s2 : RelTs W F H (X.map (·.t)) (X.map (·.v)) xps) (own : Own F (fps.flatten ++ (xa ++ xps).flatten)) (lc1 : LocS b fps) (lc2 : LocX b (Xa ++ X) (xa ++ xps))
    (hτ : ∀ x ∈ τs, x.og = none)
    (R : SR W (bsOf H F xa io (Xa.map (·.v))) F' ts' ((Xa.map (·.v)).map some) τs H') : SR W b F' ρ σ (τs ++ (setTs Xa ts' ++ X)) H' := by
  have la := RelTs.lenA sa
  have lxa : Xa.length = xa.length := by have := la.2; simpa using this
  obtain ⟨le, f0, fn, kept, stab, pin, _⟩ := id S
  obtain ⟨le', f0', fn', kept', stab', _, qps, tps, r1, r2, ⟨nd', ow'⟩, lr1, lr2⟩ := R
  have lts : ts'.length = xa.length := by
    have := r1.len.1
    simp only [List.length_map] at this
    omega
  -- the callee's places
  have hA : (bsOf H F xa io (Xa.map (·.v))).A = xa.flatten := rfl
  have hflat : (xa ++ xps).flatten = xa.flatten ++ xps.flatten := List.flatten_append
  rw [hflat] at own
  obtain ⟨nd, ow⟩ := own
  have n := List.nodup_append.mp nd
  have n2 := List.nodup_append.mp n.2.1
  have lcs := (LocX.append (b := b) lxa).mp lc2
  have thereF : ∀ a ∈ fps.flatten, ∃ o, H a = some o := Slots.there s1
  have thereX : ∀ a ∈ xps.flatten, ∃ o, H a = some o := RelTs.there _ _ _ s2
  have st1 : ∀ a ∈ fps.flatten, H' a = H a := fun a ha => by
    obtain ⟨o, e⟩ := thereF a ha
    rw [e]
    exact kept' a o e fun z => n.2.2 a ha a (List.mem_append_left _ z) rfl
  have st2 : ∀ a ∈ xps.flatten, H' a = H a := fun a ha => by
    obtain ⟨o, e⟩ := thereX a ha
    rw [e]
    exact kept' a o e fun z => n2.2.2 a z a ha rfl
  -- the result's places: new, or the arguments'
  have old : ∀ a ∈ qps.flatten ++ tps.flatten, H a = none ∨ a ∈ xa.flatten := fun a ha => by
    rcases List.mem_append.mp ha with z | z
    · exact LocS.old lr1 z
    · refine LocX.old ?_ lr2 z
      have := RelTs.lenA r2
      simpa using this.2
  have mine : ∀ a, H a = none ∨ a ∈ xa.flatten → b.H0 a = none ∨ a ∈ b.A := fun a h => by
    rcases h with z | z
    · exact .inl (S.new0 z)
    · exact LocX.old lxa lcs.1 z
  have slotsT : RelTs W F' H' ts' (Xa.map (·.v)) qps := by
    have key : ∀ {ts : List T} {vs : List V} {fs : List (List Addr)}, Slots W F' H' ts (vs.map some) fs → RelTs W F' H' ts vs fs := by
      intro ts
      induction ts with
      | nil =>
        intro vs fs r
        cases vs with
        | nil => exact ⟨rfl, r.2⟩
        | cons _ _ => cases r.1
      | cons t ts ih =>
        intro vs fs r
        obtain ⟨s, sr, f, fr, e1, e2, a, r⟩ := r
        cases vs with
        | nil => cases e1
        | cons v vs =>
          have e3 : some v = s := (List.cons.inj e1).1
          have e4 : vs.map some = sr := (List.cons.inj e1).2
          subst e3 e4
          exact ⟨v, vs, f, fr, rfl, e2, a, ih r⟩
    exact key r1
  have n' := List.nodup_append.mp nd'
  have tvs : ∀ {Y : List Tm}, True := trivial
  refine ⟨le', f0.trans f0', fun a o e => ?_, fun a o e na => ?_, fun a o e ha => ?_, pin, fps, tps ++ (qps ++ xps), s1.mono f0' st1, ?_, ⟨?_, fun a ha => ?_⟩, lc1, ?_⟩
  · rcases fn' a o e with z | z | z
    · exact fn a o z
    · exact .inr (.inl (S.new0 z))
    · exact .inr (LocX.old lxa lcs.1 z)
  · refine kept' a o (kept a o e na) fun z => ?_
    rcases LocX.old lxa lcs.1 z with q | q
    · rw [q] at e; cases e
    · exact na q
  · obtain ⟨u, h1, h2⟩ := stab a o e ha
    by_cases z : a ∈ xa.flatten
    · obtain ⟨u', h3, h4⟩ := stab' a u h1 z
      exact ⟨u', h3, h2.trans h4⟩
    · exact ⟨u, kept' a u h1 z, h2⟩
  · rw [List.map_append, List.map_append, List.map_append, List.map_append, setTs_v, setTs_t _ _ (by omega)]
    exact RelTs.join r2 (RelTs.join slotsT (RelTs.mono f0' _ _ _ st2 s2))
  · rw [List.flatten_append, List.flatten_append]
    have dj1 : ∀ a ∈ fps.flatten, a ∉ qps.flatten ++ tps.flatten := fun a ha z => by
      obtain ⟨o, e⟩ := thereF a ha
      rcases old a z with q | q
      · rw [q] at e; cases e
      · exact n.2.2 a ha a (List.mem_append_left _ q) rfl
    have dj2 : ∀ a ∈ xps.flatten, a ∉ qps.flatten ++ tps.flatten := fun a ha z => by
      obtain ⟨o, e⟩ := thereX a ha
      rcases old a z with q | q
      · rw [q] at e; cases e
      · exact n2.2.2 a q a ha rfl
    refine List.nodup_append.mpr ⟨n.1, List.nodup_append.mpr ⟨n'.2.1, List.nodup_append.mpr ⟨n'.1, n2.2.1, fun a ha c hc e => ?_⟩, fun a ha c hc e => ?_⟩, fun a ha c hc e => ?_⟩
    · subst e
      exact dj2 a hc (List.mem_append_left _ ha)
    · subst e
      rcases List.mem_append.mp hc with z | z
      · exact n'.2.2 a z a ha rfl
      · exact dj2 a z (List.mem_append_right _ ha)
    · subst e
      rcases List.mem_append.mp hc with z | z
      · exact dj1 a ha (List.mem_append_right _ z)
      · rcases List.mem_append.mp z with z | z
        · exact dj1 a ha (List.mem_append_left _ z)
        · exact n.2.2 a ha a (List.mem_append_right _ z) rfl
  · have unF : ∀ a, F a = none → (∃ o, H a = some o) → a ∉ xa.flatten → F' a = none := fun a h1 ⟨o, h2⟩ h3 => by
      cases y : F' a with
      | none => rfl
      | some w =>
        rcases fn' a w y with q | q | q
        · have q' : F a = some w := q
          rw [h1] at q'; cases q'
        · have q' : H a = none := q
          rw [h2] at q'; cases q'
        · exact absurd q h3
    rw [List.flatten_append, List.flatten_append] at ha
    rcases List.mem_append.mp ha with z | z
    · exact unF a (ow a (List.mem_append_left _ z)) (thereF a z) fun y => n.2.2 a z a (List.mem_append_left _ y) rfl
    · rcases List.mem_append.mp z with z | z
      · exact ow' a (List.mem_append_right _ z)
      · rcases List.mem_append.mp z with z | z
        · exact ow' a (List.mem_append_left _ z)
        · exact unF a (ow a (List.mem_append_right _ (List.mem_append_right _ z))) (thereX a z) fun y => n2.2.2 a y a z rfl
  · have l3 : τs.length = tps.length := by have := RelTs.lenA r2; simpa using this.2
    refine (LocX.append l3).mpr ⟨LocX.any fun a ha => mine a (old a (List.mem_append_right _ ha)), (LocX.append ?_).mpr ⟨LocX.any fun a ha => mine a (old a (List.mem_append_left _ ha)), lcs.2⟩⟩
    have h1 : (setTs Xa ts').length = Xa.length := by have := congrArg List.length (setTs_v Xa ts'); simpa using this
    rw [h1, lxa]
    have := r1.len.2
    omega
end
end Z

namespace Z
open PySem L2

/-- what an expression comes to: a value, or an exception of a class of the program; the slots behind it -/
inductive Re where
  | ok (t : T) (ρ : List T)
  | xc (C : Nat) (ρ : List T)
def Bok (P : Sg) (b : Bs) : Prop := b.As.length = P.m ∧ b.io.map (·.1) = P.io ∧ ∀ p ∈ P.al, ∃ v, (p.1, v) ∈ b.io ∧ (p.2, v) ∈ b.io
def Post (W : Wd) (b : Bs) (F : Hp) (σ : St) (X : List Tm) (Q : VK) (E : St → XK) : Re → Prop
  | .ok τ ρ => ∀ v F' H', SR W b F' ρ σ (⟨none, τ, v⟩ :: X) H' → Inc F F' → Q v H'
  | .xc C ρ => ∀ d F' H', SR W b F' ρ σ X H' → Inc F F' → E σ (.ref (W.cl C)) d H'
def So (W : Wd) (P : Sg) (E : St → XK) (t : TE) (f : List T → Option Re) : Prop :=
  ∀ b F ρ σ X H r Q, Bok P b → SR W b F ρ σ X H → f ρ = some r → Post W b F σ X Q E r → t σ H Q
def Eo (c : Ctx) (e : Expr) (f : List T → Option Re) : Prop := ∃ t, (∀ j, PE (c.X j) e t) ∧ So c.W c.P c.E t f
theorem Post.mono {W : Wd} {b : Bs} {F F1 : Hp} {σ : St} {X : List Tm} {Q : VK} {E : St → XK} {r : Re} (h : Post W b F σ X Q E r) (i : Inc F F1) : Post W b F1 σ X Q E r := by
  cases r with
  | ok τ ρ => exact fun v F' H' S i' => h v F' H' S (i.trans i')
  | xc C ρ => exact fun d F' H' S i' => h d F' H' S (i.trans i')

/-! ### pure things as such -/
def lift (f : List T → Option T) : List T → Option Re := fun ρ => (f ρ).bind fun t => t.d?.map fun d => .ok (.f d) ρ
theorem d_some {t : T} {d : D} (h : t.d? = some d) : t = .f d := by
  cases t with
  | f d' => cases h; rfl
  | _ => cases h
section
variable {c : Ctx} {e : Expr} {f : List T → Option T} {fo : List T → Option Re}
theorem so_lift {W : Wd} {P : Sg} {E : St → XK} {t : TE} (h : Sv W t f) : So W P E t (lift f) := by
  intro b F ρ σ X H r Q _ S e p
  unfold lift at e
  obtain ⟨τ, e1, e⟩ := Option.bind_eq_some_iff.mp e
  obtain ⟨d, e2, e⟩ := Option.map_eq_some_iff.mp e
  subst e
  rw [d_some e2] at e1
  exact h b F ρ σ X H _ Q S e1 fun v F' H' S' i s r => p v F' H' (S'.push r.rep) i
theorem Ev.o (h : Ev c e f) : Eo c e (lift f) := by
  obtain ⟨t, p, s⟩ := h
  exact ⟨t, p, so_lift s⟩
/-- a name's thing of its own is moved away (a name that is no parameter) -/
def fMv (i : Nat) : List T → Option Re := fun ρ => match ρ[i]? with
  | some .un => none
  | some t => some (.ok t (ρ.set i .un))
  | none => none
theorem eo_mv {i : Nat} {x : Str} {pos : Pos} (hi : c.N[i]? = some x) (hv : ∀ j, Vis (c.X j).env.scope x) (hm : c.P.m ≤ i) (hd : (x == ("__debug__" : Str)) = false := by decide) (hcd : (x == ("__classdict__" : Str)) = false := by decide) : Eo c (.Name x pos) (fMv i) := by
  refine ⟨_, fun j => pe_var (i := i) (by rw [c.hN j]; exact hi) (hv j) hd hcd, ?_⟩
  intro b F ρ σ X H r Q hb S e p
  unfold fMv at e
  cases q : ρ[i]? with
  | none => rw [q] at e; cases e
  | some t =>
    have ht : t ≠ .un := by
      rintro rfl
      rw [q] at e
      cases e
    have e2 : r = .ok t (ρ.set i .un) := by
      rw [q] at e
      cases t with
      | un => exact absurd rfl ht
      | _ => exact (Option.some.inj e).symm
    subst e2
    obtain ⟨s, fp, e1, r⟩ := S.slot q
    cases s with
    | none => exact absurd r.1 ht
    | some v =>
      have S' := S.take q e1
      refine ⟨v, e1, p v F H ?_ (Inc.refl F)⟩
      -- it is new
      obtain ⟨le, f0, fn, kept, stab, pin, fps, xps, s1, s2, ow, lc1, lc2⟩ := S'
      refine ⟨le, f0, fn, kept, stab, pin, fps, xps, s1, s2, ow, lc1, ?_⟩
      cases xps with
      | nil => exact trivial
      | cons f fs => exact lc2
/-- a thing of one's own becomes deep data -/
def fFz (f : List T → Option Re) : List T → Option Re := fun ρ => (f ρ).bind fun r => match r with
  | .ok t ρ' => t.fz.map fun d => .ok (.f d) ρ'
  | r => some r
theorem eo_fz (h : Eo c e fo) : Eo c e (fFz fo) := by
  obtain ⟨t, p, s⟩ := h
  refine ⟨t, p, ?_⟩
  intro b F ρ σ X H r Q hb S e k
  unfold fFz at e
  obtain ⟨r', e1, e⟩ := Option.bind_eq_some_iff.mp e
  refine s b F ρ σ X H r' Q hb S e1 ?_
  cases r' with
  | ok t ρ' =>
    obtain ⟨d, e2, e⟩ := Option.map_eq_some_iff.mp e
    subst e
    intro v F' H' S' i
    obtain ⟨F2, S2, i2⟩ := S'.frz rfl e2
    exact k v F2 H' S2 (i.trans i2)
  | xc C ρ' =>
    cases e
    exact k
end

/-! ### arguments -/
/-- a value, or what a slot holds (handed over for the call) -/
inductive Ar where
  | v (t : T)
  | s (j : Nat)
  | a (j : Nat)
inductive Rs where
  | ok (as : List Ar) (ρ : List T)
  | xc (C : Nat) (ρ : List T)
def Xv : List Ar → List V → List Tm
  | .v t :: r, v :: vs => ⟨none, t, v⟩ :: Xv r vs
  | .s _ :: r, _ :: vs => Xv r vs
  | .a _ :: r, _ :: vs => Xv r vs
  | _, _ => []
def Args (σ : St) : List Ar → List V → Prop
  | [], vs => vs = []
  | .v _ :: r, vs => ∃ v vr, vs = v :: vr ∧ Args σ r vr
  | .s j :: r, vs => ∃ v vr, vs = v :: vr ∧ σ[j]? = some (some v) ∧ Args σ r vr
  | .a j :: r, vs => ∃ v vr, vs = v :: vr ∧ σ[j]? = some (some v) ∧ Args σ r vr
def PostA (W : Wd) (b : Bs) (F : Hp) (σ : St) (X : List Tm) (Q : List V → Hp → Prop) (E : St → XK) : Rs → Prop
  | .ok as ρ => ∀ vs F' H', SR W b F' ρ σ (Xv as vs ++ X) H' → Args σ as vs → Inc F F' → Q vs H'
  | .xc C ρ => ∀ d F' H', SR W b F' ρ σ X H' → Inc F F' → E σ (.ref (W.cl C)) d H'
def Sa (W : Wd) (P : Sg) (E : St → XK) (t : TA) (f : List T → Option Rs) : Prop :=
  ∀ b F ρ σ X H r Q, Bok P b → SR W b F ρ σ X H → f ρ = some r → PostA W b F σ X Q E r → t σ H Q
def Ao (c : Ctx) (es : List Expr) (f : List T → Option Rs) : Prop := ∃ t, (∀ j, PA (c.X j) es t) ∧ Sa c.W c.P c.E t f
def bNil : List T → Option Rs := fun ρ => some (.ok [] ρ)
def bCons (f : List T → Option Re) (g : List T → Option Rs) : List T → Option Rs := fun ρ => (f ρ).bind fun r => match r with
  | .ok t ρ1 => (g ρ1).map fun r => match r with
    | .ok as ρ2 => .ok (.v t :: as) ρ2
    | r => r
  | .xc C ρ1 => some (.xc C ρ1)
def bSlot0 (i : Nat) (g : List T → Option Rs) : List T → Option Rs := fun ρ => (g ρ).map fun r => match r with
    | .ok as ρ2 => .ok (.s i :: as) ρ2
    | r => r
def bSlot (i : Nat) (g : List T → Option Rs) : List T → Option Rs := fun ρ => match ρ[i]? with
  | none => none
  | some .un => none
  | some _ => bSlot0 i g ρ
section
variable {c : Ctx} {a : Expr} {es : List Expr} {fo : List T → Option Re} {fs : List T → Option Rs}
theorem ao_nil : Ao c [] bNil := by
  refine ⟨_, fun _ => pa_nil, ?_⟩
  intro b F ρ σ X H r Q hb S e p
  cases e
  exact p [] F H S rfl (Inc.refl F)
theorem xc_drop {W : Wd} {b : Bs} {F : Hp} {ρ : List T} {σ : St} {Y X : List Tm} {H : Hp} (S : SR W b F ρ σ (Y ++ X) H) : SR W b F ρ σ X H := by
  induction Y with
  | nil => exact S
  | cons y Y ih => exact ih S.drop
theorem ao_cons (ha : Eo c a fo) (hr : Ao c es fs) (hs : ∀ j, starEach (a :: es) (c.X j).env = (false, eval a (c.X j).env) :: starEach es (c.X j).env := by intro _; rfl) : Ao c (a :: es) (bCons fo fs) := by
  obtain ⟨t, p, s⟩ := ha
  obtain ⟨u, q, s'⟩ := hr
  refine ⟨_, fun j => pa_cons (p j) (q j) (hs j), ?_⟩
  intro b F ρ σ X H r Q hb S e k
  unfold bCons at e
  obtain ⟨r1, e1, e⟩ := Option.bind_eq_some_iff.mp e
  refine s b F ρ σ X H r1 _ hb S e1 ?_
  cases r1 with
  | ok τ ρ1 =>
    obtain ⟨r2, e2, e⟩ := Option.map_eq_some_iff.mp e
    intro v F1 H1 S1 i1
    refine s' b F1 ρ1 σ (⟨none, τ, v⟩ :: X) H1 r2 _ hb S1 e2 ?_
    cases r2 with
    | ok as ρ2 =>
      subst e
      intro vs F2 H2 S2 g2 i2
      exact k (v :: vs) F2 H2 (S2.perm (List.perm_middle)) ⟨v, vs, rfl, g2⟩ (i1.trans i2)
    | xc C ρ2 =>
      subst e
      intro d F2 H2 S2 i2
      exact k d F2 H2 S2.drop (i1.trans i2)
  | xc C ρ1 =>
    cases e
    exact k
/-- a name's thing, handed over for the call -/
theorem ao_slot {i : Nat} {x : Str} {pos : Pos} (hi : c.N[i]? = some x) (hv : ∀ j, Vis (c.X j).env.scope x) (hr : Ao c es fs) (hs : ∀ j, starEach (.Name x pos :: es) (c.X j).env = (false, eval (.Name x pos) (c.X j).env) :: starEach es (c.X j).env := by intro _; rfl)
    (hd : (x == ("__debug__" : Str)) = false := by decide) (hcd : (x == ("__classdict__" : Str)) = false := by decide) : Ao c (.Name x pos :: es) (bSlot i fs) := by
  obtain ⟨u, q, s'⟩ := hr
  refine ⟨_, fun j => pa_cons (pe_var (i := i) (by rw [c.hN j]; exact hi) (hv j) hd hcd) (q j) (hs j), ?_⟩
  intro b F ρ σ X H r Q hb S e k
  unfold bSlot at e
  cases z : ρ[i]? with
  | none => rw [z] at e; cases e
  | some t =>
    have ht : t ≠ .un := by
      rintro rfl
      rw [z] at e
      cases e
    have e2 : bSlot0 i fs ρ = some r := by
      rw [z] at e
      cases t with
      | un => exact absurd rfl ht
      | _ => exact e
    unfold bSlot0 at e2
    obtain ⟨r2, e3, e4⟩ := Option.map_eq_some_iff.mp e2
    obtain ⟨s, fp, e1, rr⟩ := S.slot z
    cases s with
    | none => exact absurd rr.1 ht
    | some v =>
      refine ⟨v, e1, s' b F ρ σ X H r2 _ hb S e3 ?_⟩
      cases r2 with
      | ok as ρ2 =>
        subst e4
        intro vs F2 H2 S2 g2 i2
        exact k (v :: vs) F2 H2 S2 ⟨v, vs, rfl, e1, g2⟩ i2
      | xc C ρ2 =>
        subst e4
        exact k
/-- what the slots hold is taken out, the arguments lie in order -/
def takeF : List Ar → List T → Option (List T × List T)
  | [], ρ => some ([], ρ)
  | .v t :: r, ρ => (takeF r ρ).map fun p => (t :: p.1, p.2)
  | .s j :: r, ρ => match ρ[j]? with
    | none => none
    | some .un => none
    | some t => (takeF r (ρ.set j .un)).map fun p => (t :: p.1, p.2)
  | .a _ :: r, ρ => (takeF r ρ).map fun p => (.un :: p.1, p.2)
def Xo : List Ar → List T → List V → List Tm
  | .v _ :: r, t :: ts, v :: vs => ⟨none, t, v⟩ :: Xo r ts vs
  | .s j :: r, t :: ts, v :: vs => ⟨some j, t, v⟩ :: Xo r ts vs
  | .a _ :: r, t :: ts, v :: vs => ⟨none, t, v⟩ :: Xo r ts vs
  | _, _, _ => []
/-- .. and put back -/
def putF : List Ar → List T → List T → List T
  | .v _ :: r, _ :: ts, ρ => putF r ts ρ
  | .s j :: r, t :: ts, ρ => putF r ts (ρ.set j t)
  | .a _ :: r, _ :: ts, ρ => putF r ts ρ
  | _, _, ρ => ρ
theorem SR.pushUn {W : Wd} {b : Bs} {F : Hp} {ρ : List T} {σ : St} {X : List Tm} {H : Hp} (v : V) (S : SR W b F ρ σ X H) : SR W b F ρ σ (⟨none, .un, v⟩ :: X) H := by
  obtain ⟨le, f0, fn, kept, stab, pin, fps, xps, s1, s2, ⟨nd, ow⟩, lc1, lc2⟩ := S
  exact ⟨le, f0, fn, kept, stab, pin, fps, [] :: xps, s1, ⟨_, _, _, _, rfl, rfl, rfl, s2⟩, ⟨by rw [List.flatten_cons]; exact nd, fun a ha => ow a (by rw [List.flatten_cons] at ha; exact ha)⟩, lc1, ⟨fun a ha => (nomatch ha), lc2⟩⟩
theorem take_ok {W : Wd} {b : Bs} {F : Hp} {σ : St} {H : Hp} : ∀ {as : List Ar} {vs : List V} {ρ ρ' : List T} {ts : List T} {Y : List Tm}, SR W b F ρ σ (Xv as vs ++ Y) H → Args σ as vs → takeF as ρ = some (ts, ρ') →
    SR W b F ρ' σ (Xo as ts vs ++ Y) H ∧ (Xo as ts vs).map (·.t) = ts ∧ (Xo as ts vs).map (·.v) = vs
  | [], _, _, _, _, _, S, g, e => by
    cases e
    have g' : _ = [] := g
    subst g'
    exact ⟨S, rfl, rfl⟩
  | .v t :: r, _, ρ, _, _, Y, S, g, e => by
    obtain ⟨v, vr, e1, g⟩ := g
    subst e1
    obtain ⟨p, e2, e⟩ := Option.map_eq_some_iff.mp (show (takeF r ρ).map _ = _ from e)
    cases e
    obtain ⟨S', h1, h2⟩ := take_ok (Y := ⟨none, t, v⟩ :: Y) (S.perm List.perm_middle.symm) g e2
    exact ⟨S'.perm List.perm_middle, by show t :: _ = _; rw [h1], by show v :: _ = _; rw [h2]⟩
  | .s j :: r, _, ρ, ρz, tsz, Y, S, g, e => by
    obtain ⟨v, vr, e1, hv, g⟩ := g
    subst e1
    unfold takeF at e
    cases z : ρ[j]? with
    | none => rw [z] at e; cases e
    | some t =>
      have ht : t ≠ .un := by
        rintro rfl
        rw [z] at e
        cases e
      have e3 : (takeF r (ρ.set j .un)).map (fun p => (t :: p.1, p.2)) = some (tsz, ρz) := by
        rw [z] at e
        cases t with
        | un => exact absurd rfl ht
        | _ => exact e
      obtain ⟨p, e2, e⟩ := Option.map_eq_some_iff.mp e3
      cases e
      have S1 := S.take z hv
      obtain ⟨S', h1, h2⟩ := take_ok (as := r) (vs := vr) (Y := ⟨some j, t, v⟩ :: Y) (S1.perm List.perm_middle.symm) g e2
      exact ⟨S'.perm List.perm_middle, by show t :: _ = _; rw [h1], by show v :: _ = _; rw [h2]⟩
  | .a j :: r, _, ρ, _, _, Y, S, g, e => by
    obtain ⟨v, vr, e1, hv, g⟩ := g
    subst e1
    obtain ⟨p, e2, e⟩ := Option.map_eq_some_iff.mp (show (takeF r ρ).map _ = _ from e)
    cases e
    obtain ⟨S', h1, h2⟩ := take_ok (as := r) (vs := vr) (Y := ⟨none, .un, v⟩ :: Y) ((SR.pushUn v S).perm List.perm_middle.symm) g e2
    exact ⟨S'.perm List.perm_middle, by show T.un :: _ = _; rw [h1], by show v :: _ = _; rw [h2]⟩
theorem put_ok {W : Wd} {b : Bs} {F : Hp} {σ : St} {H : Hp} : ∀ {as : List Ar} {vs : List V} {ρ : List T} {ts us : List T} {Z Y : List Tm}, SR W b F ρ σ (Z ++ (setTs (Xo as ts vs) us ++ Y)) H → Args σ as vs → ts.length = as.length → us.length = as.length → SR W b F (putF as us ρ) σ (Z ++ Y) H
  | [], _, _, [], [], _, _, S, _, _, _ => S
  | [], _, _, _ :: _, _, _, _, _, _, h, _ => by cases h
  | [], _, _, [], _ :: _, _, _, _, _, _, h => by cases h
  | _ :: _, _, _, [], _, _, _, _, _, h, _ => by cases h
  | _ :: _, _, _, _ :: _, [], _, _, _, _, _, h => by cases h
  | .v t :: r, _, ρ, t1 :: ts, u :: us, Z, Y, S, g, h1, h2 => by
    obtain ⟨v, vr, e1, g⟩ := g
    subst e1
    have S' : SR W b F ρ σ (Z ++ (⟨none, u, v⟩ :: (setTs (Xo r ts vr) us ++ Y))) H := S
    exact put_ok (as := r) (S'.perm List.perm_middle).drop g (by simpa using h1) (by simpa using h2)
  | .s j :: r, _, ρ, t1 :: ts, u :: us, Z, Y, S, g, h1, h2 => by
    obtain ⟨v, vr, e1, hv, g⟩ := g
    subst e1
    have S' : SR W b F ρ σ (Z ++ (⟨some j, u, v⟩ :: (setTs (Xo r ts vr) us ++ Y))) H := S
    exact put_ok (as := r) ((S'.perm List.perm_middle).back hv) g (by simpa using h1) (by simpa using h2)
  | .a j :: r, _, ρ, t1 :: ts, u :: us, Z, Y, S, g, h1, h2 => by
    obtain ⟨v, vr, e1, hv, g⟩ := g
    subst e1
    have S' : SR W b F ρ σ (Z ++ (⟨none, u, v⟩ :: (setTs (Xo r ts vr) us ++ Y))) H := S
    exact put_ok (as := r) (S'.perm List.perm_middle).drop g (by simpa using h1) (by simpa using h2)
theorem take_len : ∀ {as : List Ar} {ρ ρ' ts : List T}, takeF as ρ = some (ts, ρ') → ts.length = as.length
  | [], _, _, _, e => by cases e; rfl
  | .v t :: r, ρ, _, _, e => by
    obtain ⟨p, e2, e⟩ := Option.map_eq_some_iff.mp (show (takeF r ρ).map _ = _ from e)
    cases e
    simp [take_len e2]
  | .s j :: r, ρ, _, _, e => by
    unfold takeF at e
    split at e
    · cases e
    · cases e
    · obtain ⟨p, e2, e⟩ := Option.map_eq_some_iff.mp e
      cases e
      simp [take_len e2]
  | .a j :: r, ρ, _, _, e => by
    obtain ⟨p, e2, e⟩ := Option.map_eq_some_iff.mp (show (takeF r ρ).map _ = _ from e)
    cases e
    simp [take_len e2]
end

/-! ### the promise of a def -/
def isF : T → Bool | .f _ => true | _ => false
/-- parameters that are not handed back are deep -/
def ioOk (io : List Nat) : Nat → List T → Bool
  | _, [] => true
  | i, t :: ts => (io.contains i || isF t) && ioOk io (i + 1) ts
def spF (W : Wd) (io : List Nat) (G : List T → Option Re) : Sp := fun vs H Q E => ∃ F ts fps r, Le F H ∧ RelTs W F H ts vs fps ∧ Own F fps.flatten ∧ ioOk io 0 ts = true ∧ G ts = some r ∧
  match r with
  | .ok τ us => ∀ v F' H', SR W (bsOf H F fps io vs) F' us (vs.map some) [⟨none, τ, v⟩] H' → Inc F F' → Q v H'
  | .xc C us => ∀ d F' H', SR W (bsOf H F fps io vs) F' us (vs.map some) [] H' → Inc F F' → E (.ref (W.cl C)) d H'

theorem SR.call {W : Wd} {b : Bs} {F : Hp} {ρ : List T} {σ : St} {Xa X : List Tm} {H : Hp} (S : SR W b F ρ σ (Xa ++ X) H) : ∃ xa, RelTs W F H (Xa.map (·.t)) (Xa.map (·.v)) xa ∧ Own F xa.flatten ∧
    ∀ io us F' τs H', (∀ x ∈ τs, x.og = none) → SR W (bsOf H F xa io (Xa.map (·.v))) F' us ((Xa.map (·.v)).map some) τs H' → SR W b F' ρ σ (τs ++ (setTs Xa us ++ X)) H' := by
  have S0 := S
  obtain ⟨le, f0, fn, kept, stab, pin, fps, xps, s1, s2, ⟨nd, ow⟩, lc1, lc2⟩ := S
  rw [List.map_append, List.map_append] at s2
  obtain ⟨xa, xr, e, q1, q2⟩ := RelTs.split (by simp) s2
  subst e
  rw [List.flatten_append] at nd ow
  have n := List.nodup_append.mp nd
  have n2 := List.nodup_append.mp n.2.1
  refine ⟨xa, q1, ⟨n2.1, fun a ha => ow a (List.mem_append_right _ (List.mem_append_left _ ha))⟩, fun io us F' τs H' hτ R => ?_⟩
  exact SR.callX S0 s1 q1 q2 ⟨by rw [List.flatten_append]; exact nd, fun a ha => ow a (by rw [List.flatten_append] at ha; exact ha)⟩ lc1 lc2 hτ R

def fCall (io : List Nat) (G : List T → Option Re) (fs : List T → Option Rs) : List T → Option Re := fun ρ => (fs ρ).bind fun r => match r with
  | .xc C ρ1 => some (.xc C ρ1)
  | .ok as ρ1 => (takeF as ρ1).bind fun p => if ioOk io 0 p.1 = true then (G p.1).bind fun r => match r with
    | .ok τ us => if us.length = as.length then some (.ok τ (putF as us p.2)) else none
    | .xc C us => if us.length = as.length then some (.xc C (putF as us p.2)) else none
    else none
theorem so_call {W : Wd} {P : Sg} {E : St → XK} {E' : XK} {t : TA} {io : List Nat} {G : List T → Option Re} {fs : List T → Option Rs} (hE : ∀ σ, E σ = E') (h : Sa W P E t fs) : So W P E (tCall (spF W io G) [] E' t) (fCall io G fs) := by
  intro b F ρ σ X H r Q hb S e k
  unfold fCall at e
  obtain ⟨r1, e1, e⟩ := Option.bind_eq_some_iff.mp e
  refine h b F ρ σ X H r1 _ hb S e1 ?_
  cases r1 with
  | xc C ρ1 =>
    cases e
    exact k
  | ok as ρ1 =>
    intro vs F1 H1 S1 g1 i1
    obtain ⟨⟨ts, ρ2⟩, e2, e⟩ := Option.bind_eq_some_iff.mp e
    obtain ⟨S2, h1, h2⟩ := take_ok S1 g1 e2
    split at e
    · rename_i hio
      obtain ⟨r2, e3, e⟩ := Option.bind_eq_some_iff.mp e
      obtain ⟨xa, q1, q2, q3⟩ := S2.call
      rw [h1, h2] at q1
      rw [h2] at q3
      rw [List.append_nil]
      refine ⟨F1, ts, xa, r2, S2.le, q1, q2, hio, e3, ?_⟩
      cases r2 with
      | ok τ us =>
        intro v F' H' R i2
        simp only at e
        split at e
        · rename_i hl
          cases e
          have S3 := q3 io us F' _ H' (fun x hx => by rw [List.mem_singleton.mp hx]) R
          exact k v F' H' (put_ok S3 g1 (take_len e2) hl) (i1.trans i2)
        · cases e
      | xc C us =>
        intro d F' H' R i2
        simp only at e
        split at e
        · rename_i hl
          cases e
          have S3 := q3 io us F' _ H' (fun x hx => by cases hx) R
          have S4 := put_ok (Z := []) S3 g1 (take_len e2) hl
          have := k d F' H' S4 (i1.trans i2)
          rw [hE σ] at this
          exact this
        · cases e
    · cases e
end Z

namespace Z
open PySem L2

inductive Out where
  | nx (ρ : List T)
  | rt (t : T) (ρ : List T)
  | bk (ρ : List T)
  | ct (ρ : List T)
  | xc (C : Nat) (ρ : List T)
def PostS (W : Wd) (b : Bs) (F : Hp) (X : List Tm) (D : Ends) (E : St → XK) : Out → Prop
  | .nx ρ => ∀ σ F' H, SR W b F' ρ σ X H → Inc F F' → D.nx σ H
  | .rt t ρ => ∀ v σ F' H, SR W b F' ρ σ (⟨none, t, v⟩ :: X) H → Inc F F' → D.rt v H
  | .bk ρ => ∀ σ F' H, SR W b F' ρ σ X H → Inc F F' → D.bk σ H
  | .ct ρ => ∀ σ F' H, SR W b F' ρ σ X H → Inc F F' → D.ct σ H
  | .xc C ρ => ∀ d σ F' H, SR W b F' ρ σ X H → Inc F F' → E σ (.ref (W.cl C)) d H
theorem PostS.mono {W : Wd} {b : Bs} {F F1 : Hp} {X : List Tm} {D : Ends} {E : St → XK} {o : Out} (h : PostS W b F X D E o) (i : Inc F F1) : PostS W b F1 X D E o := by
  cases o with
  | nx ρ => exact fun σ F' H S i' => h σ F' H S (i.trans i')
  | rt t ρ => exact fun v σ F' H S i' => h v σ F' H S (i.trans i')
  | bk ρ => exact fun σ F' H S i' => h σ F' H S (i.trans i')
  | ct ρ => exact fun σ F' H S i' => h σ F' H S (i.trans i')
  | xc C ρ => exact fun d σ F' H S i' => h d σ F' H S (i.trans i')
abbrev FS := List T → Option Out
def Ss (W : Wd) (P : Sg) (E : St → XK) (t : TS) (f : FS) : Prop :=
  ∀ b F ρ σ X H o D, Bok P b → SR W b F ρ σ X H → f ρ = some o → PostS W b F X D E o → t D σ H
def Sm (c : Ctx) (s : Stmt) (f : FS) : Prop := ∃ t, (∀ j, PS (c.X j) s t) ∧ Ss c.W c.P c.E t f
def Sms (c : Ctx) (s : List Stmt) (f : FS) : Prop := ∃ t, (∀ j, PSs (c.X j) s t) ∧ Ss c.W c.P c.E t f

section
variable {c : Ctx} {s : Stmt} {ss : List Stmt} {f g : FS} {e : Expr} {fo : List T → Option Re} {pos pos' : Pos}
def sNil : FS := fun ρ => some (.nx ρ)
def sSeq (f g : FS) : FS := fun ρ => (f ρ).bind fun o => match o with
  | .nx ρ1 => g ρ1
  | o => some o
theorem sms_nil : Sms c [] sNil := by
  refine ⟨_, fun _ => pss_nil, ?_⟩
  intro b F ρ σ X H o D hb S e p
  cases e
  exact p σ F H S (Inc.refl F)
theorem sms_one (h : Sm c s f) : Sms c [s] f := by
  obtain ⟨t, p, q⟩ := h
  exact ⟨t, fun j => pss_one (p j), q⟩
theorem sms_cons (h : Sm c s f) (k : Sms c ss g) : Sms c (s :: ss) (sSeq f g) := by
  obtain ⟨t, p, q⟩ := h
  obtain ⟨u, p', q'⟩ := k
  refine ⟨_, fun j => pss_cons (p j) (p' j), ?_⟩
  intro b F ρ σ X H o D hb S e k
  unfold sSeq at e
  obtain ⟨o1, e1, e⟩ := Option.bind_eq_some_iff.mp e
  refine q b F ρ σ X H o1 _ hb S e1 ?_
  cases o1 with
  | nx ρ1 => exact fun σ' F' H' S' i => q' b F' ρ1 σ' X H' o D hb S' e (k.mono i)
  | rt t ρ1 => cases e; exact k
  | bk ρ1 => cases e; exact k
  | ct ρ1 => cases e; exact k
  | xc C ρ1 => cases e; exact k
theorem sm_pass : Sm c (.Pass pos) sNil := by
  refine ⟨_, fun _ => ps_pass, ?_⟩
  intro b F ρ σ X H o D hb S e p
  cases e
  exact p σ F H S (Inc.refl F)
def sBk : FS := fun ρ => some (.bk ρ)
def sCt : FS := fun ρ => some (.ct ρ)
theorem sm_break : Sm c (.Break pos) sBk := by
  refine ⟨_, fun _ => ps_break, ?_⟩
  intro b F ρ σ X H o D hb S e p
  cases e
  exact p σ F H S (Inc.refl F)
theorem sm_cont : Sm c (.Continue pos) sCt := by
  refine ⟨_, fun _ => ps_continue, ?_⟩
  intro b F ρ σ X H o D hb S e p
  cases e
  exact p σ F H S (Inc.refl F)
/-- name = value -/
def sSet (i : Nat) (f : List T → Option Re) : FS := fun ρ => (f ρ).map fun r => match r with
  | .ok t ρ1 => .nx (ρ1.set i t)
  | .xc C ρ1 => .xc C ρ1
theorem notio {P : Sg} {b : Bs} {i : Nat} (hb : Bok P b) (h : i ∉ P.io) : ∀ p ∈ b.io, p.1 ≠ i := fun p hp e => h (by rw [← hb.2.1, ← e]; exact List.mem_map_of_mem hp)
theorem sm_set {i : Nat} {x : Str} (he : Eo c e fo) (hi : c.N[i]? = some x) (hx : ∀ j, L2.Loc (c.X j).env.scope x) (hio : i ∉ c.P.io) (hs : ∀ j, swapsWith e (some (.Name x pos')) pos.line (c.X j).env = pure false)
    (hf : ∀ j, (c.X j).fn x = true ∨ (c.X j).env.scope.names.lookup x = some .local) : Sm c (.Assign [.Name x pos'] e pos) (sSet i fo) := by
  obtain ⟨t, p, q⟩ := he
  refine ⟨_, fun j => ps_set (i := i) (c.hNd j) (by rw [c.hN j]; exact hi) (hx j) (p j) (hs j) (hf j), ?_⟩
  intro b F ρ σ X H o D hb S e k
  unfold sSet at e
  obtain ⟨r, e1, e⟩ := Option.map_eq_some_iff.mp e
  refine q b F ρ σ X H r _ hb S e1 ?_
  cases r with
  | ok τ ρ1 =>
    subst e
    exact fun v F' H' S' i' => k _ _ _ (S'.store (.inl rfl) (.inl (notio hb hio))) i'
  | xc C ρ1 =>
    subst e
    exact fun d F' H' S' i' => k d σ F' H' S' i'
/-- an expression whose value is dropped -/
def sExpr (f : List T → Option Re) : FS := fun ρ => (f ρ).map fun r => match r with
  | .ok t ρ1 => .nx ρ1
  | .xc C ρ1 => .xc C ρ1
theorem sm_expr (he : Eo c e fo) (hs : ∀ j, swapsWith e none pos.line (c.X j).env = pure false := by intro _; rfl) : Sm c (.Expr e pos) (sExpr fo) := by
  obtain ⟨t, p, q⟩ := he
  refine ⟨_, fun j => ps_expr (p j) (hs j), ?_⟩
  intro b F ρ σ X H o D hb S e k
  unfold sExpr at e
  obtain ⟨r, e1, e⟩ := Option.map_eq_some_iff.mp e
  refine q b F ρ σ X H r _ hb S e1 ?_
  cases r with
  | ok τ ρ1 =>
    subst e
    exact fun v F' H' S' i' => k _ _ _ S'.drop i'
  | xc C ρ1 =>
    subst e
    exact fun d F' H' S' i' => k d σ F' H' S' i'
def sRet (f : List T → Option Re) : FS := fun ρ => (f ρ).map fun r => match r with
  | .ok t ρ1 => .rt t ρ1
  | .xc C ρ1 => .xc C ρ1
theorem sm_ret (he : Eo c e fo) : Sm c (.Return (some e) pos) (sRet fo) := by
  obtain ⟨t, p, q⟩ := he
  refine ⟨_, fun j => ps_ret (p j), ?_⟩
  intro b F ρ σ X H o D hb S e k
  unfold sRet at e
  obtain ⟨r, e1, e⟩ := Option.map_eq_some_iff.mp e
  refine q b F ρ σ X H r _ hb S e1 ?_
  cases r with
  | ok τ ρ1 =>
    subst e
    exact fun v F' H' S' i' => k v σ F' H' S' i'
  | xc C ρ1 =>
    subst e
    exact fun d F' H' S' i' => k d σ F' H' S' i'
def sRetN : FS := fun ρ => some (.rt (.f .non) ρ)
theorem sm_retN : Sm c (.Return none pos) sRetN := by
  refine ⟨_, fun _ => ps_retN, ?_⟩
  intro b F ρ σ X H o D hb S e p
  cases e
  exact p .non σ F H (S.push rfl) (Inc.refl F)
/-- tests -/
inductive Rb where
  | ok (b : Bool) (ρ : List T)
  | xc (C : Nat) (ρ : List T)
def PostB (W : Wd) (b : Bs) (F : Hp) (σ : St) (X : List Tm) (Q : Bool → Hp → Prop) (E : St → XK) : Rb → Prop
  | .ok x ρ => ∀ F' H', SR W b F' ρ σ X H' → Inc F F' → Q x H'
  | .xc C ρ => ∀ d F' H', SR W b F' ρ σ X H' → Inc F F' → E σ (.ref (W.cl C)) d H'
def Sto (W : Wd) (P : Sg) (E : St → XK) (t : TT) (f : List T → Option Rb) : Prop :=
  ∀ b F ρ σ X H r Q, Bok P b → SR W b F ρ σ X H → f ρ = some r → PostB W b F σ X Q E r → t σ H Q
def To (c : Ctx) (e : Expr) (f : List T → Option Rb) : Prop := ∃ t, (∀ j, PT (c.X j) e t) ∧ Sto c.W c.P c.E t f
def liftB (f : List T → Option Bool) : List T → Option Rb := fun ρ => (f ρ).map fun x => .ok x ρ
theorem Tv.o {fb : List T → Option Bool} (h : Tv c e fb) : To c e (liftB fb) := by
  obtain ⟨t, p, q⟩ := h
  refine ⟨t, p, ?_⟩
  intro b F ρ σ X H r Q hb S e k
  unfold liftB at e
  obtain ⟨x, e1, e⟩ := Option.map_eq_some_iff.mp e
  subst e
  exact q b F ρ σ X H x Q S e1 fun F' H' S' i s => k F' H' S' i
def oTest (f : List T → Option Re) : List T → Option Rb := fun ρ => (f ρ).bind fun r => match r with
  | .ok t ρ1 => t.b?.map fun x => .ok x ρ1
  | .xc C ρ1 => some (.xc C ρ1)
theorem to_val (ha : Eo c e fo) (he : ∀ j whole, isTrue e (c.X j).env whole = (do let v ← whole; standAt e.pos; holding [v] (truthy v))) : To c e (oTest fo) := by
  obtain ⟨ta, pa, sa⟩ := ha
  refine ⟨_, fun j => pt_val (pa j) (he j), ?_⟩
  intro b F ρ σ X H r Q hb S e k
  unfold oTest at e
  obtain ⟨r1, e1, e⟩ := Option.bind_eq_some_iff.mp e
  refine sa b F ρ σ X H r1 _ hb S e1 ?_
  cases r1 with
  | ok τ ρ1 =>
    obtain ⟨x, e2, e⟩ := Option.map_eq_some_iff.mp e
    subst e
    intro v F' H' S' i'
    have hx : τ = .f (.bl x) := by
      cases τ with
      | f d => cases d with
        | bl y => cases e2; rfl
        | _ => cases e2
      | _ => cases e2
    subst hx
    exact ⟨x, S'.top, k F' H' S'.drop i'⟩
  | xc C ρ1 =>
    cases e
    exact k
def oNot (f : List T → Option Rb) : List T → Option Rb := fun ρ => (f ρ).map fun r => match r with
  | .ok x ρ1 => .ok (!x) ρ1
  | r => r
theorem to_not {ga : List T → Option Rb} (ha : To c e ga) : To c (.UnaryOp .Not e pos) (oNot ga) := by
  obtain ⟨t, p, s⟩ := ha
  refine ⟨_, fun j => pt_not (p j), ?_⟩
  intro b F ρ σ X H r Q hb S e k
  unfold oNot at e
  obtain ⟨r1, e1, e⟩ := Option.map_eq_some_iff.mp e
  subst e
  refine s b F ρ σ X H r1 _ hb S e1 ?_
  cases r1 with
  | ok x ρ1 => exact fun F' H' S' i => k F' H' S' i
  | xc C ρ1 => exact k
def Wo (c : Ctx) (e : Expr) (f : List T → Option Rb) : Prop := ∃ t, (∀ j, PW (c.X j) e t) ∧ Sto c.W c.P c.E t f
theorem Wo.to {ga : List T → Option Rb} (h : Wo c e ga) : To c e ga := by
  obtain ⟨t, p, s⟩ := h
  exact ⟨t, fun j => (p j).pt, s⟩
theorem wo_and1 {ga : List T → Option Rb} (ha : To c e ga) : Wo c (.BoolOp .And [e] pos) ga := by
  obtain ⟨t, p, s⟩ := ha
  exact ⟨t, fun j => pw_and1 (p j), s⟩
theorem wo_or1 {ga : List T → Option Rb} (ha : To c e ga) : Wo c (.BoolOp .Or [e] pos) ga := by
  obtain ⟨t, p, s⟩ := ha
  exact ⟨t, fun j => pw_or1 (p j), s⟩
def oAnd (ga gb : List T → Option Rb) : List T → Option Rb := fun ρ => (ga ρ).bind fun r => match r with
  | .ok true ρ1 => gb ρ1
  | r => some r
def oOr (ga gb : List T → Option Rb) : List T → Option Rb := fun ρ => (ga ρ).bind fun r => match r with
  | .ok false ρ1 => gb ρ1
  | r => some r
theorem wo_and {ga gb : List T → Option Rb} {b : Expr} {rest : List Expr} (ha : To c e ga) (hb : Wo c (.BoolOp .And (b :: rest) pos) gb) : Wo c (.BoolOp .And (e :: b :: rest) pos) (oAnd ga gb) := by
  obtain ⟨t, p, s⟩ := ha
  obtain ⟨u, q, s'⟩ := hb
  refine ⟨_, fun j => pw_and (p j) (q j), ?_⟩
  intro b F ρ σ X H r Q hb S e k
  unfold oAnd at e
  obtain ⟨x, e1, e⟩ := Option.bind_eq_some_iff.mp e
  refine s b F ρ σ X H x _ hb S e1 ?_
  cases x with
  | ok x ρ1 =>
    cases x with
    | true => exact fun F1 H1 S1 i1 => iteT (s' b F1 ρ1 σ X H1 r Q hb S1 e (by
        cases r with
        | ok y ρ2 => exact fun F2 H2 S2 i2 => k F2 H2 S2 (i1.trans i2)
        | xc C ρ2 => exact fun d F2 H2 S2 i2 => k d F2 H2 S2 (i1.trans i2)))
    | false =>
      cases e
      exact fun F1 H1 S1 i1 => iteF (k F1 H1 S1 i1)
  | xc C ρ1 =>
    cases e
    exact k
theorem wo_or {ga gb : List T → Option Rb} {b : Expr} {rest : List Expr} (ha : To c e ga) (hb : Wo c (.BoolOp .Or (b :: rest) pos) gb) : Wo c (.BoolOp .Or (e :: b :: rest) pos) (oOr ga gb) := by
  obtain ⟨t, p, s⟩ := ha
  obtain ⟨u, q, s'⟩ := hb
  refine ⟨_, fun j => pw_or (p j) (q j), ?_⟩
  intro b F ρ σ X H r Q hb S e k
  unfold oOr at e
  obtain ⟨x, e1, e⟩ := Option.bind_eq_some_iff.mp e
  refine s b F ρ σ X H x _ hb S e1 ?_
  cases x with
  | ok x ρ1 =>
    cases x with
    | false => exact fun F1 H1 S1 i1 => iteF (s' b F1 ρ1 σ X H1 r Q hb S1 e (by
        cases r with
        | ok y ρ2 => exact fun F2 H2 S2 i2 => k F2 H2 S2 (i1.trans i2)
        | xc C ρ2 => exact fun d F2 H2 S2 i2 => k d F2 H2 S2 (i1.trans i2)))
    | true =>
      cases e
      exact fun F1 H1 S1 i1 => iteT (k F1 H1 S1 i1)
  | xc C ρ1 =>
    cases e
    exact k
def sIf (t : List T → Option Rb) (f g : FS) : FS := fun ρ => (t ρ).bind fun r => match r with
  | .ok x ρ1 => if x = true then f ρ1 else g ρ1
  | .xc C ρ1 => some (.xc C ρ1)
theorem sm_if {ft : List T → Option Rb} {as bs : List Stmt} (ht : To c e ft) (hf : Sms c as f) (hg : Sms c bs g) : Sm c (.If e as bs pos) (sIf ft f g) := by
  obtain ⟨t0, p0, q0⟩ := ht
  obtain ⟨t, p, q⟩ := hf
  obtain ⟨u, p', q'⟩ := hg
  refine ⟨_, fun j => ps_if (p0 j) (p j) (p' j), ?_⟩
  intro b F ρ σ X H o D hb S e k
  unfold sIf at e
  obtain ⟨r, e1, e⟩ := Option.bind_eq_some_iff.mp e
  refine q0 b F ρ σ X H r _ hb S e1 ?_
  cases r with
  | ok x ρ1 =>
    intro F' H' S' i'
    cases x with
    | true => exact iteT (q b F' ρ1 σ X H' o D hb S' e (k.mono i'))
    | false => exact iteF (q' b F' ρ1 σ X H' o D hb S' e (k.mono i'))
  | xc C ρ1 =>
    cases e
    exact fun d F' H' S' i' => k d σ F' H' S' i'

/-! ### while -/
def whileF (ft : List T → Option Rb) (fb : FS) : Nat → FS
  | 0, _ => none
  | n + 1, ρ => (ft ρ).bind fun r => match r with
    | .xc C ρ1 => some (.xc C ρ1)
    | .ok false ρ1 => some (.nx ρ1)
    | .ok true ρ1 => (fb ρ1).bind fun o => match o with
      | .nx ρ2 => whileF ft fb n ρ2
      | .ct ρ2 => whileF ft fb n ρ2
      | .bk ρ2 => some (.nx ρ2)
      | o => some o
/-- μ: how many looks are enough -/
def sWhile (μ : List T → Nat) (ft : List T → Option Rb) (fb : FS) : FS := fun ρ => whileF ft fb (μ ρ) ρ
theorem ss_while {W : Wd} {P : Sg} {E : St → XK} {tc : TT} {tb : TS} {ft : List T → Option Rb} {fb : FS} (μ : List T → Nat) (q0 : Sto W P E tc ft) (q : Ss W P E tb fb) : Ss W P E (tWhile tc tb) (sWhile μ ft fb) := by
  intro b F ρ σ X H o D hb S e k
  refine ⟨fun m σ' H' => ∃ F' ρ', SR W b F' ρ' σ' X H' ∧ Inc F F' ∧ whileF ft fb m ρ' = some o, ⟨μ ρ, F, ρ, S, Inc.refl F, e⟩, ?_⟩
  rintro m σ1 H1 ⟨F1, ρ1, S1, i1, e1⟩
  cases m with
  | zero => cases e1
  | succ m =>
    unfold whileF at e1
    obtain ⟨r, e2, e1⟩ := Option.bind_eq_some_iff.mp e1
    refine q0 b F1 ρ1 σ1 X H1 r _ hb S1 e2 ?_
    cases r with
    | xc C ρ2 =>
      cases e1
      exact fun d F' H' S' i' => k d σ1 F' H' S' (i1.trans i')
    | ok x ρ2 =>
      intro F2 H2 S2 i2
      cases x with
      | false =>
        cases e1
        exact iteF (k σ1 F2 H2 S2 (i1.trans i2))
      | true =>
        refine iteT ⟨fun σ' H' => ∃ F' ρ', SR W b F' ρ' σ' X H' ∧ Inc F F' ∧ whileF ft fb m ρ' = some o, fun σ' H' h => ⟨m, Nat.lt_succ_self m, h⟩, ?_⟩
        obtain ⟨o1, e3, e4⟩ := Option.bind_eq_some_iff.mp e1
        refine q b F2 ρ2 σ1 X H2 o1 _ hb S2 e3 ?_
        cases o1 with
        | nx ρ3 => exact fun σ' F' H' S' i' => ⟨F', ρ3, S', (i1.trans i2).trans i', e4⟩
        | ct ρ3 => exact fun σ' F' H' S' i' => ⟨F', ρ3, S', (i1.trans i2).trans i', e4⟩
        | bk ρ3 =>
          cases e4
          exact fun σ' F' H' S' i' => k σ' F' H' S' ((i1.trans i2).trans i')
        | rt t ρ3 =>
          cases e4
          exact fun v σ' F' H' S' i' => k v σ' F' H' S' ((i1.trans i2).trans i')
        | xc C ρ3 =>
          cases e4
          exact fun d σ' F' H' S' i' => k d σ' F' H' S' ((i1.trans i2).trans i')
theorem sm_while {ft : List T → Option Rb} {as : List Stmt} (μ : List T → Nat) (hp : ∀ j, PassesOwn (model (c.X j).prog (c.X j).w) (c.X j).A (c.X j).env (c.X j).xe) (ht : To c e ft) (hf : Sms c as f) : Sm c (.While e as [] pos) (sWhile μ ft f) := by
  obtain ⟨t0, p0, q0⟩ := ht
  obtain ⟨t, p, q⟩ := hf
  exact ⟨_, fun j => ps_while (hp j) (p0 j) (p j), ss_while μ q0 q⟩
end

/-! ### targets -/
def Sgt (W : Wd) (P : Sg) (g : TG) (f : T → List T → Option (List T)) : Prop :=
  ∀ b F ρ ρ' σ X H t v Q, Bok P b → SR W b F ρ σ (⟨none, t, v⟩ :: X) H → f t ρ = some ρ' → (∀ σ' F' H', SR W b F' ρ' σ' X H' → Inc F F' → Q σ' H') → g v σ H Q
def Gt (c : Ctx) (e : Expr) (f : T → List T → Option (List T)) : Prop := ∃ g, (∀ j, PG (c.X j) e g) ∧ Sgt c.W c.P g f
def gSet (i : Nat) : T → List T → Option (List T) := fun t ρ => some (ρ.set i t)
/-- several things on the way -/
def Xn : List T → List V → List Tm
  | t :: ts, v :: vs => ⟨none, t, v⟩ :: Xn ts vs
  | _, _ => []
def Sgts (W : Wd) (P : Sg) (g : TGs) (f : List T → List T → Option (List T)) : Prop :=
  ∀ b F ρ ρ' σ X H ts vs Q, Bok P b → ts.length = vs.length → SR W b F ρ σ (Xn ts vs ++ X) H → f ts ρ = some ρ' → (∀ σ' F' H', SR W b F' ρ' σ' X H' → Inc F F' → Q σ' H') → g vs σ H Q
def Gts (c : Ctx) (es : List Expr) (f : List T → List T → Option (List T)) : Prop := ∃ g, (∀ j, PGs (c.X j) es g) ∧ Sgts c.W c.P g f
section
variable {c : Ctx} {e : Expr} {es : List Expr} {pos : Pos} {f : T → List T → Option (List T)} {fs : List T → List T → Option (List T)}
theorem gt_name {i : Nat} {x : Str} (hi : c.N[i]? = some x) (hx : ∀ j, L2.Loc (c.X j).env.scope x) (hio : i ∉ c.P.io) (hf : ∀ j, (c.X j).fn x = true ∨ (c.X j).env.scope.names.lookup x = some .local) : Gt c (.Name x pos) (gSet i) := by
  refine ⟨_, fun j => pg_name (i := i) (c.hNd j) (by rw [c.hN j]; exact hi) (hx j) (hf j), ?_⟩
  intro b F ρ ρ' σ X H t v Q hb S e k
  cases e
  exact k _ _ _ (S.store (.inl rfl) (.inl (notio hb hio))) (Inc.refl F)
def gsNil : List T → List T → Option (List T) := fun ts ρ => match ts with | [] => some ρ | _ => none
def gsCons (f : T → List T → Option (List T)) (g : List T → List T → Option (List T)) : List T → List T → Option (List T) := fun ts ρ => match ts with
  | t :: ts => (f t ρ).bind fun ρ1 => g ts ρ1
  | [] => none
theorem gts_nil : Gts c [] gsNil := by
  refine ⟨_, fun _ => pgs_nil, ?_⟩
  intro b F ρ ρ' σ X H ts vs Q hb hl S e k
  cases ts with
  | nil =>
    cases vs with
    | nil =>
      cases e
      exact ⟨rfl, k _ _ _ S (Inc.refl F)⟩
    | cons _ _ => cases hl
  | cons _ _ => cases e
theorem gts_cons (h : Gt c e f) (k : Gts c es fs) (hs : ∀ j, (assignEach (e :: es) (c.X j).env).map (·.2) = assign e (c.X j).env :: (assignEach es (c.X j).env).map (·.2) := by intro _; rfl) : Gts c (e :: es) (gsCons f fs) := by
  obtain ⟨g, p, q⟩ := h
  obtain ⟨g', p', q'⟩ := k
  refine ⟨_, fun j => pgs_cons (p j) (p' j) (hs j), ?_⟩
  intro b F ρ ρ' σ X H ts vs Q hb hl S e k
  cases ts with
  | nil => cases e
  | cons t ts =>
    cases vs with
    | nil => cases hl
    | cons v vs =>
      obtain ⟨ρ1, e1, e⟩ := Option.bind_eq_some_iff.mp (show (f t ρ).bind _ = _ from e)
      refine ⟨v, vs, rfl, q b F ρ ρ1 σ (Xn ts vs ++ X) H t v _ hb S e1 fun σ' F' H' S' i => ?_⟩
      exact q' b F' ρ1 ρ' σ' X H' ts vs Q hb (by simpa using hl) S' e fun σ2 F2 H2 S2 i2 => k σ2 F2 H2 S2 (i.trans i2)
theorem SR.pushes {W : Wd} {b : Bs} {F : Hp} {ρ : List T} {σ : St} {H : Hp} : ∀ {ds : List D} {vs : List V} {X : List Tm}, SR W b F ρ σ X H → Reps W F ds vs → SR W b F ρ σ (Xn (ds.map .f) vs ++ X) H
  | [], _, _, S, r => by
    have r' : _ = [] := r
    subst r'
    exact S
  | d :: ds, _, _, S, r => by
    obtain ⟨v, vr, e, a, q⟩ := r
    subst e
    exact (SR.pushes S q).push a
/-- (a, b, ..) = a deep tuple -/
def gTupT (n : Nat) (f : List T → List T → Option (List T)) : T → List T → Option (List T) := fun t ρ => match t with
  | .f (.tup ds) => if ds.length = n then f (ds.map .f) ρ else none
  | _ => none
theorem gt_tup {n m : Nat} (h : Gts c es fs) (hn : ∀ j, (assignEach es (c.X j).env).length = n := by intro _; rfl) (hst : ∀ j, (assignEach es (c.X j).env).findIdx? (·.1) = none := by intro _; rfl) : Gt c (.Tuple es m pos) (gTupT n fs) := by
  obtain ⟨g, p, q⟩ := h
  refine ⟨L2.gTup c.W.K n g, fun j => ?_, ?_⟩
  · have := pg_tup (pos := pos) (k := m) (c.calm j) (p j) (hn j) (hst j)
    rw [c.hK j] at this
    exact this
  intro b F ρ ρ' σ X H t v Q hb S e k
  unfold gTupT at e
  cases t with
  | f d => cases d with
    | tup ds =>
      simp only at e
      split at e
      · rename_i hl
        obtain ⟨p, vs, ex, hs, r⟩ := S.top
        refine ⟨p, vs, ex, SqT.le S.le hs, by rw [← r.len]; exact hl, ?_⟩
        exact q b F ρ ρ' σ X H (ds.map .f) vs Q hb (by rw [List.length_map]; exact r.len) (S.drop.pushes r) e k
      · cases e
    | _ => cases e
  | _ => cases e
end

/-! ### what is walked -/
structure Wk (W : Wd) (F0 : Hp) (J : It) (ds : List D) : Prop where
  go : ∀ i F H, Inc F0 F → Le F H → i < ds.length → J.go i H
  stop : ∀ F H, Inc F0 F → Le F H → J.stop ds.length H
  yld : ∀ i F H x H' d, Inc F0 F → Le F H → ds[i]? = some d → J.yld i H x H' → (H' = H ∧ Rep W F d x) ∨ ∃ p o, H p = none ∧ H' = upd H p o ∧ x = .ref p ∧ (Inc F (upd F p o) → Rep W (upd F p o) d (.ref p))
inductive Ri where
  | ok (ds : List D) (ρ : List T)
  | xc (C : Nat) (ρ : List T)
def PostI (W : Wd) (b : Bs) (F : Hp) (σ : St) (X : List Tm) (R : It → Hp → Prop) (E : St → XK) : Ri → Prop
  | .ok ds ρ => ∀ J F' H', SR W b F' ρ σ X H' → Inc F F' → Wk W F' J ds → R J H'
  | .xc C ρ => ∀ d F' H', SR W b F' ρ σ X H' → Inc F F' → E σ (.ref (W.cl C)) d H'
def Si (W : Wd) (P : Sg) (E : St → XK) (wi : TI) (f : List T → Option Ri) : Prop :=
  ∀ b F ρ σ X H r R, Bok P b → SR W b F ρ σ X H → f ρ = some r → PostI W b F σ X R E r → wi σ H R
def Iw (c : Ctx) (tg e : Expr) (f : List T → Option Ri) : Prop := ∃ wi, (∀ j, PI (c.X j) tg e wi) ∧ Si c.W c.P c.E wi f

def forF (fg : T → List T → Option (List T)) (fb : FS) : List D → FS
  | [], ρ => some (.nx ρ)
  | d :: ds, ρ => (fg (.f d) ρ).bind fun ρ1 => (fb ρ1).bind fun o => match o with
    | .nx ρ2 => forF fg fb ds ρ2
    | .ct ρ2 => forF fg fb ds ρ2
    | .bk ρ2 => some (.nx ρ2)
    | o => some o
def sFor (fi : List T → Option Ri) (fg : T → List T → Option (List T)) (fb : FS) : FS := fun ρ => (fi ρ).bind fun r => match r with
  | .ok ds ρ1 => forF fg fb ds ρ1
  | .xc C ρ1 => some (.xc C ρ1)
section
variable {c : Ctx} {tg e : Expr} {ss : List Stmt} {pos : Pos} {fi : List T → Option Ri} {fg : T → List T → Option (List T)} {fb : FS}
theorem Wk.item {W : Wd} {b : Bs} {F0 F : Hp} {ρ : List T} {σ : St} {X : List Tm} {H H' : Hp} {J : It} {ds : List D} {i : Nat} {d : D} {x : V} (w : Wk W F0 J ds) (S : SR W b F ρ σ X H) (hi : Inc F0 F) (hd : ds[i]? = some d) (y : J.yld i H x H') :
    ∃ F', SR W b F' ρ σ (⟨none, .f d, x⟩ :: X) H' ∧ Inc F F' := by
  rcases w.yld i F H x H' d hi S.le hd y with ⟨e, r⟩ | ⟨p, o, hp, e, ex, r⟩
  · subst e
    exact ⟨F, S.push r, Inc.refl F⟩
  · subst e ex
    obtain ⟨S', i', s'⟩ := S.laid (o := o) hp
    exact ⟨_, S'.push (r i'), i'⟩
theorem ss_for {W : Wd} {P : Sg} {E : St → XK} {wi : TI} {g : TG} {tb : TS} (hi : Si W P E wi fi) (hg : Sgt W P g fg) (hb : Ss W P E tb fb) : Ss W P E (tFor wi g tb) (sFor fi fg fb) := by
  intro b F ρ σ X H o D bok S e k
  unfold sFor at e
  obtain ⟨r, e1, e⟩ := Option.bind_eq_some_iff.mp e
  refine hi b F ρ σ X H r _ bok S e1 ?_
  cases r with
  | xc C ρ1 =>
    cases e
    exact fun d F' H' S' i' => k d σ F' H' S' i'
  | ok ds ρ1 =>
    intro J F1 H1 S1 i1 wk
    refine ⟨fun i m σ' H' => m = ds.length - i ∧ i ≤ ds.length ∧ ∃ F' ρ', SR W b F' ρ' σ' X H' ∧ Inc F1 F' ∧ forF fg fb (ds.drop i) ρ' = some o, ⟨ds.length, by simp, Nat.zero_le _, F1, ρ1, S1, Inc.refl F1, e⟩, ?_⟩
    rintro i m σ2 H2 ⟨rfl, hi2, F2, ρ2, S2, i2, e2⟩
    by_cases hlt : i < ds.length
    · refine .inr ⟨wk.go i F2 H2 i2 S2.le hlt, fun σ' H' => i + 1 ≤ ds.length ∧ ∃ F' ρ', SR W b F' ρ' σ' X H' ∧ Inc F1 F' ∧ forF fg fb (ds.drop (i + 1)) ρ' = some o, fun σ' H' h => ⟨ds.length - (i + 1), by omega, rfl, h⟩, fun x H3 y => ?_⟩
      have hd : ds[i]? = some ds[i] := List.getElem?_eq_getElem hlt
      rw [List.drop_eq_getElem_cons hlt] at e2
      unfold forF at e2
      obtain ⟨ρ3, e3, e2⟩ := Option.bind_eq_some_iff.mp e2
      obtain ⟨o1, e4, e2⟩ := Option.bind_eq_some_iff.mp e2
      obtain ⟨F3, S3, i3⟩ := wk.item S2 i2 hd y
      refine hg b F3 ρ2 ρ3 σ2 X H3 _ x _ bok S3 e3 fun σ4 F4 H4 S4 i4 => ?_
      have i14 := i2.trans (i3.trans i4)
      refine hb b F4 ρ3 σ4 X H4 o1 _ bok S4 e4 ?_
      cases o1 with
      | nx ρ5 => exact fun σ' F' H' S' i' => ⟨hlt, F', ρ5, S', i14.trans i', e2⟩
      | ct ρ5 => exact fun σ' F' H' S' i' => ⟨hlt, F', ρ5, S', i14.trans i', e2⟩
      | bk ρ5 =>
        cases e2
        exact fun σ' F' H' S' i' => k σ' F' H' S' ((i1.trans i14).trans i')
      | rt t ρ5 =>
        cases e2
        exact fun v σ' F' H' S' i' => k v σ' F' H' S' ((i1.trans i14).trans i')
      | xc C ρ5 =>
        cases e2
        exact fun d σ' F' H' S' i' => k d σ' F' H' S' ((i1.trans i14).trans i')
    · have hi3 : i = ds.length := by omega
      subst hi3
      rw [List.drop_length] at e2
      cases e2
      exact .inl ⟨wk.stop F2 H2 i2 S2.le, k σ2 F2 H2 S2 (i1.trans i2)⟩
theorem sm_for (hp : ∀ j, PassesOwn (model (c.X j).prog (c.X j).w) (c.X j).A (c.X j).env (c.X j).xe) (hi : Iw c tg e fi) (hg : Gt c tg fg) (hb : Sms c ss fb) (hs : ∀ j x, foldedSetIterable e (c.X j).env x = pure x := by intro _ _; rfl) : Sm c (.For tg e ss [] pos) (sFor fi fg fb) := by
  obtain ⟨wi, p1, q1⟩ := hi
  obtain ⟨g, p2, q2⟩ := hg
  obtain ⟨t, p3, q3⟩ := hb
  exact ⟨_, fun j => ps_for (hp j) (c.calm j) (p1 j) (p2 j) (p3 j) (hs j), ss_for q1 q2 q3⟩
end
end Z

namespace Z
open PySem L2

/-! ### ready expressions -/
section
variable {c : Ctx} {a e' : Expr} {es : List Expr} {fa fb : List T → Option T} {fs : List T → Option (List T)} {pos : Pos}
theorem ev_add (ha : Ev c a fa) (hb : Ev c e' fb) : Ev c (.BinOp a .Add e' pos) (f2 gAdd fa fb) := ev_op (fun j => by have h := op_addU (X := c.X j); rw [c.hK j] at h; exact h) s2_add ha hb
theorem ev_sub (ha : Ev c a fa) (hb : Ev c e' fb) : Ev c (.BinOp a .Sub e' pos) (f2 gSub fa fb) := ev_op (fun _ => op_sub) s2_sub ha hb
theorem ev_mul (ha : Ev c a fa) (hb : Ev c e' fb) : Ev c (.BinOp a .Mult e' pos) (f2 gMul fa fb) := ev_op (fun _ => op_mulX) s2_mul ha hb
theorem ev_div (ha : Ev c a fa) (hb : Ev c e' fb) : Ev c (.BinOp a .FloorDiv e' pos) (f2 gDiv fa fb) := ev_op (fun _ => op_fdivW) s2_div ha hb
theorem ev_mod (ha : Ev c a fa) (hb : Ev c e' fb) : Ev c (.BinOp a .Mod e' pos) (f2 gMod fa fb) := ev_op (fun _ => op_mod) s2_mod ha hb
theorem ev_pow (ha : Ev c a fa) (hb : Ev c e' fb) : Ev c (.BinOp a .Pow e' pos) (f2 gPow fa fb) := ev_op (fun _ => op_pow) s2_pow ha hb
theorem ev_shl (ha : Ev c a fa) (hb : Ev c e' fb) : Ev c (.BinOp a .LShift e' pos) (f2 gShl fa fb) := ev_op (fun _ => op_shl) s2_shl ha hb
theorem ev_shr (ha : Ev c a fa) (hb : Ev c e' fb) : Ev c (.BinOp a .RShift e' pos) (f2 gShr fa fb) := ev_op (fun _ => op_shr) s2_shr ha hb
theorem ev_band (ha : Ev c a fa) (hb : Ev c e' fb) : Ev c (.BinOp a .BitAnd e' pos) (f2 gBAnd fa fb) := ev_op (fun _ => op_and) s2_band ha hb
theorem ev_bor (ha : Ev c a fa) (hb : Ev c e' fb) : Ev c (.BinOp a .BitOr e' pos) (f2 gBOr fa fb) := ev_op (fun _ => op_or) s2_bor ha hb
theorem ev_bxor (ha : Ev c a fa) (hb : Ev c e' fb) : Ev c (.BinOp a .BitXor e' pos) (f2 gBXor fa fb) := ev_op (fun _ => op_xor) s2_bxor ha hb
theorem ev_neg (ha : Ev c a fa) : Ev c (.UnaryOp .USub a pos) (f1 gNeg fa) := ev_un (fun _ => un_neg) s1_neg ha
/-- comparisons: the rule and its function -/
structure CmpR (c : Ctx) (op : CmpOp) (g : T → T → Option T) : Prop where
  ex : ∃ r, (∀ j, OpR (c.X j) (compareOp op) r) ∧ S2 c.W r g
theorem c_lt : CmpR c .Lt gLt := ⟨_, fun _ => op_lt, s2_lt⟩
theorem c_le : CmpR c .LtE gLe := ⟨_, fun _ => op_le, s2_le⟩
theorem c_gt : CmpR c .Gt gGt := ⟨_, fun _ => op_gt, s2_gt⟩
theorem c_ge : CmpR c .GtE gGe := ⟨_, fun _ => op_ge, s2_ge⟩
theorem c_eq : CmpR c .Eq gEq := ⟨_, fun j => by have h := op_eqU (X := c.X j) (c.hu j); rw [c.hK j] at h; exact h, s2_eq⟩
theorem c_ne : CmpR c .NotEq gNe := ⟨_, fun j => by have h := op_neU (X := c.X j) (c.hu j); rw [c.hK j] at h; exact h, s2_ne⟩
theorem c_in : CmpR c .In gIn := ⟨_, fun j => by have h := op_inU (X := c.X j) (c.hu1 j); rw [c.hK j] at h; exact h, s2_in⟩
theorem c_notIn : CmpR c .NotIn gNotIn := ⟨_, fun j => by have h := op_notInU (X := c.X j) (c.hu1 j); rw [c.hK j] at h; exact h, s2_notIn⟩
theorem ev_c {op : CmpOp} {g : T → T → Option T} (r : CmpR c op g) (ha : Ev c a fa) (hb : Ev c e' fb) (hm : behindInMarks op e' = false := by first | exact nomark _ | with_unfolding_all rfl) : Ev c (.Compare a [op] [e'] pos) (f2 g fa fb) := by
  obtain ⟨_, h1, h2⟩ := r.ex
  exact ev_cmp h1 h2 ha hb hm
theorem tv_c {op : CmpOp} {g : T → T → Option T} (r : CmpR c op g) (ha : Ev c a fa) (hb : Ev c e' fb) (hm : behindInMarks op e' = false := by first | exact nomark _ | with_unfolding_all rfl) : Tv c (.Compare a [op] [e'] pos) (fT (f2 g fa fb)) := by
  obtain ⟨_, h1, h2⟩ := r.ex
  exact tv_cmp h1 h2 ha hb hm
/-- a < b < d -/
def fChain (g h : T → T → Option T) (fa fb fd : List T → Option T) : List T → Option T := fun ρ => (fa ρ).bind fun x => (fb ρ).bind fun y => (g x y).bind fun z => z.b?.bind fun k => if k = true then (fd ρ).bind fun w => h y w else some (.f (.bl false))
theorem sv_chain {W : Wd} {fd : List T → Option T} {ta tb td : TE} {r r' : R2} {g h : T → T → Option T} (hr : S2 W r g) (hr' : S2 W r' h) (ha : Sv W ta fa) (hb : Sv W tb fb) (hd : Sv W td fd) : Sv W (tChain r r' ta tb td) (fChain g h fa fb fd) := by
  intro b F ρ σ X H τ Q S e k
  unfold fChain at e
  obtain ⟨x, e1, e⟩ := Option.bind_eq_some_iff.mp e
  obtain ⟨y, e2, e⟩ := Option.bind_eq_some_iff.mp e
  obtain ⟨z, e3, e⟩ := Option.bind_eq_some_iff.mp e
  obtain ⟨m, e4, e⟩ := Option.bind_eq_some_iff.mp e
  refine ha b F ρ σ X H x _ S e1 fun v1 F1 H1 S1 i1 s1 r1 => ?_
  refine hb b F1 ρ σ X H1 y _ S1 e2 fun v2 F2 H2 S2 i2 s2 r2 => ?_
  refine hr b F2 ρ σ X H2 x y z v1 v2 _ S2 (r1.ext i2 s2) r2 e3 fun v3 F3 H3 S3 i3 s3 r3 => ?_
  refine ⟨m, r3.bl e4, ?_⟩
  have i13 := i1.trans (i2.trans i3)
  have s13 := s1.trans (s2.trans s3)
  cases m with
  | true =>
    refine iteT ?_
    obtain ⟨w, e5, e6⟩ := Option.bind_eq_some_iff.mp e
    refine hd b F3 ρ σ X H3 w _ S3 e5 fun v4 F4 H4 S4 i4 s4 r4 => ?_
    exact hr' b F4 ρ σ X H4 y w τ v2 v4 _ S4 ((r2.ext i3 s3).ext i4 s4) r4 e6 (k.mono (i13.trans i4) (s13.trans s4))
  | false =>
    cases e
    exact iteF ((k.mono i13 s13).d S3 rfl)
theorem ev_chain {op op' : CmpOp} {d : Expr} {fd : List T → Option T} {g h : T → T → Option T} (r : CmpR c op g) (r' : CmpR c op' h) (ha : Ev c a fa) (hb : Ev c e' fb) (hd : Ev c d fd) (hm : lastMarks [op, op'] [e', d] = false := by with_unfolding_all rfl) : Ev c (.Compare a [op, op'] [e', d] pos) (fChain g h fa fb fd) := by
  obtain ⟨_, h1, h2⟩ := r.ex
  obtain ⟨_, h3, h4⟩ := r'.ex
  obtain ⟨ta, pa, sa⟩ := ha
  obtain ⟨tb, pb, sb⟩ := hb
  obtain ⟨td, pd, sd⟩ := hd
  exact ⟨_, fun j => pe_chain (h1 j) (h3 j) (pa j) (pb j) (pd j) hm, sv_chain h2 h4 sa sb sd⟩
theorem tv_chain {op op' : CmpOp} {d : Expr} {fd : List T → Option T} {g h : T → T → Option T} (r : CmpR c op g) (r' : CmpR c op' h) (ha : Ev c a fa) (hb : Ev c e' fb) (hd : Ev c d fd) (hm : lastMarks [op, op'] [e', d] = false := by with_unfolding_all rfl) : Tv c (.Compare a [op, op'] [e', d] pos) (fT (fChain g h fa fb fd)) := by
  obtain ⟨_, h1, h2⟩ := r.ex
  obtain ⟨_, h3, h4⟩ := r'.ex
  obtain ⟨ta, pa, sa⟩ := ha
  obtain ⟨tb, pb, sb⟩ := hb
  obtain ⟨td, pd, sd⟩ := hd
  exact ⟨_, fun j => pt_chain (h1 j) (h3 j) (pa j) (pb j) (pd j) hm, stv_test (sv_chain h2 h4 sa sb sd)⟩
/-- is None -/
def gIsNn (neg : Bool) (t : T) : Option T := match t with
  | .un => none
  | t => match gIsN t with
    | some (.f (.bl b)) => some (.f (.bl (xor neg b)))
    | _ => none
def fIsN (neg : Bool) (fa : List T → Option T) : List T → Option T := f1 (gIsNn neg) fa
theorem isN_out {W : Wd} {F H : Hp} {t τ : T} {v : V} {neg : Bool} (r : RelV W F H t v) (e : gIsNn neg t = some τ) : τ = .f (.bl (xor neg (decide (v = .non)))) := by
  unfold gIsNn at e
  have ht : t ≠ .un := by
    rintro rfl
    cases e
  have e2 : (match gIsN t with | some (.f (.bl b)) => some (T.f (.bl (xor neg b))) | _ => none) = some τ := by
    cases t with
    | un => exact absurd rfl ht
    | _ => exact e
  split at e2
  · rename_i b hb
    cases e2
    rw [r.non hb ht]
  · cases e2
theorem ev_isN {m : Nat} {p2 : Pos} (ha : Ev c a fa) : Ev c (.Compare a [.Is] [.Constant .none m p2] pos) (fIsN false fa) := by
  obtain ⟨ta, pa, sa⟩ := ha
  refine ⟨_, fun j => pe_cmp (pc_isN (pa j)) rfl, ?_⟩
  intro b F ρ σ X H τ Q S e k
  obtain ⟨t, e1, e⟩ := Option.bind_eq_some_iff.mp e
  refine sa b F ρ σ X H t _ S e1 fun v F1 H1 S1 i1 s1 r1 => ?_
  have := isN_out r1 e
  subst this
  rw [Bool.false_xor] at k
  exact (k.mono i1 s1).d S1 rfl
theorem ev_notN {m : Nat} {p2 : Pos} (ha : Ev c a fa) : Ev c (.Compare a [.IsNot] [.Constant .none m p2] pos) (fIsN true fa) := by
  obtain ⟨ta, pa, sa⟩ := ha
  refine ⟨_, fun j => pe_cmp (pc_notN (pa j)) rfl, ?_⟩
  intro b F ρ σ X H τ Q S e k
  obtain ⟨t, e1, e⟩ := Option.bind_eq_some_iff.mp e
  refine sa b F ρ σ X H t _ S e1 fun v F1 H1 S1 i1 s1 r1 => ?_
  have := isN_out r1 e
  subst this
  rw [Bool.true_xor] at k
  exact (k.mono i1 s1).d S1 rfl

/-- [ ] -/
theorem ev_ix (ha : Ev c a fa) (hb : Ev c e' fb) (hs : PlainIx e' := by exact fun _ _ => rfl) : Ev c (.Subscript a e' pos) (f2 gIx fa fb) := by
  obtain ⟨ta, pa, sa⟩ := ha
  obtain ⟨tb, pb, sb⟩ := hb
  refine ⟨_, fun j => pe_ix (by have h := ix_U (X := c.X j) (c.hu1 j); rw [c.hK j] at h; exact h) (pa j) (pb j) hs, sv_2 sa sb s2_ix⟩
/-- slices -/
def cutD {α : Type} (xs : List α) (lo hi : Option Int) : List α := (xs.drop (HT.sIx xs.length 0 lo)).take (HT.sIx xs.length xs.length hi - HT.sIx xs.length 0 lo)
def gSl (t : T) (lo hi : Option Int) : Option T := match t.ls? with
  | some ds => some (.f (.lst (cutD ds lo hi)))
  | none => match t.s? with
    | some z => if z.length ≤ sizeLine then some (.f (.str (cutS z lo hi))) else none
    | none => match t.ts? with
      | some ds => if HT.sIx ds.length 0 lo = 0 ∧ HT.sIx ds.length ds.length hi = ds.length then none else some (.f (.tup (cutD ds lo hi)))
      | none => none
def rSlU (K : PySem.W.Frag) : V → Option Int → Option Int → Hp → VK → Prop := fun x lo hi H Q => rSlL K x lo hi H Q ∨ rSlS x lo hi H Q ∨ rSlT K x lo hi H Q
theorem sl_U {X : Cx} : SlR X (rSlU X.K) := sl_list.or (sl_str.or sl_tup)
theorem Reps.cut {W : Wd} {F : Hp} {ds : List D} {vs : List V} {lo hi : Option Int} (r : Reps W F ds vs) : Reps W F (cutD ds lo hi) (cutV vs lo hi) := by
  unfold cutD cutV
  rw [r.len]
  exact (r.drop _).take _
theorem gSl_ok {W : Wd} {b : Bs} {F : Hp} {ρ : List T} {σ : St} {X : List Tm} {H : Hp} {t τ : T} {x : V} {lo hi : Option Int} {Q : VK} (S : SR W b F ρ σ X H) (r : RelV W F H t x) (e : gSl t lo hi = some τ) (k : Kp W b F ρ σ X H τ Q) : rSlU W.K x lo hi H Q := by
  unfold gSl at e
  split at e
  · rename_i ds h
    cases e
    obtain ⟨p, vs, ex, hs, q⟩ := r.ls h S.le
    exact .inl ⟨p, vs, ex, hs, k.lst S q.cut⟩
  · split at e
    · rename_i z h
      split at e
      · rename_i hz
        cases e
        exact .inr (.inl ⟨z, r.str h, hz, k.d S rfl⟩)
      · cases e
    · split at e
      · rename_i ds h
        split at e
        · cases e
        · rename_i hw
          cases e
          obtain ⟨p, vs, ex, hs, q⟩ := r.ts h S.le
          exact .inr (.inr ⟨p, vs, ex, hs, by rw [← q.len]; exact hw, k.tup S q.cut⟩)
      · cases e
def fSl (fa : List T → Option T) (fl fh : Option (List T → Option T)) : List T → Option T := fun ρ => (fa ρ).bind fun t => match fl, fh with
  | none, none => gSl t none none
  | some l, none => (l ρ).bind fun x => x.i?.bind fun i => gSl t (some i) none
  | none, some h => (h ρ).bind fun x => x.i?.bind fun i => gSl t none (some i)
  | some l, some h => (l ρ).bind fun x => x.i?.bind fun i => (h ρ).bind fun y => y.i?.bind fun j => gSl t (some i) (some j)
theorem slj {c : Ctx} (j : c.J) : SlR (c.X j) (rSlU c.W.K) := by have h := sl_U (X := c.X j); rw [c.hK j] at h; exact h
theorem ev_sl00 {p2 : Pos} (ha : Ev c a fa) : Ev c (.Subscript a (.Slice none none none p2) pos) (fSl fa none none) := by
  obtain ⟨ta, pa, sa⟩ := ha
  refine ⟨_, fun j => pe_slice (slj j) (pa j) po_none po_none, ?_⟩
  intro b F ρ σ X H τ Q S e k
  obtain ⟨t, e1, e⟩ := Option.bind_eq_some_iff.mp e
  exact sa b F ρ σ X H t _ S e1 fun v F1 H1 S1 i1 s1 r1 => gSl_ok S1 r1 e (k.mono i1 s1)
theorem ev_sl10 {p2 : Pos} {l : Expr} {fl : List T → Option T} (ha : Ev c a fa) (hl : Ev c l fl) : Ev c (.Subscript a (.Slice (some l) none none p2) pos) (fSl fa (some fl) none) := by
  obtain ⟨ta, pa, sa⟩ := ha
  obtain ⟨tl, pl, sl⟩ := hl
  refine ⟨_, fun j => pe_slice (slj j) (pa j) (po_some (pl j)) po_none, ?_⟩
  intro b F ρ σ X H τ Q S e k
  obtain ⟨t, e1, e⟩ := Option.bind_eq_some_iff.mp e
  obtain ⟨x, e2, e⟩ := Option.bind_eq_some_iff.mp e
  obtain ⟨i, e3, e⟩ := Option.bind_eq_some_iff.mp e
  refine sa b F ρ σ X H t _ S e1 fun v F1 H1 S1 i1 s1 r1 => ?_
  refine sl b F1 ρ σ X H1 x _ S1 e2 fun v2 F2 H2 S2 i2 s2 r2 => ⟨i, r2.int e3, ?_⟩
  exact gSl_ok S2 (r1.ext i2 s2) e (k.mono (i1.trans i2) (s1.trans s2))
theorem ev_sl01 {p2 : Pos} {l : Expr} {fl : List T → Option T} (ha : Ev c a fa) (hl : Ev c l fl) : Ev c (.Subscript a (.Slice none (some l) none p2) pos) (fSl fa none (some fl)) := by
  obtain ⟨ta, pa, sa⟩ := ha
  obtain ⟨tl, pl, sl⟩ := hl
  refine ⟨_, fun j => pe_slice (slj j) (pa j) po_none (po_some (pl j)), ?_⟩
  intro b F ρ σ X H τ Q S e k
  obtain ⟨t, e1, e⟩ := Option.bind_eq_some_iff.mp e
  obtain ⟨x, e2, e⟩ := Option.bind_eq_some_iff.mp e
  obtain ⟨i, e3, e⟩ := Option.bind_eq_some_iff.mp e
  refine sa b F ρ σ X H t _ S e1 fun v F1 H1 S1 i1 s1 r1 => ?_
  refine sl b F1 ρ σ X H1 x _ S1 e2 fun v2 F2 H2 S2 i2 s2 r2 => ⟨i, r2.int e3, ?_⟩
  exact gSl_ok S2 (r1.ext i2 s2) e (k.mono (i1.trans i2) (s1.trans s2))
theorem ev_sl11 {p2 : Pos} {l h : Expr} {fl fh : List T → Option T} (ha : Ev c a fa) (hl : Ev c l fl) (hh : Ev c h fh) : Ev c (.Subscript a (.Slice (some l) (some h) none p2) pos) (fSl fa (some fl) (some fh)) := by
  obtain ⟨ta, pa, sa⟩ := ha
  obtain ⟨tl, pl, sl⟩ := hl
  obtain ⟨th, ph, sh⟩ := hh
  refine ⟨_, fun j => pe_slice (slj j) (pa j) (po_some (pl j)) (po_some (ph j)), ?_⟩
  intro b F ρ σ X H τ Q S e k
  obtain ⟨t, e1, e⟩ := Option.bind_eq_some_iff.mp e
  obtain ⟨x, e2, e⟩ := Option.bind_eq_some_iff.mp e
  obtain ⟨i, e3, e⟩ := Option.bind_eq_some_iff.mp e
  obtain ⟨y, e4, e⟩ := Option.bind_eq_some_iff.mp e
  obtain ⟨m, e5, e⟩ := Option.bind_eq_some_iff.mp e
  refine sa b F ρ σ X H t _ S e1 fun v F1 H1 S1 i1 s1 r1 => ?_
  refine sl b F1 ρ σ X H1 x _ S1 e2 fun v2 F2 H2 S2 i2 s2 r2 => ⟨i, r2.int e3, ?_⟩
  refine sh b F2 ρ σ X H2 y _ S2 e4 fun v3 F3 H3 S3 i3 s3 r3 => ⟨m, r3.int e5, ?_⟩
  exact gSl_ok S3 ((r1.ext i2 s2).ext i3 s3) e (k.mono (i1.trans (i2.trans i3)) (s1.trans (s2.trans s3)))
end

/-! ### builtins by values -/
section
variable {W : Wd}
theorem rv1 {F H : Hp} {t : T} {xs : List V} (r : RelVs W F H [t] xs) : ∃ x, xs = [x] ∧ RelV W F H t x := by
  obtain ⟨v, vr, e, a, b⟩ := r.inv
  rw [b.inv0] at e
  exact ⟨v, e, a⟩
theorem rv2 {F H : Hp} {t u : T} {xs : List V} (r : RelVs W F H [t, u] xs) : ∃ x y, xs = [x, y] ∧ RelV W F H t x ∧ RelV W F H u y := by
  obtain ⟨v, vr, e, a, b⟩ := r.inv
  obtain ⟨y, e2, q⟩ := rv1 b
  subst e2
  exact ⟨v, y, e, a, q⟩
def gLen (ts : List T) : Option T := match ts with
  | [t] => match t with
    | .ll us => some (.f (.int us.length))
    | .tu us => some (.f (.int us.length))
    | t => match t.sq? with
      | some ds => some (.f (.int ds.length))
      | none => match t.s? with
        | some z => if z.length ≤ sizeLine then some (.f (.int z.length)) else none
        | none => match t.dk? with
          | some p => some (.f (.int p.1.length))
          | none => none
  | _ => none
def rLenU (K : PySem.W.Frag) : List V → Hp → VK → Prop := fun xs H Q => (∃ x n, xs = [x] ∧ LenV K x H n ∧ Q (.int n) H) ∨ ∃ a kvs, xs = [V.ref a] ∧ Rd H a (.dK kvs) ∧ Q (.int kvs.length) H
theorem call_lenU {X : Cx} : CallR X (.builtin "len") (rLenU X.K) := CallR_or call_len (by
  intro pins s σ H xs us Q I r h
  obtain ⟨a, kvs, rfl, ha, q⟩ := h
  obtain ⟨u, rfl, ru⟩ := vals1 r
  cases ru
  exact d_len I ha fun t s' I' => ⟨.int kvs.length, H, I', ⟨t, rfl⟩, q⟩)
theorem sn_len : Sn W (rLenU W.K) gLen := by
  intro b F ρ σ X H ts τ xs Q S r e k
  match ts, e with
  | [t], e =>
    obtain ⟨x, rfl, r1⟩ := rv1 r
    have main : ∀ t' : T, t' = t → (match t'.sq? with | some ds => some (T.f (.int ds.length)) | none => match t'.s? with | some z => if z.length ≤ sizeLine then some (T.f (.int z.length)) else none | none => match t'.dk? with | some p => some (T.f (.int p.1.length)) | none => none) = some τ → rLenU W.K [x] H Q := by
      intro t' et ee
      subst et
      split at ee
      · rename_i ds h
        cases ee
        obtain ⟨p, vs, ex, hs, q⟩ := r1.sq h S.le
        subst ex
        refine .inl ⟨_, vs.length, rfl, ?_, by rw [← q.len]; exact k.d S rfl⟩
        rcases hs with hs | hs
        · exact .inl ⟨vs, hs, rfl⟩
        · exact .inr ⟨vs, hs, rfl⟩
      · split at ee
        · rename_i z h
          split at ee
          · rename_i hz
            cases ee
            rw [r1.str h]
            exact .inl ⟨_, z.length, rfl, ⟨hz, rfl⟩, k.d S rfl⟩
          · cases ee
        · split at ee
          · rename_i p h
            cases ee
            obtain ⟨ks, ds⟩ := p
            obtain ⟨a, kvs, ex, hs, hk, q⟩ := r1.dk h S.le
            subst ex hk
            refine .inr ⟨a, kvs, rfl, hs, ?_⟩
            have h2 : Rep W F (.int ((kvs.map (·.1)).length : Nat)) (.int (kvs.length : Nat)) := by
              rw [List.length_map]
              rfl
            exact k.d S h2
          · cases ee
    cases t with
    | ll us =>
      cases e
      obtain ⟨fp, p, vs, fps, ex, _, hs, q⟩ := r1
      subst ex
      exact .inl ⟨_, vs.length, rfl, .inl ⟨vs, .inl (.inl hs), rfl⟩, by rw [← q.len.1]; exact k.d S rfl⟩
    | tu us =>
      cases e
      obtain ⟨fp, p, vs, fps, ex, _, hs, q⟩ := r1
      subst ex
      exact .inl ⟨_, vs.length, rfl, .inr ⟨vs, .inl (.inl hs), rfl⟩, by rw [← q.len.1]; exact k.d S rfl⟩
    | un => exact main _ rfl e
    | f d => exact main _ rfl e
    | l ds => exact main _ rfl e
    | dk ks ds => exact main _ rfl e
    | di ks ds => exact main _ rfl e
    | o C ns us => exact main _ rfl e
def gInt1 (ts : List T) : Option T := match ts with
  | [t] => match t.i? with
    | some i => some (.f (.int i))
    | none => match t.b? with
      | some b => some (.f (.int (if b = true then 1 else 0)))
      | none => none
  | _ => none
theorem sn_int1 : Sn W (fun xs H Q => (∃ i, xs = [.int i] ∧ Q (.int i) H) ∨ ∃ k, xs = [.bl k] ∧ Q (.int (if k then 1 else 0)) H) gInt1 := by
  intro b F ρ σ X H ts τ xs Q S r e k
  match ts, e with
  | [t], e =>
    obtain ⟨x, rfl, r1⟩ := rv1 r
    simp only [gInt1] at e
    split at e
    · rename_i i h
      cases e
      exact .inl ⟨i, by rw [r1.int h], k.d S rfl⟩
    · split at e
      · rename_i i h
        cases e
        exact .inr ⟨i, by rw [r1.bl h], k.d S rfl⟩
      · cases e
def gMax2 (ts : List T) : Option T := match ts with
  | [t, u] => t.i?.bind fun i => u.i?.bind fun j => some (.f (.int (if j > i then j else i)))
  | _ => none
def gMin2 (ts : List T) : Option T := match ts with
  | [t, u] => t.i?.bind fun i => u.i?.bind fun j => some (.f (.int (if j < i then j else i)))
  | _ => none
theorem sn_max2 : Sn W (fun xs H Q => ∃ i j, xs = [.int i, .int j] ∧ Q (.int (if j > i then j else i)) H) gMax2 := by
  intro b F ρ σ X H ts τ xs Q S r e k
  match ts, e with
  | [t, u], e =>
    obtain ⟨x, y, rfl, r1, r2⟩ := rv2 r
    obtain ⟨i, e1, e⟩ := Option.bind_eq_some_iff.mp e
    obtain ⟨j, e2, e⟩ := Option.bind_eq_some_iff.mp e
    cases e
    exact ⟨i, j, by rw [r1.int e1, r2.int e2], k.d S rfl⟩
theorem sn_min2 : Sn W (fun xs H Q => ∃ i j, xs = [.int i, .int j] ∧ Q (.int (if j < i then j else i)) H) gMin2 := by
  intro b F ρ σ X H ts τ xs Q S r e k
  match ts, e with
  | [t, u], e =>
    obtain ⟨x, y, rfl, r1, r2⟩ := rv2 r
    obtain ⟨i, e1, e⟩ := Option.bind_eq_some_iff.mp e
    obtain ⟨j, e2, e⟩ := Option.bind_eq_some_iff.mp e
    cases e
    exact ⟨i, j, by rw [r1.int e1, r2.int e2], k.d S rfl⟩
def gAbs (ts : List T) : Option T := match ts with
  | [t] => t.i?.bind fun i => some (.f (.int (if i < 0 then -i else i)))
  | _ => none
theorem sn_abs : Sn W (fun xs H Q => ∃ i, xs = [.int i] ∧ Q (.int (if i < 0 then -i else i)) H) gAbs := by
  intro b F ρ σ X H ts τ xs Q S r e k
  match ts, e with
  | [t], e =>
    obtain ⟨x, rfl, r1⟩ := rv1 r
    obtain ⟨i, e1, e⟩ := Option.bind_eq_some_iff.mp e
    cases e
    exact ⟨i, by rw [r1.int e1], k.d S rfl⟩
def intsOf : List D → Option (List Int)
  | [] => some []
  | .int i :: ds => (intsOf ds).map fun r => i :: r
  | _ :: _ => none
theorem intsOf_eq : ∀ {ds : List D} {ns : List Int}, intsOf ds = some ns → ds = ns.map .int
  | [], _, e => by cases e; rfl
  | .int i :: ds, _, e => by
    obtain ⟨r, e1, e⟩ := Option.map_eq_some_iff.mp (show (intsOf ds).map _ = _ from e)
    subst e
    rw [intsOf_eq e1]
    rfl
def gSum (ts : List T) : Option T := match ts with
  | [t] => t.ls?.bind fun ds => (intsOf ds).map fun ns => .f (.int ns.sum)
  | _ => none
theorem sn_sum : Sn W (rSum W.K) gSum := by
  intro b F ρ σ X H ts τ xs Q S r e k
  match ts, e with
  | [t], e =>
    obtain ⟨x, rfl, r1⟩ := rv1 r
    obtain ⟨ds, e1, e⟩ := Option.bind_eq_some_iff.mp e
    obtain ⟨ns, e2, e⟩ := Option.map_eq_some_iff.mp e
    subst e
    obtain ⟨p, vs, ex, hs, q⟩ := r1.ls e1 S.le
    rw [intsOf_eq e2] at q
    rw [q.ints] at hs
    subst ex
    exact ⟨p, ns, rfl, hs, k.d S rfl⟩
def blsOf : List D → Option (List Bool)
  | [] => some []
  | .bl i :: ds => (blsOf ds).map fun r => i :: r
  | _ :: _ => none
theorem blsOf_eq : ∀ {ds : List D} {ns : List Bool}, blsOf ds = some ns → ds = ns.map .bl
  | [], _, e => by cases e; rfl
  | .bl i :: ds, _, e => by
    obtain ⟨r, e1, e⟩ := Option.map_eq_some_iff.mp (show (blsOf ds).map _ = _ from e)
    subst e
    rw [blsOf_eq e1]
    rfl
def gAll (ts : List T) : Option T := match ts with
  | [t] => t.ls?.bind fun ds => (blsOf ds).map fun ns => .f (.bl (ns.all id))
  | _ => none
theorem sn_all : Sn W (rAll W.K) gAll := by
  intro b F ρ σ X H ts τ xs Q S r e k
  match ts, e with
  | [t], e =>
    obtain ⟨x, rfl, r1⟩ := rv1 r
    obtain ⟨ds, e1, e⟩ := Option.bind_eq_some_iff.mp e
    obtain ⟨ns, e2, e⟩ := Option.map_eq_some_iff.mp e
    subst e
    obtain ⟨p, vs, ex, hs, q⟩ := r1.ls e1 S.le
    rw [blsOf_eq e2] at q
    rw [q.bls] at hs
    subst ex
    exact ⟨p, ns, rfl, hs, k.d S rfl⟩
/-- str -/
def gStr (ts : List T) : Option T := match ts with
  | [t] => match t.i? with
    | some i => if i.natAbs.log2 < 1920 then some (.f (.str (toString i))) else none
    | none => match t.s? with
      | some z => some (.f (.str z))
      | none => none
  | _ => none
theorem sn_str : Sn W (fun xs H Q => (∃ i : Int, xs = [.int i] ∧ i.natAbs.log2 < 1920 ∧ Q (.str (toString i)) H) ∨ ∃ a, xs = [.str a] ∧ Q (.str a) H) gStr := by
  intro b F ρ σ X H ts τ xs Q S r e k
  match ts, e with
  | [t], e =>
    obtain ⟨x, rfl, r1⟩ := rv1 r
    simp only [gStr] at e
    split at e
    · rename_i i h
      split at e
      · rename_i hz
        cases e
        exact .inl ⟨i, by rw [r1.int h], hz, k.d S rfl⟩
      · cases e
    · split at e
      · rename_i z h
        cases e
        exact .inr ⟨z, by rw [r1.str h], k.d S rfl⟩
      · cases e
/-- list(x), tuple(x) -/
def gList (ts : List T) : Option T := match ts with
  | [t] => t.sq?.map fun ds => .f (.lst ds)
  | _ => none
theorem sn_list : Sn W (fun xs H Q => ∃ p ys, xs = [.ref p] ∧ (SqL W.K H p ys ∨ SqT W.K H p ys) ∧ ∀ l, H l = none → Q (.ref l) (upd H l (.lst ys))) gList := by
  intro b F ρ σ X H ts τ xs Q S r e k
  match ts, e with
  | [t], e =>
    obtain ⟨x, rfl, r1⟩ := rv1 r
    obtain ⟨ds, e1, e⟩ := Option.map_eq_some_iff.mp e
    subst e
    obtain ⟨p, vs, ex, hs, q⟩ := r1.sq e1 S.le
    subst ex
    exact ⟨p, vs, rfl, hs, k.lst S q⟩
def gTuple (ts : List T) : Option T := match ts with
  | [t] => match t.ls? with
    | some ds => some (.f (.tup ds))
    | none => t.ts?.map fun ds => .f (.tup ds)
  | _ => none
theorem sn_tuple : Sn W (fun xs H Q => ∃ p ys, xs = [.ref p] ∧ ((SqL W.K H p ys ∧ ∀ l, H l = none → Q (.ref l) (upd H l (.tup ys))) ∨ (SqT W.K H p ys ∧ Q (.ref p) H))) gTuple := by
  intro b F ρ σ X H ts τ xs Q S r e k
  match ts, e with
  | [t], e =>
    obtain ⟨x, rfl, r1⟩ := rv1 r
    simp only [gTuple] at e
    split at e
    · rename_i ds h
      cases e
      obtain ⟨p, vs, ex, hs, q⟩ := r1.ls h S.le
      subst ex
      exact ⟨p, vs, rfl, .inl ⟨hs, k.tup S q⟩⟩
    · obtain ⟨ds, e1, e⟩ := Option.map_eq_some_iff.mp e
      subst e
      obtain ⟨p, vs, ex, hs, q⟩ := r1.ts e1 S.le
      subst ex
      refine ⟨p, vs, rfl, .inr ⟨hs, k.here S ?_⟩⟩
      cases t with
      | f d => cases d with
        | tup l => cases e1; exact r1
        | _ => cases e1
      | _ => cases e1
/-- isinstance(x, T) -/
def T.ty : T → Option String
  | .f .non => some "NoneType" | .f (.bl _) => some "bool" | .f (.int _) => some "int" | .f (.str _) => some "str"
  | .l _ => some "list" | .ll _ => some "list" | .tu _ => some "tuple" | .dk _ _ => some "dict"
  | .f (.lst _) => some "list" | .f (.tup _) => some "tuple" | .f (.dct _ _) => some "dict" | _ => none
theorem RelV.ty {F H : Hp} {t : T} {v : V} {n : String} (r : RelV W F H t v) (h : t.ty = some n) (le : Le F H) : TyX W.K H v (.type n) := by
  cases t with
  | f d => cases d with
    | non => cases h; rw [show v = V.non from r.rep]; exact .base .non
    | bl b => cases h; rw [show v = V.bl b from r.rep]; exact .base (.bl b)
    | int b => cases h; rw [show v = V.int b from r.rep]; exact .base (.int b)
    | str b => cases h; rw [show v = V.str b from r.rep]; exact .base (.str b)
    | lst l =>
      cases h
      obtain ⟨p, vs, ex, hs, q⟩ := r.rep
      subst ex
      rcases SqL.le le hs with (e | ⟨o, e⟩) | ⟨o, its, n, e, hc, _⟩
      · exact .base (.lst e)
      · exact .base (.frz e)
      · exact .kList e hc
    | tup l =>
      cases h
      obtain ⟨p, vs, ex, hs, q⟩ := r.rep
      subst ex
      rcases SqT.le le hs with (e | ⟨o, e⟩) | ⟨o, its, n, e, hc, _⟩
      · exact .base (.tup e)
      · exact .fTuple e
      · exact .kTuple e hc
    | dct ks l =>
      cases h
      obtain ⟨p, vs, ex, hs, q⟩ := r.rep
      subst ex
      rcases Rd.le le hs with e | ⟨o, e⟩
      · exact .base (.dK e)
      · exact .fDict e
    | obj _ _ _ => cases h
  | l ds => cases h; obtain ⟨fp, p, vs, ex, _, hs, q⟩ := r; subst ex; exact .base (.lst hs)
  | ll ds => cases h; obtain ⟨fp, p, vs, _, ex, _, hs, q⟩ := r; subst ex; exact .base (.lst hs)
  | tu ds => cases h; obtain ⟨fp, p, vs, _, ex, _, hs, q⟩ := r; subst ex; exact .base (.tup hs)
  | dk ks ds => cases h; obtain ⟨fp, p, vs, ex, _, hs, q⟩ := r; subst ex; exact .base (.dK hs)
  | un => cases h
  | di _ _ => cases h
  | o _ _ _ => cases h
def fIsi (n : String) (fa : List T → Option T) : List T → Option T := fun ρ => (fa ρ).bind fun t => t.ty.bind fun m => (kitB m n).map fun b => .f (.bl b)
end
section
variable {c : Ctx} {a e' : Expr} {es : List Expr} {fa fb : List T → Option T} {fs : List T → Option (List T)} {pos : Pos} {p : Pos}
theorem ev_isi {n : String} {x : Str} {p2 : Pos} (hg : ∀ j, Gl (c.X j) "isinstance") (hm : ∀ j, (c.X j).mg "isinstance" = none) (ha : Ev c a fa) (hg2 : ∀ j, Gl (c.X j) x) (hm2 : ∀ j, (c.X j).mg x = none) (hv : bootBuiltins x = some (.type n)) (hn : x ≠ "__name__" := by decide) (hdb : (x == ("__debug__" : Str)) = false := by decide)
    (he : ∀ j, starEach [a, .Name x p2] (c.X j).env = (false, eval a (c.X j).env) :: starEach [.Name x p2] (c.X j).env := by intro _; rfl) (he2 : ∀ j, starEach [.Name x p2] (c.X j).env = (false, eval (.Name x p2) (c.X j).env) :: starEach [] (c.X j).env := by intro _; rfl) (hpl : ∀ j, (backTo pos (starEach [.Name x p2] (c.X j).env)).any (·.1) = false := by intro _; rfl) :
    Ev c (.Call (.Name "isinstance" p) [a, .Name x p2] [] pos) (fIsi n fa) := by
  obtain ⟨t, q, s⟩ := ha
  refine ⟨tCB (rIsi c.W.K) (tCons t (tCons (tC (.ty n)) tNil)), fun j => ?_, ?_⟩
  · have h := pe_callB (p := p) (pos := pos) (call_isi (X := c.X j)) (hg j) (hm j) (by decide +kernel) (pa_cons (q j) (pa_cons (pe_bltn (v := .ty n) (pos := p2) (hg2 j) (hm2 j) hv rfl hn hdb) pa_nil (he2 j)) (he j)) (by decide) (by decide) (he j) (hpl j)
    rw [c.hK j] at h
    exact h
  intro b F ρ σ X H τ Q S e k
  obtain ⟨t1, e1, e⟩ := Option.bind_eq_some_iff.mp e
  obtain ⟨m, e2, e⟩ := Option.bind_eq_some_iff.mp e
  obtain ⟨r, e3, e⟩ := Option.map_eq_some_iff.mp e
  subst e
  refine s b F ρ σ X H t1 _ S e1 fun v F1 H1 S1 i1 s1 r1 => ?_
  exact ⟨v, _, _, _, r, rfl, .ty n, r1.ty e2 S1.le, kit_ty e3, (k.mono i1 s1).d S1 rfl⟩
end
end Z

namespace Z
open PySem PySem.Spec PyProof.Rows L2

/-! ### what is walked -/
def IvR (X : Cx) (tg : Expr) (r : V → Hp → (It → Hp → Prop) → Prop) : Prop :=
  ∀ (pins : List (Addr × Obj)) (s : Shared) (σ : L2.St) (H : Hp) (x : V) (v : Value) (R : It → Hp → Prop), Inv X pins σ H s → L2.RelV x v → r x H R → wpAny (model X.prog X.w) X.A (pyIter v) (PIE X pins σ tg R) X.xe s
theorem pi_of {X : Cx} {tg e : Expr} {t : TE} {r : V → Hp → (It → Hp → Prop) → Prop} (he : PE X e t) (hr : IvR X tg r) : PI X tg e (fun σ H R => t σ H fun x H1 => r x H1 R) := by
  refine ⟨fun pins s σ H R I h => ?_⟩
  exact thn (he.run pins s σ H _ I h) fun v s1 ⟨x, H1, I1, r1, q1⟩ => hr pins s1 σ H1 x v R I1 r1 q1
def rivL (K : PySem.W.Frag) : V → Hp → (It → Hp → Prop) → Prop := fun x H R => ∃ a, x = .ref a ∧ (∃ xs, SqL K H a xs) ∧ R (Itl K a) H
def rivT (K : PySem.W.Frag) : V → Hp → (It → Hp → Prop) → Prop := fun x H R => ∃ a, x = .ref a ∧ (∃ xs, SqT K H a xs) ∧ R (Itt K a) H
def rivS : V → Hp → (It → Hp → Prop) → Prop := fun v H R => ∃ x, v = .str x ∧ R (Its x) H
theorem iv_list {X : Cx} {tg : Expr} : IvR X tg (rivL X.K) := by
  intro pins s1 σ H1 x v R I1 r1 q1
  obtain ⟨a, e, ⟨xs, hq⟩, q⟩ := q1
  subst e
  cases r1
  obtain ⟨its, rv, p, hz⟩ := I1.list hq
  refine wpAny_pyIter_list p.isList ?_
  refine ⟨s1.heap.objs.size, [s1.heap.objs.size], _, _, H1, rfl, I1.kept (t' := s1.toks) fun b o e => Heap.get?_push_of_some _ e, turn_list a _, ⟨_, Heap.get?_push_size _ rfl, rfl, rfl⟩, fun b hb => ?_, q⟩
  have e : b = s1.heap.objs.size := by simpa using hb
  subst e
  exact I1.fpOk (Nat.le_refl _) (I1.hok.fresh (Nat.le_refl _))
theorem iv_tup {X : Cx} {tg : Expr} : IvR X tg (rivT X.K) := by
  intro pins s1 σ H1 x v R I1 r1 q1
  obtain ⟨a, e, ⟨xs, hq⟩, q⟩ := q1
  subst e
  cases r1
  obtain ⟨its, rv, p, hz⟩ := I1.tuple hq
  refine wpAny_pyIter_tuple (show s1.heap.IsTuple a its.toArray from p) ?_
  refine ⟨s1.heap.objs.size, [s1.heap.objs.size], _, _, H1, rfl, I1.kept (t' := s1.toks) fun b o e => Heap.get?_push_of_some _ e, turn_tuple a _, ⟨_, Heap.get?_push_size _ rfl, rfl, rfl⟩, fun b hb => ?_, q⟩
  have e : b = s1.heap.objs.size := by simpa using hb
  subst e
  exact I1.fpOk (Nat.le_refl _) (I1.hok.fresh (Nat.le_refl _))
theorem iv_str {X : Cx} {tg : Expr} : IvR X tg rivS := by
  intro pins s1 σ H1 y v R I1 r1 q1
  obtain ⟨x, ex, q⟩ := q1
  subst ex
  obtain ⟨t, rfl⟩ := r1
  cases ha : x.cps.all (· < 128)
  · exact wpAny_pyIter_wide ha (pi_one (tk := s1.toks) I1 _ (turn_str _ x t "str_iterator" (.inr rfl)) ⟨_, Heap.get?_push_size _ rfl, rfl, rfl⟩ q)
  · exact wpAny_pyIter_ascii ha (pi_one (tk := s1.toks) I1 _ (turn_str _ x t "str_ascii_iterator" (.inl rfl)) ⟨_, Heap.get?_push_size _ rfl, rfl, rfl⟩ q)
def rivU (K : PySem.W.Frag) : V → Hp → (It → Hp → Prop) → Prop := fun x H R => rivL K x H R ∨ rivT K x H R ∨ rivS x H R
theorem iv_U {X : Cx} {tg : Expr} : IvR X tg (rivU X.K) := by
  intro pins s σ H x v R I r q
  rcases q with q | q | q
  · exact iv_list pins s σ H x v R I r q
  · exact iv_tup pins s σ H x v R I r q
  · exact iv_str pins s σ H x v R I r q
def signs (x : Str) : List D := x.cps.toList.map fun c => .str ⟨#[c]⟩
def D.its : D → Option (List D) | .lst ds => some ds | .tup ds => some ds | .str x => some (signs x) | _ => none
section
variable {W : Wd} {F : Hp}
theorem wk_list {a : Addr} {ds : List D} {vs : List V} (hs : SqL W.K F a vs) (r : Reps W F ds vs) : Wk W F (Itl W.K a) ds where
  go := fun i G H i1 le h => by
    obtain ⟨v, e, _⟩ := r.get (List.getElem?_eq_getElem h)
    exact ⟨vs, v, SqL.le (i1.le le) hs, e⟩
  stop := fun G H i1 le => ⟨vs, SqL.le (i1.le le) hs, by rw [r.len]; exact Nat.le_refl _⟩
  yld := fun i G H x H' d i1 le hd y => by
    obtain ⟨e, y⟩ := y
    obtain ⟨v, e2, q⟩ := r.get hd
    have := y vs (SqL.le (i1.le le) hs)
    rw [e2] at this
    cases this
    exact .inl ⟨e, q.inc i1⟩
theorem wk_tup {a : Addr} {ds : List D} {vs : List V} (hs : SqT W.K F a vs) (r : Reps W F ds vs) : Wk W F (Itt W.K a) ds where
  go := fun i G H i1 le h => by
    obtain ⟨v, e, _⟩ := r.get (List.getElem?_eq_getElem h)
    exact ⟨vs, v, SqT.le (i1.le le) hs, e⟩
  stop := fun G H i1 le => ⟨vs, SqT.le (i1.le le) hs, by rw [r.len]; exact Nat.le_refl _⟩
  yld := fun i G H x H' d i1 le hd y => by
    obtain ⟨e, y⟩ := y
    obtain ⟨v, e2, q⟩ := r.get hd
    have := y vs (SqT.le (i1.le le) hs)
    rw [e2] at this
    cases this
    exact .inl ⟨e, q.inc i1⟩
theorem wk_str {x : Str} : Wk W F (Its x) (signs x) where
  go := fun i G H i1 le h => by
    unfold signs at h
    rw [List.length_map] at h
    exact (by simpa using h : i < x.cps.size)
  stop := fun G H i1 le => by
    show x.cps.size ≤ _
    unfold signs
    rw [List.length_map]
    simp
  yld := fun i G H v H' d i1 le hd y => by
    obtain ⟨e, c, ec, ev⟩ := y
    refine .inl ⟨e, ?_⟩
    unfold signs at hd
    rw [List.getElem?_map] at hd
    have ec' : x.cps.toList[i]? = some c := by simpa using ec
    rw [ec'] at hd
    cases hd
    exact ev
theorem wk_its {x : V} {d : D} {ds : List D} {H : Hp} {R : It → Hp → Prop} (le : Le F H) (r : Rep W F d x) (h : d.its = some ds) (k : ∀ J, Wk W F J ds → R J H) : rivU W.K x H R := by
  cases d with
  | lst l =>
    cases h
    obtain ⟨p, vs, ex, hs, q⟩ := r
    exact .inl ⟨p, ex, ⟨vs, SqL.le le hs⟩, k _ (wk_list hs q)⟩
  | tup l =>
    cases h
    obtain ⟨p, vs, ex, hs, q⟩ := r
    exact .inr (.inl ⟨p, ex, ⟨vs, SqT.le le hs⟩, k _ (wk_tup hs q)⟩)
  | str z =>
    cases h
    exact .inr (.inr ⟨z, r, k _ wk_str⟩)
  | _ => cases h
def rangeD (lo : Int) (n : Nat) : List D := (List.range n).map fun (i : Nat) => .int (lo + (i : Int))
theorem wk_range {lo : Int} {n : Nat} : Wk W F (Itr lo n) (rangeD lo n) where
  go := fun i G H i1 le h => by
    unfold rangeD at h
    rw [List.length_map, List.length_range] at h
    exact h
  stop := fun G H i1 le => by
    show n ≤ _
    unfold rangeD
    rw [List.length_map, List.length_range]
    exact Nat.le_refl _
  yld := fun i G H v H' d i1 le hd y => by
    obtain ⟨e, ev⟩ := y
    refine .inl ⟨e, ?_⟩
    unfold rangeD at hd
    rw [List.getElem?_map] at hd
    obtain ⟨j, ej, hd⟩ := Option.map_eq_some_iff.mp hd
    obtain ⟨hlt, ej⟩ := List.getElem?_eq_some_iff.mp ej
    rw [List.getElem_range] at ej
    subst ej hd
    exact ev
def enumD : Nat → List D → List D
  | _, [] => []
  | i, d :: ds => .tup [.int (i : Int), d] :: enumD (i + 1) ds
theorem enumD_len : ∀ (ds : List D) (i : Nat), (enumD i ds).length = ds.length
  | [], _ => rfl
  | d :: ds, i => by
    show (enumD (i + 1) ds).length + 1 = ds.length + 1
    rw [enumD_len ds]
theorem enumD_get : ∀ (ds : List D) (j i : Nat) (d : D), (enumD j ds)[i]? = some d → ∃ e, ds[i]? = some e ∧ d = .tup [.int ((j + i : Nat) : Int), e]
  | [], _, _, _, h => by simp [enumD] at h
  | x :: ds, j, 0, d, h => by
    have h' : D.tup [.int (j : Int), x] = d := by simpa [enumD] using h
    exact ⟨x, rfl, by rw [← h']; rfl⟩
  | x :: ds, j, i + 1, d, h => by
    have h' : (enumD (j + 1) ds)[i]? = some d := by simpa [enumD] using h
    obtain ⟨e, e1, e2⟩ := enumD_get ds (j + 1) i d h'
    exact ⟨e, by simpa using e1, by rw [e2, show j + 1 + i = j + (i + 1) by omega]⟩
theorem wk_enum {a : Addr} {ds : List D} {vs : List V} (hs : SqL W.K F a vs) (r : Reps W F ds vs) : Wk W F (Ite W.K a) (enumD 0 ds) where
  go := fun i G H i1 le h => by
    rw [enumD_len] at h
    obtain ⟨v, e, _⟩ := r.get (List.getElem?_eq_getElem h)
    exact ⟨vs, v, SqL.le (i1.le le) hs, e⟩
  stop := fun G H i1 le => ⟨vs, SqL.le (i1.le le) hs, by rw [enumD_len, r.len]; exact Nat.le_refl _⟩
  yld := fun i G H x H' d i1 le hd y => by
    obtain ⟨p, z, ex, hp, eH, y⟩ := y
    obtain ⟨e, e1, e2⟩ := enumD_get ds 0 i d hd
    obtain ⟨v, e3, q⟩ := r.get e1
    have := y vs (SqL.le (i1.le le) hs)
    rw [e3] at this
    cases this
    refine .inr ⟨p, _, hp, eH, ex, fun i2 => ?_⟩
    subst e2
    refine ⟨p, _, rfl, .inl (.inl upd_same), _, _, rfl, ?_, _, _, rfl, (q.inc i1).inc i2, rfl⟩
    show V.int _ = V.int _
    rw [Nat.zero_add]
def zipD : List D → List D → List D
  | a :: as, b :: bs => .tup [a, b] :: zipD as bs
  | _, _ => []
theorem zipD_get : ∀ (as bs : List D) (i : Nat) (d : D), (zipD as bs)[i]? = some d → ∃ a b, as[i]? = some a ∧ bs[i]? = some b ∧ d = .tup [a, b]
  | [], _, _, _, h => by simp [zipD] at h
  | _ :: _, [], _, _, h => by simp [zipD] at h
  | a :: as, b :: bs, 0, d, h => ⟨a, b, rfl, rfl, by simpa [zipD] using h.symm⟩
  | a :: as, b :: bs, i + 1, d, h => by
    obtain ⟨x, y, e1, e2, e3⟩ := zipD_get as bs i d (by simpa [zipD] using h)
    exact ⟨x, y, by simpa using e1, by simpa using e2, e3⟩
theorem zipD_len : ∀ (as bs : List D), (zipD as bs).length = min as.length bs.length
  | [], _ => by simp [zipD]
  | _ :: _, [] => by simp [zipD]
  | a :: as, b :: bs => by
    show (zipD as bs).length + 1 = _
    rw [zipD_len as bs]
    simp only [List.length_cons]
    omega
theorem wk_zip {a a2 : Addr} {ds es : List D} {vs us : List V} (hs : SqL W.K F a vs) (r : Reps W F ds vs) (hs2 : SqL W.K F a2 us) (r2 : Reps W F es us) : Wk W F (Itz W.K a a2) (zipD ds es) where
  go := fun i G H i1 le h => by
    rw [zipD_len] at h
    obtain ⟨v, e, _⟩ := r.get (List.getElem?_eq_getElem (show i < ds.length by omega))
    obtain ⟨u, e2, _⟩ := r2.get (List.getElem?_eq_getElem (show i < es.length by omega))
    exact ⟨vs, us, v, u, SqL.le (i1.le le) hs, SqL.le (i1.le le) hs2, e, e2⟩
  stop := fun G H i1 le => ⟨vs, us, SqL.le (i1.le le) hs, SqL.le (i1.le le) hs2, by rw [zipD_len, ← r.len, ← r2.len]; omega⟩
  yld := fun i G H x H' d i1 le hd y => by
    obtain ⟨p, z, z2, ex, hp, eH, y, y2⟩ := y
    obtain ⟨e, e', e1, e2, e3⟩ := zipD_get ds es i d hd
    obtain ⟨v, h1, q⟩ := r.get e1
    obtain ⟨u, h2, q2⟩ := r2.get e2
    have t1 := y vs (SqL.le (i1.le le) hs)
    have t2 := y2 us (SqL.le (i1.le le) hs2)
    rw [h1] at t1
    rw [h2] at t2
    cases t1
    cases t2
    refine .inr ⟨p, _, hp, eH, ex, fun i2 => ?_⟩
    subst e3
    exact ⟨p, _, rfl, .inl (.inl upd_same), _, _, rfl, (q.inc i1).inc i2, _, _, rfl, (q2.inc i1).inc i2, rfl⟩
theorem wk_rev {a : Addr} {ds : List D} {vs : List V} (hs : SqL W.K F a vs) (r : Reps W F ds vs) : Wk W F (Itv W.K a vs.length) ds.reverse where
  go := fun i G H i1 le h => by
    rw [List.length_reverse] at h
    obtain ⟨v, e, _⟩ := r.get (List.getElem?_eq_getElem (show vs.length - 1 - i < ds.length by rw [r.len] at h ⊢; omega))
    exact ⟨by rw [← r.len]; exact h, vs, v, SqL.le (i1.le le) hs, e⟩
  stop := fun G H i1 le => by
    show vs.length ≤ _
    rw [List.length_reverse, r.len]
    exact Nat.le_refl _
  yld := fun i G H x H' d i1 le hd y => by
    obtain ⟨e, y⟩ := y
    have hi : i < ds.length := by
      have := (List.getElem?_eq_some_iff.mp hd).1
      rw [List.length_reverse] at this
      exact this
    rw [List.getElem?_reverse hi, r.len] at hd
    obtain ⟨v, e2, q⟩ := r.get hd
    have := y vs (SqL.le (i1.le le) hs)
    rw [e2] at this
    cases this
    exact .inl ⟨e, q.inc i1⟩
end
section
variable {c : Ctx} {tg e e2 : Expr} {fo : List T → Option Re} {fs : List T → Option (List T)} {p pos : Pos}
def iVal (fo : List T → Option Re) : List T → Option Ri := fun ρ => (fo ρ).bind fun r => match r with
  | .ok t ρ1 => t.d?.bind fun d => d.its.map fun ds => .ok ds ρ1
  | .xc C ρ1 => some (.xc C ρ1)
theorem iw_val (he : Eo c e fo) : Iw c tg e (iVal fo) := by
  obtain ⟨t, p, s⟩ := he
  refine ⟨_, fun j => pi_of (p j) (by have h := iv_U (X := c.X j) (tg := tg); rw [c.hK j] at h; exact h), ?_⟩
  intro b F ρ σ X H r R hb S e k
  unfold iVal at e
  obtain ⟨r1, e1, e⟩ := Option.bind_eq_some_iff.mp e
  refine s b F ρ σ X H r1 _ hb S e1 ?_
  cases r1 with
  | xc C ρ1 =>
    cases e
    exact k
  | ok τ ρ1 =>
    obtain ⟨d, e2, e⟩ := Option.bind_eq_some_iff.mp e
    obtain ⟨ds, e3, e⟩ := Option.map_eq_some_iff.mp e
    subst e
    rw [d_some e2]
    intro v F' H' S' i'
    exact wk_its S'.le S'.top e3 fun J w => k J F' H' S'.drop i' w
/-- by one or two deep lists -/
def iL1 (g : List D → List D) (fs : List T → Option (List T)) : List T → Option Ri := fun ρ => (fs ρ).bind fun ts => match ts with
  | [.f (.lst ds)] => some (.ok (g ds) ρ)
  | _ => none
theorem iw_enum {elts : List Expr} {kk : Nat} {tpos : Pos} (hg : ∀ j, Gl (c.X j) "enumerate") (hm : ∀ j, (c.X j).mg "enumerate" = none) (ha : Av c [e] fs) (hs : ∀ j, starEach [e] (c.X j).env = [(false, eval e (c.X j).env)] := by intro _; rfl) :
    Iw c (.Tuple elts kk tpos) (.Call (.Name "enumerate" p) [e] [] pos) (iL1 (enumD 0) fs) := by
  obtain ⟨t, q, s⟩ := ha
  refine ⟨iEnum c.W.K t, fun j => by have h := pi_enum (p := p) (pos := pos) (tpos := tpos) (elts := elts) (kk := kk) (hg j) (hm j) (q j) (hs j); rw [c.hK j] at h; exact h, ?_⟩
  intro b F ρ σ X H r R hb S e k
  unfold iL1 at e
  obtain ⟨ts, e1, e⟩ := Option.bind_eq_some_iff.mp e
  refine s b F ρ σ X H ts _ S e1 fun vs F1 H1 S1 i1 s1 r1 => ?_
  match ts, e with
  | [.f (.lst ds)], e =>
    cases e
    obtain ⟨x, rfl, r2⟩ := rv1 r1
    obtain ⟨a, us, ex, hs, q⟩ := r2.rep
    subst ex
    exact ⟨a, us, rfl, SqL.le S1.le hs, k _ F1 H1 S1 i1 (wk_enum hs q)⟩
theorem iw_rev (hg : ∀ j, Gl (c.X j) "reversed") (hm : ∀ j, (c.X j).mg "reversed" = none) (ha : Av c [e] fs) (hs : ∀ j, starEach [e] (c.X j).env = [(false, eval e (c.X j).env)] := by intro _; rfl) :
    Iw c tg (.Call (.Name "reversed" p) [e] [] pos) (iL1 List.reverse fs) := by
  obtain ⟨t, q, s⟩ := ha
  refine ⟨iRev c.W.K t, fun j => by have h := pi_reversed (tg := tg) (p := p) (pos := pos) (hg j) (hm j) (q j) (hs j); rw [c.hK j] at h; exact h, ?_⟩
  intro b F ρ σ X H r R hb S e k
  unfold iL1 at e
  obtain ⟨ts, e1, e⟩ := Option.bind_eq_some_iff.mp e
  refine s b F ρ σ X H ts _ S e1 fun vs F1 H1 S1 i1 s1 r1 => ?_
  match ts, e with
  | [.f (.lst ds)], e =>
    cases e
    obtain ⟨x, rfl, r2⟩ := rv1 r1
    obtain ⟨a, us, ex, hs, q⟩ := r2.rep
    subst ex
    exact ⟨a, us, rfl, SqL.le S1.le hs, k _ F1 H1 S1 i1 (wk_rev hs q)⟩
def iL2 (g : List D → List D → List D) (fs : List T → Option (List T)) : List T → Option Ri := fun ρ => (fs ρ).bind fun ts => match ts with
  | [.f (.lst ds), .f (.lst es)] => some (.ok (g ds es) ρ)
  | _ => none
theorem iw_zip {elts : List Expr} {kk : Nat} {tpos : Pos} (hg : ∀ j, Gl (c.X j) "zip") (hm : ∀ j, (c.X j).mg "zip" = none) (ha : Av c [e, e2] fs) (hs : ∀ j, starEach [e, e2] (c.X j).env = (false, eval e (c.X j).env) :: starEach [e2] (c.X j).env := by intro _; rfl) (hpl : ∀ j, (backTo pos (starEach [e2] (c.X j).env)).any (·.1) = false := by intro _; rfl) :
    Iw c (.Tuple elts kk tpos) (.Call (.Name "zip" p) [e, e2] [] pos) (iL2 zipD fs) := by
  obtain ⟨t, q, s⟩ := ha
  refine ⟨iZip c.W.K t, fun j => by have h := pi_zip (p := p) (pos := pos) (tpos := tpos) (elts := elts) (kk := kk) (hg j) (hm j) (q j) (hs j) (hpl j); rw [c.hK j] at h; exact h, ?_⟩
  intro b F ρ σ X H r R hb S e k
  unfold iL2 at e
  obtain ⟨ts, e1, e⟩ := Option.bind_eq_some_iff.mp e
  refine s b F ρ σ X H ts _ S e1 fun vs F1 H1 S1 i1 s1 r1 => ?_
  match ts, e with
  | [.f (.lst ds), .f (.lst es)], e =>
    cases e
    obtain ⟨x, y, rfl, r2, r3⟩ := rv2 r1
    obtain ⟨a, us, ex, hs, q⟩ := r2.rep
    obtain ⟨a2, us2, ex2, hs2, q2⟩ := r3.rep
    subst ex ex2
    exact ⟨a, a2, us, us2, rfl, SqL.le S1.le hs, SqL.le S1.le hs2, k _ F1 H1 S1 i1 (wk_zip hs q hs2 q2)⟩
def iR1 (fs : List T → Option (List T)) : List T → Option Ri := fun ρ => (fs ρ).bind fun ts => match ts with
  | [.f (.int n)] => if -(2 ^ 62) ≤ n ∧ n < 2 ^ 62 then some (.ok (rangeD 0 n.toNat) ρ) else none
  | _ => none
def iR2 (fs : List T → Option (List T)) : List T → Option Ri := fun ρ => (fs ρ).bind fun ts => match ts with
  | [.f (.int m), .f (.int n)] => if -(2 ^ 62) ≤ m ∧ m < 2 ^ 62 ∧ -(2 ^ 62) ≤ n ∧ n < 2 ^ 62 then some (.ok (rangeD m (n - m).toNat) ρ) else none
  | _ => none
theorem iw_range1 (hg : ∀ j, Gl (c.X j) "range") (hm : ∀ j, (c.X j).mg "range" = none) (ha : Av c [e] fs) (hs : ∀ j, starEach [e] (c.X j).env = [(false, eval e (c.X j).env)] := by intro _; rfl) : Iw c tg (.Call (.Name "range" p) [e] [] pos) (iR1 fs) := by
  obtain ⟨t, q, s⟩ := ha
  refine ⟨_, fun j => pi_range1 (hg j) (hm j) (q j) (hs j), ?_⟩
  intro b F ρ σ X H r R hb S e k
  unfold iR1 at e
  obtain ⟨ts, e1, e⟩ := Option.bind_eq_some_iff.mp e
  refine s b F ρ σ X H ts _ S e1 fun vs F1 H1 S1 i1 s1 r1 => ?_
  match ts, e with
  | [.f (.int n)], e =>
    simp only at e
    split at e
    · rename_i hn
      cases e
      obtain ⟨x, rfl, r2⟩ := rv1 r1
      exact ⟨n, by rw [show x = V.int n from r2.rep], hn.1, hn.2, k _ F1 H1 S1 i1 wk_range⟩
    · cases e
theorem iw_range2 (hg : ∀ j, Gl (c.X j) "range") (hm : ∀ j, (c.X j).mg "range" = none) (ha : Av c [e, e2] fs) (hs : ∀ j, starEach [e, e2] (c.X j).env = [(false, eval e (c.X j).env), (false, eval e2 (c.X j).env)] := by intro _; rfl) (hs2 : ∀ j, starEach [e2] (c.X j).env = [(false, eval e2 (c.X j).env)] := by intro _; rfl) : Iw c tg (.Call (.Name "range" p) [e, e2] [] pos) (iR2 fs) := by
  obtain ⟨t, q, s⟩ := ha
  refine ⟨_, fun j => pi_range2 (hg j) (hm j) (q j) (hs j) (hs2 j), ?_⟩
  intro b F ρ σ X H r R hb S e k
  unfold iR2 at e
  obtain ⟨ts, e1, e⟩ := Option.bind_eq_some_iff.mp e
  refine s b F ρ σ X H ts _ S e1 fun vs F1 H1 S1 i1 s1 r1 => ?_
  match ts, e with
  | [.f (.int m), .f (.int n)], e =>
    simp only at e
    split at e
    · rename_i hn
      cases e
      obtain ⟨x, y, rfl, r2, r3⟩ := rv2 r1
      exact ⟨m, n, by rw [show x = V.int m from r2.rep, show y = V.int n from r3.rep], hn, k _ F1 H1 S1 i1 wk_range⟩
    · cases e
end

/-! ### a def -/
def outs (io : List Nat) : Nat → List T → List T → List T
  | _, [], _ => []
  | _, t :: ts, [] => t :: ts
  | i, t :: ts, r :: ρ => (if i ∈ io then r else t) :: outs io (i + 1) ts ρ
def runF (m n : Nat) (io : List Nat) (fb : FS) : List T → Option Re := fun ts => if ts.length = m then (fb (ts ++ List.replicate (n - m) .un)).bind fun o => match o with
  | .rt τ ρ => if m ≤ ρ.length then some (.ok τ (outs io 0 ts ρ)) else none
  | .nx ρ => if m ≤ ρ.length then some (.ok (.f .non) (outs io 0 ts ρ)) else none
  | .xc C ρ => if m ≤ ρ.length then some (.xc C (outs io 0 ts ρ)) else none
  | _ => none
  else none
section
variable {W : Wd} {F F' H H' : Hp}
theorem slots_un : ∀ (k : Nat), Slots W F H (List.replicate k .un) (List.replicate k none) (List.replicate k [])
  | 0 => ⟨rfl, rfl⟩
  | k + 1 => ⟨none, _, [], _, rfl, rfl, ⟨rfl, rfl⟩, slots_un k⟩
theorem slots_of : ∀ {ts : List T} {vs : List V} {fps : List (List Addr)}, RelTs W F H ts vs fps → Slots W F H ts (vs.map some) fps
  | [], _, _, r => by
    rw [r.1, r.2]
    exact ⟨rfl, rfl⟩
  | t :: ts, _, _, r => by
    obtain ⟨v, vr, f, fr, e1, e2, a, b⟩ := r
    rw [e1, e2]
    exact ⟨some v, _, f, _, rfl, rfl, a, slots_of b⟩
theorem slots_app : ∀ {ts us : List T} {σ τ : L2.St} {f g : List (List Addr)}, Slots W F H ts σ f → Slots W F H us τ g → Slots W F H (ts ++ us) (σ ++ τ) (f ++ g)
  | [], _, _, _, _, _, r, q => by
    rw [r.1, r.2]
    exact q
  | t :: ts, _, _, _, _, _, r, q => by
    obtain ⟨s, sr, f, fr, e1, e2, a, b⟩ := r
    rw [e1, e2]
    exact ⟨s, _, f, _, rfl, rfl, a, slots_app b q⟩
theorem SR.init {ts : List T} {vs : List V} {fps : List (List Addr)} {io : List Nat} {N : List Str} (le : Le F H) (r : RelTs W F H ts vs fps) (own : Own F fps.flatten) :
    SR W (bsOf H F fps io vs) F (ts ++ List.replicate (N.length - vs.length) .un) (start N vs) [] H := by
  have hr : ∀ k, (List.replicate k ([] : List Addr)).flatten = [] := fun k => by induction k with
    | zero => rfl
    | succ k ih => rw [List.replicate_succ, List.flatten_cons, ih]; rfl
  refine ⟨le, Inc.refl F, fun a o e => .inl e, fun a o e _ => e, fun a o e _ => ⟨o, e, Stb.refl o⟩, fun p hp => ?_, fps ++ List.replicate (N.length - vs.length) [], [], slots_app (slots_of r) (slots_un _), ⟨rfl, rfl⟩, ⟨?_, fun a ha => ?_⟩, fun i f e a ha => ?_, trivial⟩
  · obtain ⟨i, hi, e⟩ := List.mem_filterMap.mp hp
    obtain ⟨v, hv, e⟩ := Option.map_eq_some_iff.mp e
    subst e
    show (vs.map some ++ _)[i]? = _
    rw [List.getElem?_append_left (by rw [List.length_map]; exact (List.getElem?_eq_some_iff.mp hv).1), List.getElem?_map, hv]
    rfl
  · rw [List.flatten_append, hr, List.append_nil, List.flatten_nil, List.append_nil]
    exact own.1
  · rw [List.flatten_append, hr, List.append_nil, List.flatten_nil, List.append_nil] at ha
    exact own.2 a ha
  · refine .inr ?_
    show a ∈ fps.flatten
    by_cases h : i < fps.length
    · rw [List.getElem?_append_left h] at e
      exact List.mem_flatten.mpr ⟨f, List.mem_of_getElem? e, ha⟩
    · rw [List.getElem?_append_right (by omega), List.getElem?_replicate] at e
      split at e
      · cases e
        cases ha
      · cases e
theorem outs_slots {io : List Nat} (hF : Inc F F') : ∀ {ts : List T} {vs : List V} {fps : List (List Addr)} {i : Nat} {ρ : List T} {σ : L2.St} {gps : List (List Addr)}, RelTs W F H ts vs fps → ioOk io i ts = true → Slots W F' H' ρ σ gps → ts.length ≤ ρ.length →
    (∀ j v, i + j ∈ io → vs[j]? = some v → σ[j]? = some (some v)) → ∃ hps, Slots W F' H' (outs io i ts ρ) (vs.map some) hps ∧ List.Sublist hps.flatten gps.flatten ∧ ∀ (j : Nat) (f : List Addr), hps[j]? = some f → f = [] ∨ gps[j]? = some f
  | [], _, _, _, _, _, _, r, _, _, _, _ => by
    rw [r.1]
    exact ⟨[], ⟨rfl, rfl⟩, List.nil_sublist _, fun j f e => by simp at e⟩
  | t :: ts, _, _, i, [], _, _, _, _, _, h, _ => by simp at h
  | t :: ts, _, _, i, r0 :: ρ, σ, gps, r, ho, s, h, hp => by
    obtain ⟨v, vr, f, fr, e1, e2, a, b⟩ := r
    subst e1 e2
    obtain ⟨s0, sr, g, gr, e3, e4, a', b'⟩ := s
    subst e3 e4
    have ho' : (io.contains i || isF t) = true ∧ ioOk io (i + 1) ts = true := by
      have := ho
      unfold ioOk at this
      rwa [Bool.and_eq_true] at this
    obtain ⟨hps, q1, q2, q3⟩ := outs_slots (i := i + 1) hF b ho'.2 b' (by simpa using h) fun j w hj hw => by
      have := hp (j + 1) w (by rw [show i + (j + 1) = i + 1 + j by omega]; exact hj) (by simpa using hw)
      simpa using this
    by_cases hio : i ∈ io
    · have e5 := hp 0 v hio rfl
      have e6 : s0 = some v := by simpa using e5
      subst e6
      refine ⟨g :: hps, ⟨some v, _, g, _, rfl, rfl, ?_, q1⟩, ?_, fun j f' e => ?_⟩
      · rw [if_pos hio]; exact a'
      · rw [List.flatten_cons, List.flatten_cons]
        exact List.Sublist.append (List.Sublist.refl _) q2
      · cases j with
        | zero => exact .inr e
        | succ j => exact q3 j f' (by simpa using e)
    · have hf : isF t = true := by
        rcases Bool.or_eq_true_iff.mp ho'.1 with z | z
        · exact absurd (by simpa using z) hio
        · exact z
      cases t with
      | f d =>
        refine ⟨[] :: hps, ⟨some v, _, [], _, rfl, rfl, ?_, q1⟩, ?_, fun j f' e => ?_⟩
        · rw [if_neg hio]
          exact ⟨rfl, a.2.inc hF⟩
        · rw [List.flatten_cons, List.flatten_cons, List.nil_append]
          exact q2.trans (List.sublist_append_right _ _)
        · cases j with
          | zero => exact .inl (by simpa using e.symm)
          | succ j => exact q3 j f' (by simpa using e)
      | _ => cases hf
theorem SR.outs {ts : List T} {vs : List V} {fps : List (List Addr)} {io : List Nat} {ρ : List T} {σ : L2.St} {X : List Tm} (r : RelTs W F H ts vs fps) (ho : ioOk io 0 ts = true) (hl : ts.length ≤ ρ.length)
    (S : SR W (bsOf H F fps io vs) F' ρ σ X H') : SR W (bsOf H F fps io vs) F' (outs io 0 ts ρ) (vs.map some) X H' := by
  obtain ⟨le, f0, fn, kept, stab, pin, gps, xps, s1, s2, ⟨nd, ow⟩, lc1, lc2⟩ := S
  have pins : ∀ j v, j ∈ io → vs[j]? = some v → σ[j]? = some (some v) := fun j v hj hv => pin (j, v) (List.mem_filterMap.mpr ⟨j, hj, by rw [hv]; rfl⟩)
  obtain ⟨hps, q1, q2, q3⟩ := outs_slots (i := 0) f0 r ho s1 hl fun j v hj hv => pins j v (by simpa using hj) hv
  have sub : List.Sublist (hps.flatten ++ xps.flatten) (gps.flatten ++ xps.flatten) := List.Sublist.append q2 (List.Sublist.refl _)
  refine ⟨le, f0, fn, kept, stab, fun p hp => ?_, hps, xps, q1, s2, ⟨nd.sublist sub, fun a ha => ow a (sub.subset ha)⟩, fun i f e a ha => ?_, lc2⟩
  · obtain ⟨i, hi, e⟩ := List.mem_filterMap.mp hp
    obtain ⟨v, hv, e⟩ := Option.map_eq_some_iff.mp e
    subst e
    show (vs.map some)[i]? = _
    rw [List.getElem?_map, hv]
    rfl
  · rcases q3 i f e with z | z
    · subst z; cases ha
    · exact lc1 i f z a ha
end
/-- the context of a def's body -/
def ctx0 {P : Program} {w : World} (W : Wd) {mg : Str → Option Value} {base : Heap} {N : List Str} (nd : N.Nodup) {m k : Nat} {io : List Nat} {al : List (Nat × Nat)} {qual : Str} {sc : Scope} {f : Addr} {cdv : Value} {A : Around} {outer : List Env} {s : Shared} {H : Hp} {E : XK} (hr : Room k (A.deeper (envOfC qual sc s.heap.objs.size f cdv))) : Ctx where
  J := Unit
  X := fun _ => (cxOf CX0 P w W.K mg base N qual sc f cdv A outer s H E).nox
  W := W
  P := ⟨m, io, al⟩
  E := fun _ => E
  N := N
  k := k
  hK := fun _ => rfl
  hN := fun _ => rfl
  nd := nd
  calm := fun _ => rfl
  room := fun _ => hr
section
variable {P : Program} {w : World} {W : Wd} {mg : Str → Option Value} {base : Heap}
theorem spF_end {io : List Nat} {fb : FS} {N ps : List Str} {vs : List V} {H : Hp} {Q : VK} {E : XK} {t : TS} {p : Sg} {al : List (Nat × Nat)} (hal : ∀ q ∈ al, q.1 ∈ io ∧ q.2 ∈ io ∧ ∃ v, vs[q.1]? = some v ∧ vs[q.2]? = some v) (hp : p = ⟨ps.length, io, al⟩) (hN : ps.length ≤ N.length) (hio : ∀ i ∈ io, i < ps.length) (len : vs.length = ps.length) (h : spF W io (runF ps.length N.length io fb) vs H Q E) (q : Ss W p (fun _ => E) t fb) :
    t { nx := fun _ H' => Q .non H', rt := Q } (start N vs) H := by
  subst hp
  obtain ⟨F, ts, fps, r, le, rel, own, ho, e, k⟩ := h
  unfold runF at e
  have hlt := RelTs.lenA rel
  split at e
  · rename_i hl
    obtain ⟨o, e1, e⟩ := Option.bind_eq_some_iff.mp e
    have S0 := SR.init (io := io) (N := N) le rel own
    rw [len] at S0
    have bok : Bok ⟨ps.length, io, al⟩ (bsOf H F fps io vs) := by
      refine ⟨by show fps.length = ps.length; omega, ?_, fun q hq => ?_⟩
      rotate_left
      · obtain ⟨h1, h2, v, h3, h4⟩ := hal q hq
        exact ⟨v, List.mem_filterMap.mpr ⟨q.1, h1, by rw [h3]; rfl⟩, List.mem_filterMap.mpr ⟨q.2, h2, by rw [h4]; rfl⟩⟩
      show (io.filterMap _).map _ = io
      have key : ∀ l : List Nat, (∀ i ∈ l, i < vs.length) → (l.filterMap fun i => vs[i]?.map fun v => (i, v)).map (·.1) = l := by
        intro l
        induction l with
        | nil => intro _; rfl
        | cons i l ih =>
          intro h
          have hi := h i List.mem_cons_self
          rw [List.filterMap_cons, List.getElem?_eq_getElem hi]
          show i :: _ = _
          rw [ih fun j hj => h j (List.mem_cons_of_mem _ hj)]
      exact key io fun i hi => by rw [len]; exact hio i hi
    refine q _ F _ _ [] H o _ bok S0 e1 ?_
    cases o with
    | nx ρ =>
      simp only at e
      split at e
      · rename_i hρ
        cases e
        intro σ F' H' S' i'
        exact k .non F' H' ((SR.outs rel ho (by omega) S').push rfl) i'
      · cases e
    | rt τ ρ =>
      simp only at e
      split at e
      · rename_i hρ
        cases e
        intro v σ F' H' S' i'
        exact k v F' H' (SR.outs rel ho (by omega) S') i'
      · cases e
    | xc C ρ =>
      simp only at e
      split at e
      · rename_i hρ
        cases e
        intro d σ F' H' S' i'
        exact k d F' H' (SR.outs rel ho (by omega) S') i'
      · cases e
    | bk ρ => cases e
    | ct ρ => cases e
  · cases e
end
end Z

namespace Z
open PySem PySem.Spec PyProof.Rows L2

/-! ### defs and their calls -/
section
variable {P : Program} {w : World} {W : Wd} {mg : Str → Option Value} {base : Heap}
theorem fnZ {x qual : Str} {st : Stmt} {f : Addr} {fd : FuncData} {N ps : List Str} {k : Nat} {io : List Nat} {fb : FS} (F : Fun W.K x qual st f fd) (S : FnScope N ps (defScope st)) (hN : ps.length ≤ N.length) (hio : ∀ i ∈ io, i < ps.length)
    (body : ∀ (cdv : Value) (A : Around) (outer : List Env) (s : Shared) (H : Hp) (E : XK) (hr : Room k (A.deeper (envOfC qual (defScope st) s.heap.objs.size f cdv))),
      Sms (ctx0 (P := P) (w := w) W (mg := mg) (base := base) S.nd (m := ps.length) (io := io) (al := []) (outer := outer) (H := H) (E := E) hr) (defBody st) fb) :
    FnOk P w W.K mg base CX0 (k + 1) f fd ps (spF W io (runF ps.length N.length io fb)) := by
  have len : ∀ vs H Q E, spF W io (runF ps.length N.length io fb) vs H Q E → vs.length = ps.length := by
    rintro vs H Q E ⟨F, ts, fps, r, _, rel, _, _, e, _⟩
    unfold runF at e
    split at e
    · rename_i hl
      have := RelTs.lenA rel
      omega
    · cases e
  refine F.ok S len fun cdv A outer s H vs Q E hr h => ?_
  obtain ⟨t, p, q⟩ := body cdv A outer s H E hr
  exact ⟨t, p (), spF_end (al := []) (fun _ h => absurd h List.not_mem_nil) rfl hN hio (len _ _ _ _ h) h q⟩
/-- a def of the module, ready to be called -/
structure Cl (P : Program) (w : World) (W : Wd) (mg : Str → Option Value) (base : Heap) (CX : CXT) (k : Nat) (x : Str) (io : List Nat) (G : List T → Option Re) : Prop where
  ex : ∃ f fd ps, FnOk P w W.K mg base CX k f fd ps (spF W io G) ∧ mg x = some (.ref f) ∧ PySem.W.keepIn W.K (.ref f) = true ∧ Binds W.K fd ps []
theorem Cl.mk' {CX : CXT} {k : Nat} {x : Str} {io : List Nat} {G : List T → Option Re} {f : Addr} {fd : FuncData} {ps : List Str} (h : FnOk P w W.K mg base CX k f fd ps (spF W io G)) (hm : mg x = some (.ref f)) (hk : PySem.W.keepIn W.K (.ref f) = true) (hb : Binds W.K fd ps []) : Cl P w W mg base CX k x io G := ⟨f, fd, ps, h, hm, hk, hb⟩
theorem Cl.mono {CX : CXT} {j k : Nat} {x : Str} {io : List Nat} {G : List T → Option Re} (h : Cl P w W mg base CX j x io G) (hj : j ≤ k) : Cl P w W mg base CX k x io G := by
  obtain ⟨f, fd, ps, h, a, b, d⟩ := h
  exact ⟨f, fd, ps, h.mono hj, a, b, d⟩
/-- the same function, told otherwise -/
theorem Cl.imp {CX : CXT} {k : Nat} {x : Str} {io : List Nat} {G G' : List T → Option Re} (h : Cl P w W mg base CX k x io G) (e : ∀ ts r, G' ts = some r → G ts = some r) : Cl P w W mg base CX k x io G' := by
  obtain ⟨f, fd, ps, h, a, b, d⟩ := h
  refine ⟨f, fd, ps, h.imp ?_, a, b, d⟩
  rintro vs H Q E ⟨F, ts, fps, r, h1, h2, h3, h4, h5, h6⟩
  exact ⟨F, ts, fps, r, h1, h2, h3, h4, e _ _ h5, h6⟩
end
theorem pass0' {X : Cx} {E : XK} : Passes CX0 X E := fun _ _ _ _ _ _ _ h => h.elim
section
variable {c : Ctx} {a e : Expr} {es : List Expr} {fs : List T → Option (List T)} {fo : List T → Option Rs} {x : Str} {p pos : Pos} {io : List Nat} {G : List T → Option Re} {k : Nat} {CX : CXT}
abbrev Cj (c : Ctx) (CX : CXT) (k : Nat) (x : Str) (io : List Nat) (G : List T → Option Re) : Prop := ∀ j, Cl (c.X j).prog (c.X j).w c.W (c.X j).mg (c.X j).base CX k x io G
theorem pe_cl {t : TA} {E : XK} (C : Cj c CX k x io G) (hk : k ≤ c.k) (hg : ∀ j, Gl (c.X j) x) (hx : ∀ j, Passes CX (c.X j) E) (ha : ∀ j, PA (c.X j) (a :: es) t) (hdb : (x == ("__debug__" : Str)) = false)
    (he : ∀ j, starEach (a :: es) (c.X j).env = (false, eval a (c.X j).env) :: starEach es (c.X j).env) (hpl : ∀ j, (backTo pos (starEach es (c.X j).env)).any (·.1) = false) (j : c.J) : PE (c.X j) (.Call (.Name x p) (a :: es) [] pos) (tCall (spF c.W io G) [] E t) := by
  obtain ⟨f, fd, ps, h, hm, hkp, hb⟩ := C j
  have hKj := c.hK j
  exact pe_call (by rw [hKj]; exact h) ((c.room j).mono hk) (hg j) hm (by rw [hKj]; exact hkp) (by rw [hKj]; exact hb) .nil (hx j) (ha j) hdb (he j) (hpl j)
theorem pe_cl0 {E : XK} (C : Cj c CX k x io G) (hk : k ≤ c.k) (hg : ∀ j, Gl (c.X j) x) (hx : ∀ j, Passes CX (c.X j) E) (hdb : (x == ("__debug__" : Str)) = false) (j : c.J) : PE (c.X j) (.Call (.Name x p) [] [] pos) (tCall (spF c.W io G) [] E tNil) := by
  obtain ⟨f, fd, ps, h, hm, hkp, hb⟩ := C j
  have hKj := c.hK j
  exact pe_call0 (by rw [hKj]; exact h) ((c.room j).mono hk) (hg j) hm (by rw [hKj]; exact hkp) (by rw [hKj]; exact hb) .nil (hx j) hdb
/-- f(e, ..) with effect -/
theorem eo_call {E : XK} (C : Cj c CX k x io G) (hk : k ≤ c.k) (hg : ∀ j, Gl (c.X j) x) (hE : ∀ σ, c.E σ = E) (hx : ∀ j, Passes CX (c.X j) E) (ha : Ao c (a :: es) fo) (hdb : (x == ("__debug__" : Str)) = false := by decide)
    (he : ∀ j, starEach (a :: es) (c.X j).env = (false, eval a (c.X j).env) :: starEach es (c.X j).env := by intro _; rfl) (hpl : ∀ j, (backTo pos (starEach es (c.X j).env)).any (·.1) = false := by intro _; rfl) : Eo c (.Call (.Name x p) (a :: es) [] pos) (fCall io G fo) := by
  obtain ⟨t, q, s⟩ := ha
  exact ⟨_, pe_cl C hk hg hx q hdb he hpl, so_call hE s⟩
theorem eo_call0 {E : XK} (C : Cj c CX k x io G) (hk : k ≤ c.k) (hg : ∀ j, Gl (c.X j) x) (hE : ∀ σ, c.E σ = E) (hx : ∀ j, Passes CX (c.X j) E) (hdb : (x == ("__debug__" : Str)) = false := by decide) : Eo c (.Call (.Name x p) [] [] pos) (fCall io G bNil) := by
  obtain ⟨t, q, s⟩ := (ao_nil : Ao c [] bNil)
  refine ⟨_, pe_cl0 C hk hg hx hdb, so_call hE ?_⟩
  intro b F ρ σ X H r Q hb S e p
  cases e
  exact p [] F H S rfl (Inc.refl F)
/-- f(e, ..) without effect: what is one's own is only looked at -/
def D.atom : D → Bool | .non => true | .bl _ => true | .int _ => true | .str _ => true | _ => false
theorem Rep.atom {W : Wd} {F F' : Hp} {d : D} {v : V} (r : Rep W F d v) (h : d.atom = true) : Rep W F' d v := by
  cases d with
  | non => exact r
  | bl b => exact r
  | int b => exact r
  | str b => exact r
  | _ => cases h
def fCallV (G : List T → Option Re) (fs : List T → Option (List T)) : List T → Option T := fun ρ => (fs ρ).bind fun ts => (T.fzs ts).bind fun ds => (G (ds.map .f)).bind fun r => match r with
  | .ok (.f d) _ => if (ts.all isF || d.atom) = true then some (.f d) else none
  | _ => none
theorem relTs_deep {W : Wd} {F H : Hp} : ∀ {ds : List D} {vs : List V}, Reps W F ds vs → RelTs W F H (ds.map .f) vs (List.replicate ds.length [])
  | [], _, r => ⟨r, rfl⟩
  | d :: ds, _, r => by
    obtain ⟨v, vr, e, a, b⟩ := r
    exact ⟨v, vr, [], _, e, rfl, ⟨rfl, a⟩, relTs_deep b⟩
theorem flat_nil : ∀ n : Nat, (List.replicate n ([] : List Addr)).flatten = []
  | 0 => rfl
  | n + 1 => by rw [List.replicate_succ, List.flatten_cons, flat_nil n]; rfl
theorem ioOk_deep : ∀ (ds : List D) (i : Nat), ioOk [] i (ds.map .f) = true
  | [], _ => rfl
  | d :: ds, i => by
    unfold List.map ioOk
    rw [ioOk_deep ds]
    simp [isF]
theorem allF_fz : ∀ {ts : List T} {ds : List D}, ts.all isF = true → T.fzs ts = some ds → ts = ds.map .f
  | [], _, _, e => by unfold T.fzs at e; cases e; rfl
  | t :: ts, _, h, e => by
    unfold T.fzs at e
    obtain ⟨d, e1, e⟩ := Option.bind_eq_some_iff.mp e
    obtain ⟨ds, e2, e⟩ := Option.map_eq_some_iff.mp e
    subst e
    rw [List.all_cons, Bool.and_eq_true] at h
    cases t with
    | f d' =>
      unfold T.fz at e1
      cases e1
      rw [allF_fz h.2 e2]
      rfl
    | _ => cases h.1
theorem allF_fps {W : Wd} {F H : Hp} : ∀ {ts : List T} {vs : List V} {fps : List (List Addr)}, ts.all isF = true → RelTs W F H ts vs fps → fps.flatten = []
  | [], _, _, _, r => by rw [r.2]; rfl
  | t :: ts, _, _, h, r => by
    obtain ⟨v, vr, f, fr, e1, e2, a, b⟩ := r
    subst e2
    rw [List.all_cons, Bool.and_eq_true] at h
    cases t with
    | f d' => rw [List.flatten_cons, a.1, List.nil_append]; exact allF_fps h.2 b
    | _ => cases h.1
mutual
theorem RelT.nofrz {W : Wd} {F H : Hp} : ∀ (t : T) (v : V) (fp : List Addr), RelT W F H t v fp → ∀ a ∈ fp, ∀ o u, H a ≠ some (.frz o u)
  | .un, _, fp, r, a, ha => by
    have r' : fp = [] := r
    subst r'
    cases ha
  | .f d, _, fp, r, a, ha => by
    have r' : fp = [] := r.1
    subst r'
    cases ha
  | .l ds, _, _, r, a, ha => by
    obtain ⟨p, vs, e1, e2, e3, q⟩ := r
    subst e2
    cases List.mem_singleton.mp ha
    rw [e3]
    intro o u z
    cases z
  | .dk ks ds, _, _, r, a, ha => by
    obtain ⟨p, kvs, e1, e2, e3, k, q⟩ := r
    subst e2
    cases List.mem_singleton.mp ha
    rw [e3]
    intro o u z
    cases z
  | .di ks ds, _, _, r, a, ha => by
    obtain ⟨p, xs, e1, e2, e3, k, kk, q⟩ := r
    subst e2
    cases List.mem_singleton.mp ha
    rw [e3]
    intro o u z
    cases z
  | .ll ts, _, _, r, a, ha => by
    obtain ⟨p, vs, fps, e1, e2, e3, q⟩ := r
    subst e2
    rcases List.mem_cons.mp ha with z | z
    · subst z
      rw [e3]
      intro o u z
      cases z
    · exact RelTs.nofrz ts vs fps q a z
  | .tu ts, _, _, r, a, ha => by
    obtain ⟨p, vs, fps, e1, e2, e3, q⟩ := r
    subst e2
    rcases List.mem_cons.mp ha with z | z
    · subst z
      rw [e3]
      intro o u z
      cases z
    · exact RelTs.nofrz ts vs fps q a z
  | .o C ns ts, _, _, r, a, ha => by
    obtain ⟨p, dx, kvs, fps, e1, e2, e3, k, q⟩ := r
    subst e2
    rcases List.mem_cons.mp ha with z | z
    · subst z
      rw [e3]
      intro o u z
      cases z
    · exact RelTs.nofrz ts _ fps q a z
theorem RelTs.nofrz {W : Wd} {F H : Hp} : ∀ (ts : List T) (vs : List V) (fps : List (List Addr)), RelTs W F H ts vs fps → ∀ a ∈ fps.flatten, ∀ o u, H a ≠ some (.frz o u)
  | [], _, fps, r, a, ha => by
    have r' : fps = [] := r.2
    subst r'
    cases ha
  | t :: ts, _, _, r, a, ha => by
    obtain ⟨v, vr, f, fr, e1, e2, q1, q2⟩ := r
    subst e2
    rw [List.flatten_cons] at ha
    rcases List.mem_append.mp ha with z | z
    · exact RelT.nofrz t v f q1 a z
    · exact RelTs.nofrz ts vr fr q2 a z
end
theorem sv_call {W : Wd} {E : XK} {t : TA} (h : Sav W t fs) : Sv W (tCall (spF W [] G) [] E t) (fCallV G fs) := by
  intro b F ρ σ X H τ Q S e k
  unfold fCallV at e
  obtain ⟨ts, e1, e⟩ := Option.bind_eq_some_iff.mp e
  obtain ⟨ds, e2, e⟩ := Option.bind_eq_some_iff.mp e
  obtain ⟨r, e3, e⟩ := Option.bind_eq_some_iff.mp e
  refine h b F ρ σ X H ts _ S e1 fun vs F1 H1 S1 i1 s1 r1 => ?_
  rw [List.append_nil]
  obtain ⟨fps, r1⟩ := r1
  -- all that is looked at, as deep data
  obtain ⟨Fc, hFc⟩ : ∃ Fc : Hp, ∀ a, Fc a = match F1 a with | some o => some o | none => if a ∈ fps.flatten then H1 a else none := ⟨_, fun _ => rfl⟩
  have hF : Inc F1 Fc := fun a o e => by rw [hFc a, e]
  have hfp : ∀ a ∈ fps.flatten, Fc a = H1 a := fun a ha => by
    rw [hFc a]
    cases z : F1 a with
    | none => simp only [if_pos ha]
    | some o =>
      rcases S1.le a o z with q | ⟨u, kvs, _, q⟩
      · exact q.symm
      · exact absurd q (RelTs.nofrz _ _ _ r1 a ha _ _)
  have hle : Le Fc H1 := fun a o e => by
    rw [hFc a] at e
    cases z : F1 a with
    | none =>
      rw [z] at e
      simp only at e
      split at e
      · exact .inl e
      · cases e
    | some o' =>
      rw [z] at e
      cases e
      exact S1.le a _ z
  have r2 : Reps W Fc ds vs := RelTs.fz hF ts vs fps ds r1 hfp e2
  refine ⟨Fc, ds.map .f, _, r, hle, relTs_deep r2, ⟨by rw [flat_nil]; exact List.nodup_nil, fun a ha => by rw [flat_nil] at ha; cases ha⟩, ioOk_deep ds 0, e3, ?_⟩
  cases r with
  | xc C us => cases e
  | ok τ' us =>
    cases τ' with
    | f d =>
      simp only at e
      split at e
      · rename_i hc
        cases e
        intro v F' H' R i2
        have hs : Same H1 H' := fun a o e => R.kept a o e (by
          show a ∉ (List.replicate ds.length ([] : List Addr)).flatten
          rw [flat_nil]
          intro z
          cases z)
        by_cases hat : d.atom = true
        · exact k v F1 H' (S1.ext hs (Inc.refl F1) (S1.le.inc hs) fun a o e => .inl e) i1 (s1.trans hs) (.f (Rep.atom R.top hat))
        · have hall : ts.all isF = true := by
            rcases Bool.or_eq_true_iff.mp hc with z | z
            · exact z
            · exact absurd z hat
          have hnil := allF_fps hall r1
          have heq : ∀ a, Fc a = F1 a := fun a => by
            rw [hFc a, hnil]
            cases F1 a with
            | none => rfl
            | some o => rfl
          refine k v F' H' (S1.ext hs (hF.trans i2) R.le fun a o e => ?_) (i1.trans (hF.trans i2)) (s1.trans hs) (.f R.top)
          rcases R.fn a o e with z | z | z
          · have z' : Fc a = some o := z
            rw [heq a] at z'
            exact .inl z'
          · exact .inr z
          · exfalso
            have z' : a ∈ (List.replicate ds.length ([] : List Addr)).flatten := z
            rw [flat_nil] at z'
            cases z'
      · cases e
    | _ => cases e
theorem ev_call {E : XK} (C : Cj c CX k x [] G) (hk : k ≤ c.k) (hg : ∀ j, Gl (c.X j) x) (hx : ∀ j, Passes CX (c.X j) E) (ha : Av c (a :: es) fs) (hdb : (x == ("__debug__" : Str)) = false := by decide)
    (he : ∀ j, starEach (a :: es) (c.X j).env = (false, eval a (c.X j).env) :: starEach es (c.X j).env := by intro _; rfl) (hpl : ∀ j, (backTo pos (starEach es (c.X j).env)).any (·.1) = false := by intro _; rfl) : Ev c (.Call (.Name x p) (a :: es) [] pos) (fCallV G fs) := by
  obtain ⟨t, q, s⟩ := ha
  exact ⟨_, pe_cl C hk hg hx q hdb he hpl, sv_call s⟩
end

/-! ### dict displays -/
def Sps (W : Wd) (trs : List (TE × TE)) (f : List T → Option (List (Key × D))) : Prop :=
  ∀ b F ρ σ X H kds Q, SR W b F ρ σ X H → f ρ = some kds → (∀ (kvs : List (Key × V)) F' H', SR W b F' ρ σ X H' → Inc F F' → Same H H' → kvs.map (·.1) = kds.map (·.1) → Reps W F' (kds.map (·.2)) (kvs.map (·.2)) → Q (kvs.map fun kv => (kV kv.1, kv.2)) H') → tPairs trs σ H Q
def Dp' (c : Ctx) (pos : Pos) (ks : List (Option Expr)) (vs : List Expr) (f : List T → Option (List (Key × D))) : Prop := ∃ trs, (∀ j, PPs (c.X j) pos ks vs trs) ∧ Sps c.W trs f
def pNil : List T → Option (List (Key × D)) := fun _ => some []
def pCons (fk fv : List T → Option T) (g : List T → Option (List (Key × D))) : List T → Option (List (Key × D)) := fun ρ => (fk ρ).bind fun k => k.key?.bind fun k => (fv ρ).bind fun v => v.d?.bind fun d => (g ρ).map fun r => (k, d) :: r
section
variable {c : Ctx} {ek ev : Expr} {ks : List (Option Expr)} {vs : List Expr} {fk fv : List T → Option T} {g : List T → Option (List (Key × D))} {pos : Pos}
theorem dp_nil : Dp' c pos [] [] pNil := by
  refine ⟨[], fun _ => pps_nil, ?_⟩
  intro b F ρ σ X H kds Q S e k
  cases e
  exact k [] F H S (Inc.refl F) (Same.refl H) rfl rfl
theorem dp_cons (hk : Ev c ek fk) (hv : Ev c ev fv) (hr : Dp' c pos ks vs g) : Dp' c pos (some ek :: ks) (ev :: vs) (pCons fk fv g) := by
  obtain ⟨tk, pk, sk⟩ := hk
  obtain ⟨tv, pv, sv⟩ := hv
  obtain ⟨trs, pr, sr⟩ := hr
  refine ⟨(tk, tv) :: trs, fun j => pps_cons (pk j) (pv j) (pr j), ?_⟩
  intro b F ρ σ X H kds Q S e k
  unfold pCons at e
  obtain ⟨t1, e1, e⟩ := Option.bind_eq_some_iff.mp e
  obtain ⟨k1, e2, e⟩ := Option.bind_eq_some_iff.mp e
  obtain ⟨t2, e3, e⟩ := Option.bind_eq_some_iff.mp e
  obtain ⟨d2, e4, e⟩ := Option.bind_eq_some_iff.mp e
  obtain ⟨r, e5, e⟩ := Option.map_eq_some_iff.mp e
  subst e
  rw [d_some e4] at e3
  refine sk b F ρ σ X H t1 _ S e1 fun x F1 H1 S1 i1 s1 r1 => ?_
  refine sv b F1 ρ σ X H1 _ _ S1 e3 fun y F2 H2 S2 i2 s2 r2 => ?_
  refine sr b F2 ρ σ X H2 r _ S2 e5 fun kvs F3 H3 S3 i3 s3 h1 h2 => ?_
  rw [r1.key e2]
  exact k ((k1, y) :: kvs) F3 H3 S3 (i1.trans (i2.trans i3)) (s1.trans (s2.trans s3)) (by rw [List.map_cons, List.map_cons, h1]) ⟨y, _, rfl, r2.rep.inc i3, h2⟩
end
/-- a dict with d at k -/
def dput (ks : List Key) (ds : List D) (k : Key) (d : D) : List Key × List D :=
  if (ks.any fun q => decide (q = k)) = true then (ks, List.zipWith (fun q e => if q = k then d else e) ks ds) else (ks ++ [k], ds ++ [d])
theorem dput_ok {W : Wd} {F : Hp} {kvs : List (Key × V)} {ks : List Key} {ds : List D} {k : Key} {d : D} {v : V} (hk : kvs.map (·.1) = ks) (r : Reps W F ds (kvs.map (·.2))) (rv : Rep W F d v) :
    (putK kvs k v).map (·.1) = (dput ks ds k d).1 ∧ Reps W F (dput ks ds k d).2 ((putK kvs k v).map (·.2)) := by
  subst hk
  unfold putK dput
  have e : (kvs.any fun kv => decide (kv.1 = k)) = ((kvs.map (·.1)).any fun q => decide (q = k)) := by rw [List.any_map]; rfl
  rw [e]
  split
  · rename_i hany
    clear hany e
    refine ⟨?_, ?_⟩
    · rw [List.map_map]
      refine List.map_congr_left fun kv _ => ?_
      show (if kv.1 = k then (kv.1, v) else kv).1 = kv.1
      split <;> rfl
    · induction kvs generalizing ds with
      | nil =>
        cases ds with
        | nil => exact rfl
        | cons _ _ =>
          obtain ⟨_, _, e, _⟩ := r
          cases e
      | cons kv kvs ih =>
        cases ds with
        | nil =>
          have r' : _ = [] := r
          cases r'
        | cons d0 ds =>
          obtain ⟨v0, vr, e, a, b⟩ := r
          have e1 : kv.2 = v0 := (List.cons.inj e).1
          have e2 : kvs.map (·.2) = vr := (List.cons.inj e).2
          subst e1 e2
          refine ⟨(if kv.1 = k then (kv.1, v) else kv).2, _, rfl, ?_, ih b⟩
          show Rep W F (if kv.1 = k then d else d0) _
          split
          · exact rv
          · exact a
  · refine ⟨by simp, ?_⟩
    rw [List.map_append]
    exact r.append ⟨v, [], rfl, rv, rfl⟩
def dmerge (ks : List Key) (ds : List D) : List (Key × D) → List Key × List D
  | [] => (ks, ds)
  | (k, d) :: r => dmerge (dput ks ds k d).1 (dput ks ds k d).2 r
theorem dmerge_ok {W : Wd} {F : Hp} : ∀ {kds : List (Key × D)} {more kvs : List (Key × V)} {ks : List Key} {ds : List D}, kvs.map (·.1) = ks → Reps W F ds (kvs.map (·.2)) → more.map (·.1) = kds.map (·.1) → Reps W F (kds.map (·.2)) (more.map (·.2)) →
    (mergeK kvs more).map (·.1) = (dmerge ks ds kds).1 ∧ Reps W F (dmerge ks ds kds).2 ((mergeK kvs more).map (·.2))
  | [], [], _, _, _, h1, h2, _, _ => ⟨h1, h2⟩
  | [], _ :: _, _, _, _, _, _, h, _ => by cases h
  | _ :: _, [], _, _, _, _, _, h, _ => by cases h
  | (k, d) :: kds, (k', v) :: more, kvs, ks0, ds0, h1, h2, h3, h4 => by
    have e1 : k' = k := (List.cons.inj h3).1
    subst e1
    obtain ⟨v0, vr, e, a, b⟩ := h4
    have e2 : v = v0 := (List.cons.inj e).1
    have e3 : more.map (·.2) = vr := (List.cons.inj e).2
    subst e2 e3
    obtain ⟨q1, q2⟩ := dput_ok h1 h2 a
    exact dmerge_ok (kds := kds) (kvs := putK kvs k' v) (ks := (dput ks0 ds0 k' d).1) (ds := (dput ks0 ds0 k' d).2) q1 q2 (List.cons.inj h3).2 b
section
variable {c : Ctx} {ks : List (Option Expr)} {vs : List Expr} {g : List T → Option (List (Key × D))} {pos : Pos}
def fDisp (g : List T → Option (List (Key × D))) : List T → Option Re := fun ρ => (g ρ).bind fun kds => if kds.length ≤ 15 then some (.ok (.dk (dmerge [] [] kds).1 (dmerge [] [] kds).2) ρ) else none
theorem eo_disp (h : Dp' c pos ks vs g) (hall : ks.all (·.isSome) = true) (hl : ks.length = vs.length) (h0 : ks ≠ []) (h15 : ks.length ≤ 15) : Eo c (.Dict ks vs pos) (fDisp g) := by
  obtain ⟨trs, p, q⟩ := h
  refine ⟨_, fun j => pe_disp (p j) hall hl h0 h15, ?_⟩
  intro b F ρ σ X H r Q hb S e k
  unfold fDisp at e
  obtain ⟨kds, e1, e⟩ := Option.bind_eq_some_iff.mp e
  split at e
  · rename_i h15'
    cases e
    intro p hp
    have S1 := S.own (t := .dk [] []) (o := .dK []) hp ⟨p, [], rfl, rfl, upd_same, rfl, rfl⟩
    refine q b F ρ σ _ _ kds _ S1 e1 fun kvs F2 H2 S2 i2 s2 h1 h2 => ?_
    have hp2 : H2 p = some (.dK []) := s2 _ _ upd_same
    refine ⟨hp2, kvs, rfl, ?_, ?_⟩
    · have := congrArg List.length h1
      simp only [List.length_map] at this
      omega
    · obtain ⟨m1, m2⟩ := dmerge_ok (kvs := []) (ks := []) (ds := []) rfl rfl h1 h2
      have S3 := S2.wrX (t' := .dk (dmerge [] [] kds).1 (dmerge [] [] kds).2) (p := p) (o := .dK []) (o' := .dK (mergeK [] kvs)) fun fp r nd hn => by
        obtain ⟨p', kvs', e1, e2, e3, _⟩ := r
        cases e1
        subst e2
        exact ⟨hp2, Stb.dk, List.mem_singleton.mpr rfl, [p], ⟨p, _, rfl, rfl, upd_same, m1, m2⟩, nd, fun a ha => ha⟩
      exact k _ F2 _ S3 i2
  · cases e
/-- {} -/
def fNewD : List T → Option Re := fun ρ => some (.ok (.dk [] []) ρ)
theorem eo_newd : Eo c (.Dict [] [] pos) fNewD := by
  refine ⟨_, fun _ => pe_dnewK, ?_⟩
  intro b F ρ σ X H r Q hb S e k
  cases e
  intro p hp
  exact k _ F _ (S.own hp ⟨p, [], rfl, rfl, upd_same, rfl, rfl⟩) (Inc.refl F)
/-- [a, b], one's own -/
def fNewL (fs : List T → Option (List T)) : List T → Option Re := fun ρ => (fs ρ).bind fun ts => (deep ts).bind fun ds => if ds.length ≤ sizeLine then some (.ok (.l ds) ρ) else none
theorem eo_newl {es : List Expr} {fs : List T → Option (List T)} (h : Av c es fs) : Eo c (.List es pos) (fNewL fs) := by
  obtain ⟨t, p, s⟩ := h
  refine ⟨_, fun j => pe_lst (p j), ?_⟩
  intro b F ρ σ X H r Q hb S e k
  unfold fNewL at e
  obtain ⟨xs, e1, e⟩ := Option.bind_eq_some_iff.mp e
  obtain ⟨ds, e2, e⟩ := Option.bind_eq_some_iff.mp e
  split at e
  · rename_i hl
    cases e
    refine s b F ρ σ X H xs _ S e1 fun vs F1 H1 S1 i1 s1 r1 => ?_
    have r2 := r1.deep e2
    refine ⟨by rw [← r2.len]; exact hl, fun p hp => ?_⟩
    exact k _ F1 _ (S1.own hp ⟨p, vs, rfl, rfl, upd_same, r2⟩) i1
  · cases e
/-- the same, deep -/
def fDispD (g : List T → Option (List (Key × D))) : List T → Option T := fun ρ => (g ρ).bind fun kds => if kds.length ≤ 15 then some (.f (.dct (dmerge [] [] kds).1 (dmerge [] [] kds).2)) else none
theorem ev_disp (h : Dp' c pos ks vs g) (hall : ks.all (·.isSome) = true) (hl : ks.length = vs.length) (h0 : ks ≠ []) (h15 : ks.length ≤ 15) : Ev c (.Dict ks vs pos) (fDispD g) := by
  obtain ⟨trs, p, q⟩ := h
  refine ⟨_, fun j => pe_disp (p j) hall hl h0 h15, ?_⟩
  intro b F ρ σ X H τ Q S e k
  unfold fDispD at e
  obtain ⟨kds, e1, e⟩ := Option.bind_eq_some_iff.mp e
  split at e
  · rename_i h15'
    cases e
    intro p hp
    have S1 := S.own (t := .dk [] []) (o := .dK []) hp ⟨p, [], rfl, rfl, upd_same, rfl, rfl⟩
    refine q b F ρ σ _ _ kds _ S1 e1 fun kvs F2 H2 S2 i2 s2 h1 h2 => ?_
    have hp2 : H2 p = some (.dK []) := s2 _ _ upd_same
    refine ⟨hp2, kvs, rfl, ?_, ?_⟩
    · have := congrArg List.length h1
      simp only [List.length_map] at this
      omega
    · obtain ⟨m1, m2⟩ := dmerge_ok (kvs := []) (ks := []) (ds := []) rfl rfl h1 h2
      have S3 := S2.wrX (t' := .dk (dmerge [] [] kds).1 (dmerge [] [] kds).2) (p := p) (o := .dK []) (o' := .dK (mergeK [] kvs)) fun fp r nd hn => by
        obtain ⟨p', kvs', e1, e2, e3, _⟩ := r
        cases e1
        subst e2
        exact ⟨hp2, Stb.dk, List.mem_singleton.mpr rfl, [p], ⟨p, _, rfl, rfl, upd_same, m1, m2⟩, nd, fun a ha => ha⟩
      obtain ⟨F3, S4, i3⟩ := S3.frz rfl (d := .dct (dmerge [] [] kds).1 (dmerge [] [] kds).2) rfl
      refine k _ F3 _ S4.drop (i2.trans i3) (fun a o e => ?_) (.f S4.top)
      have hap : a ≠ p := ne_of_none e hp
      rw [upd_ne hap]
      exact s2 _ _ (by rw [upd_ne hap]; exact e)
  · cases e
end
end Z

namespace Z
open PySem PySem.Spec PyProof.Rows L2
/-! ### short words -/
theorem notin_of {l : List Nat} {i : Nat} (h : l.contains i = false) : i ∉ l := fun m => by
  have := List.contains_iff_mem.mpr m
  rw [h] at this
  cases this
section
variable {c : Ctx} {e : Expr} {fo : List T → Option Re} {pos pos' : Pos}
theorem ev_v (i : Nat) {x : Str} (hi : c.N[i]? = some x := by rfl) (hv : ∀ j, Vis (c.X j).env.scope x := by intro _; first | exact Or.inl rfl | exact Or.inr (Or.inl rfl) | exact Or.inr (Or.inr rfl)) (hd : (x == ("__debug__" : Str)) = false := by decide) (hcd : (x == ("__classdict__" : Str)) = false := by decide) : Ev c (.Name x pos) (fVar i) := ev_var hi hv hd hcd
theorem eo_m (i : Nat) {x : Str} (hi : c.N[i]? = some x := by rfl) (hv : ∀ j, Vis (c.X j).env.scope x := by intro _; first | exact Or.inl rfl | exact Or.inr (Or.inl rfl) | exact Or.inr (Or.inr rfl)) (hm : Nat.ble c.P.m i = true := by rfl) (hd : (x == ("__debug__" : Str)) = false := by decide) (hcd : (x == ("__classdict__" : Str)) = false := by decide) : Eo c (.Name x pos) (fMv i) := eo_mv hi hv (Nat.le_of_ble_eq_true hm) hd hcd
theorem sm_s (i : Nat) {x : Str} (he : Eo c e fo) (hi : c.N[i]? = some x := by rfl) (hx : ∀ j, L2.Loc (c.X j).env.scope x := by intro _; first | exact Or.inl rfl | exact Or.inr rfl) (hio : c.P.io.contains i = false := by rfl) (hs : ∀ j, swapsWith e (some (.Name x pos')) pos.line (c.X j).env = pure false := by intro _; rfl)
    (hf : ∀ j, (c.X j).fn x = true ∨ (c.X j).env.scope.names.lookup x = some .local := by intro _; first | exact Or.inl rfl | exact Or.inr rfl) : Sm c (.Assign [.Name x pos'] e pos) (sSet i fo) := sm_set he hi hx (notin_of hio) hs hf
theorem gt_n (i : Nat) {x : Str} (hi : c.N[i]? = some x := by rfl) (hx : ∀ j, L2.Loc (c.X j).env.scope x := by intro _; first | exact Or.inl rfl | exact Or.inr rfl) (hio : c.P.io.contains i = false := by rfl) (hf : ∀ j, (c.X j).fn x = true ∨ (c.X j).env.scope.names.lookup x = some .local := by intro _; first | exact Or.inl rfl | exact Or.inr rfl) : Gt c (.Name x pos) (gSet i) := gt_name hi hx (notin_of hio) hf
end
section
variable {c : Ctx}
theorem callLen (j : c.J) : CallR (c.X j) (.builtin "len") (rLenU c.W.K) := by have h := call_lenU (X := c.X j); rw [c.hK j] at h; exact h
theorem callList (j : c.J) : CallR (c.X j) (.type "list") (fun xs H Q => ∃ p ys, xs = [.ref p] ∧ (SqL c.W.K H p ys ∨ SqT c.W.K H p ys) ∧ ∀ l, H l = none → Q (.ref l) (upd H l (.lst ys))) := by have h := call_list_of (X := c.X j); rw [c.hK j] at h; exact h
theorem callTuple (j : c.J) : CallR (c.X j) (.type "tuple") (fun xs H Q => ∃ p ys, xs = [.ref p] ∧ ((SqL c.W.K H p ys ∧ ∀ l, H l = none → Q (.ref l) (upd H l (.tup ys))) ∨ (SqT c.W.K H p ys ∧ Q (.ref p) H))) := by have h := call_tuple_of (X := c.X j); rw [c.hK j] at h; exact h
theorem callSum (j : c.J) : CallR (c.X j) (.builtin "sum") (rSum c.W.K) := by have h := cr_sum (c.calm j); rw [c.hK j] at h; exact h
theorem callAll (j : c.J) : CallR (c.X j) (.builtin "all") (rAll c.W.K) := by have h := cr_all (c.calm j); rw [c.hK j] at h; exact h
theorem callMax2 (j : c.J) : CallR (c.X j) (.builtin "max") (fun xs H Q => ∃ i j, xs = [.int i, .int j] ∧ Q (.int (if j > i then j else i)) H) := call_max2 (c.calm j)
theorem callMin2 (j : c.J) : CallR (c.X j) (.builtin "min") (fun xs H Q => ∃ i j, xs = [.int i, .int j] ∧ Q (.int (if j < i then j else i)) H) := call_min2 (c.calm j)
theorem callStr (j : c.J) : CallR (c.X j) (.type "str") (fun xs H Q => (∃ i : Int, xs = [.int i] ∧ i.natAbs.log2 < 1920 ∧ Q (.str (toString i)) H) ∨ ∃ a, xs = [.str a] ∧ Q (.str a) H) := CallR_or call_str_int SkE.call_str_str
end
/-- the end: a law's promise from what its function gives -/
theorem law_sp {W : Wd} {G : List T → Option Re} {H : Hp} {a : Addr} {ns : List Int} (hS : SqL W.K H a (ns.map V.int)) (h : ∃ us, G [.f (.lst (ns.map .int))] = some (.ok (.f (.bl true)) us)) : spF W [] G [.ref a] H (fun v _ => v = .bl true) fun _ _ _ => False := by
  obtain ⟨us, e⟩ := h
  refine ⟨H, [.f (.lst (ns.map .int))], [[]], _, Le.refl H, ⟨_, _, _, _, rfl, rfl, ⟨rfl, a, _, rfl, hS, Reps.of_ints ns⟩, rfl, rfl⟩, ⟨List.nodup_nil, fun a ha => by cases ha⟩, rfl, e, ?_⟩
  intro v F' H' R _
  exact R.top
end Z

namespace Z
open PySem PySem.Spec PyProof.Rows L2
/-! ### parts of a thing of one's own, changed in place -/
inductive Sel where
  | ix (n : Nat)
  | at (nm : Str)
def atN : List Str → List T → Str → Option T
  | n :: ns, t :: ts, x => if n = x then some t else atN ns ts x
  | _, _, _ => none
def setN : List Str → List T → Str → T → List T
  | n :: ns, t :: ts, x, u => if n = x then u :: ts else t :: setN ns ts x u
  | _, ts, _, _ => ts
def T.sub : T → Sel → Option T
  | .ll ts, .ix n => ts[n]?
  | .tu ts, .ix n => ts[n]?
  | .o _ ns ts, .at x => atN ns ts x
  | _, _ => none
def T.upd : T → Sel → T → T
  | .ll ts, .ix n, u => .ll (ts.set n u)
  | .tu ts, .ix n, u => .tu (ts.set n u)
  | .o C ns ts, .at x, u => .o C ns (setN ns ts x u)
  | t, _, _ => t
def T.getP : T → List Sel → Option T
  | t, [] => some t
  | t, s :: π => (t.sub s).bind fun u => u.getP π
def T.putP : T → List Sel → T → T
  | _, [], u => u
  | t, s :: π, u => match t.sub s with
    | some t1 => t.upd s (t1.putP π u)
    | none => t
def AtV (H : Hp) : V → List Sel → Addr → Prop
  | v, [], p => v = .ref p
  | v, .ix n :: π, p => ∃ a vs w, v = .ref a ∧ (H a = some (.lst vs) ∨ H a = some (.tup vs)) ∧ vs[n]? = some w ∧ AtV H w π p
  | v, .at x :: π, p => ∃ a C dx kvs w, v = .ref a ∧ H a = some (.ins C dx kvs) ∧ kvs.lookup x = some w ∧ AtV H w π p
theorem AtV.same {H H' : Hp} (h : Same H H') : ∀ {π : List Sel} {v : V} {p : Addr}, AtV H v π p → AtV H' v π p
  | [], _, _, r => r
  | .ix n :: π, _, _, r => by
    obtain ⟨a, vs, w, e, r1, r2, r3⟩ := r
    exact ⟨a, vs, w, e, r1.imp (h a _) (h a _), r2, AtV.same h r3⟩
  | .at x :: π, _, _, r => by
    obtain ⟨a, C, dx, kvs, w, e, r1, r2, r3⟩ := r
    exact ⟨a, C, dx, kvs, w, e, h a _ r1, r2, AtV.same h r3⟩
section
variable {W : Wd} {F F' H H' : Hp} {p : Addr}
theorem RelTs.put {v : V} {f : List Addr} {t' : T} (hp : p ∈ f) (hr : RelT W F H' t' v f) (hH : ∀ a, a ≠ p → H' a = H a) : ∀ {ts : List T} {vs : List V} {fps : List (List Addr)} {n : Nat}, RelTs W F H ts vs fps → fps.flatten.Nodup → vs[n]? = some v → fps[n]? = some f → RelTs W F H' (ts.set n t') vs fps
  | [], _, _, _, r, _, e, _ => by rw [r.1] at e; simp at e
  | t :: ts, _, _, 0, r, nd, e1, e2 => by
    obtain ⟨v0, vr, f0, fr, rfl, rfl, a, b⟩ := r
    simp at e1 e2
    subst e1 e2
    rw [List.flatten_cons] at nd
    have n := List.nodup_append.mp nd
    exact ⟨_, _, _, _, rfl, rfl, hr, RelTs.mono (Inc.refl F) ts vr fr (fun x hx => hH x fun q => n.2.2 p hp x hx q.symm) b⟩
  | t :: ts, _, _, n + 1, r, nd, e1, e2 => by
    obtain ⟨v0, vr, f0, fr, rfl, rfl, a, b⟩ := r
    simp at e1 e2
    rw [List.flatten_cons] at nd
    have n0 := List.nodup_append.mp nd
    refine ⟨_, _, _, _, rfl, rfl, RelT.mono (Inc.refl F) t v0 f0 (fun x hx => hH x fun q => n0.2.2 x hx p (List.mem_flatten.mpr ⟨f, List.mem_of_getElem? e2, hp⟩) q) a, RelTs.put hp hr hH b n0.2.1 e1 e2⟩
theorem RelTs.putN {x : Str} {t' : T} : ∀ {ns : List Str} {ts : List T} {kvs : List (Str × V)} {fps : List (List Addr)} {t : T}, kvs.map (·.1) = ns → RelTs W F H ts (kvs.map (·.2)) fps → fps.flatten.Nodup → atN ns ts x = some t →
    ∃ w f, kvs.lookup x = some w ∧ f ∈ fps ∧ RelT W F H t w f ∧ ∀ H', (∀ a, a ≠ p → H' a = H a) → p ∈ f → RelT W F H' t' w f → RelTs W F H' (setN ns ts x t') (kvs.map (·.2)) fps
  | _, [], [], _, _, h, _, _, e => by subst h; simp [atN] at e
  | _, [], k :: kvs, _, _, h, _, _, e => by subst h; simp [atN] at e
  | _, t0 :: ts, [], _, _, h, _, _, e => by subst h; simp [atN] at e
  | _, t0 :: ts, k :: kvs, fps, t, h, r, nd, e => by
    subst h
    obtain ⟨v0, vr, f0, fr, e1, rfl, a, b⟩ := r
    have e1a : k.2 = v0 := (List.cons.inj e1).1
    have e1b : kvs.map (·.2) = vr := (List.cons.inj e1).2
    subst e1a e1b
    rw [List.flatten_cons] at nd
    have n0 := List.nodup_append.mp nd
    by_cases hk : k.1 = x
    · have e2 : t0 = t := by
        have e' : (if k.1 = x then some t0 else _) = some t := e
        rw [if_pos hk] at e'
        exact Option.some.inj e'
      subst e2
      refine ⟨k.2, f0, ?_, List.mem_cons_self, a, fun H' hH hp hr => ?_⟩
      · rw [List.lookup_cons]
        rw [show (x == k.1) = true by rw [hk]; exact beq_self_eq_true x]
      · show RelTs W F H' (if k.1 = x then t' :: ts else _) _ _
        rw [if_pos hk]
        exact ⟨_, _, _, _, rfl, rfl, hr, RelTs.mono (Inc.refl F) ts _ fr (fun y hy => hH y fun q => n0.2.2 p hp y hy q.symm) b⟩
    · have e2 : atN (kvs.map (·.1)) ts x = some t := by
        have e' : (if k.1 = x then some t0 else atN (kvs.map (·.1)) ts x) = some t := e
        rwa [if_neg hk] at e'
      obtain ⟨w, f, q1, q2, q3, q4⟩ := RelTs.putN (t' := t') rfl b n0.2.1 e2
      refine ⟨w, f, ?_, List.mem_cons_of_mem _ q2, q3, fun H' hH hp hr => ?_⟩
      · rw [List.lookup_cons]
        rw [show (x == k.1) = false from beq_eq_false_iff_ne.mpr fun z => hk z.symm]
        exact q1
      · show RelTs W F H' (if k.1 = x then _ else t0 :: setN (kvs.map (·.1)) ts x t') _ _
        rw [if_neg hk]
        exact ⟨_, _, _, _, rfl, rfl, RelT.mono (Inc.refl F) t0 _ f0 (fun y hy => hH y fun q => n0.2.2 y hy p (List.mem_flatten.mpr ⟨f, q2, hp⟩) q) a, q4 H' hH hp hr⟩
/-- the part at a place: what it is, and the whole where the part is changed at its own place -/
theorem RelT.mut {u u' : T} : ∀ {π : List Sel} {t : T} {v : V} {fp : List Addr}, RelT W F H t v fp → fp.Nodup → t.getP π = some u → AtV H v π p →
    ∃ fu, (fu.Nodup ∧ ∀ a ∈ fu, a ∈ fp) ∧ RelT W F H u (.ref p) fu ∧ ∀ H', (∀ a, a ≠ p → H' a = H a) → p ∈ fu → RelT W F H' u' (.ref p) fu → RelT W F H' (t.putP π u') v fp
  | [], t, v, fp, r, nd, e, hv => by
    have hv : v = _ := hv
    subst hv
    cases e
    exact ⟨fp, ⟨nd, fun _ h => h⟩, r, fun H' _ _ h => h⟩
  | .ix n :: π, t, v, fp, r, nd, e, hv => by
    obtain ⟨a, vs, w, rfl, hH, hw, hv⟩ := hv
    obtain ⟨t1, e1, e0⟩ := Option.bind_eq_some_iff.mp (show (t.sub (.ix n)).bind _ = _ from e)
    have hput : t.putP (.ix n :: π) u' = t.upd (.ix n) (t1.putP π u') := by
      show (match t.sub (.ix n) with | some t1 => t.upd (.ix n) (t1.putP π u') | none => t) = _
      rw [e1]
    rw [hput]
    cases t with
    | ll ts =>
      obtain ⟨q, vs', fps, ev, rfl, hq, rs⟩ := r
      cases ev
      have evs : vs' = vs := by
        rcases hH with h | h
        · rw [hq] at h; cases h; rfl
        · rw [hq] at h; cases h
      subst evs
      have n0 := List.nodup_cons.mp nd
      obtain ⟨w', f, q1, q2, q3⟩ := rs.at e1
      rw [hw] at q1
      cases q1
      have hfm : ∀ x ∈ f, x ∈ fps.flatten := fun x hx => List.mem_flatten.mpr ⟨f, List.mem_of_getElem? q2, hx⟩
      obtain ⟨fu, h1, h2, h3⟩ := RelT.mut (u' := u') q3 ((List.sublist_flatten_of_mem (List.mem_of_getElem? q2)).nodup n0.2) e0 hv
      have hnd := h1.1
      have h1 := h1.2
      refine ⟨fu, ⟨hnd, fun x hx => List.mem_cons_of_mem _ (hfm x (h1 x hx))⟩, h2, fun H' hH' hp hr => ?_⟩
      refine ⟨_, _, fps, rfl, rfl, ?_, RelTs.put (h1 p hp) (h3 H' hH' hp hr) hH' rs n0.2 hw q2⟩
      rw [hH' _ fun z => n0.1 (by rw [z]; exact hfm p (h1 p hp))]
      exact hq
    | tu ts =>
      obtain ⟨q, vs', fps, ev, rfl, hq, rs⟩ := r
      cases ev
      have evs : vs' = vs := by
        rcases hH with h | h
        · rw [hq] at h; cases h
        · rw [hq] at h; cases h; rfl
      subst evs
      have n0 := List.nodup_cons.mp nd
      obtain ⟨w', f, q1, q2, q3⟩ := rs.at e1
      rw [hw] at q1
      cases q1
      have hfm : ∀ x ∈ f, x ∈ fps.flatten := fun x hx => List.mem_flatten.mpr ⟨f, List.mem_of_getElem? q2, hx⟩
      obtain ⟨fu, h1, h2, h3⟩ := RelT.mut (u' := u') q3 ((List.sublist_flatten_of_mem (List.mem_of_getElem? q2)).nodup n0.2) e0 hv
      have hnd := h1.1
      have h1 := h1.2
      refine ⟨fu, ⟨hnd, fun x hx => List.mem_cons_of_mem _ (hfm x (h1 x hx))⟩, h2, fun H' hH' hp hr => ?_⟩
      refine ⟨_, _, fps, rfl, rfl, ?_, RelTs.put (h1 p hp) (h3 H' hH' hp hr) hH' rs n0.2 hw q2⟩
      rw [hH' _ fun z => n0.1 (by rw [z]; exact hfm p (h1 p hp))]
      exact hq
    | _ => cases e1
  | .at x :: π, t, v, fp, r, nd, e, hv => by
    obtain ⟨a, C, dx, kvs, w, rfl, hH, hw, hv⟩ := hv
    obtain ⟨t1, e1, e0⟩ := Option.bind_eq_some_iff.mp (show (t.sub (.at x)).bind _ = _ from e)
    have hput : t.putP (.at x :: π) u' = t.upd (.at x) (t1.putP π u') := by
      show (match t.sub (.at x) with | some t1 => t.upd (.at x) (t1.putP π u') | none => t) = _
      rw [e1]
    rw [hput]
    cases t with
    | o C' ns ts =>
      obtain ⟨q, dx', kvs', fps, ev, rfl, hq, hk, rs⟩ := r
      cases ev
      rw [hq] at hH
      cases hH
      have n0 := List.nodup_cons.mp nd
      obtain ⟨w', f, q1, q2, q3, q4⟩ := RelTs.putN (p := p) (t' := t1.putP π u') hk rs n0.2 e1
      rw [hw] at q1
      cases q1
      have hfm : ∀ x ∈ f, x ∈ fps.flatten := fun x hx => List.mem_flatten.mpr ⟨f, q2, hx⟩
      obtain ⟨fu, h1, h2, h3⟩ := RelT.mut (u' := u') q3 ((List.sublist_flatten_of_mem q2).nodup n0.2) e0 hv
      have hnd := h1.1
      have h1 := h1.2
      refine ⟨fu, ⟨hnd, fun x hx => List.mem_cons_of_mem _ (hfm x (h1 x hx))⟩, h2, fun H' hH' hp hr => ?_⟩
      refine ⟨_, dx, _, fps, rfl, rfl, ?_, hk, q4 H' hH' (h1 p hp) (h3 H' hH' hp hr)⟩
      rw [hH' _ fun z => n0.1 (by rw [z]; exact hfm p (h1 p hp))]
      exact hq
    | _ => cases e1
theorem Slots.put {v : V} {f : List Addr} {t' : T} (hp : p ∈ f) (hr : RelT W F H' t' v f) (hH : ∀ a, a ≠ p → H' a = H a) : ∀ {ts : List T} {σ : L2.St} {fps : List (List Addr)} {n : Nat}, Slots W F H ts σ fps → fps.flatten.Nodup → σ[n]? = some (some v) → fps[n]? = some f → Slots W F H' (ts.set n t') σ fps
  | [], _, _, _, r, _, e, _ => by rw [r.1] at e; simp at e
  | t :: ts, _, _, 0, r, nd, e1, e2 => by
    obtain ⟨v0, vr, f0, fr, rfl, rfl, a, b⟩ := r
    simp at e1 e2
    subst e1 e2
    rw [List.flatten_cons] at nd
    have n := List.nodup_append.mp nd
    exact ⟨_, _, _, _, rfl, rfl, hr, Slots.mono (Inc.refl F) (fun x hx => hH x fun q => n.2.2 p hp x hx q.symm) b⟩
  | t :: ts, _, _, n + 1, r, nd, e1, e2 => by
    obtain ⟨v0, vr, f0, fr, rfl, rfl, a, b⟩ := r
    simp at e1 e2
    rw [List.flatten_cons] at nd
    have n0 := List.nodup_append.mp nd
    refine ⟨_, _, _, _, rfl, rfl, Slot.mono (Inc.refl F) (fun x hx => hH x fun q => n0.2.2 x hx p (List.mem_flatten.mpr ⟨f, List.mem_of_getElem? e2, hp⟩) q) a, Slots.put hp hr hH b n0.2.1 e1 e2⟩
/-- a slot's thing is changed at one place of its own -/
theorem SR.mut {b : Bs} {ρ : List T} {σ : L2.St} {X : List Tm} {i : Nat} {t u u' : T} {v : V} {π : List Sel} (S : SR W b F ρ σ X H) (hi : ρ[i]? = some t) (hv : σ[i]? = some (some v)) (hu : t.getP π = some u) (ha : AtV H v π p) :
    ∃ fu, RelT W F H u (.ref p) fu ∧ (fu.Nodup ∧ ∀ a ∈ fu, F a = none) ∧ ∀ o o', H p = some o → (b.H0 p ≠ none → Stb (GB W b) o o') → p ∈ fu → RelT W F (upd H p o') u' (.ref p) fu → SR W b F (ρ.set i (t.putP π u')) σ X (upd H p o') := by
  obtain ⟨le, f0, fn, kept, stab, pin, fps, xps, s1, s2, ⟨nd, ow⟩, lc1, lc2⟩ := S
  obtain ⟨s, f, e1, e2, r⟩ := s1.get hi
  rw [hv] at e1
  cases e1
  have n := List.nodup_append.mp nd
  have hf : ∀ a ∈ f, a ∈ fps.flatten := fun a ha => List.mem_flatten.mpr ⟨f, List.mem_of_getElem? e2, ha⟩
  have nf : f.Nodup := (List.sublist_flatten_of_mem (List.mem_of_getElem? e2)).nodup n.1
  obtain ⟨fu, h1, h2, h3⟩ := RelT.mut (u' := u') r nf hu ha
  have hnd := h1.1
  have h1 := h1.2
  refine ⟨fu, h2, ⟨hnd, fun a ha => ow a (List.mem_append_left _ (hf a (h1 a ha)))⟩, fun o o' ho hst hp hr => ?_⟩
  have hpf : p ∈ fps.flatten := hf p (h1 p hp)
  have hpn : F p = none := ow p (List.mem_append_left _ hpf)
  have hne : ∀ a, a ≠ p → upd H p o' a = H a := fun a e => upd_ne e
  refine ⟨fun a x e => ?_, f0, fn, fun a x e hA => ?_, fun a x e hA => ?_, pin, fps, xps, Slots.put (h1 p hp) (h3 _ hne hp hr) hne s1 n.1 hv e2, RelTs.mono (Inc.refl F) _ _ xps (fun a ha => hne a fun q => n.2.2 p hpf a ha q.symm) s2, ⟨nd, ow⟩, lc1, lc2⟩
  · have : a ≠ p := fun q => by rw [q, hpn] at e; cases e
    rw [hne a this]
    exact le a x e
  · have : a ≠ p := fun q => by
      subst q
      rcases LocS.old lc1 hpf with z | z
      · rw [z] at e; cases e
      · exact hA z
    rw [hne a this]
    exact kept a x e hA
  · by_cases q : a = p
    · subst q
      obtain ⟨w, hw, st⟩ := stab a x e hA
      rw [ho] at hw
      cases hw
      exact ⟨o', upd_same, st.trans (hst (by rw [e]; exact fun z => nomatch z))⟩
    · obtain ⟨w, hw, st⟩ := stab a x e hA
      exact ⟨w, by rw [hne a q]; exact hw, st⟩
theorem stb_lst {b : Bs} {ρ : List T} {σ : L2.St} {X : List Tm} {ds : List D} {vs : List V} {vs' : List V} (S : SR W b F ρ σ X H) (r : Reps W F ds vs) : Stb (GB W b) (.lst vs) (.lst vs') := Stb.lst
end
end Z

namespace Z
open PySem PySem.Spec PyProof.Rows L2
section
variable {W : Wd} {F F' H H' : Hp}
theorem rep_ref {d : D} {a : Addr} (q : Rep W F d (.ref a)) : F a ≠ none ∨ W.K.lookup a ≠ none := by
  cases d with
  | non => cases (show V.ref a = _ from q)
  | bl b => cases (show V.ref a = _ from q)
  | int b => cases (show V.ref a = _ from q)
  | str b => cases (show V.ref a = _ from q)
  | tup l =>
    obtain ⟨p, us, e, s, _⟩ := q
    cases e
    rcases s with (s | ⟨o, s⟩) | ⟨o, its, n, s, _⟩
    · exact .inl (by rw [s]; simp)
    · exact .inl (by rw [s]; simp)
    · exact .inr (by rw [s]; simp)
  | lst l =>
    obtain ⟨p, us, e, s, _⟩ := q
    cases e
    rcases s with (s | ⟨o, s⟩) | ⟨o, its, n, s, _⟩
    · exact .inl (by rw [s]; simp)
    · exact .inl (by rw [s]; simp)
    · exact .inr (by rw [s]; simp)
  | dct ks l =>
    obtain ⟨p, us, e, s, _⟩ := q
    cases e
    rcases s with s | ⟨o, s⟩
    · exact .inl (by rw [s]; simp)
    · exact .inl (by rw [s]; simp)
  | obj C ns l =>
    obtain ⟨p, dx, us, e, s, _⟩ := q
    cases e
    exact .inl (by rw [s]; simp)
theorem stb_lstF {ds : List D} {vs vs' : List V} (r : Reps W F ds vs) : Stb (GF W F) (.lst vs) (.lst vs') := Stb.lst
theorem stb_dk {kvs kvs' : List (Key × V)} {G : Addr → Prop} : Stb G (.dK kvs) (.dK kvs') := Stb.dk
end
/-! ### where a thing of one's own stands -/
def owned : T → Bool | .un => false | .f _ => false | _ => true
def Sl (W : Wd) (te : TE) (i : Nat) (f : List T → Option (List Sel)) : Prop :=
  ∀ b F ρ σ X H π t u Q, SR W b F ρ σ X H → f ρ = some π → ρ[i]? = some t → t.getP π = some u → owned u = true → (∀ p v F' H', SR W b F' ρ σ X H' → Inc F F' → Same H H' → σ[i]? = some (some v) → AtV H' v π p → Q (.ref p) H') → te σ H Q
def Lo (c : Ctx) (e : Expr) (i : Nat) (f : List T → Option (List Sel)) : Prop := ∃ t, (∀ j, PE (c.X j) e t) ∧ Sl c.W t i f
def pHere : List T → Option (List Sel) := fun _ => some []
theorem owned_ref {W : Wd} {F H : Hp} {t : T} {v : V} {fp : List Addr} (r : RelT W F H t v fp) (h : owned t = true) : ∃ p, v = .ref p := by
  cases t with
  | un => cases h
  | f d => cases h
  | l ds => obtain ⟨p, _, e, _⟩ := r; exact ⟨p, e⟩
  | dk ks ds => obtain ⟨p, _, e, _⟩ := r; exact ⟨p, e⟩
  | di ks ds => obtain ⟨p, _, e, _⟩ := r; exact ⟨p, e⟩
  | ll ts => obtain ⟨p, _, _, e, _⟩ := r; exact ⟨p, e⟩
  | tu ts => obtain ⟨p, _, _, e, _⟩ := r; exact ⟨p, e⟩
  | o C ns ts => obtain ⟨p, _, _, _, e, _⟩ := r; exact ⟨p, e⟩
section
variable {c : Ctx} {pos : Pos}
theorem lo_v (i : Nat) {x : Str} (hi : c.N[i]? = some x := by rfl) (hv : ∀ j, Vis (c.X j).env.scope x := by intro _; first | exact Or.inl rfl | exact Or.inr (Or.inl rfl) | exact Or.inr (Or.inr rfl)) (hd : (x == ("__debug__" : Str)) = false := by decide) (hcd : (x == ("__classdict__" : Str)) = false := by decide) : Lo c (.Name x pos) i pHere := by
  refine ⟨_, fun j => pe_var (i := i) (by rw [c.hN j]; exact hi) (hv j) hd hcd, ?_⟩
  intro b F ρ σ X H π t u Q S e ht hu ho k
  cases e
  cases hu
  obtain ⟨s, fp, e1, r⟩ := S.slot ht
  cases s with
  | none => rw [r.1] at ho; cases ho
  | some v =>
    obtain ⟨p, rfl⟩ := owned_ref r ho
    exact ⟨_, e1, k p _ F H S (Inc.refl F) (Same.refl H) e1 rfl⟩
end
/-- a slot's thing with one part changed -/
def mutF (i : Nat) (π : List Sel) (g : T → Option T) (ρ : List T) : Option (List T) := ρ[i]?.bind fun t => (t.getP π).bind fun u => (g u).map fun u' => ρ.set i (t.putP π u')
theorem mutF_some {i : Nat} {π : List Sel} {g : T → Option T} {ρ ρ' : List T} (h : mutF i π g ρ = some ρ') : ∃ t u u', ρ[i]? = some t ∧ t.getP π = some u ∧ g u = some u' ∧ ρ' = ρ.set i (t.putP π u') := by
  obtain ⟨t, e1, h⟩ := Option.bind_eq_some_iff.mp h
  obtain ⟨u, e2, h⟩ := Option.bind_eq_some_iff.mp h
  obtain ⟨u', e3, h⟩ := Option.map_eq_some_iff.mp h
  exact ⟨t, u, u', e1, e2, e3, h.symm⟩
def appT (d : D) : T → Option T
  | .l ds => if ds.length < sizeLine then some (.l (ds ++ [d])) else none
  | _ => none
/-- xs.append(e) -/
def sApp (i : Nat) (fp : List T → Option (List Sel)) (fe : List T → Option T) : FS := fun ρ => (fp ρ).bind fun π => (fe ρ).bind fun x => x.d?.bind fun d => (mutF i π (appT d) ρ).map .nx
theorem SR.app {W : Wd} {b : Bs} {F : Hp} {ρ ρ' : List T} {σ : L2.St} {X : List Tm} {H : Hp} {i : Nat} {π : List Sel} {d : D} {v y : V} {p : Addr} (S : SR W b F ρ σ X H) (h : mutF i π (appT d) ρ = some ρ') (hv : σ[i]? = some (some v)) (ha : AtV H v π p) (r : Rep W F d y) :
    ∃ vs, H p = some (.lst vs) ∧ vs.length < sizeLine ∧ SR W b F ρ' σ X (upd H p (.lst (vs ++ [y]))) := by
  obtain ⟨t, u, u', e1, e2, e3, rfl⟩ := mutF_some h
  cases u with
  | l ds =>
    have e3' : (if ds.length < sizeLine then some (T.l (ds ++ [d])) else none) = some u' := e3
    split at e3'
    · rename_i hl
      cases e3'
      obtain ⟨fu, q1, q2, q3⟩ := S.mut (u' := .l (ds ++ [d])) e1 hv e2 ha
      obtain ⟨p', vs, ep, rfl, hp, rs⟩ := q1
      cases ep
      refine ⟨vs, hp, by rw [← rs.len]; exact hl, q3 _ _ hp (fun _ => stb_lst S rs) (List.mem_singleton.mpr rfl) ⟨p, _, rfl, rfl, upd_same, rs.append ⟨y, [], rfl, r, rfl⟩⟩⟩
    · cases e3'
  | _ => cases e3
section
variable {c : Ctx} {e o : Expr} {i : Nat} {fp : List T → Option (List Sel)} {fe fk : List T → Option T} {pos apos cpos : Pos}
theorem mutF_own {i : Nat} {π : List Sel} {g : T → Option T} {ρ ρ' : List T} (h : mutF i π g ρ = some ρ') (hg : ∀ u u', g u = some u' → owned u = true) : ∃ t u, ρ[i]? = some t ∧ t.getP π = some u ∧ owned u = true := by
  obtain ⟨t, u, u', e1, e2, e3, _⟩ := mutF_some h
  exact ⟨t, u, e1, e2, hg u u' e3⟩
theorem appT_own {d : D} (u u' : T) (h : appT d u = some u') : owned u = true := by
  cases u with
  | un => cases h
  | f d => cases h
  | _ => rfl
theorem sm_app (ho : Lo c o i fp) (he : Ev c e fe)
    (hbase : ∀ j, attributeBase o "append" (c.X j).env (eval o (c.X j).env) = eval o (c.X j).env := by intro _; rfl)
    (hfew : ∀ j, ((backTo cpos (starEach [e] (c.X j).env)).all (fun x => !x.1) && (backToKw cpos (keywordEach [] (c.X j).env)).all (fun x => x.1.isSome)
      && decide (([e] : List Expr).length + ([] : List Keyword).length + (if ([] : List Keyword).isEmpty then 0 else 1) < 30)) = true := by intro _; rfl)
    (hline : (apos.endLine == cpos.line) = true := by rfl) (hs : ∀ j, starEach [e] (c.X j).env = (false, eval e (c.X j).env) :: starEach [] (c.X j).env := by intro _; rfl) (hplain : ∀ j, (backTo cpos (starEach [] (c.X j).env)).any (·.1) = false := by intro _; rfl)
    (hsw : ∀ j, swapsWith (.Call (.Attribute o "append" apos) [e] [] cpos) none pos.line (c.X j).env = pure false := by intro _; rfl) :
    Sm c (.Expr (.Call (.Attribute o "append" apos) [e] [] cpos) pos) (sApp i fp fe) := by
  obtain ⟨to, po, so⟩ := ho
  obtain ⟨te, pe, se⟩ := he
  refine ⟨tDrop (tBM c.W.K "list" rAppend to (tCons te tNil)), fun j => by
    have h := ps_expr (pe_bm PySem.F.plainAttrs_list PySem.F.slot_list_append PySem.F.type_list_append mt_append (po j) (pa_cons (pe j) pa_nil (hs j)) (hbase j) (hfew j) hline (hs j) (hplain j)) (hsw j)
    rw [c.hK j] at h
    exact h, ?_⟩
  intro b F ρ σ X H out D hb S eq k
  unfold sApp at eq
  obtain ⟨π, e1, eq⟩ := Option.bind_eq_some_iff.mp eq
  obtain ⟨x, e2, eq⟩ := Option.bind_eq_some_iff.mp eq
  obtain ⟨d, e3, eq⟩ := Option.bind_eq_some_iff.mp eq
  obtain ⟨ρ', e4, eq⟩ := Option.map_eq_some_iff.mp eq
  subst eq
  cases d_some e3
  obtain ⟨tt, uu, h1, h2, h3⟩ := mutF_own e4 appT_own
  refine so b F ρ σ X H π tt uu _ S e1 h1 h2 h3 fun p v F1 H1 S1 i1 s1 hv hat => ?_
  obtain ⟨t9, u9, u9', f1, f2, f3, _⟩ := mutF_some e4
  obtain ⟨fu, q1, _⟩ := S1.mut (u' := .un) f1 hv f2 hat
  have hl : ∃ vs, H1 p = some (.lst vs) := by
    cases u9 with
    | l ds => obtain ⟨p', vs, ep, _, hp, _⟩ := q1; cases ep; exact ⟨vs, hp⟩
    | _ => cases f3
  obtain ⟨vs0, hl⟩ := hl
  refine ⟨.inl ⟨rfl, vs0, SqL.of hl⟩, ?_⟩
  refine se b F1 ρ σ X H1 _ _ S1 e2 fun y F2 H2 S2 i2 s2 r2 => ?_
  obtain ⟨vs, hp, hz, S3⟩ := S2.app e4 hv (hat.same s2) r2.rep
  exact ⟨p, vs, y, rfl, rfl, hp, hz, k σ F2 _ S3 (i1.trans i2)⟩
/-! o[k] = e -/
def setT (k d : D) : T → Option T
  | .l ds => (T.f k).i?.bind fun j => (ixN ds.length j).map fun n => .l (ds.set n d)
  | .dk ks ds => (T.f k).key?.bind fun q => if ks.length < sizeLine then some (.dk (dput ks ds q d).1 (dput ks ds q d).2) else none
  | _ => none
def sSetIx (i : Nat) (fp : List T → Option (List Sel)) (fk fe : List T → Option T) : FS := fun ρ => (fe ρ).bind fun x => x.d?.bind fun d => (fp ρ).bind fun π => (fk ρ).bind fun z => z.d?.bind fun q => (mutF i π (setT q d) ρ).map .nx
theorem setT_own {k d : D} (u u' : T) (h : setT k d u = some u') : owned u = true := by
  cases u with
  | un => cases h
  | f d => cases h
  | _ => rfl
def rSetU : TSet := fun o i v H Q => rSetL o i v H Q ∨ rSetD o i v H Q
theorem set_U {X : Cx} (hu : X.A.units + 1 < cLine) : PSet X rSetU := by
  intro pins s σ H o i v ov iv u Q I ro ri rv h
  rcases h with h | h
  · exact set_list pins s σ H o i v ov iv u Q I ro ri rv h
  · exact set_dict hu pins s σ H o i v ov iv u Q I ro ri rv h
theorem rep_key {W : Wd} {F : Hp} {d : D} {k : Key} {v : V} (r : Rep W F d v) (h : (T.f d).key? = some k) : v = kV k := by
  cases d with
  | int i => cases h; exact r
  | str x => cases h; exact r
  | _ => cases h
theorem SR.setIx {W : Wd} {b : Bs} {F : Hp} {ρ ρ' : List T} {σ : L2.St} {X : List Tm} {H : Hp} {i : Nat} {π : List Sel} {d q : D} {v y z : V} {p : Addr} (S : SR W b F ρ σ X H) (h : mutF i π (setT q d) ρ = some ρ') (hv : σ[i]? = some (some v)) (ha : AtV H v π p) (r : Rep W F d y) (rq : Rep W F q z)
    {Q : Hp → Prop} (k : ∀ H', SR W b F ρ' σ X H' → Q H') : rSetU (.ref p) z y H Q := by
  obtain ⟨t, u, u', e1, e2, e3, rfl⟩ := mutF_some h
  cases u with
  | l ds =>
    obtain ⟨j, e4, e3⟩ := Option.bind_eq_some_iff.mp (show (T.f q).i?.bind _ = some u' from e3)
    obtain ⟨n, e5, e3⟩ := Option.map_eq_some_iff.mp e3
    subst e3
    have hq : q = .int j := by cases q <;> first | (cases e4; rfl) | cases e4
    subst hq
    obtain ⟨fu, q1, q2, q3⟩ := S.mut (u' := .l (ds.set n d)) e1 hv e2 ha
    obtain ⟨p', vs, ep, rfl, hp, rs⟩ := q1
    cases ep
    have hz : z = .int j := rq
    subst hz
    refine .inl ⟨p, vs, j, n, rfl, rfl, hp, by rw [← rs.len]; exact e5, k _ (q3 _ _ hp (fun _ => stb_lst S rs) (List.mem_singleton.mpr rfl) ⟨p, _, rfl, rfl, upd_same, Reps.set r n rs⟩)⟩
  | dk ks ds =>
    obtain ⟨j, e4, e3⟩ := Option.bind_eq_some_iff.mp (show (T.f q).key?.bind _ = some u' from e3)
    split at e3
    · rename_i hl
      cases e3
      obtain ⟨fu, q1, q2, q3⟩ := S.mut (u' := .dk (dput ks ds j d).1 (dput ks ds j d).2) e1 hv e2 ha
      obtain ⟨p', kvs, ep, rfl, hp, hk, rs⟩ := q1
      cases ep
      have hz := rep_key rq e4
      subst hz
      have hk2 : kvs.length < sizeLine := by rw [← hk, List.length_map] at hl; exact hl
      have dp := dput_ok hk rs r (k := j)
      exact .inr ⟨p, _, rfl, DPut.k hp hk2, k _ (q3 _ _ hp (fun _ => stb_dk) (List.mem_singleton.mpr rfl) ⟨p, _, rfl, rfl, upd_same, dp.1, dp.2⟩)⟩
    · cases e3
  | _ => cases e3
theorem sm_setIx {ek : Expr} {pos' : Pos} (ho : Lo c o i fp) (hk : Ev c ek fk) (he : Ev c e fe)
    (hsw : ∀ j, swapsWithSole [.Subscript o ek pos'] e pos.line (c.X j).env = pure false := by intro _; rfl) (hw : ∀ j, swappedStores [.Subscript o ek pos'] e (c.X j).env = pure none := by intro _; rfl)
    (h1 : ∀ j, (assignEach [.Subscript o ek pos'] (c.X j).env).map (·.2) = [assign (.Subscript o ek pos') (c.X j).env] := by intro _; rfl)
    (ha : ∀ j v, assign (.Subscript o ek pos') (c.X j).env v = (do
      let ov ← holding [v] (eval o (c.X j).env)
      let iv ← holding [v, ov] (eval ek (c.X j).env)
      standAt pos'
      holding [v, ov, iv] (setItem ov iv v)
      release [v, ov, iv] []) := by intro _ _; rfl) : Sm c (.Assign [.Subscript o ek pos'] e pos) (sSetIx i fp fk fe) := by
  obtain ⟨to, po, so⟩ := ho
  obtain ⟨te, pe, se⟩ := he
  obtain ⟨tk, pk, sk⟩ := hk
  refine ⟨tAsg te (L2.gSub to tk rSetU), fun j => ps_asg (pe j) (pg_sub (po j) (pk j) (set_U (c.hu1 j)) (ha j)) (hsw j) (hw j) (h1 j), ?_⟩
  intro b F ρ σ X H out D hb S eq k
  unfold sSetIx at eq
  obtain ⟨x, e2, eq⟩ := Option.bind_eq_some_iff.mp eq
  obtain ⟨d, e3, eq⟩ := Option.bind_eq_some_iff.mp eq
  obtain ⟨π, e1, eq⟩ := Option.bind_eq_some_iff.mp eq
  obtain ⟨z, e5, eq⟩ := Option.bind_eq_some_iff.mp eq
  obtain ⟨q, e6, eq⟩ := Option.bind_eq_some_iff.mp eq
  obtain ⟨ρ', e4, eq⟩ := Option.map_eq_some_iff.mp eq
  subst eq
  cases d_some e3
  cases d_some e6
  obtain ⟨tt, uu, h1, h2, h3⟩ := mutF_own e4 setT_own
  refine se b F ρ σ X H _ _ S e2 fun y F1 H1 S1 i1 s1 r1 => ?_
  refine so b F1 ρ σ X H1 π tt uu _ S1 e1 h1 h2 h3 fun p v F2 H2 S2 i2 s2 hv hat => ?_
  refine sk b F2 ρ σ X H2 _ _ S2 e5 fun w F3 H3 S3 i3 s3 r3 => ?_
  exact S3.setIx e4 hv (hat.same s3) ((r1.ext i2 s2).ext i3 s3).rep r3.rep fun H' S' => k σ F3 H' S' ((i1.trans i2).trans i3)
end
end Z

namespace Z
open PySem PySem.Spec PyProof.Rows L2
/-! ### comprehensions -/
/-- what a pure thing goes over -/
def Sip (W : Wd) (wi : TI) (f : List T → Option (List D)) : Prop :=
  ∀ b F ρ σ X H ds R, SR W b F ρ σ X H → f ρ = some ds → (∀ J F' H', SR W b F' ρ σ X H' → Inc F F' → Same H H' → Wk W F' J ds → R J H') → wi σ H R
def Ip (c : Ctx) (tg e : Expr) (f : List T → Option (List D)) : Prop := ∃ wi, (∀ j, PI (c.X j) tg e wi) ∧ Sip c.W wi f
/-- a target that sets the slots vs alone -/
def Sgc (W : Wd) (g : TG) (f : T → List T → Option (List T)) (vs : List Nat) : Prop :=
  ∀ b F ρ ρ' σ X H t v Q, SR W b F ρ σ (⟨none, t, v⟩ :: X) H → b.io = [] → f t ρ = some ρ' → (∀ σ' F' H', SR W b F' ρ' σ' X H' → Inc F F' → Same H H' → L2.wipe σ' vs = L2.wipe σ vs → Q σ' H') → g v σ H Q
def wipeR (ρ : List T) : List Nat → List T
  | [] => ρ
  | v :: vs => (wipeR ρ vs).set v .un
def Gc (c : Ctx) (e : Expr) (f : T → List T → Option (List T)) (vs : List Nat) : Prop := ∃ g, (∀ j, PG (c.X j) e g) ∧ Sgc c.W g f vs ∧ ∀ t ρ ρ', f t ρ = some ρ' → wipeR ρ' vs = wipeR ρ vs
def Sgcs (W : Wd) (g : TGs) (f : List T → List T → Option (List T)) (vs : List Nat) : Prop :=
  ∀ b F ρ ρ' σ X H ts us Q, ts.length = us.length → SR W b F ρ σ (Xn ts us ++ X) H → b.io = [] → f ts ρ = some ρ' → (∀ σ' F' H', SR W b F' ρ' σ' X H' → Inc F F' → Same H H' → L2.wipe σ' vs = L2.wipe σ vs → Q σ' H') → g us σ H Q
def Gcs (c : Ctx) (es : List Expr) (f : List T → List T → Option (List T)) (vs : List Nat) : Prop := ∃ g, (∀ j, PGs (c.X j) es g) ∧ Sgcs c.W g f vs ∧ ∀ ts ρ ρ', f ts ρ = some ρ' → wipeR ρ' vs = wipeR ρ vs
theorem set_set_comm {α : Type} (l : List α) (i j : Nat) (a : α) : (l.set i a).set j a = (l.set j a).set i a := by
  by_cases h : i = j
  · subst h; rfl
  · exact List.set_comm _ _ h
theorem wipe_set {s : Option V} : ∀ {vs : List Nat} {σ : L2.St} {i : Nat}, i ∈ vs → L2.wipe (σ.set i s) vs = L2.wipe σ vs
  | [], _, _, h => by cases h
  | v :: vs, σ, i, h => by
    have key : ∀ (us : List Nat) (τ : L2.St) (j : Nat) (a : Option V), j ∉ us → L2.wipe (τ.set j a) us = (L2.wipe τ us).set j a := by
      intro us
      induction us with
      | nil => intro τ j a _; rfl
      | cons u us ih =>
        intro τ j a hj
        have hj' : j ≠ u ∧ j ∉ us := ⟨fun h => hj (h ▸ List.mem_cons_self), fun h => hj (List.mem_cons_of_mem _ h)⟩
        show (L2.wipe (τ.set j a) us).set u none = ((L2.wipe τ us).set u none).set j a
        rw [ih τ j a hj'.2, List.set_comm _ _ hj'.1]
    by_cases hm : i ∈ vs
    · show (L2.wipe (σ.set i s) vs).set v none = (L2.wipe σ vs).set v none
      rw [wipe_set hm]
    · have hv : i = v := by
        rcases List.mem_cons.mp h with z | z
        · exact z
        · exact absurd z hm
      subst hv
      show (L2.wipe (σ.set i s) vs).set i none = (L2.wipe σ vs).set i none
      rw [key vs σ i s hm, List.set_set]
theorem wipeR_set {t : T} : ∀ {vs : List Nat} {ρ : List T} {i : Nat}, i ∈ vs → wipeR (ρ.set i t) vs = wipeR ρ vs
  | [], _, _, h => by cases h
  | v :: vs, ρ, i, h => by
    have key : ∀ (us : List Nat) (τ : List T) (j : Nat) (a : T), j ∉ us → wipeR (τ.set j a) us = (wipeR τ us).set j a := by
      intro us
      induction us with
      | nil => intro τ j a _; rfl
      | cons u us ih =>
        intro τ j a hj
        have hj' : j ≠ u ∧ j ∉ us := ⟨fun h => hj (h ▸ List.mem_cons_self), fun h => hj (List.mem_cons_of_mem _ h)⟩
        show (wipeR (τ.set j a) us).set u .un = ((wipeR τ us).set u .un).set j a
        rw [ih τ j a hj'.2, List.set_comm _ _ hj'.1]
    by_cases hm : i ∈ vs
    · show (wipeR (ρ.set i t) vs).set v .un = (wipeR ρ vs).set v .un
      rw [wipeR_set hm]
    · have hv : i = v := by
        rcases List.mem_cons.mp h with z | z
        · exact z
        · exact absurd z hm
      subst hv
      show (wipeR (ρ.set i t) vs).set i .un = (wipeR ρ vs).set i .un
      rw [key vs ρ i t hm, List.set_set]
theorem wipe_wipe (σ : L2.St) : ∀ vs us : List Nat, (∀ v ∈ us, v ∈ vs) → L2.wipe (L2.wipe σ us) vs = L2.wipe σ vs
  | vs, [], _ => rfl
  | vs, u :: us, h => by
    show L2.wipe ((L2.wipe σ us).set u none) vs = _
    rw [wipe_set (h u List.mem_cons_self), wipe_wipe σ vs us fun v hv => h v (List.mem_cons_of_mem _ hv)]
section
variable {W : Wd} {b : Bs} {F F' : Hp} {ρ : List T} {σ : L2.St} {X : List Tm} {H H' : Hp}
def Bs.noio (b : Bs) : Bs := ⟨b.H0, b.F0, b.As, []⟩
theorem locX_noio : ∀ {X : List Tm} {xps : List (List Addr)}, LocX b X xps → LocX b.noio X xps
  | [], _, _ => trivial
  | _ :: _, [], _ => trivial
  | _ :: _, _ :: _, h => ⟨h.1, locX_noio h.2⟩
theorem locX_io : ∀ {X : List Tm} {xps : List (List Addr)}, LocX b.noio X xps → LocX b X xps
  | [], _, _ => trivial
  | _ :: _, [], _ => trivial
  | _ :: _, _ :: _, h => ⟨h.1, locX_io h.2⟩
theorem SR.noio (S : SR W b F ρ σ X H) : SR W b.noio F ρ σ X H := by
  obtain ⟨le, f0, fn, kept, stab, pin, fps, xps, s1, s2, ow, lc1, lc2⟩ := S
  exact ⟨le, f0, fn, kept, stab, (fun p hp => by cases hp), fps, xps, s1, s2, ow, lc1, locX_noio lc2⟩
theorem SR.io (S : SR W b.noio F' ρ σ X H') (h : ∀ p ∈ b.io, σ[p.1]? = some (some p.2)) : SR W b F' ρ σ X H' := by
  obtain ⟨le, f0, fn, kept, stab, pin, fps, xps, s1, s2, ow, lc1, lc2⟩ := S
  exact ⟨le, f0, fn, kept, stab, h, fps, xps, s1, s2, ow, lc1, locX_io lc2⟩
/-- a slot is forgotten -/
theorem SR.unset {i : Nat} (S : SR W b F ρ σ X H) (hio : b.io = []) : SR W b F (ρ.set i .un) (σ.set i none) X H := by
  obtain ⟨le, f0, fn, kept, stab, pin, fps, xps, s1, s2, ⟨nd, ow⟩, lc1, lc2⟩ := S
  have s1' : Slots W F H (ρ.set i .un) (σ.set i none) (fps.set i []) := Slots.set (s' := none) (u := .un) (f' := []) ⟨rfl, rfl⟩ i s1
  have mset : ∀ a ∈ (fps.set i []).flatten, a ∈ fps.flatten := fun a ha => (mem_set_flat ha).elim id fun z => nomatch z
  have n := List.nodup_append.mp nd
  have nset : (fps.set i []).flatten.Nodup := by
    by_cases hi : i < fps.length
    · exact nodup_set n.1 (List.getElem?_eq_getElem hi) List.nodup_nil (fun a ha => nomatch ha)
    · rw [List.set_eq_of_length_le (by omega)]; exact n.1
  refine ⟨le, f0, fn, kept, stab, (by rw [hio]; exact fun p hp => by cases hp), _, xps, s1', s2, ⟨List.nodup_append.mpr ⟨nset, n.2.1, fun a ha c hc e => n.2.2 a (mset a ha) c hc e⟩, fun a ha => ?_⟩, fun j f hj a ha => ?_, lc2⟩
  · rcases List.mem_append.mp ha with z | z
    · exact ow a (List.mem_append_left _ (mset a z))
    · exact ow a (List.mem_append_right _ z)
  · by_cases hij : i = j
    · subst hij
      rw [List.getElem?_set] at hj
      split at hj
      · split at hj
        · cases hj; cases ha
        · cases hj
      · exact lc1 _ f hj a ha
    · rw [List.getElem?_set_ne hij] at hj
      exact lc1 j f hj a ha
/-- .. and told again -/
theorem SR.reset {i : Nat} {ρ' : List T} {σ' : L2.St} (S : SR W b F (ρ'.set i .un) (σ'.set i none) X H) (hio : b.io = []) (h : ∀ t s, ρ'[i]? = some t → σ'[i]? = some s → Slot W F H t s []) (hl : ρ'.length = σ'.length) : SR W b F ρ' σ' X H := by
  by_cases hi : i < ρ'.length
  · obtain ⟨le, f0, fn, kept, stab, pin, fps, xps, s1, s2, ⟨nd, ow⟩, lc1, lc2⟩ := S
    have hlen := s1.len
    rw [List.length_set, List.length_set] at hlen
    have s1' := Slots.set (h ρ'[i] (σ'[i]'(by omega)) (List.getElem?_eq_getElem hi) (List.getElem?_eq_getElem _)) i s1
    rw [List.set_set, List.set_set] at s1'
    rw [List.set_getElem_self, List.set_getElem_self] at s1'
    have mset : ∀ a ∈ (fps.set i []).flatten, a ∈ fps.flatten := fun a ha => (mem_set_flat ha).elim id fun z => nomatch z
    have n := List.nodup_append.mp nd
    have nset : (fps.set i []).flatten.Nodup := nodup_set n.1 (List.getElem?_eq_getElem (show i < fps.length by omega)) List.nodup_nil (fun a ha => nomatch ha)
    refine ⟨le, f0, fn, kept, stab, (by rw [hio]; exact fun p hp => by cases hp), _, xps, s1', s2, ⟨List.nodup_append.mpr ⟨nset, n.2.1, fun a ha c hc e => n.2.2 a (mset a ha) c hc e⟩, fun a ha => ?_⟩, fun j f hj a ha => ?_, lc2⟩
    · rcases List.mem_append.mp ha with z | z
      · exact ow a (List.mem_append_left _ (mset a z))
      · exact ow a (List.mem_append_right _ z)
    · by_cases hij : i = j
      · subst hij
        rw [List.getElem?_set] at hj
        split at hj
        · split at hj
          · cases hj; cases ha
          · cases hj
        · exact lc1 _ f hj a ha
      · rw [List.getElem?_set_ne hij] at hj
        exact lc1 j f hj a ha
  · rw [List.set_eq_of_length_le (by omega), List.set_eq_of_length_le (by omega)] at S
    exact S
theorem SR.wipes (hio : b.io = []) : ∀ (vs : List Nat), SR W b F ρ σ X H → SR W b F (wipeR ρ vs) (L2.wipe σ vs) X H
  | [], S => S
  | v :: vs, S => (SR.wipes hio vs S).unset hio
/-- the slots that a block may have as its own: deep ones -/
def okW (ρ : List T) (vs : List Nat) : Bool := vs.all fun v => match ρ[v]? with
  | none => true
  | some .un => true
  | some (.f _) => true
  | _ => false
theorem wipeR_length (ρ : List T) : ∀ vs : List Nat, (wipeR ρ vs).length = ρ.length
  | [] => rfl
  | v :: vs => by show ((wipeR ρ vs).set v .un).length = _; rw [List.length_set, wipeR_length ρ vs]
theorem wipeR_at (ρ : List T) (i : Nat) : ∀ vs : List Nat, (wipeR ρ vs)[i]? = ρ[i]? ∨ (wipeR ρ vs)[i]? = some .un
  | [] => .inl rfl
  | v :: vs => by
    show ((wipeR ρ vs).set v .un)[i]? = _ ∨ ((wipeR ρ vs).set v .un)[i]? = _
    by_cases h : v = i
    · subst h
      by_cases hl : v < (wipeR ρ vs).length
      · rw [List.getElem?_set_self hl]; exact .inr rfl
      · rw [List.set_eq_of_length_le (by omega)]; exact wipeR_at ρ v vs
    · rw [List.getElem?_set_ne h]
      exact wipeR_at ρ i vs
theorem SR.unwipes {X' : List Tm} {us : List Nat} (hio : b.io = []) (S : SR W b F ρ σ X H) (i1 : Inc F F') (hw : okW ρ us = true) : ∀ (vs : List Nat), (∀ v ∈ vs, v ∈ us) → SR W b F' (wipeR ρ vs) (L2.wipe σ vs) X' H' → SR W b F' ρ σ X' H'
  | [], _, R => R
  | v :: vs, hv, R => by
    have R' : SR W b F' ((wipeR ρ vs).set v .un) ((L2.wipe σ vs).set v none) X' H' := R
    have Sv := SR.wipes hio vs S
    refine SR.unwipes hio S i1 hw vs (fun x hx => hv x (List.mem_cons_of_mem _ hx)) (R'.reset hio (fun t s et es => ?_) Sv.len)
    obtain ⟨s0, fp, e0, r⟩ := Sv.slot et
    rw [es] at e0
    cases e0
    have ht : t = .un ∨ ∃ d, t = .f d := by
      rcases wipeR_at ρ v vs with z | z
      · rw [z] at et
        have := List.all_eq_true.mp hw v (hv v List.mem_cons_self)
        rw [et] at this
        cases t with
        | un => exact .inl rfl
        | f d => exact .inr ⟨d, rfl⟩
        | _ => cases this
      · rw [z] at et; cases et; exact .inl rfl
    rcases ht with rfl | ⟨d, rfl⟩
    · cases s with
      | none => exact ⟨rfl, rfl⟩
      | some w => exact (rfl : ([] : List Addr) = [])
    · cases s with
      | none => exact nomatch r.1
      | some w => exact ⟨rfl, Rep.inc i1 r.2⟩
/-- the list that is being made -/
theorem SR.topApp {ds : List D} {d : D} {D0 : Addr} {y : V} (S : SR W b F ρ σ (⟨none, .l ds, .ref D0⟩ :: X) H) (r : Rep W F d y) : ∃ vs, H D0 = some (.lst vs) ∧ vs.length = ds.length ∧ SR W b F ρ σ (⟨none, .l (ds ++ [d]), .ref D0⟩ :: X) (upd H D0 (.lst (vs ++ [y]))) := by
  obtain ⟨vs, hD, rs⟩ : ∃ vs, H D0 = some (.lst vs) ∧ Reps W F ds vs := by
    obtain ⟨_, _, _, _, _, _, fps, xps, _, s2, _⟩ := S
    obtain ⟨v, vr, f, fr, e1, e2, r1, r2⟩ := s2
    obtain ⟨p, vs, ep, _, hp, rs⟩ := r1
    have e3 : V.ref D0 = v := (List.cons.inj e1).1
    rw [ep] at e3
    cases e3
    exact ⟨vs, hp, rs⟩
  refine ⟨vs, hD, rs.len.symm, ?_⟩
  refine S.wrX (t' := .l (ds ++ [d])) (o := .lst vs) fun fp rf nd hn => ?_
  obtain ⟨p, vs', ep, rfl, hp, rs'⟩ := rf
  cases ep
  rw [hD] at hp
  cases hp
  exact ⟨hD, stb_lstF rs, List.mem_singleton.mpr rfl, [D0], ⟨D0, _, rfl, rfl, upd_same, rs.append ⟨y, [], rfl, r, rfl⟩⟩, nd, fun a h => h⟩
end
/-- the block's contexts -/
def cB (c : Ctx) (scope : Scope) : Ctx where
  J := c.J × Shared × Hp × Addr × List (Str × Addr) × List Addr
  X := fun q => (c.X q.1).blk q.2.1 q.2.2.1 scope (compEnvC scope q.2.2.2.2.1 q.2.2.2.1 (c.X q.1).env) q.2.2.2.2.2
  W := c.W
  P := ⟨c.P.m, [], []⟩
  E := fun _ _ _ _ => False
  N := c.N
  k := c.k
  hK := fun q => c.hK q.1
  hN := fun q => c.hN q.1
  nd := c.nd
  calm := fun q => c.calm q.1
  room := fun q => c.room q.1
def Tvs (c : Ctx) (es : List Expr) (f : List T → Option Bool) : Prop := ∃ t, (∀ j, PTs (c.X j) es t) ∧ Stv c.W t f
def tYesF : List T → Option Bool := fun _ => some true
theorem tvs_nil {c : Ctx} : Tvs c [] tYesF := ⟨_, fun _ => pts_nil, fun b F ρ σ X H cc Q S e k => by cases e; exact k F H S (Inc.refl F) (Same.refl H)⟩
theorem tvs_one {c : Ctx} {e : Expr} {f : List T → Option Bool} (h : Tv c e f) : Tvs c [e] f := by
  obtain ⟨t, p, s⟩ := h
  exact ⟨t, fun j => pts_one (p j), s⟩
def lcF (fg : T → List T → Option (List T)) (ft : List T → Option Bool) (fe : List T → Option T) (ρ0 : List T) : List D → Option (List D)
  | [] => some []
  | d :: ds => (fg (.f d) ρ0).bind fun ρ1 => (ft ρ1).bind fun b => if b = true then (fe ρ1).bind fun t => t.d?.bind fun e => (lcF fg ft fe ρ0 ds).map fun r => e :: r else lcF fg ft fe ρ0 ds
def fLc (vs : List Nat) (fi : List T → Option (List D)) (fg : T → List T → Option (List T)) (ft : List T → Option Bool) (fe : List T → Option T) : List T → Option T :=
  fun ρ => if okW ρ vs = true then (fi ρ).bind fun ds => (lcF fg ft fe (wipeR ρ vs) ds).bind fun es => if es.length ≤ sizeLine then some (.f (.lst es)) else none else none
theorem slc_core {W : Wd} {wi : TI} {g : TG} {tt : TT} {te : TE} {vs : List Nat} {fi : List T → Option (List D)} {fg : T → List T → Option (List T)} {ft : List T → Option Bool} {fe : List T → Option T}
    (hi : Sip W wi fi) (hg : Sgc W g fg vs) (hgw : ∀ t ρ ρ', fg t ρ = some ρ' → wipeR ρ' vs = wipeR ρ vs) (ht : Stv W tt ft) (he : Sv W te fe) {b : Bs} {F : Hp} {ρ : List T} {σ : L2.St} {X : List Tm} {H : Hp} {ds es : List D} {Q : VK} (S : SR W b F ρ σ X H) (hok : okW ρ vs = true) (e1 : fi ρ = some ds) (e2 : lcF fg ft fe (wipeR ρ vs) ds = some es) (hz : es.length ≤ sizeLine)
    (k : ∀ D0 F' H', SR W b F' ρ σ (⟨none, .l es, .ref D0⟩ :: X) H' → Inc F F' → Same H H' → Q (.ref D0) H') : tLc wi g tt te vs σ H Q := by
  refine hi b F ρ σ X H ds _ S e1 fun J F1 H1 S1 i1 s1 wk => ?_
  intro D0 hD
  have S2 : SR W b F1 ρ σ (⟨none, .l [], .ref D0⟩ :: X) (upd H1 D0 (.lst [])) := S1.own hD ⟨D0, [], rfl, rfl, upd_same, rfl⟩
  have s2 : Same H1 (upd H1 D0 (.lst [])) := fun a u e => by rw [upd_ne (ne_of_none e hD)]; exact e
  refine ⟨fun i m H' => m = ds.length - i ∧ i ≤ ds.length ∧ ∃ F' acc rest, SR W b F' ρ σ (⟨none, .l acc, .ref D0⟩ :: X) H' ∧ Inc F1 F' ∧ Same H1 H' ∧ lcF fg ft fe (wipeR ρ vs) (ds.drop i) = some rest ∧ acc ++ rest = es, ⟨ds.length, by simp, Nat.zero_le _, F1, [], es, S2, Inc.refl F1, s2, e2, rfl⟩, ?_⟩
  rintro i m H' ⟨rfl, hi2, F2, acc, rest, S3, i2, s3, e3, e4⟩
  by_cases hlt : i < ds.length
  · refine .inr ⟨wk.go i F2 H' i2 S3.le hlt, fun H'' => i + 1 ≤ ds.length ∧ ∃ F' acc rest, SR W b F' ρ σ (⟨none, .l acc, .ref D0⟩ :: X) H'' ∧ Inc F1 F' ∧ Same H1 H'' ∧ lcF fg ft fe (wipeR ρ vs) (ds.drop (i + 1)) = some rest ∧ acc ++ rest = es, fun H'' h => ⟨ds.length - (i + 1), by omega, rfl, h⟩, fun x H3 y => ?_⟩
    have hd : ds[i]? = some ds[i] := List.getElem?_eq_getElem hlt
    rw [List.drop_eq_getElem_cons hlt] at e3
    obtain ⟨ρ1, e5, e3⟩ := Option.bind_eq_some_iff.mp (show (fg (.f ds[i]) (wipeR ρ vs)).bind _ = some rest from e3)
    obtain ⟨c, e6, e3⟩ := Option.bind_eq_some_iff.mp e3
    -- the item
    obtain ⟨F3, S4, i3, s4⟩ : ∃ F3, SR W b F3 ρ σ (⟨none, .f ds[i], x⟩ :: ⟨none, .l acc, .ref D0⟩ :: X) H3 ∧ Inc F2 F3 ∧ Same H' H3 := by
      rcases wk.yld i F2 H' x H3 ds[i] i2 S3.le hd y with ⟨e, r⟩ | ⟨p, o, hp, e, ex, r⟩
      · subst e
        exact ⟨F2, S3.push r, Inc.refl F2, Same.refl _⟩
      · subst e ex
        obtain ⟨S', i', s'⟩ := S3.laid (o := o) hp
        exact ⟨_, S'.push (r i'), i', s'⟩
    have S5 := SR.wipes (b := b.noio) rfl vs S4.noio
    have S0 := S4.drop.noio
    refine hg b.noio F3 _ ρ1 _ _ H3 _ x _ S5 rfl e5 fun σ4 F4 H4 S6 i4 s5 hw => ?_
    have hw2 : L2.wipe σ4 vs = L2.wipe σ vs := by rw [hw, wipe_wipe σ vs vs fun v h => h]
    refine ⟨hw2, ?_⟩
    refine ht b.noio F4 ρ1 σ4 _ H4 c _ S6 e6 fun F5 H5 S7 i5 s6 => ?_
    have back : ∀ {F6 H6 Y}, SR W b.noio F6 ρ1 σ4 Y H6 → Inc F3 F6 → SR W b F6 ρ σ Y H6 := fun {F6 H6 Y} R ii => by
      have R1 := SR.wipes (b := b.noio) rfl vs R
      rw [hw2, hgw _ _ _ e5] at R1
      have hwR : wipeR (wipeR ρ vs) vs = wipeR ρ vs := by
        have key : ∀ (l l' : List Nat), (∀ v ∈ l', v ∈ l) → wipeR (wipeR ρ l') l = wipeR ρ l := by
          intro l l'
          induction l' with
          | nil => intro _; rfl
          | cons u l' ih =>
            intro h
            show wipeR ((wipeR ρ l').set u .un) l = _
            rw [wipeR_set (h u List.mem_cons_self)]
            exact ih fun v hv => h v (List.mem_cons_of_mem _ hv)
        exact key vs vs fun v h => h
      rw [hwR] at R1
      exact (SR.unwipes rfl S0 ii hok vs (fun v h => h) R1).io S4.pin
    cases c with
    | false =>
      simp only [Bool.false_eq_true, if_false] at e3 ⊢
      exact ⟨hlt, F5, acc, rest, back S7 (i4.trans i5), ((i2.trans i3).trans i4).trans i5, ((s3.trans s4).trans s5).trans s6, e3, e4⟩
    | true =>
      simp only [if_true] at e3 ⊢
      obtain ⟨t, e7, e3⟩ := Option.bind_eq_some_iff.mp e3
      obtain ⟨e, e8, e3⟩ := Option.bind_eq_some_iff.mp e3
      obtain ⟨r, e9, e3⟩ := Option.map_eq_some_iff.mp e3
      subst e3
      cases d_some e8
      refine he b.noio F5 ρ1 σ4 _ H5 _ _ S7 e7 fun w F6 H6 S8 i6 s7 r6 => ?_
      have S9 := back S8 ((i4.trans i5).trans i6)
      obtain ⟨us, hD6, hl6, S10⟩ := S9.topApp r6.rep
      have hlen : acc.length + (r.length + 1) ≤ sizeLine := by
        have := hz
        rw [← e4, List.length_append, List.length_cons] at this
        exact this
      refine ⟨us, hD6, by omega, hlt, F6, acc ++ [e], r, S10, (((i2.trans i3).trans i4).trans i5).trans i6, ?_, e9, by rw [List.append_assoc]; exact e4⟩
      have s10 := (((s3.trans s4).trans s5).trans s6).trans s7
      intro a u ea
      have : a ≠ D0 := fun z => by rw [z, hD] at ea; cases ea
      rw [upd_ne this]
      exact s10 a u ea
  · have hi3 : i = ds.length := by omega
    subst hi3
    rw [List.drop_length] at e3
    cases e3
    rw [List.append_nil] at e4
    subst e4
    refine .inl ⟨wk.stop F2 H' i2 S3.le, ?_⟩
    exact k D0 F2 H' S3 (i1.trans i2) (s1.trans s3)
theorem sv_lc {W : Wd} {wi : TI} {g : TG} {tt : TT} {te : TE} {vs : List Nat} {fi : List T → Option (List D)} {fg : T → List T → Option (List T)} {ft : List T → Option Bool} {fe : List T → Option T}
    (hi : Sip W wi fi) (hg : Sgc W g fg vs) (hgw : ∀ t ρ ρ', fg t ρ = some ρ' → wipeR ρ' vs = wipeR ρ vs) (ht : Stv W tt ft) (he : Sv W te fe) : Sv W (tLc wi g tt te vs) (fLc vs fi fg ft fe) := by
  intro b F ρ σ X H τ Q S eq k
  unfold fLc at eq
  split at eq
  · rename_i hok
    obtain ⟨ds, e1, eq⟩ := Option.bind_eq_some_iff.mp eq
    obtain ⟨es, e2, eq⟩ := Option.bind_eq_some_iff.mp eq
    split at eq
    · rename_i hz
      cases eq
      refine slc_core hi hg hgw ht he S hok e1 e2 hz fun D0 F2 H' S3 i2 s2 => ?_
      obtain ⟨F3, S4, i3⟩ := S3.frz (d := .lst es) rfl rfl
      exact k _ F3 H' S4.drop (i2.trans i3) s2 (.f S4.top)
    · cases eq
  · cases eq
end Z
namespace Z
open PySem PySem.Spec PyProof.Rows L2
/-! ### their parts -/
section
variable {c : Ctx} {tg e e2 : Expr} {fe : List T → Option T} {fs : List T → Option (List T)} {p pos : Pos} {pos' : Pos}
def jVal (fe : List T → Option T) : List T → Option (List D) := fun ρ => (fe ρ).bind fun t => match t with
  | .f d => d.its
  | _ => none
theorem ip_val (he : Ev c e fe) : Ip c tg e (jVal fe) := by
  obtain ⟨t, q, s⟩ := he
  refine ⟨_, fun j => pi_of (q j) (by have h := iv_U (X := c.X j) (tg := tg); rw [c.hK j] at h; exact h), ?_⟩
  intro b F ρ σ X H ds R S eq k
  unfold jVal at eq
  obtain ⟨τ, e1, eq⟩ := Option.bind_eq_some_iff.mp eq
  refine s b F ρ σ X H _ _ S e1 fun v F1 H1 S1 i1 s1 r1 => ?_
  cases τ with
  | f d =>
    cases d with
    | lst l =>
      cases eq
      obtain ⟨a, vs, ex, hs, r⟩ := r1.rep
      subst ex
      exact .inl ⟨a, rfl, ⟨vs, SqL.le S1.le hs⟩, k _ F1 H1 S1 i1 s1 (wk_list hs r)⟩
    | tup l =>
      cases eq
      obtain ⟨a, vs, ex, hs, r⟩ := r1.rep
      subst ex
      exact .inr (.inl ⟨a, rfl, ⟨vs, SqT.le S1.le hs⟩, k _ F1 H1 S1 i1 s1 (wk_tup hs r)⟩)
    | str x =>
      cases eq
      exact .inr (.inr ⟨x, r1.rep, k _ F1 H1 S1 i1 s1 wk_str⟩)
    | _ => cases eq
  | _ => cases eq
def jL1 (g : List D → List D) (fs : List T → Option (List T)) : List T → Option (List D) := fun ρ => (fs ρ).bind fun ts => match ts with
  | [.f (.lst ds)] => some (g ds)
  | _ => none
def jL2 (g : List D → List D → List D) (fs : List T → Option (List T)) : List T → Option (List D) := fun ρ => (fs ρ).bind fun ts => match ts with
  | [.f (.lst ds), .f (.lst es)] => some (g ds es)
  | _ => none
def jR1 (fs : List T → Option (List T)) : List T → Option (List D) := fun ρ => (fs ρ).bind fun ts => match ts with
  | [.f (.int n)] => if -(2 ^ 62) ≤ n ∧ n < 2 ^ 62 then some (rangeD 0 n.toNat) else none
  | _ => none
def jR2 (fs : List T → Option (List T)) : List T → Option (List D) := fun ρ => (fs ρ).bind fun ts => match ts with
  | [.f (.int m), .f (.int n)] => if -(2 ^ 62) ≤ m ∧ m < 2 ^ 62 ∧ -(2 ^ 62) ≤ n ∧ n < 2 ^ 62 then some (rangeD m (n - m).toNat) else none
  | _ => none
theorem ip_enum {elts : List Expr} {kk : Nat} {tpos : Pos} (hg : ∀ j, Gl (c.X j) "enumerate") (hm : ∀ j, (c.X j).mg "enumerate" = none) (ha : Av c [e] fs) (hs : ∀ j, starEach [e] (c.X j).env = [(false, eval e (c.X j).env)] := by intro _; rfl) :
    Ip c (.Tuple elts kk tpos) (.Call (.Name "enumerate" p) [e] [] pos) (jL1 (enumD 0) fs) := by
  obtain ⟨t, q, s⟩ := ha
  refine ⟨iEnum c.W.K t, fun j => by have h := pi_enum (p := p) (pos := pos) (tpos := tpos) (elts := elts) (kk := kk) (hg j) (hm j) (q j) (hs j); rw [c.hK j] at h; exact h, ?_⟩
  intro b F ρ σ X H r R S e k
  unfold jL1 at e
  obtain ⟨ts, e1, e⟩ := Option.bind_eq_some_iff.mp e
  refine s b F ρ σ X H ts _ S e1 fun vs F1 H1 S1 i1 s1 r1 => ?_
  match ts, e with
  | [.f (.lst ds)], e =>
    cases e
    obtain ⟨x, rfl, r2⟩ := rv1 r1
    obtain ⟨a, us, ex, hs, q⟩ := r2.rep
    subst ex
    exact ⟨a, us, rfl, SqL.le S1.le hs, k _ F1 H1 S1 i1 s1 (wk_enum hs q)⟩
theorem ip_rev (hg : ∀ j, Gl (c.X j) "reversed") (hm : ∀ j, (c.X j).mg "reversed" = none) (ha : Av c [e] fs) (hs : ∀ j, starEach [e] (c.X j).env = [(false, eval e (c.X j).env)] := by intro _; rfl) :
    Ip c tg (.Call (.Name "reversed" p) [e] [] pos) (jL1 List.reverse fs) := by
  obtain ⟨t, q, s⟩ := ha
  refine ⟨iRev c.W.K t, fun j => by have h := pi_reversed (tg := tg) (p := p) (pos := pos) (hg j) (hm j) (q j) (hs j); rw [c.hK j] at h; exact h, ?_⟩
  intro b F ρ σ X H r R S e k
  unfold jL1 at e
  obtain ⟨ts, e1, e⟩ := Option.bind_eq_some_iff.mp e
  refine s b F ρ σ X H ts _ S e1 fun vs F1 H1 S1 i1 s1 r1 => ?_
  match ts, e with
  | [.f (.lst ds)], e =>
    cases e
    obtain ⟨x, rfl, r2⟩ := rv1 r1
    obtain ⟨a, us, ex, hs, q⟩ := r2.rep
    subst ex
    exact ⟨a, us, rfl, SqL.le S1.le hs, k _ F1 H1 S1 i1 s1 (wk_rev hs q)⟩
theorem ip_zip {elts : List Expr} {kk : Nat} {tpos : Pos} (hg : ∀ j, Gl (c.X j) "zip") (hm : ∀ j, (c.X j).mg "zip" = none) (ha : Av c [e, e2] fs) (hs : ∀ j, starEach [e, e2] (c.X j).env = (false, eval e (c.X j).env) :: starEach [e2] (c.X j).env := by intro _; rfl) (hpl : ∀ j, (backTo pos (starEach [e2] (c.X j).env)).any (·.1) = false := by intro _; rfl) :
    Ip c (.Tuple elts kk tpos) (.Call (.Name "zip" p) [e, e2] [] pos) (jL2 zipD fs) := by
  obtain ⟨t, q, s⟩ := ha
  refine ⟨iZip c.W.K t, fun j => by have h := pi_zip (p := p) (pos := pos) (tpos := tpos) (elts := elts) (kk := kk) (hg j) (hm j) (q j) (hs j) (hpl j); rw [c.hK j] at h; exact h, ?_⟩
  intro b F ρ σ X H r R S e k
  unfold jL2 at e
  obtain ⟨ts, e1, e⟩ := Option.bind_eq_some_iff.mp e
  refine s b F ρ σ X H ts _ S e1 fun vs F1 H1 S1 i1 s1 r1 => ?_
  match ts, e with
  | [.f (.lst ds), .f (.lst es)], e =>
    cases e
    obtain ⟨x, y, rfl, r2, r3⟩ := rv2 r1
    obtain ⟨a, us, ex, hs, q⟩ := r2.rep
    obtain ⟨a2, us2, ex2, hs2, q2⟩ := r3.rep
    subst ex ex2
    exact ⟨a, a2, us, us2, rfl, SqL.le S1.le hs, SqL.le S1.le hs2, k _ F1 H1 S1 i1 s1 (wk_zip hs q hs2 q2)⟩
theorem ip_range1 (hg : ∀ j, Gl (c.X j) "range") (hm : ∀ j, (c.X j).mg "range" = none) (ha : Av c [e] fs) (hs : ∀ j, starEach [e] (c.X j).env = [(false, eval e (c.X j).env)] := by intro _; rfl) : Ip c tg (.Call (.Name "range" p) [e] [] pos) (jR1 fs) := by
  obtain ⟨t, q, s⟩ := ha
  refine ⟨_, fun j => pi_range1 (hg j) (hm j) (q j) (hs j), ?_⟩
  intro b F ρ σ X H r R S e k
  unfold jR1 at e
  obtain ⟨ts, e1, e⟩ := Option.bind_eq_some_iff.mp e
  refine s b F ρ σ X H ts _ S e1 fun vs F1 H1 S1 i1 s1 r1 => ?_
  match ts, e with
  | [.f (.int n)], e =>
    simp only at e
    split at e
    · rename_i hn
      cases e
      obtain ⟨x, rfl, r2⟩ := rv1 r1
      exact ⟨n, by rw [show x = V.int n from r2.rep], hn.1, hn.2, k _ F1 H1 S1 i1 s1 wk_range⟩
    · cases e
theorem ip_range2 (hg : ∀ j, Gl (c.X j) "range") (hm : ∀ j, (c.X j).mg "range" = none) (ha : Av c [e, e2] fs) (hs : ∀ j, starEach [e, e2] (c.X j).env = [(false, eval e (c.X j).env), (false, eval e2 (c.X j).env)] := by intro _; rfl) (hs2 : ∀ j, starEach [e2] (c.X j).env = [(false, eval e2 (c.X j).env)] := by intro _; rfl) : Ip c tg (.Call (.Name "range" p) [e, e2] [] pos) (jR2 fs) := by
  obtain ⟨t, q, s⟩ := ha
  refine ⟨_, fun j => pi_range2 (hg j) (hm j) (q j) (hs j) (hs2 j), ?_⟩
  intro b F ρ σ X H r R S e k
  unfold jR2 at e
  obtain ⟨ts, e1, e⟩ := Option.bind_eq_some_iff.mp e
  refine s b F ρ σ X H ts _ S e1 fun vs F1 H1 S1 i1 s1 r1 => ?_
  match ts, e with
  | [.f (.int m), .f (.int n)], e =>
    simp only at e
    split at e
    · rename_i hn
      cases e
      obtain ⟨x, y, rfl, r2, r3⟩ := rv2 r1
      exact ⟨m, n, by rw [show x = V.int m from r2.rep, show y = V.int n from r3.rep], hn, k _ F1 H1 S1 i1 s1 wk_range⟩
    · cases e
end
/-! targets -/
section
variable {c : Ctx} {e : Expr} {es : List Expr} {pos : Pos} {f : T → List T → Option (List T)} {fs : List T → List T → Option (List T)} {vs : List Nat}
theorem gc_n (i : Nat) {x : Str} (hm : vs.contains i = true := by rfl) (hi : c.N[i]? = some x := by rfl) (hx : ∀ j, L2.Loc (c.X j).env.scope x := by intro _; first | exact Or.inl rfl | exact Or.inr rfl) (hf : ∀ j, (c.X j).fn x = true ∨ (c.X j).env.scope.names.lookup x = some .local := by intro _; first | exact Or.inl rfl | exact Or.inr rfl) : Gc c (.Name x pos) (gSet i) vs := by
  have hmem : i ∈ vs := List.contains_iff_mem.mp hm
  refine ⟨_, fun j => pg_name (i := i) (c.hNd j) (by rw [c.hN j]; exact hi) (hx j) (hf j), ?_, fun t ρ ρ' h => by cases h; exact wipeR_set hmem⟩
  intro b F ρ ρ' σ X H t v Q S hio e k
  cases e
  exact k _ F H (S.store (.inl rfl) (.inl (by rw [hio]; exact fun p hp => by cases hp))) (Inc.refl F) (Same.refl H) (wipe_set hmem)
theorem gcs_nil : Gcs c [] gsNil vs := by
  refine ⟨_, fun _ => pgs_nil, ?_, fun ts ρ ρ' h => by cases ts <;> cases h; rfl⟩
  intro b F ρ ρ' σ X H ts us Q hl S hio e k
  cases ts with
  | nil =>
    cases us with
    | nil => cases e; exact ⟨rfl, k _ F H S (Inc.refl F) (Same.refl H) rfl⟩
    | cons _ _ => cases hl
  | cons _ _ => cases e
theorem gcs_cons (h : Gc c e f vs) (k : Gcs c es fs vs) (hs : ∀ j, (assignEach (e :: es) (c.X j).env).map (·.2) = assign e (c.X j).env :: (assignEach es (c.X j).env).map (·.2) := by intro _; rfl) : Gcs c (e :: es) (gsCons f fs) vs := by
  obtain ⟨g, p, q, w⟩ := h
  obtain ⟨g', p', q', w'⟩ := k
  refine ⟨_, fun j => pgs_cons (p j) (p' j) (hs j), ?_, fun ts ρ ρ' h => ?_⟩
  · intro b F ρ ρ' σ X H ts us Q hl S hio e k
    cases ts with
    | nil => cases e
    | cons t ts =>
      cases us with
      | nil => cases hl
      | cons v us =>
        obtain ⟨ρ1, e1, e⟩ := Option.bind_eq_some_iff.mp (show (f t ρ).bind _ = _ from e)
        refine ⟨v, us, rfl, q b F ρ ρ1 σ (Xn ts us ++ X) H t v _ S hio e1 fun σ' F' H' S' i s hw => ?_⟩
        exact q' b F' ρ1 ρ' σ' X H' ts us Q (by simpa using hl) S' hio e fun σ2 F2 H2 S2 i2 s2 hw2 => k σ2 F2 H2 S2 (i.trans i2) (s.trans s2) (hw2.trans hw)
  · cases ts with
    | nil => cases h
    | cons t ts =>
      obtain ⟨ρ1, e1, e⟩ := Option.bind_eq_some_iff.mp (show (f t ρ).bind _ = _ from h)
      rw [w' _ _ _ e, w _ _ _ e1]
theorem gc_tup {n m : Nat} (h : Gcs c es fs vs) (hn : ∀ j, (assignEach es (c.X j).env).length = n := by intro _; rfl) (hst : ∀ j, (assignEach es (c.X j).env).findIdx? (·.1) = none := by intro _; rfl) : Gc c (.Tuple es m pos) (gTupT n fs) vs := by
  obtain ⟨g, p, q, w⟩ := h
  refine ⟨L2.gTup c.W.K n g, fun j => ?_, ?_, fun t ρ ρ' h => ?_⟩
  · have := pg_tup (pos := pos) (k := m) (c.calm j) (p j) (hn j) (hst j)
    rw [c.hK j] at this
    exact this
  · intro b F ρ ρ' σ X H t v Q S hio e k
    unfold gTupT at e
    cases t with
    | f d => cases d with
      | tup ds =>
        simp only at e
        split at e
        · rename_i hl
          obtain ⟨p, us, ex, hs, r⟩ := S.top
          refine ⟨p, us, ex, SqT.le S.le hs, by rw [← r.len]; exact hl, ?_⟩
          exact q b F ρ ρ' σ X H (ds.map .f) us Q (by rw [List.length_map]; exact r.len) (S.drop.pushes r) hio e k
        · cases e
      | _ => cases e
    | _ => cases e
  · unfold gTupT at h
    cases t with
    | f d => cases d with
      | tup ds =>
        simp only at h
        split at h
        · exact w _ _ _ h
        · cases h
      | _ => cases h
    | _ => cases h
end
/-! the whole -/
section
variable {c : Ctx} {elt tg iter : Expr} {ifs : List Expr} {scope : Scope} {pos spos : Pos} {fi : List T → Option (List D)} {fg : T → List T → Option (List T)} {ft : List T → Option Bool} {fe : List T → Option T}
theorem ev_lc (own : List (Str × Nat)) (hi : Ip c tg iter fi) (hg : Gc (cB c scope) tg fg (own.map (·.2))) (ht : Tvs (cB c scope) ifs ft) (he : Ev (cB c scope) elt fe) (ok : ∀ j, blkC c.N (c.X j).env.scope scope own = true := by intro _; rfl)
    (hs : ∀ j x, foldedSetIterable iter (c.X j).env x = pure x := by intro _ _; rfl) : Ev c (.ListComp elt [⟨tg, iter, ifs, 0⟩] scope pos) (fLc (own.map (·.2)) fi fg ft fe) := by
  obtain ⟨wi, pi, si⟩ := hi
  obtain ⟨g, pg, sg, wg⟩ := hg
  obtain ⟨tt, pt, st⟩ := ht
  obtain ⟨te, pe, se⟩ := he
  exact ⟨tLc wi g tt te (own.map (·.2)), fun j => pe_lc (c.calm j) (c.hNd j) (pi j) (blkOk_by (by rw [c.hN j]; exact ok j)) (fun s H C cl fp => pg (j, s, H, C, cl, fp)) (fun s H C cl fp => pt (j, s, H, C, cl, fp)) (fun s H C cl fp => pe (j, s, H, C, cl, fp)) (hs j), sv_lc si sg wg st se⟩
theorem sm_setLc (i : Nat) {y : Str} {py : Pos} (own : List (Str × Nat)) (hi : Ip c tg iter fi) (hg : Gc (cB c scope) tg fg (own.map (·.2))) (ht : Tvs (cB c scope) ifs ft) (he : Ev (cB c scope) elt fe) (ok : ∀ j, blkC c.N (c.X j).env.scope scope own = true := by intro _; rfl)
    (hy : c.N[i]? = some y := by rfl) (hyl : ∀ j, (c.X j).env.scope.names.lookup y = some .local := by intro _; rfl) (hio : c.P.io.contains i = false := by rfl)
    (hsw : ∀ j, swapsWith (.ListComp elt [⟨tg, iter, ifs, 0⟩] scope pos) (some (.Name y py)) spos.line (c.X j).env = pure true := by intro _; rfl)
    (hs : ∀ j x, foldedSetIterable iter (c.X j).env x = pure x := by intro _ _; rfl) : Sm c (.Assign [.Name y py] (.ListComp elt [⟨tg, iter, ifs, 0⟩] scope pos) spos) (sSet i (lift (fLc (own.map (·.2)) fi fg ft fe))) := by
  obtain ⟨wi, pi, si⟩ := hi
  obtain ⟨g, pg, sg, wg⟩ := hg
  obtain ⟨tt, pt, st⟩ := ht
  obtain ⟨te, pe, se⟩ := he
  refine ⟨tAsg (tLc wi g tt te (own.map (·.2))) (gName i), fun j => ps_setLc (c.calm j) (c.hNd j) (by rw [c.hN j]; exact hy) (hyl j) (hsw j) (pi j) (blkOk_by (by rw [c.hN j]; exact ok j)) (fun s H C cl fp => pg (j, s, H, C, cl, fp)) (fun s H C cl fp => pt (j, s, H, C, cl, fp)) (fun s H C cl fp => pe (j, s, H, C, cl, fp)) (hs j), ?_⟩
  intro b F ρ σ X H o D hb S eq k
  unfold sSet lift at eq
  obtain ⟨r, e1, eq⟩ := Option.map_eq_some_iff.mp eq
  obtain ⟨t, e2, e3⟩ := Option.bind_eq_some_iff.mp e1
  obtain ⟨d, e4, e5⟩ := Option.map_eq_some_iff.mp e3
  subst e5 eq
  cases d_some e4
  refine sv_lc si sg wg st se b F ρ σ X H _ _ S e2 fun v F1 H1 S1 i1 s1 r1 => ?_
  exact k _ F1 H1 ((S1.push (o := none) r1.rep).store (.inl rfl) (.inl (notio hb (notin_of hio)))) i1
end
/-! ### a local becomes deep data between two statements -/
def fzS (i : Nat) (ρ : List T) : Option (List T) := match ρ[i]? with
  | some .un => some ρ
  | some t => t.fz.map fun d => ρ.set i (.f d)
  | none => none
def sFz (i : Nat) (f : FS) : FS := fun ρ => (fzS i ρ).bind f
theorem sms_fz (i : Nat) {c : Ctx} {ss : List Stmt} {f : FS} (h : Sms c ss f) (hm : Nat.ble c.P.m i = true := by rfl) (hio : c.P.io.contains i = false := by rfl) : Sms c ss (sFz i f) := by
  obtain ⟨t, p, q⟩ := h
  refine ⟨t, p, ?_⟩
  intro b F ρ σ X H o D hb S e k
  unfold sFz at e
  obtain ⟨ρ1, e1, e⟩ := Option.bind_eq_some_iff.mp e
  unfold fzS at e1
  cases q1 : ρ[i]? with
  | none => rw [q1] at e1; cases e1
  | some t1 =>
    by_cases hu : t1 = .un
    · subst hu
      rw [q1] at e1
      cases e1
      exact q b F ρ σ X H o D hb S e k
    · obtain ⟨d, e2, e3⟩ : ∃ d, t1.fz = some d ∧ ρ.set i (.f d) = ρ1 := by
        rw [q1] at e1
        cases t1 with
        | un => exact absurd rfl hu
        | _ => exact Option.map_eq_some_iff.mp e1
      subst e3
      obtain ⟨s, fp, e4, r⟩ := S.slot q1
      cases s with
      | none => exact absurd r.1 hu
      | some v =>
        have S' := S.take q1 e4
        -- it is new
        have S2 : SR c.W b F (ρ.set i .un) σ (⟨none, t1, v⟩ :: X) H := by
          obtain ⟨le, f0, fn, kept, stab, pin, fps, xps, s1, s2, ow, lc1, lc2⟩ := S'
          refine ⟨le, f0, fn, kept, stab, pin, fps, xps, s1, s2, ow, lc1, ?_⟩
          cases xps with
          | nil => exact trivial
          | cons f fs => exact lc2
        obtain ⟨F3, S3, i3⟩ := S2.frz rfl e2
        have S4 := S3.store (i := i) (.inl rfl) (.inl (notio hb (notin_of hio)))
        have eσ : σ.set i (some v) = σ := by
          apply List.ext_getElem?
          intro j
          by_cases h : j = i
          · subst h
            have := (List.getElem?_eq_some_iff.mp e4).1
            rw [List.getElem?_set_self (by omega), e4]
          · rw [List.getElem?_set_ne (fun e => h e.symm)]
        rw [eσ, List.set_set] at S4
        exact q b F3 _ σ X H o D hb S4 e (k.mono i3)
section
variable {c : Ctx} {a : Expr} {fa : List T → Option T} {pos : Pos} {ss : List Stmt} {e : Expr} {f : List T → Option T} {fb : List T → Option Bool}
theorem sv_isN {W : Wd} {ta : TE} (sa : Sv W ta fa) : Sv W (tIsN ta) (fIsN false fa) := by
  intro b F ρ σ X H τ Q S e k
  obtain ⟨t, e1, e⟩ := Option.bind_eq_some_iff.mp e
  refine sa b F ρ σ X H t _ S e1 fun v F1 H1 S1 i1 s1 r1 => ?_
  have := isN_out r1 e
  subst this
  rw [Bool.false_xor] at k
  exact (k.mono i1 s1).d S1 rfl
theorem sv_notN {W : Wd} {ta : TE} (sa : Sv W ta fa) : Sv W (tNotN ta) (fIsN true fa) := by
  intro b F ρ σ X H τ Q S e k
  obtain ⟨t, e1, e⟩ := Option.bind_eq_some_iff.mp e
  refine sa b F ρ σ X H t _ S e1 fun v F1 H1 S1 i1 s1 r1 => ?_
  have := isN_out r1 e
  subst this
  rw [Bool.true_xor] at k
  exact (k.mono i1 s1).d S1 rfl
theorem tv_isN {m : Nat} {p2 : Pos} (ha : Ev c a fa) : Tv c (.Compare a [.Is] [.Constant .none m p2] pos) (fT (fIsN false fa)) := by
  obtain ⟨ta, pa, sa⟩ := ha
  exact ⟨_, fun j => pt_cmp (pc_isN (pa j)) rfl, stv_test (sv_isN sa)⟩
theorem tv_notN {m : Nat} {p2 : Pos} (ha : Ev c a fa) : Tv c (.Compare a [.IsNot] [.Constant .none m p2] pos) (fT (fIsN true fa)) := by
  obtain ⟨ta, pa, sa⟩ := ha
  exact ⟨_, fun j => pt_cmp (pc_notN (pa j)) rfl, stv_test (sv_notN sa)⟩
theorem evo (h : Ev c e f) : Eo c e (lift f) := h.o
theorem tvo (h : Tv c e fb) : To c e (liftB fb) := h.o
theorem wvt (h : Wv c e fb) : Tv c e fb := h.tv
end
end Z

namespace Z
open PySem PySem.Spec PyProof.Rows L2
/-! ### objects -/
def atD : List Str → List D → Str → Option D
  | n :: ns, d :: ds, x => if n = x then some d else atD ns ds x
  | _, _, _ => none
def gAtt (C : Nat) (f : Str) : T → Option T
  | .f (.obj C' ns ds) => if C' = C then (atD ns ds f).map .f else none
  | .o C' ns ts => if C' = C then (atN ns ts f).bind fun t => match t with
    | .un => none
    | t => some t
    else none
  | _ => none
theorem atD_ok {W : Wd} {F : Hp} {f : Str} : ∀ {ns : List Str} {ds : List D} {kvs : List (Str × V)} {d : D}, kvs.map (·.1) = ns → Reps W F ds (kvs.map (·.2)) → atD ns ds f = some d → ∃ v, kvs.lookup f = some v ∧ Rep W F d v
  | _, [], kvs, _, h, _, e => by subst h; cases kvs <;> simp [atD] at e
  | _, d0 :: ds, [], _, h, _, e => by subst h; simp [atD] at e
  | _, d0 :: ds, k :: kvs, d, h, r, e => by
    subst h
    obtain ⟨v, vr, e1, a, b⟩ := r
    have e1a : k.2 = v := (List.cons.inj e1).1
    have e1b : kvs.map (·.2) = vr := (List.cons.inj e1).2
    subst e1a e1b
    have e' : (if k.1 = f then some d0 else atD (kvs.map (·.1)) ds f) = some d := e
    by_cases hk : k.1 = f
    · rw [if_pos hk] at e'
      cases e'
      refine ⟨k.2, ?_, a⟩
      rw [List.lookup_cons, show (f == k.1) = true by rw [hk]; exact beq_self_eq_true f]
    · rw [if_neg hk] at e'
      obtain ⟨v, q1, q2⟩ := atD_ok rfl b e'
      refine ⟨v, ?_, q2⟩
      rw [List.lookup_cons, show (f == k.1) = false from beq_eq_false_iff_ne.mpr fun z => hk z.symm]
      exact q1
theorem atN_ok {W : Wd} {F H : Hp} {f : Str} : ∀ {ns : List Str} {ts : List T} {kvs : List (Str × V)} {fps : List (List Addr)} {t : T}, kvs.map (·.1) = ns → RelTs W F H ts (kvs.map (·.2)) fps → atN ns ts f = some t → ∃ v fp, kvs.lookup f = some v ∧ RelT W F H t v fp
  | _, [], kvs, _, _, h, _, e => by subst h; cases kvs <;> simp [atN] at e
  | _, t0 :: ts, [], _, _, h, _, e => by subst h; simp [atN] at e
  | _, t0 :: ts, k :: kvs, fps, t, h, r, e => by
    subst h
    obtain ⟨v, vr, f0, fr, e1, rfl, a, b⟩ := r
    have e1a : k.2 = v := (List.cons.inj e1).1
    have e1b : kvs.map (·.2) = vr := (List.cons.inj e1).2
    subst e1a e1b
    have e' : (if k.1 = f then some t0 else atN (kvs.map (·.1)) ts f) = some t := e
    by_cases hk : k.1 = f
    · rw [if_pos hk] at e'
      cases e'
      refine ⟨k.2, f0, ?_, a⟩
      rw [List.lookup_cons, show (f == k.1) = true by rw [hk]; exact beq_self_eq_true f]
    · rw [if_neg hk] at e'
      obtain ⟨v, fp, q1, q2⟩ := atN_ok rfl b e'
      refine ⟨v, fp, ?_, q2⟩
      rw [List.lookup_cons, show (f == k.1) = false from beq_eq_false_iff_ne.mpr fun z => hk z.symm]
      exact q1
section
variable {c : Ctx} {e o : Expr} {fa fe : List T → Option T} {pos : Pos} {C : Nat} {f : Str}
theorem sv_att {W : Wd} {ta : TE} (hC : Cls W.K (W.cl C)) (hN : NoAttr W.K (W.cl C) f) (sa : Sv W ta fa) : Sv W (tFld W.K ta f) (f1 (gAtt C f) fa) := by
  intro b F ρ σ X H τ Q S e k
  unfold f1 at e
  obtain ⟨t, e1, e⟩ := Option.bind_eq_some_iff.mp e
  refine sa b F ρ σ X H t _ S e1 fun v F1 H1 S1 i1 s1 r1 => ?_
  cases t with
  | f d => cases d with
    | obj C' ns ds =>
      have e' : (if C' = C then (atD ns ds f).map T.f else none) = some τ := e
      split at e'
      · rename_i hc
        subst hc
        obtain ⟨d, e2, e'⟩ := Option.map_eq_some_iff.mp e'
        subst e'
        obtain ⟨p, dx, kvs, ev, hp, hk, r⟩ := r1.rep
        subst ev
        obtain ⟨w, q1, q2⟩ := atD_ok hk r e2
        exact ⟨p, _, dx, kvs, w, rfl, ins_le S1.le hp, hC, hN, q1, (k.mono i1 s1).d S1 q2⟩
      · cases e'
    | _ => cases e
  | o C' ns ts =>
    have e' : (if C' = C then (atN ns ts f).bind fun t => (match t with | .un => none | t => some t) else none) = some τ := e
    split at e'
    · rename_i hc
      subst hc
      obtain ⟨t, e2, e'⟩ := Option.bind_eq_some_iff.mp e'
      have et : t = τ := by cases t <;> first | (cases e'; rfl) | cases e'
      subst et
      obtain ⟨fp, p, dx, kvs, fps, ev, _, hp, hk, r⟩ := r1
      subst ev
      obtain ⟨w, fp', q1, q2⟩ := atN_ok hk r e2
      exact ⟨p, _, dx, kvs, w, rfl, hp, hC, hN, q1, (k.mono i1 s1).here S1 ⟨fp', q2⟩⟩
    · cases e'
  | _ => cases e
theorem ev_att (hC : Cls c.W.K (c.W.cl C)) (hN : NoAttr c.W.K (c.W.cl C) f) (ha : Ev c e fa) (hb : ∀ j, attributeBase e f (c.X j).env (eval e (c.X j).env) = eval e (c.X j).env := by intro _; rfl) : Ev c (.Attribute e f pos) (f1 (gAtt C f) fa) := by
  obtain ⟨ta, pa, sa⟩ := ha
  exact ⟨_, fun j => by have h := pe_fld (pos := pos) (pa j) (hb j); rw [c.hK j] at h; exact h, sv_att hC hN sa⟩
end
/-! places in parts -/
theorem getP_snoc {s : Sel} : ∀ {π : List Sel} {t : T}, t.getP (π ++ [s]) = (t.getP π).bind fun u => u.sub s
  | [], t => by
    show (t.sub s).bind (fun u => some u) = t.sub s
    cases t.sub s <;> rfl
  | s' :: π, t => by
    show (t.sub s').bind (fun u => u.getP (π ++ [s])) = ((t.sub s').bind fun u => u.getP π).bind fun u => u.sub s
    cases t.sub s' with
    | none => rfl
    | some u => exact getP_snoc
theorem atV_snoc {H : Hp} {s : Sel} {p : Addr} {q : Addr} : ∀ {π : List Sel} {v : V}, AtV H v π q → AtV H (.ref q) [s] p → AtV H v (π ++ [s]) p
  | [], v, r, h => by
    have r' : v = _ := r
    subst r'
    exact h
  | .ix n :: π, v, r, h => by
    obtain ⟨a, vs, w, e, r1, r2, r3⟩ := r
    exact ⟨a, vs, w, e, r1, r2, atV_snoc r3 h⟩
  | .at x :: π, v, r, h => by
    obtain ⟨a, C, dx, kvs, w, e, r1, r2, r3⟩ := r
    exact ⟨a, C, dx, kvs, w, e, r1, r2, atV_snoc r3 h⟩
theorem SR.part {W : Wd} {b : Bs} {F : Hp} {ρ : List T} {σ : L2.St} {X : List Tm} {H : Hp} {i : Nat} {t u : T} {v : V} {π : List Sel} {p : Addr} (S : SR W b F ρ σ X H) (hi : ρ[i]? = some t) (hv : σ[i]? = some (some v)) (hu : t.getP π = some u) (ha : AtV H v π p) : ∃ fu, RelT W F H u (.ref p) fu := by
  obtain ⟨fu, h, _⟩ := S.mut (u' := .un) hi hv hu ha
  exact ⟨fu, h⟩
def pAt (C : Nat) (f : Str) (i : Nat) (fp : List T → Option (List Sel)) : List T → Option (List Sel) := fun ρ => (fp ρ).bind fun π => (ρ[i]?.bind fun t => t.getP π).bind fun u => match u with
  | .o C' ns ts => if C' = C then (atN ns ts f).map fun _ => π ++ [.at f] else none
  | _ => none
def pIx (fk : List T → Option T) (i : Nat) (fp : List T → Option (List Sel)) : List T → Option (List Sel) := fun ρ => (fp ρ).bind fun π => (ρ[i]?.bind fun t => t.getP π).bind fun u => u.tsq?.bind fun ts => (fk ρ).bind fun k => k.i?.bind fun j => (ixN ts.length j).map fun n => π ++ [.ix n]
section
variable {c : Ctx} {o ek : Expr} {fk : List T → Option T} {pos : Pos} {C : Nat} {f : Str} {i : Nat} {fp : List T → Option (List Sel)}
theorem lo_at (hC : Cls c.W.K (c.W.cl C)) (hN : NoAttr c.W.K (c.W.cl C) f) (ho : Lo c o i fp) (hb : ∀ j, attributeBase o f (c.X j).env (eval o (c.X j).env) = eval o (c.X j).env := by intro _; rfl) : Lo c (.Attribute o f pos) i (pAt C f i fp) := by
  obtain ⟨ta, pa, sa⟩ := ho
  refine ⟨_, fun j => by have h := pe_fld (pos := pos) (pa j) (hb j); rw [c.hK j] at h; exact h, ?_⟩
  intro b F ρ σ X H π t u Q S e ht hu hown k
  unfold pAt at e
  obtain ⟨π0, e1, e8⟩ := Option.bind_eq_some_iff.mp e
  obtain ⟨u0, e2, e9⟩ := Option.bind_eq_some_iff.mp e8
  clear e e8
  obtain ⟨t', e2a, e2⟩ := Option.bind_eq_some_iff.mp e2
  rw [ht] at e2a
  cases e2a
  cases u0 with
  | o C' ns ts =>
    simp only at e9
    split at e9
    · rename_i hc
      subst hc
      obtain ⟨u1, e3, e⟩ := Option.map_eq_some_iff.mp e9
      subst e
      rw [getP_snoc, e2] at hu
      have hu' : atN ns ts f = some u := hu
      refine sa b F ρ σ X H π0 t _ _ S e1 ht e2 rfl fun p v F1 H1 S1 i1 s1 hv hat => ?_
      obtain ⟨fu, q, dx, kvs, fps, eq, _, hp, hk, r⟩ := S1.part ht hv e2 hat
      cases eq
      obtain ⟨w, fp', q1, q2⟩ := atN_ok hk r hu'
      obtain ⟨p', rfl⟩ := owned_ref q2 hown
      exact ⟨p, _, dx, kvs, .ref p', rfl, hp, hC, hN, q1, k p' v F1 H1 S1 i1 s1 hv (atV_snoc hat ⟨p, _, dx, kvs, .ref p', rfl, hp, q1, rfl⟩)⟩
    · cases e9
  | _ => cases e9
theorem lo_ix (ho : Lo c o i fp) (hk : Ev c ek fk) (hs : PlainIx ek := by exact fun _ _ => rfl) : Lo c (.Subscript o ek pos) i (pIx fk i fp) := by
  obtain ⟨ta, pa, sa⟩ := ho
  obtain ⟨tb, pb, sb⟩ := hk
  refine ⟨_, fun j => pe_ix (by have h := ix_U (X := c.X j) (c.hu1 j); rw [c.hK j] at h; exact h) (pa j) (pb j) hs, ?_⟩
  intro b F ρ σ X H π t u Q S e ht hu hown k
  unfold pIx at e
  obtain ⟨π0, e1, e⟩ := Option.bind_eq_some_iff.mp e
  obtain ⟨u0, e2, e⟩ := Option.bind_eq_some_iff.mp e
  obtain ⟨t', e2a, e2⟩ := Option.bind_eq_some_iff.mp e2
  rw [ht] at e2a
  cases e2a
  obtain ⟨ts, e3, e⟩ := Option.bind_eq_some_iff.mp e
  obtain ⟨kk, e4, e⟩ := Option.bind_eq_some_iff.mp e
  obtain ⟨j, e5, e⟩ := Option.bind_eq_some_iff.mp e
  obtain ⟨n, e6, e⟩ := Option.map_eq_some_iff.mp e
  subst e
  rw [getP_snoc, e2] at hu
  have ho0 : owned u0 = true := by cases u0 <;> first | (cases e3; rfl) | cases e3
  refine sa b F ρ σ X H π0 t _ _ S e1 ht e2 ho0 fun p v F1 H1 S1 i1 s1 hv hat => ?_
  refine sb b F1 ρ σ X H1 _ _ S1 e4 fun y F2 H2 S2 i2 s2 r2 => ?_
  have hy := r2.int e5
  subst hy
  have hat2 := hat.same s2
  obtain ⟨fu, hpart⟩ := S2.part ht hv e2 hat2
  cases u0 with
  | ll us =>
    cases e3
    obtain ⟨q, vs, fps, eq, _, hp, r⟩ := hpart
    cases eq
    have hu' : ts[n]? = some u := hu
    obtain ⟨w, fw, q1, q2, q3⟩ := r.at hu'
    obtain ⟨p', rfl⟩ := owned_ref q3 hown
    refine .inl (.inl (.inl ?_))
    have hx : atI vs j = some (V.ref p') := by
      unfold atI
      rw [← r.lenA.1, e6]
      exact q1
    exact ⟨p, vs, j, .ref p', rfl, rfl, SqL.of hp, hx, k p' v F2 H2 S2 (i1.trans i2) (s1.trans s2) hv (atV_snoc hat2 ⟨p, vs, .ref p', rfl, .inl hp, q1, rfl⟩)⟩
  | tu us =>
    cases e3
    obtain ⟨q, vs, fps, eq, _, hp, r⟩ := hpart
    cases eq
    have hu' : ts[n]? = some u := hu
    obtain ⟨w, fw, q1, q2, q3⟩ := r.at hu'
    obtain ⟨p', rfl⟩ := owned_ref q3 hown
    refine .inl (.inl (.inr ?_))
    have hx : atI vs j = some (V.ref p') := by
      unfold atI
      rw [← r.lenA.1, e6]
      exact q1
    exact ⟨p, vs, j, .ref p', rfl, rfl, SqT.of hp, hx, k p' v F2 H2 S2 (i1.trans i2) (s1.trans s2) hv (atV_snoc hat2 ⟨p, vs, .ref p', rfl, .inr hp, q1, rfl⟩)⟩
  | _ => cases e3
end
/-! o.f = e -/
theorem RelTs.putNew {W : Wd} {F H : Hp} {f : Str} {d : D} {y : V} (ry : Rep W F d y) : ∀ {ns : List Str} {ts : List T} {kvs : List (Str × V)} {fps : List (List Addr)}, kvs.map (·.1) = ns → RelTs W F H ts (kvs.map (·.2)) fps → atN ns ts f = none →
    (L2.putF f y kvs).map (·.1) = ns ++ [f] ∧ RelTs W F H (ts ++ [.f d]) ((L2.putF f y kvs).map (·.2)) (fps ++ [[]]) ∧ kvs.lookup f = none
  | _, [], [], fps, h, r, _ => by
    subst h
    rw [r.2]
    exact ⟨rfl, ⟨y, [], [], [], rfl, rfl, ⟨rfl, ry⟩, rfl, rfl⟩, rfl⟩
  | _, [], k :: kvs, _, _, r, _ => by cases r.1
  | _, t0 :: ts, [], _, _, r, _ => by obtain ⟨_, _, _, _, e, _⟩ := r; cases e
  | _, t0 :: ts, k :: kvs, fps, h, r, e => by
    subst h
    obtain ⟨v, vr, f0, fr, e1, rfl, a, b⟩ := r
    have e1a : k.2 = v := (List.cons.inj e1).1
    have e1b : kvs.map (·.2) = vr := (List.cons.inj e1).2
    subst e1a e1b
    have e' : (if k.1 = f then some t0 else atN (kvs.map (·.1)) ts f) = none := e
    by_cases hk : k.1 = f
    · rw [if_pos hk] at e'; cases e'
    · rw [if_neg hk] at e'
      obtain ⟨q1, q2, q3⟩ := RelTs.putNew (y := y) ry rfl b e'
      have hp : L2.putF f y (k :: kvs) = k :: L2.putF f y kvs := by
        show (if k.1 = f then _ else _) = _
        rw [if_neg hk]
      rw [hp]
      refine ⟨by rw [List.map_cons, q1]; rfl, ⟨k.2, _, f0, _, rfl, rfl, a, q2⟩, ?_⟩
      rw [List.lookup_cons, show (f == k.1) = false from beq_eq_false_iff_ne.mpr fun z => hk z.symm]
      exact q3
theorem RelTs.putOld {W : Wd} {F H : Hp} {f : Str} {d d0 : D} {y : V} (ry : Rep W F d y) : ∀ {ns : List Str} {ts : List T} {kvs : List (Str × V)} {fps : List (List Addr)}, kvs.map (·.1) = ns → RelTs W F H ts (kvs.map (·.2)) fps → atN ns ts f = some (.f d0) →
    (L2.putF f y kvs).map (·.1) = ns ∧ RelTs W F H (setN ns ts f (.f d)) ((L2.putF f y kvs).map (·.2)) fps ∧ ∃ w, kvs.lookup f = some w ∧ Rep W F d0 w
  | _, [], kvs, _, h, _, e => by subst h; cases kvs <;> simp [atN] at e
  | _, t0 :: ts, [], _, _, r, _ => by obtain ⟨_, _, _, _, e, _⟩ := r; cases e
  | _, t0 :: ts, k :: kvs, fps, h, r, e => by
    subst h
    obtain ⟨v, vr, f0, fr, e1, rfl, a, b⟩ := r
    have e1a : k.2 = v := (List.cons.inj e1).1
    have e1b : kvs.map (·.2) = vr := (List.cons.inj e1).2
    subst e1a e1b
    have e' : (if k.1 = f then some t0 else atN (kvs.map (·.1)) ts f) = some (.f d0) := e
    by_cases hk : k.1 = f
    · rw [if_pos hk] at e'
      cases e'
      have hp : L2.putF f y (k :: kvs) = (k.1, y) :: kvs := by
        show (if k.1 = f then _ else _) = _
        rw [if_pos hk]
      rw [hp]
      have hf0 : f0 = [] := a.1
      subst hf0
      refine ⟨rfl, ?_, k.2, ?_, a.2⟩
      · show RelTs W F H (if k.1 = f then _ else _) _ _
        rw [if_pos hk]
        exact ⟨y, _, [], _, rfl, rfl, ⟨rfl, ry⟩, b⟩
      · rw [List.lookup_cons, show (f == k.1) = true by rw [hk]; exact beq_self_eq_true f]
    · rw [if_neg hk] at e'
      obtain ⟨q1, q2, w, q3, q4⟩ := RelTs.putOld (d := d) (y := y) ry rfl b e'
      have hp : L2.putF f y (k :: kvs) = k :: L2.putF f y kvs := by
        show (if k.1 = f then _ else _) = _
        rw [if_neg hk]
      rw [hp]
      refine ⟨by rw [List.map_cons, q1]; rfl, ?_, w, ?_, q4⟩
      · show RelTs W F H (if k.1 = f then _ else _) _ _
        rw [if_neg hk]
        exact ⟨k.2, _, f0, _, rfl, rfl, a, q2⟩
      · rw [List.lookup_cons, show (f == k.1) = false from beq_eq_false_iff_ne.mpr fun z => hk z.symm]
        exact q3
theorem atN_look {f : Str} : ∀ {ts : List T} {kvs : List (Str × V)}, atN (kvs.map (·.1)) ts f = none → ts.length = kvs.length → kvs.lookup f = none
  | [], [], _, _ => rfl
  | [], _ :: _, _, h => by cases h
  | _ :: _, [], _, h => by cases h
  | t :: ts, k :: kvs, e, h => by
    have e' : (if k.1 = f then some t else atN (kvs.map (·.1)) ts f) = none := e
    by_cases hk : k.1 = f
    · rw [if_pos hk] at e'; cases e'
    · rw [if_neg hk] at e'
      rw [List.lookup_cons, show (f == k.1) = false from beq_eq_false_iff_ne.mpr fun z => hk z.symm]
      exact atN_look e' (by simpa using h)
theorem stb_put {G : Addr → Prop} {C dx : Addr} {kvs : List (Str × V)} {f : Str} {y : V} (h : f = Str.ofString "endings" → kvs.lookup f = none) : Stb G (.ins C dx kvs) (.ins C dx (L2.putF f y kvs)) := by
  intro C' dx' kvs' e
  cases e
  refine ⟨_, rfl, fun v hv => ?_⟩
  rw [L2.lookup_putF]
  by_cases z : Str.ofString "endings" = f
  · rw [z, h z.symm] at hv; cases hv
  · rw [if_neg z]; exact hv
theorem stb_new {W : Wd} {F H : Hp} {G : Addr → Prop} {C dx : Addr} {kvs : List (Str × V)} {ns : List Str} {ts : List T} {fps : List (List Addr)} {f : Str} {y : V} (hk : kvs.map (·.1) = ns) (rs : RelTs W F H ts (kvs.map (·.2)) fps) (hat : atN ns ts f = none) : Stb G (.ins C dx kvs) (.ins C dx (L2.putF f y kvs)) := by
  subst hk
  refine stb_put fun _ => atN_look hat ?_
  have := rs.lenA.1
  rw [List.length_map] at this
  omega
def attT (C : Nat) (f : Str) (d : D) : T → Option T
  | .o C' ns ts => if C' = C ∧ ns.length < 1000 then (match atN ns ts f with
    | none => some (.o C' (ns ++ [f]) (ts ++ [.f d]))
    | some (.f _) => if f = Str.ofString "endings" then none else some (.o C' ns (setN ns ts f (.f d)))
    | _ => none) else none
  | _ => none
theorem attT_own {C : Nat} {f : Str} {d : D} (u u' : T) (h : attT C f d u = some u') : owned u = true := by
  cases u <;> first | rfl | cases h
def sAtt (C : Nat) (f : Str) (i : Nat) (fp : List T → Option (List Sel)) (fe : List T → Option T) : FS := fun ρ => (fe ρ).bind fun x => x.d?.bind fun d => (fp ρ).bind fun π => (mutF i π (attT C f d) ρ).map .nx
theorem SR.att {W : Wd} {b : Bs} {F : Hp} {ρ ρ' : List T} {σ : L2.St} {X : List Tm} {H : Hp} {i : Nat} {π : List Sel} {C : Nat} {f : Str} {d : D} {v y : V} {p : Addr} (S : SR W b F ρ σ X H) (h : mutF i π (attT C f d) ρ = some ρ') (hv : σ[i]? = some (some v)) (ha : AtV H v π p) (r : Rep W F d y) :
    ∃ dx fs, H p = some (.ins (W.cl C) dx fs) ∧ fs.length < 1000 ∧ SR W b F ρ' σ X (upd H p (.ins (W.cl C) dx (L2.putF f y fs))) := by
  obtain ⟨t, u, u', e1, e2, e3, rfl⟩ := mutF_some h
  cases u with
  | o C' ns ts =>
    have e3' : (if C' = C ∧ ns.length < 1000 then _ else none) = some u' := e3
    split at e3'
    · rename_i hc
      obtain ⟨hc, hl⟩ := hc
      subst hc
      obtain ⟨fu, q1, ⟨qn, q2⟩, q3⟩ := S.mut (u' := u') e1 hv e2 ha
      obtain ⟨p', dx, kvs, fps, ep, rfl, hp, hk, rs⟩ := q1
      cases ep
      have n0 := List.nodup_cons.mp qn
      have hlen : kvs.length < 1000 := by
        have := congrArg List.length hk
        rw [List.length_map] at this
        omega
      refine ⟨dx, kvs, hp, hlen, ?_⟩
      have stay : ∀ o', ∀ a ∈ fps.flatten, upd H p o' a = H a := fun o' a ha => upd_ne fun z => n0.1 (z ▸ ha)
      cases hat : atN ns ts f with
      | none =>
        rw [hat] at e3'
        cases e3'
        obtain ⟨m1, m2, m3⟩ := RelTs.putNew (y := y) r hk rs hat
        refine q3 _ _ hp (fun _ => stb_new hk rs hat) List.mem_cons_self ⟨p, dx, _, fps ++ [[]], rfl, ?_, upd_same, m1, RelTs.mono (Inc.refl F) _ _ _ (fun a ha => stay _ a ?_) m2⟩
        · rw [List.flatten_append]
          simp
        · rw [List.flatten_append] at ha
          simpa using ha
      | some t0 =>
        rw [hat] at e3'
        cases t0 with
        | f d0 =>
          have e4 : (if f = Str.ofString "endings" then none else some (T.o C' ns (setN ns ts f (.f d)))) = some u' := e3'
          split at e4
          · cases e4
          rename_i hne
          cases e4
          obtain ⟨m1, m2, w, m3, m4⟩ := RelTs.putOld (d := d) (y := y) r hk rs hat
          exact q3 _ _ hp (fun _ => stb_put fun z => absurd z hne) List.mem_cons_self ⟨p, dx, _, fps, rfl, rfl, upd_same, m1, RelTs.mono (Inc.refl F) _ _ _ (fun a ha => stay _ a ha) m2⟩
        | _ => cases e3'
    · cases e3'
  | _ => cases e3
section
variable {c : Ctx} {e o : Expr} {fa fe : List T → Option T} {pos pos' : Pos} {C : Nat} {f : Str} {i : Nat} {fp : List T → Option (List Sel)}
theorem sm_att (hC : Cls c.W.K (c.W.cl C)) (hN : NoAttr c.W.K (c.W.cl C) f) (ho : Lo c o i fp) (he : Ev c e fe) (hs : ∀ j, swapsWith e (some (.Attribute o f pos')) pos.line (c.X j).env = pure false := by intro _; rfl) : Sm c (.Assign [.Attribute o f pos'] e pos) (sAtt C f i fp fe) := by
  obtain ⟨to, po, so⟩ := ho
  obtain ⟨te, pe, se⟩ := he
  refine ⟨_, fun j => by have h := ps_fld (po j) (pe j) (hs j); rw [c.hK j] at h; exact h, ?_⟩
  intro b F ρ σ X H out D hb S eq k
  unfold sAtt at eq
  obtain ⟨x, e2, eq⟩ := Option.bind_eq_some_iff.mp eq
  obtain ⟨d, e3, eq⟩ := Option.bind_eq_some_iff.mp eq
  obtain ⟨π, e1, eq⟩ := Option.bind_eq_some_iff.mp eq
  obtain ⟨ρ', e4, eq⟩ := Option.map_eq_some_iff.mp eq
  subst eq
  cases d_some e3
  obtain ⟨tt, uu, h1, h2, h3⟩ := mutF_own e4 attT_own
  refine se b F ρ σ X H _ _ S e2 fun y F1 H1 S1 i1 s1 r1 => ?_
  refine so b F1 ρ σ X H1 π tt uu _ S1 e1 h1 h2 h3 fun p v F2 H2 S2 i2 s2 hv hat => ?_
  obtain ⟨dx, fs, hp, hl, S3⟩ := S2.att e4 hv hat (r1.ext i2 s2).rep
  exact ⟨p, _, dx, fs, rfl, hp, hC, hN, hl, k σ F2 _ S3 (i1.trans i2)⟩
end
/-! ### C(e, ..) -/
structure ClM (P : Program) (w : World) (W : Wd) (mg : Str → Option Value) (base : Heap) (CX : CXT) (k : Nat) (x : Str) (C : Nat) (io : List Nat) (G : List T → Option Re) : Prop where
  ex : ∃ f fd ps, FnOk P w W.K mg base CX k f fd ps (spF W io G) ∧ mg x = some (.ref (W.cl C)) ∧ Mk W.K (W.cl C) f ∧ Binds W.K fd ps []
theorem SR.dropN {W : Wd} {b : Bs} {F : Hp} {ρ : List T} {σ : L2.St} {x : Tm} {X : List Tm} {H : Hp} : ∀ (Y : List Tm), SR W b F ρ σ (x :: (Y ++ X)) H → SR W b F ρ σ (x :: X) H
  | [], S => S
  | y :: Y, S => SR.dropN Y ((S.perm (Y := y :: x :: (Y ++ X)) (List.Perm.swap _ _ _)).drop)
theorem Xn_t : ∀ {ts : List T} {vs : List V}, ts.length = vs.length → (Xn ts vs).map (·.t) = ts ∧ (Xn ts vs).map (·.v) = vs
  | [], [], _ => ⟨rfl, rfl⟩
  | [], _ :: _, h => by cases h
  | _ :: _, [], h => by cases h
  | t :: ts, v :: vs, h => by
    obtain ⟨a, b⟩ := Xn_t (ts := ts) (vs := vs) (by simpa using h)
    exact ⟨by show t :: _ = _; rw [a], by show v :: _ = _; rw [b]⟩
def mkF (C : Nat) (io : List Nat) (G : List T → Option Re) (ds : List D) : Option T := if ioOk io 0 (.o C [] [] :: ds.map .f) = true then (G (.o C [] [] :: ds.map .f)).bind fun r => match r with
  | .ok (.f .non) (u :: _) => some u
  | _ => none
  else none
def fMake (C : Nat) (io : List Nat) (G : List T → Option Re) (fs : List T → Option (List T)) : List T → Option Re := fun ρ => (fs ρ).bind fun ts => (deep ts).bind fun ds => (mkF C io G ds).map fun u => .ok u ρ
theorem so_make {W : Wd} {P : Sg} {E : L2.St → XK} {E' : XK} {t : TA} {C : Nat} {io : List Nat} {G : List T → Option Re} {fs : List T → Option (List T)} (h : Sav W t fs) : So W P E (tMake (W.cl C) (spF W io G) [] E' t) (fMake C io G fs) := by
  intro b F ρ σ X H r Q hb S e k
  unfold fMake at e
  obtain ⟨ts, e1, e⟩ := Option.bind_eq_some_iff.mp e
  obtain ⟨ds, e2, e⟩ := Option.bind_eq_some_iff.mp e
  obtain ⟨u, e3, e⟩ := Option.map_eq_some_iff.mp e
  subst e
  unfold mkF at e3
  split at e3
  · rename_i hio
    obtain ⟨r, e4, e3⟩ := Option.bind_eq_some_iff.mp e3
    obtain ⟨us, er⟩ : ∃ us, r = .ok (.f .non) (u :: us) := by
      split at e3
      · cases e3; exact ⟨_, rfl⟩
      · cases e3
    subst er
    refine h b F ρ σ X H ts _ S e1 fun vs F1 H1 S1 i1 s1 r1 => ?_
    have rs := RelVs.deep r1 e2
    intro x dx hx hdx hne
    obtain ⟨S2, i2, s2⟩ := S1.laid (o := .own x) hdx
    have hx2 : upd H1 dx (.own x) x = none := by rw [upd_ne (fun z => hne z.symm)]; exact hx
    have S3 := S2.pushes (rs.inc i2)
    have S4 : SR W b _ ρ σ (⟨none, .o C [] [], .ref x⟩ :: (Xn (ds.map .f) vs ++ X)) (upd (upd H1 dx (.own x)) x (.ins (W.cl C) dx [])) := S3.own hx2 ⟨x, dx, [], [], rfl, rfl, upd_same, rfl, rfl, rfl⟩
    obtain ⟨a1, a2⟩ := Xn_t (ts := ds.map T.f) (vs := vs) (by rw [List.length_map]; exact rs.len)
    obtain ⟨xa, q1, own, back⟩ := SR.call (Xa := ⟨none, .o C [] [], .ref x⟩ :: Xn (ds.map .f) vs) (X := X) S4
    have em : ((⟨none, .o C [] [], .ref x⟩ :: Xn (ds.map .f) vs : List Tm).map (·.t)) = .o C [] [] :: ds.map .f := by rw [List.map_cons, a1]
    have ev : ((⟨none, .o C [] [], .ref x⟩ :: Xn (ds.map .f) vs : List Tm).map (·.v)) = .ref x :: vs := by rw [List.map_cons, a2]
    rw [em, ev] at q1
    rw [ev] at back
    rw [List.append_nil]
    refine ⟨_, _, xa, _, S4.le, q1, own, hio, e4, ?_⟩
    intro v F' H' R i3
    have hv : v = .non := R.top
    refine ⟨hv, ?_⟩
    have S5 := back io (u :: us) F' [⟨none, .f .non, v⟩] H' (fun x hx => by rw [List.mem_singleton.mp hx]) R
    have S6 : SR W b F' ρ σ (⟨none, u, .ref x⟩ :: (setTs (Xn (ds.map .f) vs) us ++ X)) H' := S5.drop
    exact k (.ref x) F' H' (SR.dropN _ S6) ((i1.trans i2).trans i3)
  · cases e3
section
variable {c : Ctx} {a : Expr} {es : List Expr} {fs : List T → Option (List T)} {x : Str} {p pos : Pos} {io : List Nat} {G : List T → Option Re} {k C : Nat} {CX : CXT}
theorem eo_make {E : XK} (M : ∀ j, ClM (c.X j).prog (c.X j).w c.W (c.X j).mg (c.X j).base CX k x C io G) (hk : k + 1 ≤ c.k) (hg : ∀ j, Gl (c.X j) x) (hx : ∀ j, Passes CX (c.X j) E) (ha : Av c (a :: es) fs) (hdb : (x == ("__debug__" : Str)) = false := by decide)
    (he : ∀ j, starEach (a :: es) (c.X j).env = (false, eval a (c.X j).env) :: starEach es (c.X j).env := by intro _; rfl) (hpl : ∀ j, (backTo pos (starEach es (c.X j).env)).any (·.1) = false := by intro _; rfl) : Eo c (.Call (.Name x p) (a :: es) [] pos) (fMake C io G fs) := by
  obtain ⟨t, q, s⟩ := ha
  refine ⟨tMake (c.W.cl C) (spF c.W io G) [] E t, fun j => ?_, so_make s⟩
  obtain ⟨f, fd, ps, F, hm, hM, hb⟩ := M j
  have hKj := c.hK j
  exact pe_make (by rw [hKj]; exact hM) (by rw [hKj]; exact F) ((c.room j).mono hk) (hg j) hm (by rw [hKj]; exact hb) .nil (hx j) (q j) hdb (he j) (hpl j)
end
/-! ### defs that call themselves -/
theorem fn_none {P : Program} {w : World} {W : Wd} {mg : Str → Option Value} {base : Heap} {CX : CXT} {k : Nat} {f : Addr} {fd : FuncData} {ps : List Str} {io : List Nat} : FnOk P w W.K mg base CX k f fd ps (spF W io fun _ => none) :=
  ⟨fun vs H Q E h => (by obtain ⟨_, _, _, _, _, _, _, _, e, _⟩ := h; cases e), fun A outer s H args us vs Q E _ _ _ _ h => (by obtain ⟨_, _, _, _, _, _, _, _, e, _⟩ := h; cases e)⟩
/-- what is handed back as a thing of the caller's own, told as deep data -/
def fzR (G : List T → Option Re) : List T → Option Re := fun ts => (G ts).bind fun r => match r with
  | .ok t us => t.fz.map fun d => .ok (.f d) us
  | r => some r
theorem Cl.fz {P : Program} {w : World} {W : Wd} {mg : Str → Option Value} {base : Heap} {CX : CXT} {k : Nat} {x : Str} {io : List Nat} {G : List T → Option Re} (h : Cl P w W mg base CX k x io G) : Cl P w W mg base CX k x io (fzR G) := by
  obtain ⟨f, fd, ps, h, a, b, d⟩ := h
  refine ⟨f, fd, ps, h.imp ?_, a, b, d⟩
  rintro vs H Q E ⟨F, ts, fps, r, h1, h2, h3, h4, h5, h6⟩
  unfold fzR at h5
  obtain ⟨r0, e1, h5⟩ := Option.bind_eq_some_iff.mp h5
  refine ⟨F, ts, fps, r0, h1, h2, h3, h4, e1, ?_⟩
  cases r0 with
  | xc C us => cases h5; exact h6
  | ok t us =>
    obtain ⟨dd, e2, h5⟩ := Option.map_eq_some_iff.mp h5
    subst h5
    intro v F' H' R i
    obtain ⟨F2, S2, i2⟩ := R.frz rfl e2
    exact h6 v F2 H' S2 (i.trans i2)
end Z

namespace Z
open PySem PySem.Spec PyProof.Rows L2
/-! ### things go into parts and out of them -/
theorem flat_set : ∀ {l : List (List Addr)} {n : Nat} {f : List Addr}, l[n]? = some f → ∃ rl, l.flatten.Perm (f ++ rl) ∧ ∀ f', (l.set n f').flatten.Perm (f' ++ rl)
  | [], _, _, h => by simp at h
  | x :: l, 0, f, h => by
    simp at h
    subst h
    exact ⟨l.flatten, by rw [List.flatten_cons], fun f' => by rw [List.set_cons_zero, List.flatten_cons]⟩
  | x :: l, n + 1, f, h => by
    obtain ⟨rl, h1, h2⟩ := flat_set (l := l) (n := n) (f := f) (by simpa using h)
    refine ⟨x ++ rl, ?_, fun f' => ?_⟩
    · rw [List.flatten_cons]
      exact (h1.append_left x).trans (List.perm_append_comm_assoc _ _ _)
    · rw [List.set_cons_succ, List.flatten_cons]
      exact ((h2 f').append_left x).trans (List.perm_append_comm_assoc _ _ _)
theorem atN_ix {x : Str} : ∀ {ns : List Str} {ts : List T} {t : T}, atN ns ts x = some t → ∃ n, ts[n]? = some t ∧ (∀ u, setN ns ts x u = ts.set n u) ∧ ∀ {kvs : List (Str × V)} {w : V}, kvs.map (·.1) = ns → kvs.lookup x = some w → (kvs.map (·.2))[n]? = some w
  | [], ts, t, h => by cases ts <;> simp [atN] at h
  | n :: ns, [], t, h => by simp [atN] at h
  | n :: ns, t0 :: ts, t, h => by
    have h' : (if n = x then some t0 else atN ns ts x) = some t := h
    by_cases hn : n = x
    · rw [if_pos hn] at h'
      cases h'
      refine ⟨0, rfl, fun u => by show (if n = x then _ else _) = _; rw [if_pos hn]; rfl, fun {kvs w} hk hl => ?_⟩
      cases kvs with
      | nil => cases hk
      | cons k kvs =>
        have e : k.1 = x := by rw [← hn]; exact (List.cons.inj hk).1
        rw [List.lookup_cons, show (x == k.1) = true by rw [e]; exact beq_self_eq_true x] at hl
        cases hl
        rfl
    · rw [if_neg hn] at h'
      obtain ⟨m, h1, h2, h3⟩ := atN_ix h'
      refine ⟨m + 1, by simpa using h1, fun u => by show (if n = x then _ else _) = _; rw [if_neg hn, h2]; rfl, fun {kvs w} hk hl => ?_⟩
      cases kvs with
      | nil => cases hk
      | cons k kvs =>
        have e : k.1 = n := (List.cons.inj hk).1
        rw [List.lookup_cons, show (x == k.1) = false from beq_eq_false_iff_ne.mpr fun z => hn (by rw [← e]; exact z.symm)] at hl
        have := h3 (List.cons.inj hk).2 hl
        simpa using this
section
variable {W : Wd} {F F' H H' : Hp} {p : Addr}
theorem RelTs.putX {v : V} {f f' : List Addr} {t' : T} (hp : p ∈ f) (hr : RelT W F H' t' v f') (hH : ∀ a, a ≠ p → H' a = H a) : ∀ {ts : List T} {vs : List V} {fps : List (List Addr)} {n : Nat}, RelTs W F H ts vs fps → fps.flatten.Nodup → vs[n]? = some v → fps[n]? = some f → RelTs W F H' (ts.set n t') vs (fps.set n f')
  | [], _, _, _, r, _, e, _ => by rw [r.1] at e; simp at e
  | t :: ts, _, _, 0, r, nd, e1, e2 => by
    obtain ⟨v0, vr, f0, fr, rfl, rfl, a, b⟩ := r
    simp at e1 e2
    subst e1 e2
    rw [List.flatten_cons] at nd
    have n := List.nodup_append.mp nd
    exact ⟨_, _, _, _, rfl, rfl, hr, RelTs.mono (Inc.refl F) ts vr fr (fun x hx => hH x fun q => n.2.2 p hp x hx q.symm) b⟩
  | t :: ts, _, _, n + 1, r, nd, e1, e2 => by
    obtain ⟨v0, vr, f0, fr, rfl, rfl, a, b⟩ := r
    simp at e1 e2
    rw [List.flatten_cons] at nd
    have n0 := List.nodup_append.mp nd
    exact ⟨_, _, _, _, rfl, rfl, RelT.mono (Inc.refl F) t v0 f0 (fun x hx => hH x fun q => n0.2.2 x hx p (List.mem_flatten.mpr ⟨f, List.mem_of_getElem? e2, hp⟩) q) a, RelTs.putX hp hr hH b n0.2.1 e1 e2⟩
theorem Slots.putX {v : V} {f f' : List Addr} {t' : T} (hp : p ∈ f) (hr : RelT W F H' t' v f') (hH : ∀ a, a ≠ p → H' a = H a) : ∀ {ts : List T} {σ : L2.St} {fps : List (List Addr)} {n : Nat}, Slots W F H ts σ fps → fps.flatten.Nodup → σ[n]? = some (some v) → fps[n]? = some f → Slots W F H' (ts.set n t') σ (fps.set n f')
  | [], _, _, _, r, _, e, _ => by rw [r.1] at e; simp at e
  | t :: ts, _, _, 0, r, nd, e1, e2 => by
    obtain ⟨v0, vr, f0, fr, rfl, rfl, a, b⟩ := r
    simp at e1 e2
    subst e1 e2
    rw [List.flatten_cons] at nd
    have n := List.nodup_append.mp nd
    exact ⟨_, _, _, _, rfl, rfl, hr, Slots.mono (Inc.refl F) (fun x hx => hH x fun q => n.2.2 p hp x hx q.symm) b⟩
  | t :: ts, _, _, n + 1, r, nd, e1, e2 => by
    obtain ⟨v0, vr, f0, fr, rfl, rfl, a, b⟩ := r
    simp at e1 e2
    rw [List.flatten_cons] at nd
    have n0 := List.nodup_append.mp nd
    exact ⟨_, _, _, _, rfl, rfl, Slot.mono (Inc.refl F) (fun x hx => hH x fun q => n0.2.2 x hx p (List.mem_flatten.mpr ⟨f, List.mem_of_getElem? e2, hp⟩) q) a, Slots.putX hp hr hH b n0.2.1 e1 e2⟩
theorem perm_in {a : Addr} {fu r1 rl f l : List Addr} (h1 : f.Perm (fu ++ r1)) (h2 : l.Perm (f ++ rl)) : (a :: l).Perm (fu ++ (a :: (r1 ++ rl))) := by
  refine (List.Perm.cons a (h2.trans (h1.append_right rl))).trans ?_
  rw [List.append_assoc]
  exact List.perm_middle.symm
theorem RelT.mutX {u : T} : ∀ {π : List Sel} {t : T} {v : V} {fp : List Addr}, RelT W F H t v fp → fp.Nodup → t.getP π = some u → AtV H v π p →
    ∃ fu rest, fp.Perm (fu ++ rest) ∧ RelT W F H u (.ref p) fu ∧ ∀ H' u' fu', (∀ a, a ≠ p → H' a = H a) → p ∈ fu → RelT W F H' u' (.ref p) fu' → ∃ fp', fp'.Perm (fu' ++ rest) ∧ RelT W F H' (t.putP π u') v fp'
  | [], t, v, fp, r, nd, e, hv => by
    have hv : v = _ := hv
    subst hv
    cases e
    exact ⟨fp, [], by rw [List.append_nil], r, fun H' u' fu' _ _ h => ⟨fu', by rw [List.append_nil], h⟩⟩
  | .ix n :: π, t, v, fp, r, nd, e, hv => by
    obtain ⟨a, vs, w, rfl, hH, hw, hv⟩ := hv
    obtain ⟨t1, e1, e0⟩ := Option.bind_eq_some_iff.mp (show (t.sub (.ix n)).bind _ = _ from e)
    have hput : ∀ u', t.putP (.ix n :: π) u' = t.upd (.ix n) (t1.putP π u') := fun u' => by
      show (match t.sub (.ix n) with | some t1 => t.upd (.ix n) (t1.putP π u') | none => t) = _
      rw [e1]
    have step : ∀ {ts : List T} {fps : List (List Addr)}, RelTs W F H ts vs fps → ts[n]? = some t1 → (a :: fps.flatten).Nodup → ∃ fu rest, (a :: fps.flatten).Perm (fu ++ rest) ∧ RelT W F H u (.ref p) fu ∧ ∀ H' u' fu', (∀ a, a ≠ p → H' a = H a) → p ∈ fu → RelT W F H' u' (.ref p) fu' →
        ∃ fps', (a :: fps'.flatten).Perm (fu' ++ rest) ∧ RelTs W F H' (ts.set n (t1.putP π u')) vs fps' ∧ H' a = H a := by
      intro ts fps rs e1 nd
      have n0 := List.nodup_cons.mp nd
      obtain ⟨w', f, q1, q2, q3⟩ := rs.at e1
      rw [hw] at q1
      cases q1
      obtain ⟨fu, r1, h1, h2, h3⟩ := RelT.mutX q3 ((List.sublist_flatten_of_mem (List.mem_of_getElem? q2)).nodup n0.2) e0 hv
      obtain ⟨rl, l1, l2⟩ := flat_set q2
      refine ⟨fu, a :: (r1 ++ rl), perm_in h1 l1, h2, fun H' u' fu' hH' hp hr => ?_⟩
      have hpf : p ∈ f := h1.mem_iff.mpr (List.mem_append_left _ hp)
      obtain ⟨f', g1, g2⟩ := h3 H' u' fu' hH' hp hr
      refine ⟨fps.set n f', perm_in g1 (l2 f'), RelTs.putX hpf g2 hH' rs n0.2 hw q2, ?_⟩
      exact hH' a fun z => n0.1 (by rw [z]; exact List.mem_flatten.mpr ⟨f, List.mem_of_getElem? q2, hpf⟩)
    cases t with
    | ll ts =>
      obtain ⟨q, vs', fps, ev, rfl, hq, rs⟩ := r
      cases ev
      have evs : vs' = vs := by
        rcases hH with h | h
        · rw [hq] at h; cases h; rfl
        · rw [hq] at h; cases h
      subst evs
      obtain ⟨fu, rest, k1, k2, k3⟩ := step rs e1 nd
      refine ⟨fu, rest, k1, k2, fun H' u' fu' hH' hp hr => ?_⟩
      obtain ⟨fps', m1, m2, m3⟩ := k3 H' u' fu' hH' hp hr
      rw [hput]
      exact ⟨_, m1, a, vs', fps', rfl, rfl, by rw [m3]; exact hq, m2⟩
    | tu ts =>
      obtain ⟨q, vs', fps, ev, rfl, hq, rs⟩ := r
      cases ev
      have evs : vs' = vs := by
        rcases hH with h | h
        · rw [hq] at h; cases h
        · rw [hq] at h; cases h; rfl
      subst evs
      obtain ⟨fu, rest, k1, k2, k3⟩ := step rs e1 nd
      refine ⟨fu, rest, k1, k2, fun H' u' fu' hH' hp hr => ?_⟩
      obtain ⟨fps', m1, m2, m3⟩ := k3 H' u' fu' hH' hp hr
      rw [hput]
      exact ⟨_, m1, a, vs', fps', rfl, rfl, by rw [m3]; exact hq, m2⟩
    | _ => cases e1
  | .at x :: π, t, v, fp, r, nd, e, hv => by
    obtain ⟨a, C, dx, kvs, w, rfl, hH, hw, hv⟩ := hv
    obtain ⟨t1, e1, e0⟩ := Option.bind_eq_some_iff.mp (show (t.sub (.at x)).bind _ = _ from e)
    have hput : ∀ u', t.putP (.at x :: π) u' = t.upd (.at x) (t1.putP π u') := fun u' => by
      show (match t.sub (.at x) with | some t1 => t.upd (.at x) (t1.putP π u') | none => t) = _
      rw [e1]
    cases t with
    | o C' ns ts =>
      obtain ⟨q, dx', kvs', fps, ev, rfl, hq, hk, rs⟩ := r
      cases ev
      rw [hq] at hH
      cases hH
      obtain ⟨n, i1, i2, i3⟩ := atN_ix (show atN ns ts x = some t1 from e1)
      have n0 := List.nodup_cons.mp nd
      have hw' := i3 hk hw
      obtain ⟨w', f, q1, q2, q3⟩ := rs.at i1
      rw [hw'] at q1
      cases q1
      obtain ⟨fu, r1, h1, h2, h3⟩ := RelT.mutX q3 ((List.sublist_flatten_of_mem (List.mem_of_getElem? q2)).nodup n0.2) e0 hv
      obtain ⟨rl, l1, l2⟩ := flat_set q2
      refine ⟨fu, a :: (r1 ++ rl), perm_in h1 l1, h2, fun H' u' fu' hH' hp hr => ?_⟩
      have hpf : p ∈ f := h1.mem_iff.mpr (List.mem_append_left _ hp)
      obtain ⟨f', g1, g2⟩ := h3 H' u' fu' hH' hp hr
      rw [hput]
      refine ⟨_, perm_in g1 (l2 f'), a, dx, kvs, fps.set n f', rfl, rfl, ?_, hk, ?_⟩
      · rw [hH' a fun z => n0.1 (by rw [z]; exact List.mem_flatten.mpr ⟨f, List.mem_of_getElem? q2, hpf⟩)]
        exact hq
      · rw [i2]
        exact RelTs.putX hpf g2 hH' rs n0.2 hw' q2
    | _ => cases e1
/-- a slot's thing is changed at one place; things held may go into it, or come out -/
theorem SR.mutX {b : Bs} {ρ : List T} {σ : L2.St} {X Y : List Tm} {i : Nat} {t u : T} {v : V} {π : List Sel} (S : SR W b F ρ σ (Y ++ X) H) (hi : ρ[i]? = some t) (hv : σ[i]? = some (some v)) (hu : t.getP π = some u) (ha : AtV H v π p) :
    ∃ fu yps, RelT W F H u (.ref p) fu ∧ RelTs W F H (Y.map (·.t)) (Y.map (·.v)) yps ∧ (fu ++ yps.flatten).Nodup ∧ (∀ a ∈ fu ++ yps.flatten, F a = none) ∧
      ∀ o' u' fu' (Z : List Tm) zps, p ∈ fu → RelT W F (upd H p o') u' (.ref p) fu' → RelTs W F (upd H p o') (Z.map (·.t)) (Z.map (·.v)) zps → (fu' ++ zps.flatten).Nodup → (∀ a ∈ fu' ++ zps.flatten, a ∈ fu ++ yps.flatten) →
        (∃ o, H p = some o ∧ Stb (GB W b) o o') → SR W b F (ρ.set i (t.putP π u')) σ (Z ++ X) (upd H p o') := by
  obtain ⟨le, f0, fn, kept, stab, pin, fps, xps, s1, s2, ⟨nd, ow⟩, lc1, lc2⟩ := S
  rw [List.map_append, List.map_append] at s2
  obtain ⟨yps, xr, e, q1, q2⟩ := RelTs.split (by simp) s2
  subst e
  obtain ⟨s, f, e1, e2, r⟩ := s1.get hi
  rw [hv] at e1
  cases e1
  rw [List.flatten_append] at nd ow
  have n := List.nodup_append.mp nd
  have n2 := List.nodup_append.mp n.2.1
  have hf : ∀ a ∈ f, a ∈ fps.flatten := fun a ha => List.mem_flatten.mpr ⟨f, List.mem_of_getElem? e2, ha⟩
  have nf : f.Nodup := (List.sublist_flatten_of_mem (List.mem_of_getElem? e2)).nodup n.1
  obtain ⟨fu, rest, h1, h2, h3⟩ := RelT.mutX r nf hu ha
  obtain ⟨rl, l1, l2⟩ := flat_set e2
  have hfu : ∀ a ∈ fu, a ∈ fps.flatten := fun a ha => hf a (h1.mem_iff.mpr (List.mem_append_left _ ha))
  have nfu : fu.Nodup := (List.nodup_append.mp (h1.nodup_iff.mp nf)).1
  have lY : Y.length = yps.length := by have := RelTs.lenA q1; simpa using this.2
  have lcs := (LocX.append (b := b) lY).mp lc2
  refine ⟨fu, yps, h2, q1, List.nodup_append.mpr ⟨nfu, n2.1, fun a ha c hc e => n.2.2 a (hfu a ha) c (List.mem_append_left _ hc) e⟩, fun a ha => ?_, fun o' u' fu' Z zps hp hr hz nn hsub ho => ?_⟩
  · rcases List.mem_append.mp ha with z | z
    · exact ow a (List.mem_append_left _ (hfu a z))
    · exact ow a (List.mem_append_right _ (List.mem_append_left _ z))
  obtain ⟨o, ho, hst⟩ := ho
  have hpf : p ∈ fps.flatten := hfu p hp
  have hpn : F p = none := ow p (List.mem_append_left _ hpf)
  have hne : ∀ a, a ≠ p → upd H p o' a = H a := fun a e => upd_ne e
  obtain ⟨f', g1, g2⟩ := h3 _ u' fu' hne hp hr
  have hpf1 : p ∈ f := h1.mem_iff.mpr (List.mem_append_left _ hp)
  -- all places, told apart
  have P0 : (fps.flatten ++ (yps.flatten ++ xr.flatten)).Perm ((fu ++ yps.flatten) ++ (rest ++ rl ++ xr.flatten)) := by
    refine ((l1.trans (h1.append_right rl)).append_right _).trans ?_
    simp only [List.append_assoc]
    refine List.Perm.append_left fu ?_
    rw [← List.append_assoc rest rl, ← List.append_assoc rest rl]
    exact (List.perm_append_comm_assoc _ _ _)
  have P1 : ((fps.set i f').flatten ++ (zps.flatten ++ xr.flatten)).Perm ((fu' ++ zps.flatten) ++ (rest ++ rl ++ xr.flatten)) := by
    refine (((l2 f').trans (g1.append_right rl)).append_right _).trans ?_
    simp only [List.append_assoc]
    refine List.Perm.append_left fu' ?_
    rw [← List.append_assoc rest rl, ← List.append_assoc rest rl]
    exact (List.perm_append_comm_assoc _ _ _)
  have N0 := List.nodup_append.mp (P0.nodup_iff.mp nd)
  have N1 : ((fu' ++ zps.flatten) ++ (rest ++ rl ++ xr.flatten)).Nodup := List.nodup_append.mpr ⟨nn, N0.2.1, fun a ha c hc e => N0.2.2 a (hsub a ha) c hc e⟩
  have sub : ∀ a ∈ (fps.set i f').flatten ++ (zps.flatten ++ xr.flatten), a ∈ fps.flatten ++ (yps.flatten ++ xr.flatten) := fun a ha => by
    refine P0.mem_iff.mpr ?_
    rcases List.mem_append.mp (P1.mem_iff.mp ha) with z | z
    · exact List.mem_append_left _ (hsub a z)
    · exact List.mem_append_right _ z
  have mine : ∀ a ∈ fps.flatten ++ (yps.flatten ++ xr.flatten), b.H0 a = none ∨ a ∈ b.A := fun a ha => by
    rcases List.mem_append.mp ha with z | z
    · exact LocS.old lc1 z
    · rcases List.mem_append.mp z with z | z
      · exact LocX.old lY lcs.1 z
      · exact LocX.old (by have := RelTs.lenA q2; simpa using this.2) lcs.2 z
  have lZ : Z.length = zps.length := by have := RelTs.lenA hz; simpa using this.2
  refine ⟨fun a x e => ?_, f0, fn, fun a x e hA => ?_, fun a x e hA => ?_, pin, fps.set i f', zps ++ xr, Slots.putX hpf1 g2 hne s1 n.1 hv e2, ?_, ⟨?_, fun a ha => ?_⟩, fun j g hj a ha => ?_, ?_⟩
  · have : a ≠ p := fun q => by rw [q, hpn] at e; cases e
    rw [hne a this]
    exact le a x e
  · have : a ≠ p := fun q => by
      subst q
      rcases LocS.old lc1 hpf with z | z
      · rw [z] at e; cases e
      · exact hA z
    rw [hne a this]
    exact kept a x e hA
  · by_cases q : a = p
    · subst q
      obtain ⟨w, hw, st⟩ := stab a x e hA
      rw [ho] at hw
      cases hw
      exact ⟨o', upd_same, st.trans hst⟩
    · obtain ⟨w, hw, st⟩ := stab a x e hA
      exact ⟨w, by rw [hne a q]; exact hw, st⟩
  · rw [List.map_append, List.map_append]
    exact RelTs.join hz (RelTs.mono (Inc.refl F) _ _ xr (fun a ha => hne a fun q => n.2.2 p hpf a (List.mem_append_right _ ha) q.symm) q2)
  · rw [List.flatten_append]
    exact P1.nodup_iff.mpr N1
  · rw [List.flatten_append] at ha
    exact ow a (sub a ha)
  · exact mine a (sub a (List.mem_append_left _ (List.mem_flatten.mpr ⟨g, List.mem_of_getElem? hj, ha⟩)))
  · exact (LocX.append lZ).mpr ⟨LocX.any fun a ha => mine a (sub a (List.mem_append_right _ (List.mem_append_left _ ha))), lcs.2⟩
end
end Z

namespace Z
open PySem PySem.Spec PyProof.Rows L2
/-! ### values of one's own, made without changing anything that stands -/
def Smo (W : Wd) (t : TE) (f : List T → Option (T × List T)) : Prop :=
  ∀ b F ρ σ X H τ ρ' Q, SR W b F ρ σ X H → f ρ = some (τ, ρ') → (∀ v F' H', SR W b F' ρ' σ (⟨none, τ, v⟩ :: X) H' → Inc F F' → Same H H' → Q v H') → t σ H Q
def Em (c : Ctx) (e : Expr) (f : List T → Option (T × List T)) : Prop := ∃ t, (∀ j, PE (c.X j) e t) ∧ Smo c.W t f
def Smos (W : Wd) (t : TA) (f : List T → Option (List T × List T)) : Prop :=
  ∀ b F ρ σ X H τs ρ' Q, SR W b F ρ σ X H → f ρ = some (τs, ρ') → (∀ vs F' H', τs.length = vs.length → SR W b F' ρ' σ (Xn τs vs ++ X) H' → Inc F F' → Same H H' → Q vs H') → t σ H Q
def Ams (c : Ctx) (es : List Expr) (f : List T → Option (List T × List T)) : Prop := ∃ t, (∀ j, PA (c.X j) es t) ∧ Smos c.W t f
section
variable {c : Ctx} {e : Expr} {es : List Expr} {pos : Pos} {fe : List T → Option T} {fm : List T → Option (T × List T)} {fs : List T → Option (List T × List T)}
def mP (fe : List T → Option T) : List T → Option (T × List T) := fun ρ => (fe ρ).bind fun t => t.d?.map fun d => (.f d, ρ)
theorem em_p (h : Ev c e fe) : Em c e (mP fe) := by
  obtain ⟨t, p, s⟩ := h
  refine ⟨t, p, ?_⟩
  intro b F ρ σ X H τ ρ' Q S e k
  unfold mP at e
  obtain ⟨t1, e1, e⟩ := Option.bind_eq_some_iff.mp e
  obtain ⟨d, e2, e⟩ := Option.map_eq_some_iff.mp e
  cases e
  cases d_some e2
  exact s b F ρ σ X H _ _ S e1 fun v F1 H1 S1 i1 s1 r1 => k v F1 H1 (S1.push r1.rep) i1 s1
def mV (i : Nat) : List T → Option (T × List T) := fun ρ => match ρ[i]? with
  | some .un => none
  | some t => some (t, ρ.set i .un)
  | none => none
theorem em_v (i : Nat) {x : Str} (hi : c.N[i]? = some x := by rfl) (hv : ∀ j, Vis (c.X j).env.scope x := by intro _; first | exact Or.inl rfl | exact Or.inr (Or.inl rfl) | exact Or.inr (Or.inr rfl)) (hd : (x == ("__debug__" : Str)) = false := by decide) (hcd : (x == ("__classdict__" : Str)) = false := by decide) : Em c (.Name x pos) (mV i) := by
  refine ⟨_, fun j => pe_var (i := i) (by rw [c.hN j]; exact hi) (hv j) hd hcd, ?_⟩
  intro b F ρ σ X H τ ρ' Q S e k
  unfold mV at e
  cases q : ρ[i]? with
  | none => rw [q] at e; cases e
  | some t =>
    have ht : t ≠ .un := by
      rintro rfl
      rw [q] at e
      cases e
    have e2 : t = τ ∧ ρ.set i .un = ρ' := by
      rw [q] at e
      cases t with
      | un => exact absurd rfl ht
      | _ => cases e; exact ⟨rfl, rfl⟩
    obtain ⟨rfl, rfl⟩ := e2
    obtain ⟨s, fp, e1, r⟩ := S.slot q
    cases s with
    | none => exact absurd r.1 ht
    | some v =>
      have S' := S.take q e1
      refine ⟨v, e1, k v F H ?_ (Inc.refl F) (Same.refl H)⟩
      obtain ⟨le, f0, fn, kept, stab, pin, fps, xps, s1, s2, ow, lc1, lc2⟩ := S'
      refine ⟨le, f0, fn, kept, stab, pin, fps, xps, s1, s2, ow, lc1, ?_⟩
      cases xps with
      | nil => exact trivial
      | cons f fs => exact lc2
def msNil : List T → Option (List T × List T) := fun ρ => some ([], ρ)
def msCons (f : List T → Option (T × List T)) (g : List T → Option (List T × List T)) : List T → Option (List T × List T) := fun ρ => (f ρ).bind fun p => (g p.2).map fun q => (p.1 :: q.1, q.2)
theorem ams_nil : Ams c [] msNil := by
  refine ⟨_, fun _ => pa_nil, ?_⟩
  intro b F ρ σ X H τs ρ' Q S e k
  cases e
  exact k [] F H rfl S (Inc.refl F) (Same.refl H)
theorem Xn_perm {x : Tm} {X : List Tm} : ∀ (Y : List Tm), (Y ++ x :: X).Perm (x :: (Y ++ X)) := fun Y => List.perm_middle
theorem ams_cons (ha : Em c e fm) (hr : Ams c es fs) (hs : ∀ j, starEach (e :: es) (c.X j).env = (false, eval e (c.X j).env) :: starEach es (c.X j).env := by intro _; rfl) : Ams c (e :: es) (msCons fm fs) := by
  obtain ⟨t, p, s⟩ := ha
  obtain ⟨u, q, s'⟩ := hr
  refine ⟨tCons t u, fun j => pa_cons (p j) (q j) (hs j), ?_⟩
  intro b F ρ σ X H τs ρ' Q S e k
  unfold msCons at e
  obtain ⟨⟨τ, ρ1⟩, e1, e⟩ := Option.bind_eq_some_iff.mp e
  obtain ⟨⟨τr, ρ2⟩, e2, e⟩ := Option.map_eq_some_iff.mp e
  cases e
  refine s b F ρ σ X H _ _ _ S e1 fun v F1 H1 S1 i1 s1 => ?_
  refine s' b F1 _ σ _ H1 _ _ _ S1 e2 fun vs F2 H2 hl S2 i2 s2 => ?_
  exact k (v :: vs) F2 H2 (by simp [hl]) (S2.perm (Xn_perm _)) (i1.trans i2) (s1.trans s2)
/-- the things held become one tuple, one list -/
theorem SR.bundle {W : Wd} {b : Bs} {F : Hp} {ρ : List T} {σ : L2.St} {X Y : List Tm} {H : Hp} {p : Addr} {o : HO} {t : T} (S : SR W b F ρ σ (Y ++ X) H) (hp : H p = none)
    (ht : ∀ fps, RelTs W F (upd H p o) (Y.map (·.t)) (Y.map (·.v)) fps → RelT W F (upd H p o) t (.ref p) (p :: fps.flatten)) : SR W b F ρ σ (⟨none, t, .ref p⟩ :: X) (upd H p o) := by
  have S1 : SR W b F ρ σ (⟨none, .l [], .ref p⟩ :: (Y ++ X)) (upd H p (.lst [])) := S.own hp ⟨p, [], rfl, rfl, upd_same, rfl⟩
  obtain ⟨le, f0, fn, kept, stab, pin, fps, xps, s1, s2, ⟨nd, ow⟩, lc1, lc2⟩ := S
  rw [List.map_append, List.map_append] at s2
  obtain ⟨yps, xr, e, q1, q2⟩ := RelTs.split (by simp) s2
  subst e
  rw [List.flatten_append] at nd ow
  have hthere : ∀ a ∈ fps.flatten ++ (yps.flatten ++ xr.flatten), a ≠ p := fun a ha z => by
    subst z
    rcases List.mem_append.mp ha with y | y
    · obtain ⟨o, e⟩ := Slots.there s1 a y
      rw [hp] at e; cases e
    · rcases List.mem_append.mp y with y | y
      · obtain ⟨o, e⟩ := RelTs.there _ _ _ q1 a y
        rw [hp] at e; cases e
      · obtain ⟨o, e⟩ := RelTs.there _ _ _ q2 a y
        rw [hp] at e; cases e
  have stay : ∀ a ∈ fps.flatten ++ (yps.flatten ++ xr.flatten), upd H p o a = H a := fun a ha => upd_ne (hthere a ha)
  have lY : Y.length = yps.length := by have := RelTs.lenA q1; simpa using this.2
  have lcs := (LocX.append (b := b) lY).mp lc2
  have hFp : F p = none := le.none hp
  have hnew : b.H0 p = none := by
    cases q : b.H0 p with
    | none => rfl
    | some u =>
      by_cases hA : p ∈ b.A
      · obtain ⟨u', z', _⟩ := stab p u q hA
        rw [z'] at hp; cases hp
      · rw [kept p u q hA] at hp; cases hp
  have same : Same H (upd H p o) := fun a u e => by rw [upd_ne (ne_of_none e hp)]; exact e
  refine ⟨le.inc same, f0, fn, fun a u e na => same a u (kept a u e na), fun a u e ha => (stab a u e ha).elim fun w q => ⟨w, same a w q.1, q.2⟩, pin, fps, (p :: yps.flatten) :: xr, s1.mono (Inc.refl F) (fun a ha => stay a (List.mem_append_left _ ha)),
    ⟨_, _, _, _, rfl, rfl, ht yps (RelTs.mono (Inc.refl F) _ _ _ (fun a ha => stay a (List.mem_append_right _ (List.mem_append_left _ ha))) q1), RelTs.mono (Inc.refl F) _ _ _ (fun a ha => stay a (List.mem_append_right _ (List.mem_append_right _ ha))) q2⟩, ⟨?_, fun a ha => ?_⟩, lc1, fun a ha => ?_, lcs.2⟩
  · rw [List.flatten_cons, List.cons_append]
    refine (List.perm_middle.nodup_iff).mpr (List.nodup_cons.mpr ⟨fun z => hthere p z rfl, nd⟩)
  · rw [List.flatten_cons, List.cons_append] at ha
    rcases List.mem_cons.mp (List.perm_middle.mem_iff.mp ha) with z | z
    · rw [z]; exact hFp
    · exact ow a z
  · rcases List.mem_cons.mp ha with z | z
    · rw [z]; exact .inl hnew
    · exact LocX.old lY lcs.1 z
def mTup (fs : List T → Option (List T × List T)) : List T → Option (T × List T) := fun ρ => (fs ρ).bind fun p => if p.1.length ≤ sizeLine then some (.tu p.1, p.2) else none
def mLst (fs : List T → Option (List T × List T)) : List T → Option (T × List T) := fun ρ => (fs ρ).bind fun p => if p.1.length ≤ sizeLine then some (.ll p.1, p.2) else none
theorem em_tup {m : Nat} (h : Ams c es fs) : Em c (.Tuple es m pos) (mTup fs) := by
  obtain ⟨t, p, s⟩ := h
  refine ⟨_, fun j => pe_tup (p j), ?_⟩
  intro b F ρ σ X H τ ρ' Q S e k
  unfold mTup at e
  obtain ⟨⟨ts, ρ1⟩, e1, e⟩ := Option.bind_eq_some_iff.mp e
  split at e
  · rename_i hl
    cases e
    refine s b F ρ σ X H _ _ _ S e1 fun vs F1 H1 hlen S1 i1 s1 => ⟨by rw [← hlen]; exact hl, fun q hq => ?_⟩
    obtain ⟨a1, a2⟩ := Xn_t hlen
    refine k _ F1 _ (S1.bundle hq fun fps r => ?_) i1 (s1.trans fun a u e => by rw [upd_ne (ne_of_none e hq)]; exact e)
    rw [a1, a2] at r
    exact ⟨q, vs, fps, rfl, rfl, upd_same, r⟩
  · cases e
theorem em_lst (h : Ams c es fs) : Em c (.List es pos) (mLst fs) := by
  obtain ⟨t, p, s⟩ := h
  refine ⟨_, fun j => pe_lst (p j), ?_⟩
  intro b F ρ σ X H τ ρ' Q S e k
  unfold mLst at e
  obtain ⟨⟨ts, ρ1⟩, e1, e⟩ := Option.bind_eq_some_iff.mp e
  split at e
  · rename_i hl
    cases e
    refine s b F ρ σ X H _ _ _ S e1 fun vs F1 H1 hlen S1 i1 s1 => ⟨by rw [← hlen]; exact hl, fun q hq => ?_⟩
    obtain ⟨a1, a2⟩ := Xn_t hlen
    refine k _ F1 _ (S1.bundle hq fun fps r => ?_) i1 (s1.trans fun a u e => by rw [upd_ne (ne_of_none e hq)]; exact e)
    rw [a1, a2] at r
    exact ⟨q, vs, fps, rfl, rfl, upd_same, r⟩
  · cases e
/-- a new list of deep things -/
def mNew (fs : List T → Option (List T)) : List T → Option (T × List T) := fun ρ => (fs ρ).bind fun ts => (deep ts).bind fun ds => if ds.length ≤ sizeLine then some (.l ds, ρ) else none
theorem em_new {fs : List T → Option (List T)} (h : Av c es fs) : Em c (.List es pos) (mNew fs) := by
  obtain ⟨t, p, s⟩ := h
  refine ⟨_, fun j => pe_lst (p j), ?_⟩
  intro b F ρ σ X H τ ρ' Q S e k
  unfold mNew at e
  obtain ⟨xs, e1, e⟩ := Option.bind_eq_some_iff.mp e
  obtain ⟨ds, e2, e⟩ := Option.bind_eq_some_iff.mp e
  split at e
  · rename_i hl
    cases e
    refine s b F _ σ X H xs _ S e1 fun vs F1 H1 S1 i1 s1 r1 => ?_
    have r2 := r1.deep e2
    refine ⟨by rw [← r2.len]; exact hl, fun q hq => ?_⟩
    exact k _ F1 _ (S1.own hq ⟨q, vs, rfl, rfl, upd_same, r2⟩) i1 (s1.trans fun a u e => by rw [upd_ne (ne_of_none e hq)]; exact e)
  · cases e
def mNewD : List T → Option (T × List T) := fun ρ => some (.dk [] [], ρ)
theorem em_newd : Em c (.Dict [] [] pos) mNewD := by
  refine ⟨_, fun _ => pe_dnewK, ?_⟩
  intro b F ρ σ X H τ ρ' Q S e k
  cases e
  intro q hq
  exact k _ F _ (S.own hq ⟨q, [], rfl, rfl, upd_same, rfl, rfl⟩) (Inc.refl F) fun a u e => by rw [upd_ne (ne_of_none e hq)]; exact e
/-- as such -/
def mE (fm : List T → Option (T × List T)) : List T → Option Re := fun ρ => (fm ρ).map fun p => .ok p.1 p.2
theorem emo (h : Em c e fm) : Eo c e (mE fm) := by
  obtain ⟨t, p, s⟩ := h
  refine ⟨t, p, ?_⟩
  intro b F ρ σ X H r Q hb S e k
  unfold mE at e
  obtain ⟨⟨τ, ρ'⟩, e1, e⟩ := Option.map_eq_some_iff.mp e
  subst e
  exact s b F ρ σ X H τ ρ' _ S e1 fun v F1 H1 S1 i1 s1 => k v F1 H1 S1 i1
end
/-! ### xs.append(a thing of its own) -/
def appM (t : T) : T → Option T
  | .ll ts => if ts.length < sizeLine then some (.ll (ts ++ [t])) else none
  | .l ds => if ds.length < sizeLine then (match t with
    | .f d => some (.l (ds ++ [d]))
    | .un => none
    | t => some (.ll (ds.map .f ++ [t]))) else none
  | _ => none
def isLst : T → Bool | .l _ => true | .ll _ => true | _ => false
def sAppM (i : Nat) (fp : List T → Option (List Sel)) (fm : List T → Option (T × List T)) : FS := fun ρ => (fp ρ).bind fun π => (ρ[i]?.bind fun t => t.getP π).bind fun u0 => if isLst u0 = true then (fm ρ).bind fun q => (mutF i π (appM q.1) q.2).map .nx else none
theorem relTs_one {W : Wd} {F H : Hp} {t : T} {v : V} {f : List Addr} (r : RelT W F H t v f) : RelTs W F H [t] [v] [f] := ⟨v, [], f, [], rfl, rfl, r, rfl, rfl⟩
theorem relTs_deepF {W : Wd} {F H : Hp} {ds : List D} {vs : List V} (r : Reps W F ds vs) : RelTs W F H (ds.map .f) vs (List.replicate ds.length []) := relTs_deep r
theorem flat_repl : ∀ (n : Nat), (List.replicate n ([] : List Addr)).flatten = []
  | 0 => rfl
  | n + 1 => by rw [List.replicate_succ, List.flatten_cons, flat_repl n]; rfl
theorem SR.appM {W : Wd} {b : Bs} {F : Hp} {ρ ρ' : List T} {σ : L2.St} {X : List Tm} {H : Hp} {i : Nat} {π : List Sel} {t : T} {v y : V} {p : Addr} (S : SR W b F ρ σ (⟨none, t, y⟩ :: X) H) (h : mutF i π (appM t) ρ = some ρ') (hv : σ[i]? = some (some v)) (ha : AtV H v π p) :
    ∃ vs, H p = some (.lst vs) ∧ vs.length < sizeLine ∧ SR W b F ρ' σ X (upd H p (.lst (vs ++ [y]))) := by
  obtain ⟨t0, u, u', e1, e2, e3, rfl⟩ := mutF_some h
  obtain ⟨fu, yps, q1, q2, q3, q4, q5⟩ := SR.mutX (Y := [⟨none, t, y⟩]) (X := X) S e1 hv e2 ha
  obtain ⟨y', vr, fy, fr, ey, rfl, ry, q2'⟩ := q2
  cases ey
  obtain ⟨_, rfl⟩ := q2'
  rw [List.flatten_cons, List.flatten_nil, List.append_nil] at q3 q4 q5
  have ny : p ∈ fu → ∀ o, ∀ a ∈ fy, upd H p o a = H a := fun hp o a ha => upd_ne fun z => (List.nodup_append.mp q3).2.2 p hp a ha z.symm
  cases u with
  | ll ts =>
    have e3' : (if ts.length < sizeLine then some (T.ll (ts ++ [t])) else none) = some u' := e3
    split at e3'
    · rename_i hl
      cases e3'
      obtain ⟨p', vs, fps, ep, rfl, hp, rs⟩ := q1
      cases ep
      have n0 := List.nodup_append.mp q3
      have hpn : p ∉ fps.flatten := (List.nodup_cons.mp n0.1).1
      refine ⟨vs, hp, by rw [← rs.lenA.1]; exact hl, ?_⟩
      refine q5 _ (.ll (ts ++ [t])) (p :: (fps ++ [fy]).flatten) [] [] List.mem_cons_self ⟨p, _, fps ++ [fy], rfl, rfl, upd_same, ?_⟩ ⟨rfl, rfl⟩ ?_ (fun a ha => ?_) ⟨_, hp, Stb.lst⟩
      · exact RelTs.join (RelTs.mono (Inc.refl F) _ _ _ (fun a ha => upd_ne fun z => hpn (z ▸ ha)) rs) (relTs_one (RelT.mono (Inc.refl F) _ _ _ (ny List.mem_cons_self _) ry))
      · simpa using q3
      · simpa using ha
    · cases e3'
  | l ds =>
    have e3' : (if ds.length < sizeLine then (match t with
      | .f d => some (T.l (ds ++ [d]))
      | .un => none
      | t => some (.ll (ds.map .f ++ [t]))) else none) = some u' := e3
    split at e3'
    · rename_i hl
      obtain ⟨p', vs, ep, rfl, hp, rs⟩ := q1
      cases ep
      refine ⟨vs, hp, by rw [← rs.len]; exact hl, ?_⟩
      by_cases hf : ∃ d, t = .f d
      · obtain ⟨d, rfl⟩ := hf
        cases e3'
        have hfy : fy = [] := ry.1
        subst hfy
        refine q5 _ (.l (ds ++ [d])) [p] [] [] (List.mem_singleton.mpr rfl) ⟨p, _, rfl, rfl, upd_same, rs.append ⟨y, [], rfl, ry.2, rfl⟩⟩ ⟨rfl, rfl⟩ (by simp) (fun a ha => by simpa using ha) ⟨_, hp, Stb.lst⟩
      · have e4 : u' = .ll (ds.map .f ++ [t]) := by
          cases t with
          | f d => exact absurd ⟨d, rfl⟩ hf
          | un => cases e3'
          | _ => exact (Option.some.inj e3').symm
        subst e4
        have hfl : (List.replicate ds.length ([] : List Addr) ++ [fy]).flatten = fy := by
          rw [List.flatten_append, flat_repl, List.flatten_cons, List.flatten_nil, List.append_nil, List.nil_append]
        refine q5 _ (.ll (ds.map .f ++ [t])) (p :: (List.replicate ds.length [] ++ [fy]).flatten) [] [] (List.mem_singleton.mpr rfl) ⟨p, _, _, rfl, rfl, upd_same, ?_⟩ ⟨rfl, rfl⟩ ?_ (fun a ha => ?_) ⟨_, hp, Stb.lst⟩
        · exact RelTs.join (relTs_deep rs) (relTs_one (RelT.mono (Inc.refl F) _ _ _ (ny (List.mem_singleton.mpr rfl) _) ry))
        · rw [hfl]
          simpa using q3
        · rw [hfl] at ha
          simpa using ha
    · cases e3'
  | _ => cases e3
theorem sm_appM {c : Ctx} {e o : Expr} {i : Nat} {fp : List T → Option (List Sel)} {fm : List T → Option (T × List T)} {pos apos cpos : Pos} (ho : Lo c o i fp) (he : Em c e fm)
    (hbase : ∀ j, attributeBase o "append" (c.X j).env (eval o (c.X j).env) = eval o (c.X j).env := by intro _; rfl)
    (hfew : ∀ j, ((backTo cpos (starEach [e] (c.X j).env)).all (fun x => !x.1) && (backToKw cpos (keywordEach [] (c.X j).env)).all (fun x => x.1.isSome)
      && decide (([e] : List Expr).length + ([] : List Keyword).length + (if ([] : List Keyword).isEmpty then 0 else 1) < 30)) = true := by intro _; rfl)
    (hline : (apos.endLine == cpos.line) = true := by rfl) (hs : ∀ j, starEach [e] (c.X j).env = (false, eval e (c.X j).env) :: starEach [] (c.X j).env := by intro _; rfl) (hplain : ∀ j, (backTo cpos (starEach [] (c.X j).env)).any (·.1) = false := by intro _; rfl)
    (hsw : ∀ j, swapsWith (.Call (.Attribute o "append" apos) [e] [] cpos) none pos.line (c.X j).env = pure false := by intro _; rfl) :
    Sm c (.Expr (.Call (.Attribute o "append" apos) [e] [] cpos) pos) (sAppM i fp fm) := by
  obtain ⟨to, po, so⟩ := ho
  obtain ⟨te, pe, se⟩ := he
  refine ⟨tDrop (tBM c.W.K "list" rAppend to (tCons te tNil)), fun j => by
    have h := ps_expr (pe_bm PySem.F.plainAttrs_list PySem.F.slot_list_append PySem.F.type_list_append mt_append (po j) (pa_cons (pe j) pa_nil (hs j)) (hbase j) (hfew j) hline (hs j) (hplain j)) (hsw j)
    rw [c.hK j] at h
    exact h, ?_⟩
  intro b F ρ σ X H out D hb S eq k
  unfold sAppM at eq
  obtain ⟨π, e1, eq⟩ := Option.bind_eq_some_iff.mp eq
  obtain ⟨u0, e2, eq⟩ := Option.bind_eq_some_iff.mp eq
  obtain ⟨t0, e2a, e2b⟩ := Option.bind_eq_some_iff.mp e2
  split at eq
  · rename_i hlst
    have hown : owned u0 = true := by cases u0 <;> first | rfl | cases hlst
    obtain ⟨⟨t, ρ1⟩, e3, eq⟩ := Option.bind_eq_some_iff.mp eq
    obtain ⟨ρ', e4, eq⟩ := Option.map_eq_some_iff.mp eq
    subst eq
    refine so b F ρ σ X H π t0 u0 _ S e1 e2a e2b hown fun p v F1 H1 S1 i1 s1 hv hat => ?_
    have hl1 : ∃ vs, H1 p = some (.lst vs) := by
      obtain ⟨fu, q1⟩ := S1.part e2a hv e2b hat
      cases u0 with
      | l ds => obtain ⟨p', vs, ep, _, hp, _⟩ := q1; cases ep; exact ⟨vs, hp⟩
      | ll ts => obtain ⟨p', vs, fps, ep, _, hp, _⟩ := q1; cases ep; exact ⟨vs, hp⟩
      | _ => cases hlst
    obtain ⟨vs0, hl1⟩ := hl1
    refine ⟨.inl ⟨rfl, vs0, SqL.of hl1⟩, ?_⟩
    refine se b F1 ρ σ X H1 t ρ1 _ S1 e3 fun y F2 H2 S2 i2 s2 => ?_
    obtain ⟨vs, hp, hz, S3⟩ := S2.appM e4 hv (hat.same s2)
    exact ⟨p, vs, y, rfl, rfl, hp, hz, k σ F2 _ S3 (i1.trans i2)⟩
  · cases eq
end Z

namespace Z
open PySem PySem.Spec PyProof.Rows L2
/-! ### xs.pop() -/
theorem drop_last {α : Type} {l : List α} {a : α} (h : l.getLast? = some a) : l.dropLast ++ [a] = l := by
  have hne : l ≠ [] := fun z => by rw [z] at h; cases h
  rw [List.getLast?_eq_getLast hne] at h
  cases h
  exact List.dropLast_concat_getLast hne
theorem RelTs.last {W : Wd} {F H : Hp} {t : T} : ∀ {ts : List T} {vs : List V} {fps : List (List Addr)}, RelTs W F H (ts ++ [t]) vs fps → ∃ vs' y fs f, vs = vs' ++ [y] ∧ fps = fs ++ [f] ∧ RelTs W F H ts vs' fs ∧ RelT W F H t y f
  | [], _, _, r => by
    obtain ⟨v, vr, f, fr, rfl, rfl, a, b⟩ := r
    obtain ⟨rfl, rfl⟩ := b
    exact ⟨[], v, [], f, rfl, rfl, ⟨rfl, rfl⟩, a⟩
  | s :: ts, _, _, r => by
    obtain ⟨v, vr, f, fr, rfl, rfl, a, b⟩ := r
    obtain ⟨vs', y, fs, f', rfl, rfl, q1, q2⟩ := RelTs.last b
    exact ⟨v :: vs', y, f :: fs, f', rfl, rfl, ⟨v, vs', f, fs, rfl, rfl, a, q1⟩, q2⟩
def popT : T → Option (T × T)
  | .ll ts => ts.getLast?.bind fun t => match t with
    | .un => none
    | t => some (t, .ll ts.dropLast)
  | .l ds => ds.getLast?.map fun d => (.f d, .l ds.dropLast)
  | _ => none
def fPop (i : Nat) (fp : List T → Option (List Sel)) : List T → Option Re := fun ρ => (fp ρ).bind fun π => ρ[i]?.bind fun t0 => (t0.getP π).bind fun u => (popT u).map fun q => .ok q.1 (ρ.set i (t0.putP π q.2))
theorem eo_pop {c : Ctx} {o : Expr} {i : Nat} {fp : List T → Option (List Sel)} {apos cpos : Pos} (ho : Lo c o i fp)
    (hbase : ∀ j, attributeBase o "pop" (c.X j).env (eval o (c.X j).env) = eval o (c.X j).env := by intro _; rfl) (hline : (apos.endLine == cpos.line) = true := by rfl) : Eo c (.Call (.Attribute o "pop" apos) [] [] cpos) (fPop i fp) := by
  obtain ⟨to, po, so⟩ := ho
  refine ⟨tBM0 c.W.K "list" rPop to, fun j => by
    have h := pe_bm0 (cpos := cpos) (apos := apos) PySem.F.plainAttrs_list PySem.F.slot_list_pop PySem.F.type_list_pop mt_pop (po j) (hbase j) hline
    rw [c.hK j] at h
    exact h, ?_⟩
  intro b F ρ σ X H r Q hb S eq k
  unfold fPop at eq
  obtain ⟨π, e1, eq⟩ := Option.bind_eq_some_iff.mp eq
  obtain ⟨t0, e2, eq⟩ := Option.bind_eq_some_iff.mp eq
  obtain ⟨u, e3, eq⟩ := Option.bind_eq_some_iff.mp eq
  obtain ⟨⟨t, u'⟩, e4, eq⟩ := Option.map_eq_some_iff.mp eq
  subst eq
  have hown : owned u = true := by cases u <;> first | rfl | cases e4
  refine so b F ρ σ X H π t0 u _ S e1 e2 e3 hown fun p v F1 H1 S1 i1 s1 hv hat => ?_
  obtain ⟨fu, yps, q1, q2, q3, q4, q5⟩ := SR.mutX (Y := []) (X := X) S1 e2 hv e3 hat
  obtain ⟨_, rfl⟩ := q2
  rw [List.flatten_nil, List.append_nil] at q3 q4 q5
  cases u with
  | ll ts =>
    obtain ⟨t', e5, e6⟩ := Option.bind_eq_some_iff.mp (show ts.getLast?.bind _ = some (t, u') from e4)
    have e7 : t' = t ∧ u' = .ll ts.dropLast := by
      cases t' with
      | un => cases e6
      | _ => cases e6; exact ⟨rfl, rfl⟩
    obtain ⟨rfl, rfl⟩ := e7
    have ets : ts = ts.dropLast ++ [t'] := (drop_last e5).symm
    obtain ⟨p', vs, fps, ep, rfl, hp, rs⟩ := q1
    cases ep
    rw [ets] at rs
    obtain ⟨vs', y, fs, f, rfl, rfl, r1, r2⟩ := RelTs.last rs
    refine ⟨.inl ⟨rfl, _, SqL.of hp⟩, p, _, y, rfl, rfl, hp, by simp, ?_⟩
    have n0 := List.nodup_cons.mp q3
    have hpn : ∀ a ∈ (fs ++ [f]).flatten, upd H1 p (.lst (vs' ++ [y]).dropLast) a = H1 a := fun a ha => upd_ne fun z => n0.1 (z ▸ ha)
    rw [List.dropLast_concat] at hpn ⊢
    refine k y F1 _ (q5 _ (.ll ts.dropLast) (p :: fs.flatten) [⟨none, t', y⟩] [f] List.mem_cons_self ⟨p, vs', fs, rfl, rfl, upd_same, RelTs.mono (Inc.refl F1) _ _ _ (fun a ha => hpn a (by rw [List.flatten_append]; exact List.mem_append_left _ ha)) r1⟩
      (relTs_one (RelT.mono (Inc.refl F1) _ _ _ (fun a ha => hpn a (by rw [List.flatten_append]; exact List.mem_append_right _ (by simpa using ha))) r2)) ?_ (fun a ha => ?_) ⟨_, hp, Stb.lst⟩) i1
    · simpa using q3
    · simpa using ha
  | l ds =>
    obtain ⟨d, e5, e6⟩ := Option.map_eq_some_iff.mp (show ds.getLast?.map _ = some (t, u') from e4)
    cases e6
    have ets : ds = ds.dropLast ++ [d] := (drop_last e5).symm
    obtain ⟨p', vs, ep, rfl, hp, rs⟩ := q1
    cases ep
    have hl : 0 < ds.length := by rw [ets]; simp
    have hlv := rs.len
    obtain ⟨y, hy, ry⟩ := rs.get (i := ds.length - 1) (d := d) (by rw [← List.getLast?_eq_getElem?]; exact e5)
    refine ⟨.inl ⟨rfl, _, SqL.of hp⟩, p, vs, y, rfl, rfl, hp, by rw [← hlv]; exact hy, ?_⟩
    have hdrop : Reps c.W F1 ds.dropLast vs.dropLast := by
      rw [List.dropLast_eq_take, List.dropLast_eq_take, hlv]
      exact rs.take _
    exact k y F1 _ (q5 _ (.l ds.dropLast) [p] [⟨none, .f d, y⟩] [[]] (List.mem_singleton.mpr rfl) ⟨p, _, rfl, rfl, upd_same, hdrop⟩ (relTs_one ⟨rfl, ry⟩) (by simp) (fun a ha => by simpa using ha) ⟨_, hp, Stb.lst⟩) i1
  | _ => cases e4
/-! ### (a, b, ..) = e -/
theorem SR.untup {W : Wd} {b : Bs} {F : Hp} {ρ : List T} {σ : L2.St} {X : List Tm} {H : Hp} {ts : List T} {v : V} (S : SR W b F ρ σ (⟨none, .tu ts, v⟩ :: X) H) : ∃ p vs, v = .ref p ∧ H p = some (.tup vs) ∧ ts.length = vs.length ∧ SR W b F ρ σ (Xn ts vs ++ X) H := by
  obtain ⟨le, f0, fn, kept, stab, pin, fps, xps, s1, s2, ⟨nd, ow⟩, lc1, lc2⟩ := S
  obtain ⟨v', vr, f, fr, e1, rfl, r1, r2⟩ := s2
  obtain ⟨p, vs, gps, ep, rfl, hp, rs⟩ := r1
  have e3 : v = v' := (List.cons.inj e1).1
  have e4 : X.map (·.v) = vr := (List.cons.inj e1).2
  subst e3 e4
  have hlen := rs.lenA.1
  obtain ⟨a1, a2⟩ := Xn_t hlen
  rw [List.flatten_cons] at nd ow
  have sub : List.Sublist (fps.flatten ++ (gps ++ fr).flatten) (fps.flatten ++ ((p :: gps.flatten) ++ fr.flatten)) := by
    rw [List.flatten_append]
    exact List.Sublist.append (List.Sublist.refl _) (List.Sublist.append (List.sublist_cons_self _ _) (List.Sublist.refl _))
  refine ⟨p, vs, ep, hp, hlen, le, f0, fn, kept, stab, pin, fps, gps ++ fr, s1, ?_, ⟨nd.sublist sub, fun a ha => ow a (sub.subset ha)⟩, lc1, ?_⟩
  · rw [List.map_append, List.map_append, a1, a2]
    exact RelTs.join rs r2
  · have hX : (Xn ts vs).length = gps.length := by
      have := congrArg List.length a1
      simp only [List.length_map] at this
      rw [this, rs.lenA.2]
    exact (LocX.append hX).mpr ⟨LocX.any fun a ha => lc2.1 a (List.mem_cons_of_mem _ ha), lc2.2⟩
def gTupM (n : Nat) (f : List T → List T → Option (List T)) : T → List T → Option (List T) := fun t ρ => match t with
  | .f (.tup ds) => if ds.length = n then f (ds.map .f) ρ else none
  | .tu ts => if ts.length = n then f ts ρ else none
  | _ => none
section
variable {c : Ctx} {e tg o : Expr} {es : List Expr} {pos pos' : Pos} {fs : List T → List T → Option (List T)} {fg : T → List T → Option (List T)} {fo : List T → Option Re}
theorem gt_tupM {n m : Nat} (h : Gts c es fs) (hn : ∀ j, (assignEach es (c.X j).env).length = n := by intro _; rfl) (hst : ∀ j, (assignEach es (c.X j).env).findIdx? (·.1) = none := by intro _; rfl) : Gt c (.Tuple es m pos) (gTupM n fs) := by
  obtain ⟨g, p, q⟩ := h
  refine ⟨L2.gTup c.W.K n g, fun j => ?_, ?_⟩
  · have := pg_tup (pos := pos) (k := m) (c.calm j) (p j) (hn j) (hst j)
    rw [c.hK j] at this
    exact this
  intro b F ρ ρ' σ X H t v Q hb S e k
  unfold gTupM at e
  cases t with
  | f d => cases d with
    | tup ds =>
      simp only at e
      split at e
      · rename_i hl
        obtain ⟨p, vs, ex, hs, r⟩ := S.top
        refine ⟨p, vs, ex, SqT.le S.le hs, by rw [← r.len]; exact hl, ?_⟩
        exact q b F ρ ρ' σ X H (ds.map .f) vs Q hb (by rw [List.length_map]; exact r.len) (S.drop.pushes r) e k
      · cases e
    | _ => cases e
  | tu ts =>
    simp only at e
    split at e
    · rename_i hl
      obtain ⟨p, vs, ex, hp, hlen, S2⟩ := S.untup
      exact ⟨p, vs, ex, SqT.of hp, by rw [← hlen]; exact hl, q b F ρ ρ' σ X H ts vs Q hb hlen S2 e k⟩
    · cases e
  | _ => cases e
def sAsg (fg : T → List T → Option (List T)) (fo : List T → Option Re) : FS := fun ρ => (fo ρ).bind fun r => match r with
  | .ok t ρ1 => (fg t ρ1).map .nx
  | .xc C ρ1 => some (.xc C ρ1)
theorem sm_asg (he : Eo c e fo) (hg : Gt c tg fg) (hs : ∀ j, swapsWithSole [tg] e pos.line (c.X j).env = pure false := by intro _; rfl) (hw : ∀ j, swappedStores [tg] e (c.X j).env = pure none := by intro _; rfl)
    (h1 : ∀ j, (assignEach [tg] (c.X j).env).map (·.2) = [assign tg (c.X j).env] := by intro _; rfl) : Sm c (.Assign [tg] e pos) (sAsg fg fo) := by
  obtain ⟨t, p, s⟩ := he
  obtain ⟨g, q, sg⟩ := hg
  refine ⟨tAsg t g, fun j => ps_asg (p j) (q j) (hs j) (hw j) (h1 j), ?_⟩
  intro b F ρ σ X H out D hb S eq k
  unfold sAsg at eq
  obtain ⟨r, e1, eq⟩ := Option.bind_eq_some_iff.mp eq
  refine s b F ρ σ X H r _ hb S e1 ?_
  cases r with
  | xc C ρ1 =>
    cases eq
    exact fun d F' H' S' i' => k d σ F' H' S' i'
  | ok t ρ1 =>
    obtain ⟨ρ2, e2, eq⟩ := Option.map_eq_some_iff.mp eq
    subst eq
    intro v F' H' S' i'
    exact sg b F' ρ1 ρ2 σ X H' t v _ hb S' e2 fun σ' F2 H2 S2 i2 => k σ' F2 H2 S2 (i'.trans i2)
end
/-! ### o.f = a thing of its own -/
theorem RelTs.putNewM {W : Wd} {F H : Hp} {f : Str} {t : T} {y : V} {fy : List Addr} (ry : RelT W F H t y fy) : ∀ {ns : List Str} {ts : List T} {kvs : List (Str × V)} {fps : List (List Addr)}, kvs.map (·.1) = ns → RelTs W F H ts (kvs.map (·.2)) fps → atN ns ts f = none →
    (L2.putF f y kvs).map (·.1) = ns ++ [f] ∧ RelTs W F H (ts ++ [t]) ((L2.putF f y kvs).map (·.2)) (fps ++ [fy])
  | _, [], [], fps, h, r, _ => by
    subst h
    rw [r.2]
    exact ⟨rfl, ⟨y, [], fy, [], rfl, rfl, ry, rfl, rfl⟩⟩
  | _, [], k :: kvs, _, _, r, _ => by cases r.1
  | _, t0 :: ts, [], _, _, r, _ => by obtain ⟨_, _, _, _, e, _⟩ := r; cases e
  | _, t0 :: ts, k :: kvs, fps, h, r, e => by
    subst h
    obtain ⟨v, vr, f0, fr, e1, rfl, a, b⟩ := r
    have e1a : k.2 = v := (List.cons.inj e1).1
    have e1b : kvs.map (·.2) = vr := (List.cons.inj e1).2
    subst e1a e1b
    have e' : (if k.1 = f then some t0 else atN (kvs.map (·.1)) ts f) = none := e
    by_cases hk : k.1 = f
    · rw [if_pos hk] at e'; cases e'
    · rw [if_neg hk] at e'
      obtain ⟨q1, q2⟩ := RelTs.putNewM (y := y) ry rfl b e'
      have hp : L2.putF f y (k :: kvs) = k :: L2.putF f y kvs := by
        show (if k.1 = f then _ else _) = _
        rw [if_neg hk]
      rw [hp]
      exact ⟨by rw [List.map_cons, q1]; rfl, ⟨k.2, _, f0, _, rfl, rfl, a, q2⟩⟩
def attM (C : Nat) (f : Str) (t : T) : T → Option T
  | .o C' ns ts => if C' = C ∧ ns.length < 1000 ∧ (atN ns ts f).isNone = true then some (.o C' (ns ++ [f]) (ts ++ [t])) else none
  | _ => none
def sAttM (C : Nat) (f : Str) (i : Nat) (fp : List T → Option (List Sel)) (fm : List T → Option (T × List T)) : FS := fun ρ => (fm ρ).bind fun q => (fp q.2).bind fun π => (mutF i π (attM C f q.1) q.2).map .nx
theorem sm_attM {c : Ctx} {e o : Expr} {fm : List T → Option (T × List T)} {pos pos' : Pos} {C : Nat} {f : Str} {i : Nat} {fp : List T → Option (List Sel)} (hC : Cls c.W.K (c.W.cl C)) (hN : NoAttr c.W.K (c.W.cl C) f) (ho : Lo c o i fp) (he : Em c e fm) (hs : ∀ j, swapsWith e (some (.Attribute o f pos')) pos.line (c.X j).env = pure false := by intro _; rfl) : Sm c (.Assign [.Attribute o f pos'] e pos) (sAttM C f i fp fm) := by
  obtain ⟨to, po, so⟩ := ho
  obtain ⟨te, pe, se⟩ := he
  refine ⟨_, fun j => by have h := ps_fld (po j) (pe j) (hs j); rw [c.hK j] at h; exact h, ?_⟩
  intro b F ρ σ X H out D hb S eq k
  unfold sAttM at eq
  obtain ⟨⟨t, ρ1⟩, e2, eq⟩ := Option.bind_eq_some_iff.mp eq
  obtain ⟨π, e1, eq⟩ := Option.bind_eq_some_iff.mp eq
  obtain ⟨ρ', e4, eq⟩ := Option.map_eq_some_iff.mp eq
  subst eq
  obtain ⟨t0, u, u', g1, g2, g3, g4⟩ := mutF_some e4
  have hown : owned u = true := by cases u <;> first | rfl | cases g3
  refine se b F ρ σ X H t ρ1 _ S e2 fun y F1 H1 S1 i1 s1 => ?_
  refine so b F1 ρ1 σ _ H1 π t0 u _ S1 e1 g1 g2 hown fun p v F2 H2 S2 i2 s2 hv hat => ?_
  obtain ⟨fu, yps, q1, q2, q3, q4, q5⟩ := SR.mutX (Y := [⟨none, t, y⟩]) (X := X) S2 g1 hv g2 hat
  obtain ⟨y', vr, fy, fr, ey, rfl, ry, q2'⟩ := q2
  cases ey
  obtain ⟨_, rfl⟩ := q2'
  rw [List.flatten_cons, List.flatten_nil, List.append_nil] at q3 q4 q5
  cases u with
  | o C' ns ts =>
    have g3' : (if C' = C ∧ ns.length < 1000 ∧ (atN ns ts f).isNone = true then some (T.o C' (ns ++ [f]) (ts ++ [t])) else none) = some u' := g3
    split at g3'
    · rename_i hc
      obtain ⟨hc, hl, hat0⟩ := hc
      subst hc
      cases g3'
      obtain ⟨p', dx, kvs, fps, ep, rfl, hp, hk, rs⟩ := q1
      cases ep
      have hlen : kvs.length < 1000 := by
        have := congrArg List.length hk
        rw [List.length_map] at this
        omega
      refine ⟨p, _, dx, kvs, rfl, hp, hC, hN, hlen, ?_⟩
      have n0 := List.nodup_append.mp q3
      have hpn := (List.nodup_cons.mp n0.1).1
      have st1 : ∀ o, ∀ a ∈ fps.flatten, upd H2 p o a = H2 a := fun o a ha => upd_ne fun z => hpn (z ▸ ha)
      have st2 : ∀ o, ∀ a ∈ fy, upd H2 p o a = H2 a := fun o a ha => upd_ne fun z => n0.2.2 p List.mem_cons_self a ha z.symm
      obtain ⟨m1, m2⟩ := RelTs.putNewM (y := y) (RelT.mono (H' := upd H2 p (.ins (c.W.cl C') dx (L2.putF f y kvs))) (Inc.refl F2) _ _ _ (st2 _) ry) hk (RelTs.mono (H' := upd H2 p (.ins (c.W.cl C') dx (L2.putF f y kvs))) (Inc.refl F2) _ _ _ (st1 _) rs) (Option.isNone_iff_eq_none.mp hat0)
      subst g4
      exact k σ F2 _ (q5 _ (.o C' (ns ++ [f]) (ts ++ [t])) (p :: (fps ++ [fy]).flatten) [] [] List.mem_cons_self ⟨p, dx, _, fps ++ [fy], rfl, rfl, upd_same, m1, m2⟩ ⟨rfl, rfl⟩ (by simpa using q3) (fun a ha => by simpa using ha) ⟨_, hp, stb_new hk rs (Option.isNone_iff_eq_none.mp hat0)⟩) (i1.trans i2)
    · cases g3'
  | _ => cases g3
end Z

namespace Z
open PySem PySem.Spec PyProof.Rows L2
/-! ### o.m(..), o a slot's thing -/
theorem sa_slot {W : Wd} {P : Sg} {E : L2.St → XK} {t : TA} {i : Nat} {fs : List T → Option Rs} (s' : Sa W P E t fs) : Sa W P E (tCons (tVar i) t) (bSlot i fs) := by
  intro b F ρ σ X H r Q hb S e k
  unfold bSlot at e
  cases z : ρ[i]? with
  | none => rw [z] at e; cases e
  | some t =>
    have ht : t ≠ .un := by
      rintro rfl
      rw [z] at e
      cases e
    have e2 : bSlot0 i fs ρ = some r := by
      rw [z] at e
      cases t with
      | un => exact absurd rfl ht
      | _ => exact e
    unfold bSlot0 at e2
    obtain ⟨r2, e3, e4⟩ := Option.map_eq_some_iff.mp e2
    obtain ⟨s, fp, e1, rr⟩ := S.slot z
    cases s with
    | none => exact absurd rr.1 ht
    | some v =>
      refine ⟨v, e1, s' b F ρ σ X H r2 _ hb S e3 ?_⟩
      cases r2 with
      | ok as ρ2 =>
        subst e4
        intro vs F2 H2 S2 g2 i2
        exact k (v :: vs) F2 H2 S2 ⟨v, vs, rfl, e1, g2⟩ i2
      | xc C ρ2 =>
        subst e4
        exact k
def fMeth (C : Nat) (m : Str) (j : Nat) (io : List Nat) (G : List T → Option Re) (fs : List T → Option Rs) : List T → Option Re := fun ρ => match ρ[j]? with
  | some (.o C' ns _) => if C' = C ∧ ns.contains m = false then fCall io G (bSlot j fs) ρ else none
  | _ => none
theorem lookup_notin {m : Str} : ∀ {kvs : List (Str × V)}, (kvs.map (·.1)).contains m = false → kvs.lookup m = none
  | [], _ => rfl
  | k :: kvs, h => by
    rw [List.map_cons, List.contains_cons, Bool.or_eq_false_iff] at h
    rw [List.lookup_cons, h.1]
    exact lookup_notin h.2
theorem so_meth {W : Wd} {P : Sg} {E : L2.St → XK} {E' : XK} {t : TA} {C j : Nat} {m : Str} {io : List Nat} {G : List T → Option Re} {fs : List T → Option Rs} (hE : ∀ σ, E σ = E') (h : Sa W P E t fs) : So W P E (tMeth (W.cl C) m (spF W io G) [] E' (tVar j) t) (fMeth C m j io G fs) := by
  intro b F ρ σ X H r Q hb S e k
  unfold fMeth at e
  split at e
  · rename_i C' ns ts hj
    split at e
    · rename_i hc
      obtain ⟨rfl, hm⟩ := hc
      obtain ⟨v, hv, q⟩ := so_call hE (sa_slot (i := j) h) b F ρ σ X H r Q hb S e k
      obtain ⟨s, fp, e1, rr⟩ := S.slot hj
      rw [hv] at e1
      cases e1
      obtain ⟨p, dx, kvs, fps, ep, _, hp, hk, _⟩ := rr
      subst ep
      exact ⟨_, hv, p, dx, kvs, rfl, hp, lookup_notin (by rw [hk]; exact hm), q⟩
    · cases e
  · cases e
def plOf (x : Str) (p : Pos) (env : Env) : Sem Bool := do return (← importBound (.Name x p) env).getD true
structure ClT (P : Program) (w : World) (W : Wd) (mg : Str → Option Value) (base : Heap) (CX : CXT) (k : Nat) (C : Nat) (m : Str) (io : List Nat) (G : List T → Option Re) : Prop where
  ex : ∃ f fd ps, FnOk P w W.K mg base CX k f fd ps (spF W io G) ∧ Cls W.K (W.cl C) ∧ Meth W.K (W.cl C) m f ∧ Binds W.K fd ps []
section
variable {c : Ctx} {a e o : Expr} {es : List Expr} {fs : List T → Option Rs} {m x : Str} {apos p pos : Pos} {io : List Nat} {G : List T → Option Re} {k C : Nat} {CX : CXT}
theorem eo_meth {E : XK} (j : Nat) (M : ∀ j, ClT (c.X j).prog (c.X j).w c.W (c.X j).mg (c.X j).base CX k C m io G) (hk : k ≤ c.k) (hE : ∀ σ, c.E σ = E) (hx : ∀ j, Passes CX (c.X j) E) (ha : Ao c (a :: es) fs)
    (hi : c.N[j]? = some x := by rfl) (hv : ∀ j, Vis (c.X j).env.scope x := by intro _; first | exact Or.inl rfl | exact Or.inr (Or.inl rfl) | exact Or.inr (Or.inr rfl))
    (ht : ∀ i, eval (.Call (.Attribute (.Name x p) m apos) (a :: es) [] pos) (c.X i).env = (do
      let ov ← eval (.Name x p) (c.X i).env
      standAt apos.atName
      let (f, first) ← holding [ov] (getMethod ov m (plOf x p (c.X i).env))
      callWith pos f first (backTo pos (starEach (a :: es) (c.X i).env)) (backToKw pos (keywordEach [] (c.X i).env))) := by intro _; rfl)
    (he : ∀ j, starEach (a :: es) (c.X j).env = (false, eval a (c.X j).env) :: starEach es (c.X j).env := by intro _; rfl) (hpl : ∀ j, (backTo pos (starEach es (c.X j).env)).any (·.1) = false := by intro _; rfl)
    (hd : (x == ("__debug__" : Str)) = false := by decide) (hcd : (x == ("__classdict__" : Str)) = false := by decide) : Eo c (.Call (.Attribute (.Name x p) m apos) (a :: es) [] pos) (fMeth C m j io G fs) := by
  obtain ⟨t, q, s⟩ := ha
  refine ⟨tMeth (c.W.cl C) m (spF c.W io G) [] E (tVar j) t, fun i => ?_, so_meth hE s⟩
  obtain ⟨f, fd, ps, F, hC, hM, hb⟩ := M i
  have hKj := c.hK i
  exact pe_meth (pe_var (i := j) (by rw [c.hN i]; exact hi) (hv i) hd hcd) (by rw [hKj]; exact hC) (by rw [hKj]; exact hM) (by rw [hKj]; exact F) ((c.room i).mono hk) (by rw [hKj]; exact hb) .nil (hx i) (q i) (he i) (hpl i) (ht i)
theorem eo_meth0 {E : XK} (j : Nat) (M : ∀ j, ClT (c.X j).prog (c.X j).w c.W (c.X j).mg (c.X j).base CX k C m io G) (hk : k ≤ c.k) (hE : ∀ σ, c.E σ = E) (hx : ∀ j, Passes CX (c.X j) E)
    (hi : c.N[j]? = some x := by rfl) (hv : ∀ j, Vis (c.X j).env.scope x := by intro _; first | exact Or.inl rfl | exact Or.inr (Or.inl rfl) | exact Or.inr (Or.inr rfl))
    (ht : ∀ i, eval (.Call (.Attribute (.Name x p) m apos) [] [] pos) (c.X i).env = (do
      let ov ← eval (.Name x p) (c.X i).env
      standAt apos.atName
      let (f, first) ← holding [ov] (getMethod ov m (plOf x p (c.X i).env))
      callWith pos f first (backTo pos (starEach [] (c.X i).env)) (backToKw pos (keywordEach [] (c.X i).env))) := by intro _; rfl)
    (hd : (x == ("__debug__" : Str)) = false := by decide) (hcd : (x == ("__classdict__" : Str)) = false := by decide) : Eo c (.Call (.Attribute (.Name x p) m apos) [] [] pos) (fMeth C m j io G bNil) := by
  obtain ⟨t, q, s⟩ := (ao_nil : Ao c [] bNil)
  refine ⟨tMeth (c.W.cl C) m (spF c.W io G) [] E (tVar j) tNil, fun i => ?_, so_meth hE ?_⟩
  · obtain ⟨f, fd, ps, F, hC, hM, hb⟩ := M i
    have hKj := c.hK i
    exact pe_meth0 (pe_var (i := j) (by rw [c.hN i]; exact hi) (hv i) hd hcd) (by rw [hKj]; exact hC) (by rw [hKj]; exact hM) (by rw [hKj]; exact F) ((c.room i).mono hk) (by rw [hKj]; exact hb) .nil (hx i) (ht i)
  · intro b F ρ σ X H r Q hb S e k
    cases e
    exact k [] F H S rfl (Inc.refl F)
end
/-! ### o.f op= e -/
def sAttAug (C : Nat) (f : Str) (i : Nat) (fp : List T → Option (List Sel)) (g : T → T → Option T) (fe : List T → Option T) : FS := fun ρ => (fp ρ).bind fun π => (ρ[i]?.bind fun t => t.getP π).bind fun u => (gAtt C f u).bind fun a => (fe ρ).bind fun x => (g a x).bind fun z => z.d?.bind fun d => (mutF i π (attT C f d) ρ).map .nx
theorem sm_attAug {c : Ctx} {e o : Expr} {fe : List T → Option T} {pos tpos : Pos} {C : Nat} {f : Str} {i : Nat} {fp : List T → Option (List Sel)} {op : Operator} {rd : V → V → Hp → VK → Prop} {g : T → T → Option T}
    (hop : ∀ j, InOp (c.X j) op rd) (hr : S2 c.W rd g) (hC : Cls c.W.K (c.W.cl C)) (hN : NoAttr c.W.K (c.W.cl C) f) (ho : Lo c o i fp) (he : Ev c e fe) : Sm c (.AugAssign (.Attribute o f tpos) op e pos) (sAttAug C f i fp g fe) := by
  obtain ⟨to, po, so⟩ := ho
  obtain ⟨te, pe, se⟩ := he
  refine ⟨_, fun j => by have h := ps_fldaug (pos := pos) (tpos := tpos) (f := f) (po j) (pe j) (hop j); rw [c.hK j] at h; exact h, ?_⟩
  intro b F ρ σ X H out D hb S eq k
  unfold sAttAug at eq
  obtain ⟨π, e1, eq⟩ := Option.bind_eq_some_iff.mp eq
  obtain ⟨u, e2, eq⟩ := Option.bind_eq_some_iff.mp eq
  obtain ⟨a, e3, eq⟩ := Option.bind_eq_some_iff.mp eq
  obtain ⟨x, e4, eq⟩ := Option.bind_eq_some_iff.mp eq
  obtain ⟨z, e5, eq⟩ := Option.bind_eq_some_iff.mp eq
  obtain ⟨d, e6, eq⟩ := Option.bind_eq_some_iff.mp eq
  obtain ⟨ρ', e7, eq⟩ := Option.map_eq_some_iff.mp eq
  subst eq
  cases d_some e6
  obtain ⟨t0, e2a, e2b⟩ := Option.bind_eq_some_iff.mp e2
  obtain ⟨t9, u9, u9', g1, g2, g3, _⟩ := mutF_some e7
  rw [e2a] at g1
  cases g1
  rw [e2b] at g2
  cases g2
  cases u with
  | o C' ns ts =>
    have e3' : (if C' = C then (atN ns ts f).bind fun t => (match t with | .un => none | t => some t) else none) = some a := e3
    split at e3'
    · rename_i hc
      subst hc
      obtain ⟨t', e8, e9⟩ := Option.bind_eq_some_iff.mp e3'
      have et : t' = a := by cases t' <;> first | (cases e9; rfl) | cases e9
      subst et
      refine so b F ρ σ X H π t0 _ _ S e1 e2a e2b rfl fun p v F1 H1 S1 i1 s1 hv hat => ?_
      obtain ⟨fu, p', dx, kvs, fps, ep, _, hp, hk, rs⟩ := S1.part e2a hv e2b hat
      cases ep
      obtain ⟨w, fp', q1, q2⟩ := atN_ok hk rs e8
      refine ⟨p, _, dx, kvs, w, rfl, hp, hC, hN, q1, ?_⟩
      refine se b F1 ρ σ X H1 _ _ S1 e4 fun y F2 H2 S2 i2 s2 r2 => ?_
      refine hr b F2 ρ σ X H2 _ _ _ w y _ S2 ((show RelV c.W F1 H1 t' w from ⟨fp', q2⟩).ext i2 s2) r2 e5 fun z F3 H3 S3 i3 s3 r3 => ?_
      obtain ⟨dx', fs', hp3, hl3, S4⟩ := S3.att e7 hv ((hat.same s2).same s3) r3.rep
      exact ⟨dx', fs', hp3, hl3, k σ F3 _ S4 ((i1.trans i2).trans i3)⟩
    · cases e3'
  | _ => cases g3
/-! ### d.get(k, e), d.copy(), d.clear(), xs.clear() -/
def gGet (t k x : T) : Option T := t.dk?.bind fun p => k.key?.bind fun q => x.d?.map fun d => .f ((dAt p.1 p.2 q).getD d)
def fGet (fa fk fd : List T → Option T) : List T → Option T := fun ρ => (fa ρ).bind fun a => (fk ρ).bind fun k => (fd ρ).bind fun d => gGet a k d
theorem dAt_none {F : Hp} {W : Wd} : ∀ {kvs : List (Key × V)} {ds : List D} {k : Key}, Reps W F ds (kvs.map (·.2)) → dAt (kvs.map (·.1)) ds k = none → valV kvs k = none
  | [], _, _, _, _ => rfl
  | p :: r, [], _, q, _ => by
    have q' : _ = [] := q
    cases q'
  | p :: r, d :: ds, k, q, h => by
    obtain ⟨v, vr, e, a, b⟩ := q
    have e2 : r.map (·.2) = vr := (List.cons.inj e).2
    subst e2
    have h' : (if p.1 = k then some d else dAt (r.map (·.1)) ds k) = none := h
    by_cases hk : p.1 = k
    · rw [if_pos hk] at h'; cases h'
    · rw [if_neg hk] at h'
      have := dAt_none b h'
      unfold valV at this ⊢
      rw [List.find?_cons, decide_eq_false hk]
      exact this
section
variable {c : Ctx} {a e e2 o : Expr} {fa fk fd : List T → Option T} {apos cpos pos : Pos} {i : Nat} {fp : List T → Option (List Sel)}
theorem ev_get (ha : Ev c a fa) (hk : Ev c e fk) (hd : Ev c e2 fd) (m : ∀ j, M2 (c.X j) a "get" apos e e2 cpos := by intro _; exact ⟨rfl, rfl, rfl, rfl⟩) : Ev c (.Call (.Attribute a "get" apos) [e, e2] [] cpos) (fGet fa fk fd) := by
  obtain ⟨ta, pa, sa⟩ := ha
  obtain ⟨tk, pk, sk⟩ := hk
  obtain ⟨td, pd, sd⟩ := hd
  refine ⟨_, fun j => pe_dget2 (c.hu1 j) (pa j) (pk j) (pd j) (m j), ?_⟩
  intro b F ρ σ X H τ Q S e k
  unfold fGet at e
  obtain ⟨t1, e1, e⟩ := Option.bind_eq_some_iff.mp e
  obtain ⟨t2, e2, e⟩ := Option.bind_eq_some_iff.mp e
  obtain ⟨t3, e3, e⟩ := Option.bind_eq_some_iff.mp e
  unfold gGet at e
  obtain ⟨⟨ks, ds⟩, e4, e⟩ := Option.bind_eq_some_iff.mp e
  obtain ⟨q, e5, e⟩ := Option.bind_eq_some_iff.mp e
  obtain ⟨d, e6, e⟩ := Option.map_eq_some_iff.mp e
  subst e
  cases d_some e6
  refine sa b F ρ σ X H _ _ S e1 fun x F1 H1 S1 i1 s1 r1 => ?_
  obtain ⟨p, kvs, ex, hs, hk, r⟩ := r1.dk e4 S1.le
  refine ⟨p, ex, .inl ⟨kvs, hs⟩, ?_⟩
  refine sk b F1 ρ σ X H1 _ _ S1 e2 fun y F2 H2 S2 i2 s2 r2 => ?_
  refine sd b F2 ρ σ X H2 _ _ S2 e3 fun z F3 H3 S3 i3 s3 r3 => ?_
  have r1' := (r1.ext i2 s2).ext i3 s3
  obtain ⟨p', kvs', ex', hs', hk', r'⟩ := r1'.dk e4 S3.le
  rw [ex] at ex'
  cases ex'
  subst hk'
  have kk := (k.mono ((i1.trans i2).trans i3) ((s1.trans s2).trans s3))
  rw [r2.key e5]
  cases hd : dAt (kvs'.map (·.1)) ds q with
  | none =>
    exact ⟨none, .inl ⟨kvs', q, hs', rfl, (dAt_none r' hd).symm⟩, by rw [hd] at kk; exact kk.d S3 r3.rep⟩
  | some d' =>
    obtain ⟨v, h1, h2⟩ := dAt_val r' hd
    exact ⟨some v, .inl ⟨kvs', q, hs', rfl, h1.symm⟩, by rw [hd] at kk; exact kk.d S3 h2⟩
def rDCopy : V → List V → Hp → VK → Prop := fun x vs H Q => ∃ (a : Addr) (kvs : List (Key × V)), x = .ref a ∧ vs = [] ∧ Rd H a (.dK kvs) ∧ ∀ p, H p = none → Q (.ref p) (upd H p (.dK kvs))
theorem mtd_copy {X : Cx} : MtR X "dict.copy" rDCopy := by
  intro pins s σ H x vs v us Q I rx rv h
  obtain ⟨a, kvs, ex, ev, e, q⟩ := h
  subst ex ev
  obtain rfl : v = Value.ref a := rx
  have hus := rv.zero
  subst hus
  obtain ⟨z, hd, vs, rel, dd⟩ := dk_rd I.hok e
  refine call_meetsIn PySem.F.slot_dict_copy dd.typeIs PySem.F.entry_dict_copy (PySem.F.args_dict_copy_1 _) (meets_dict_copy (mixKind X.prog X.w) a hd) ⟨vs, dd, by rw [← rel.length]; exact z, fun h' dn _ hs => ?_⟩
  have hf : H s.heap.objs.size = none := I.hok.fresh (Nat.le_refl _)
  exact ⟨.ref s.heap.objs.size, _, I.laid (a := s.heap.objs.size) (o := .dK kvs) (t' := s.toks) hs (Nat.le_refl _) (dk_new z (beq_eq_false_iff_ne.mpr (Ne.symm (Nat.ne_of_lt I.big))) rel dn), rfl, q _ hf⟩
def gCopy (t : T) : Option T := t.dk?.map fun p => .f (.dct p.1 p.2)
def tDM0 (r : V → List V → Hp → VK → Prop) (to : TE) : TE := fun σ H Q => to σ H fun x H1 => (∃ a kvs, x = .ref a ∧ Rd H1 a (.dK kvs)) ∧ r x [] H1 Q
theorem pe_dm0 {X : Cx} {o : Expr} {to : TE} {name : Str} {apos cpos : Pos} {id : String} {r : V → List V → Hp → VK → Prop} (slot : PySem.Slot "dict" name id) (hty : typeOf (.builtin id) = pure (.type "method_descriptor")) (hm : MtR X id r) (ho : PE X o to)
    (hbase : attributeBase o name X.env (eval o X.env) = eval o X.env) (hline : (apos.endLine == cpos.line) = true) : PE X (.Call (.Attribute o name apos) [] [] cpos) (tDM0 r to) := by
  refine ⟨fun pins s σ H Q I h => ?_⟩
  refine wpAny_Call_method0_late hbase hline (thn (ho.run pins s σ H _ I h) fun v s1 ⟨x, H1, I1, r1, ty, q1⟩ => ?_)
  obtain ⟨a, kvs, ex, ha⟩ := ty
  subst ex
  obtain rfl : v = Value.ref a := r1
  obtain ⟨hz, hsys, vs, rel, dof⟩ := dk_rd I1.hok ha
  obtain ⟨ep, ob, es, ho, ex, _⟩ := dof.dictAt
  exact ⟨"dict", id, PySem.F.plainAttrs_dict, slot, hty, ⟨ob, ho, ex.1⟩, fun b e => by cases e; exact ⟨ob, ho, ex.2.1⟩, Calls.callWith_builtin rfl (PySem.evalArgs_none (hm pins s1 σ H1 (.ref a) [] (.ref a) [] Q I1 (show L2.RelV (.ref a) (.ref a) from rfl) .nil q1))⟩
theorem ev_copy (ha : Ev c a fa) (hbase : ∀ j, attributeBase a "copy" (c.X j).env (eval a (c.X j).env) = eval a (c.X j).env := by intro _; rfl) (hline : (apos.endLine == cpos.line) = true := by rfl) : Ev c (.Call (.Attribute a "copy" apos) [] [] cpos) (f1 gCopy fa) := by
  obtain ⟨ta, pa, sa⟩ := ha
  refine ⟨tDM0 rDCopy ta, fun j => pe_dm0 PySem.F.slot_dict_copy PySem.F.type_dict_copy mtd_copy (pa j) (hbase j) hline, ?_⟩
  intro b F ρ σ X H τ Q S e k
  unfold f1 at e
  obtain ⟨t, e1, e⟩ := Option.bind_eq_some_iff.mp e
  obtain ⟨⟨ks, ds⟩, e2, e⟩ := Option.map_eq_some_iff.mp e
  subst e
  refine sa b F ρ σ X H _ _ S e1 fun x F1 H1 S1 i1 s1 r1 => ?_
  obtain ⟨p, kvs, ex, hp, hk, r⟩ := r1.dk e2 S1.le
  subst ex
  refine ⟨⟨p, kvs, rfl, hp⟩, p, kvs, rfl, rfl, hp, fun q hq => ?_⟩
  obtain ⟨S2, i2, s2⟩ := S1.laid (o := .dK kvs) hq
  exact (k.mono (i1.trans i2) (s1.trans s2)).d S2 ⟨q, kvs, rfl, .inl upd_same, hk, r.inc i2⟩
def clrT : T → Option T
  | .dk _ _ => some (.dk [] [])
  | _ => none
def clrL : T → Option T
  | .l _ => some (.l [])
  | .ll _ => some (.l [])
  | _ => none
def sClr (i : Nat) (fp : List T → Option (List Sel)) (g : T → Option T) : FS := fun ρ => (fp ρ).bind fun π => (mutF i π g ρ).map .nx
theorem sm_dclear (ho : Lo c o i fp) (hbase : ∀ j, attributeBase o "clear" (c.X j).env (eval o (c.X j).env) = eval o (c.X j).env := by intro _; rfl) (hline : (apos.endLine == cpos.line) = true := by rfl)
    (hsw : ∀ j, swapsWith (.Call (.Attribute o "clear" apos) [] [] cpos) none pos.line (c.X j).env = pure false := by intro _; rfl) : Sm c (.Expr (.Call (.Attribute o "clear" apos) [] [] cpos) pos) (sClr i fp clrT) := by
  obtain ⟨to, po, so⟩ := ho
  refine ⟨tDrop (tBM0 c.W.K "dict" rDClear to), fun j => by
    have h := ps_expr (pe_dclear (cpos := cpos) (apos := apos) (po j) (hbase j) hline) (hsw j)
    rw [c.hK j] at h
    exact h, ?_⟩
  intro b F ρ σ X H out D hb S eq k
  unfold sClr at eq
  obtain ⟨π, e1, eq⟩ := Option.bind_eq_some_iff.mp eq
  obtain ⟨ρ', e2, eq⟩ := Option.map_eq_some_iff.mp eq
  subst eq
  obtain ⟨t, u, u', g1, g2, g3, rfl⟩ := mutF_some e2
  cases u with
  | dk ks ds =>
    cases g3
    refine so b F ρ σ X H π t _ _ S e1 g1 g2 rfl fun p v F1 H1 S1 i1 s1 hv hat => ?_
    obtain ⟨fu, q1, q2, q3⟩ := S1.mut (u' := .dk [] []) g1 hv g2 hat
    obtain ⟨p', kvs, ep, rfl, hp, hk, rs⟩ := q1
    cases ep
    exact ⟨.inr (.inr (.inl ⟨rfl, .inl ⟨kvs, hp⟩⟩)), p, kvs, rfl, rfl, hp, k σ F1 _ (q3 _ _ hp (fun _ => Stb.dk) (List.mem_singleton.mpr rfl) ⟨p, [], rfl, rfl, upd_same, rfl, rfl⟩) i1⟩
  | _ => cases g3
end
/-! ### a comprehension's list of one's own -/
def mLc (vs : List Nat) (fi : List T → Option (List D)) (fg : T → List T → Option (List T)) (ft : List T → Option Bool) (fe : List T → Option T) : List T → Option (T × List T) := fun ρ => (fLc vs fi fg ft fe ρ).bind fun t => match t with
  | .f (.lst es) => some (.l es, ρ)
  | _ => none
section
variable {c : Ctx} {elt tg iter : Expr} {ifs : List Expr} {scope : Scope} {pos spos : Pos} {fi : List T → Option (List D)} {fg : T → List T → Option (List T)} {ft : List T → Option Bool} {fe : List T → Option T}
theorem em_lc (own : List (Str × Nat)) (hi : Ip c tg iter fi) (hg : Gc (cB c scope) tg fg (own.map (·.2))) (ht : Tvs (cB c scope) ifs ft) (he : Ev (cB c scope) elt fe) (ok : ∀ j, blkC c.N (c.X j).env.scope scope own = true := by intro _; rfl)
    (hs : ∀ j x, foldedSetIterable iter (c.X j).env x = pure x := by intro _ _; rfl) : Em c (.ListComp elt [⟨tg, iter, ifs, 0⟩] scope pos) (mLc (own.map (·.2)) fi fg ft fe) := by
  obtain ⟨wi, pi, si⟩ := hi
  obtain ⟨g, pg, sg, wg⟩ := hg
  obtain ⟨tt, pt, st⟩ := ht
  obtain ⟨te, pe, se⟩ := he
  refine ⟨tLc wi g tt te (own.map (·.2)), fun j => pe_lc (c.calm j) (c.hNd j) (pi j) (blkOk_by (by rw [c.hN j]; exact ok j)) (fun s H C cl fp => pg (j, s, H, C, cl, fp)) (fun s H C cl fp => pt (j, s, H, C, cl, fp)) (fun s H C cl fp => pe (j, s, H, C, cl, fp)) (hs j), ?_⟩
  intro b F ρ σ X H τ ρ' Q S e k
  unfold mLc at e
  obtain ⟨t, e1, e⟩ := Option.bind_eq_some_iff.mp e
  unfold fLc at e1
  split at e1
  · rename_i hok
    obtain ⟨ds, e2, e1⟩ := Option.bind_eq_some_iff.mp e1
    obtain ⟨es, e3, e1⟩ := Option.bind_eq_some_iff.mp e1
    split at e1
    · rename_i hz
      cases e1
      cases e
      exact slc_core si sg wg st se S hok e2 e3 hz fun D0 F2 H' S3 i2 s2 => k _ F2 H' S3 i2 s2
    · cases e1
  · cases e1
end
end Z

namespace Z
open PySem PySem.Spec PyProof.Rows L2
theorem relTs_f_nil {W : Wd} {F H : Hp} : ∀ {ds : List D} {vs : List V} {fps : List (List Addr)}, RelTs W F H (ds.map .f) vs fps → fps.flatten = []
  | [], _, _, r => by
    obtain ⟨_, rfl⟩ := r
    rfl
  | d :: ds, _, _, r => by
    obtain ⟨v, vr, f, fr, rfl, rfl, a, b⟩ := r
    rw [List.flatten_cons, relTs_f_nil b, show f = [] from a.1]
    rfl
theorem ioOk_f : ∀ (io : List Nat) (i : Nat) (ds : List D), ioOk io i (ds.map .f) = true
  | _, _, [] => rfl
  | io, i, d :: ds => by
    show ((io.contains i || isF (.f d)) && ioOk io (i + 1) (ds.map .f)) = true
    rw [ioOk_f io (i + 1) ds]
    simp [isF]
/-- a call with deep arguments that hands back a thing of the caller's own -/
def mCall (G : List T → Option Re) (fs : List T → Option (List T)) : List T → Option (T × List T) := fun ρ => (fs ρ).bind fun ts => (deep ts).bind fun ds => (G (ds.map .f)).bind fun r => match r with
  | .ok τ _ => some (τ, ρ)
  | _ => none
theorem smo_call {W : Wd} {E : XK} {t : TA} {G : List T → Option Re} {fs : List T → Option (List T)} (h : Sav W t fs) : Smo W (tCall (spF W [] G) [] E t) (mCall G fs) := by
  intro b F ρ σ X H τ ρ' Q S e k
  unfold mCall at e
  obtain ⟨ts, e1, e⟩ := Option.bind_eq_some_iff.mp e
  obtain ⟨ds, e2, e⟩ := Option.bind_eq_some_iff.mp e
  obtain ⟨r, e3, e⟩ := Option.bind_eq_some_iff.mp e
  cases r with
  | xc C us => cases e
  | ok τ' us =>
    cases e
    refine h b F _ σ X H ts _ S e1 fun vs F1 H1 S1 i1 s1 r1 => ?_
    have rs := RelVs.deep r1 e2
    obtain ⟨a1, a2⟩ := Xn_t (ts := ds.map T.f) (vs := vs) (by rw [List.length_map]; exact rs.len)
    obtain ⟨xa, q1, own, back⟩ := SR.call (Xa := Xn (ds.map .f) vs) (X := X) (S1.pushes rs)
    rw [a1, a2] at q1
    rw [a2] at back
    have hnil := relTs_f_nil q1
    rw [List.append_nil]
    refine ⟨_, _, xa, _, S1.le, q1, own, ioOk_f _ _ _, e3, ?_⟩
    intro v F' H' R i2
    have hs : Same H1 H' := fun a o e => R.kept a o e (by
      show a ∉ xa.flatten
      rw [hnil]
      intro z
      cases z)
    have S5 := back [] us F' [⟨none, τ, v⟩] H' (fun x hx => by rw [List.mem_singleton.mp hx]) R
    exact k v F' H' (SR.dropN _ S5) (i1.trans i2) (s1.trans hs)
section
variable {c : Ctx} {a e : Expr} {es : List Expr} {fs : List T → Option (List T)} {x m : Str} {p pos apos : Pos} {G : List T → Option Re} {k C : Nat} {CX : CXT}
theorem em_call {E : XK} (C : Cj c CX k x [] G) (hk : k ≤ c.k) (hg : ∀ j, Gl (c.X j) x) (hx : ∀ j, Passes CX (c.X j) E) (ha : Av c (a :: es) fs) (hdb : (x == ("__debug__" : Str)) = false := by decide)
    (he : ∀ j, starEach (a :: es) (c.X j).env = (false, eval a (c.X j).env) :: starEach es (c.X j).env := by intro _; rfl) (hpl : ∀ j, (backTo pos (starEach es (c.X j).env)).any (·.1) = false := by intro _; rfl) : Em c (.Call (.Name x p) (a :: es) [] pos) (mCall G fs) := by
  obtain ⟨t, q, s⟩ := ha
  exact ⟨_, pe_cl C hk hg hx q hdb he hpl, smo_call s⟩
/-! ### a method that changes nothing -/
def fMethV (C : Nat) (m : Str) (j : Nat) (G : List T → Option Re) (fs : List T → Option (List T)) : List T → Option T := fun ρ => match ρ[j]? with
  | some (.o C' ns _) => if C' = C ∧ ns.contains m = false then fCallV G (aCons (fVar j) fs) ρ else none
  | some (.f (.obj C' ns _)) => if C' = C ∧ ns.contains m = false then fCallV G (aCons (fVar j) fs) ρ else none
  | _ => none
theorem sav_cons {W : Wd} {te : TE} {t : TA} {fa : List T → Option T} {fs : List T → Option (List T)} (ha : Sv W te fa) (hs : Sav W t fs) : Sav W (tCons te t) (aCons fa fs) := by
  intro b F ρ σ X H τs Q S e k
  unfold aCons at e
  obtain ⟨x, e1, e⟩ := Option.bind_eq_some_iff.mp e
  obtain ⟨xs, e2, e⟩ := Option.map_eq_some_iff.mp e
  subst e
  refine ha b F ρ σ X H x _ S e1 fun v F1 H1 S1 i1 s1 r1 => ?_
  refine hs b F1 ρ σ X H1 xs _ S1 e2 fun vs F2 H2 S2 i2 s2 r2 => ?_
  refine k (v :: vs) F2 H2 S2 (i1.trans i2) (s1.trans s2) ?_
  obtain ⟨f, q⟩ := r1.ext i2 s2
  obtain ⟨fp, q2⟩ := r2
  exact ⟨f :: fp, v, vs, f, fp, rfl, rfl, q, q2⟩
theorem sv_meth {W : Wd} {E : XK} {t : TA} {j : Nat} (h : Sav W t fs) : Sv W (tMeth (W.cl C) m (spF W [] G) [] E (tVar j) t) (fMethV C m j G fs) := by
  intro b F ρ σ X H τ Q S e k
  unfold fMethV at e
  have key : fCallV G (aCons (fVar j) fs) ρ = some τ → ∃ v, σ[j]? = some (some v) ∧ t σ H fun vs H2 => spF W [] G (v :: (vs ++ [])) H2 Q E := fun e' => by
    obtain ⟨v, hv, q⟩ := sv_call (E := E) (sav_cons (sv_var (i := j)) h) b F ρ σ X H τ Q S e' k
    exact ⟨v, hv, q⟩
  split at e
  · rename_i C' ns ts hj
    split at e
    · rename_i hc
      obtain ⟨rfl, hm⟩ := hc
      obtain ⟨v, hv, q⟩ := key e
      obtain ⟨s, fp, e1, rr⟩ := S.slot hj
      rw [hv] at e1
      cases e1
      obtain ⟨p, dx, kvs, fps, ep, _, hp, hk, _⟩ := rr
      subst ep
      exact ⟨_, hv, p, dx, kvs, rfl, hp, lookup_notin (by rw [hk]; exact hm), q⟩
    · cases e
  · rename_i C' ns ts hj
    split at e
    · rename_i hc
      obtain ⟨rfl, hm⟩ := hc
      obtain ⟨v, hv, q⟩ := key e
      obtain ⟨s, fp, e1, rr⟩ := S.slot hj
      rw [hv] at e1
      cases e1
      obtain ⟨_, p, dx, kvs, ep, hp, hk, _⟩ := rr
      subst ep
      exact ⟨_, hv, p, dx, kvs, rfl, ins_le S.le hp, lookup_notin (by rw [hk]; exact hm), q⟩
    · cases e
  · cases e
theorem ev_meth {E : XK} (j : Nat) (M : ∀ j, ClT (c.X j).prog (c.X j).w c.W (c.X j).mg (c.X j).base CX k C m [] G) (hk : k ≤ c.k) (hx : ∀ j, Passes CX (c.X j) E) (ha : Av c (a :: es) fs)
    (hi : c.N[j]? = some x := by rfl) (hv : ∀ j, Vis (c.X j).env.scope x := by intro _; first | exact Or.inl rfl | exact Or.inr (Or.inl rfl) | exact Or.inr (Or.inr rfl))
    (ht : ∀ i, eval (.Call (.Attribute (.Name x p) m apos) (a :: es) [] pos) (c.X i).env = (do
      let ov ← eval (.Name x p) (c.X i).env
      standAt apos.atName
      let (f, first) ← holding [ov] (getMethod ov m (plOf x p (c.X i).env))
      callWith pos f first (backTo pos (starEach (a :: es) (c.X i).env)) (backToKw pos (keywordEach [] (c.X i).env))) := by intro _; rfl)
    (he : ∀ j, starEach (a :: es) (c.X j).env = (false, eval a (c.X j).env) :: starEach es (c.X j).env := by intro _; rfl) (hpl : ∀ j, (backTo pos (starEach es (c.X j).env)).any (·.1) = false := by intro _; rfl)
    (hd : (x == ("__debug__" : Str)) = false := by decide) (hcd : (x == ("__classdict__" : Str)) = false := by decide) : Ev c (.Call (.Attribute (.Name x p) m apos) (a :: es) [] pos) (fMethV C m j G fs) := by
  obtain ⟨t, q, s⟩ := ha
  refine ⟨tMeth (c.W.cl C) m (spF c.W [] G) [] E (tVar j) t, fun i => ?_, sv_meth s⟩
  obtain ⟨f, fd, ps, F, hC, hM, hb⟩ := M i
  have hKj := c.hK i
  exact pe_meth (pe_var (i := j) (by rw [c.hN i]; exact hi) (hv i) hd hcd) (by rw [hKj]; exact hC) (by rw [hKj]; exact hM) (by rw [hKj]; exact F) ((c.room i).mono hk) (by rw [hKj]; exact hb) .nil (hx i) (q i) (he i) (hpl i) (ht i)
theorem ev_meth0 {E : XK} (j : Nat) (M : ∀ j, ClT (c.X j).prog (c.X j).w c.W (c.X j).mg (c.X j).base CX k C m [] G) (hk : k ≤ c.k) (hx : ∀ j, Passes CX (c.X j) E)
    (hi : c.N[j]? = some x := by rfl) (hv : ∀ j, Vis (c.X j).env.scope x := by intro _; first | exact Or.inl rfl | exact Or.inr (Or.inl rfl) | exact Or.inr (Or.inr rfl))
    (ht : ∀ i, eval (.Call (.Attribute (.Name x p) m apos) [] [] pos) (c.X i).env = (do
      let ov ← eval (.Name x p) (c.X i).env
      standAt apos.atName
      let (f, first) ← holding [ov] (getMethod ov m (plOf x p (c.X i).env))
      callWith pos f first (backTo pos (starEach [] (c.X i).env)) (backToKw pos (keywordEach [] (c.X i).env))) := by intro _; rfl)
    (hd : (x == ("__debug__" : Str)) = false := by decide) (hcd : (x == ("__classdict__" : Str)) = false := by decide) : Ev c (.Call (.Attribute (.Name x p) m apos) [] [] pos) (fMethV C m j G aNil) := by
  refine ⟨tMeth (c.W.cl C) m (spF c.W [] G) [] E (tVar j) tNil, fun i => ?_, sv_meth ?_⟩
  · obtain ⟨f, fd, ps, F, hC, hM, hb⟩ := M i
    have hKj := c.hK i
    exact pe_meth0 (pe_var (i := j) (by rw [c.hN i]; exact hi) (hv i) hd hcd) (by rw [hKj]; exact hC) (by rw [hKj]; exact hM) (by rw [hKj]; exact F) ((c.room i).mono hk) (by rw [hKj]; exact hb) .nil (hx i) (ht i)
  · intro b F ρ σ X H τs Q S e k
    cases e
    exact k [] F H S (Inc.refl F) (Same.refl H) RelVs.nil
end
/-! ### values of a dict -/
section
variable {c : Ctx} {a e o : Expr} {fb gb : List T → Option Rb} {pos : Pos}
theorem wot (h : Wo c e fb) : To c e fb := h.to
end
/-! ### x op= e, whole numbers -/
section
variable {c : Ctx} {e : Expr} {es : List Expr} {fe : List T → Option T} {fs : List T → Option Rs} {pos pos' : Pos}
def sAug (i : Nat) (g : T → T → Option T) (fe : List T → Option T) : FS := sSet i (lift (f2 g (fVar i) fe))
theorem sm_augI {op : Operator} {h : Int → Int → Int} {g : T → T → Option T} (i : Nat) {x : Str} (ho : ∀ j, PIp (c.X j) op (ipI h)) (hg : ∀ s t τ, g s t = some τ → ∃ a b, s = .f (.int a) ∧ t = .f (.int b) ∧ τ = .f (.int (h a b))) (he : Ev c e fe)
    (hi : c.N[i]? = some x := by rfl) (hx : ∀ j, L2.Loc (c.X j).env.scope x := by intro _; first | exact Or.inl rfl | exact Or.inr rfl) (hio : c.P.io.contains i = false := by rfl)
    (hf : ∀ j, (c.X j).fn x = true ∨ (c.X j).env.scope.names.lookup x = some .local := by intro _; first | exact Or.inl rfl | exact Or.inr rfl) : Sm c (.AugAssign (.Name x pos') op e pos) (sAug i g fe) := by
  obtain ⟨te, pe, se⟩ := he
  refine ⟨tAug i te (ipI h), fun j => ps_aug (c.hNd j) (by rw [c.hN j]; exact hi) (hx j) (pe j) (ho j) (hf j), ?_⟩
  intro b F ρ σ X H o D hb S eq k
  unfold sAug sSet lift f2 at eq
  obtain ⟨r, e1, eq⟩ := Option.map_eq_some_iff.mp eq
  obtain ⟨t, e2, e3⟩ := Option.bind_eq_some_iff.mp e1
  obtain ⟨s1, e4, e5⟩ := Option.bind_eq_some_iff.mp e2
  obtain ⟨s2, e6, e7⟩ := Option.bind_eq_some_iff.mp e5
  obtain ⟨a, b', rfl, rfl, rfl⟩ := hg _ _ _ e7
  cases e3
  subst eq
  have e4' := e4
  unfold fVar at e4'
  have hρ : ρ[i]? = some (.f (.int a)) := by
    cases q : ρ[i]? with
    | none => rw [q] at e4'; cases e4'
    | some t => rw [q] at e4'; cases t <;> first | (cases e4'; rfl) | cases e4'
  obtain ⟨s, fp, es, r⟩ := S.slot hρ
  cases s with
  | none => exact nomatch r.1
  | some v =>
    have hv : v = .int a := r.2
    subst hv
    refine ⟨_, es, se b F ρ σ X H _ _ S e6 fun y F1 H1 S1 i1 s1 r1 => ?_⟩
    have hy : y = .int b' := r1.rep
    subst hy
    exact ⟨a, b', rfl, rfl, k _ F1 H1 ((S1.push (o := none) (show Rep c.W F1 (.int (h a b')) (.int (h a b')) from rfl)).store (.inl rfl) (.inl (notio hb (notin_of hio)))) i1⟩
theorem gIa_inv {g : Int → Int → D} {s t τ : T} (h : gIa g s t = some τ) : ∃ a b, s = .f (.int a) ∧ t = .f (.int b) ∧ τ = .f (g a b) := by
  unfold gIa gI at h
  obtain ⟨a, e1, h⟩ := Option.bind_eq_some_iff.mp h
  obtain ⟨b, e2, h⟩ := Option.bind_eq_some_iff.mp h
  rw [if_pos (show always a b = true from rfl)] at h
  cases h
  refine ⟨a, b, ?_, ?_, rfl⟩
  · cases s with
    | f d => cases d <;> first | (cases e1; rfl) | cases e1
    | _ => cases e1
  · cases t with
    | f d => cases d <;> first | (cases e2; rfl) | cases e2
    | _ => cases e2
theorem aug_add (i : Nat) {x : Str} (he : Ev c e fe) (hi : c.N[i]? = some x := by rfl) (hx : ∀ j, L2.Loc (c.X j).env.scope x := by intro _; first | exact Or.inl rfl | exact Or.inr rfl) (hio : c.P.io.contains i = false := by rfl)
    (hf : ∀ j, (c.X j).fn x = true ∨ (c.X j).env.scope.names.lookup x = some .local := by intro _; first | exact Or.inl rfl | exact Or.inr rfl) : Sm c (.AugAssign (.Name x pos') .Add e pos) (sAug i gAddI fe) := sm_augI i (fun _ => ip_add) (fun _ _ _ h => gIa_inv h) he hi hx hio hf
theorem aug_sub (i : Nat) {x : Str} (he : Ev c e fe) (hi : c.N[i]? = some x := by rfl) (hx : ∀ j, L2.Loc (c.X j).env.scope x := by intro _; first | exact Or.inl rfl | exact Or.inr rfl) (hio : c.P.io.contains i = false := by rfl)
    (hf : ∀ j, (c.X j).fn x = true ∨ (c.X j).env.scope.names.lookup x = some .local := by intro _; first | exact Or.inl rfl | exact Or.inr rfl) : Sm c (.AugAssign (.Name x pos') .Sub e pos) (sAug i Z.gSub fe) := sm_augI i (fun _ => ip_sub) (fun _ _ _ h => gIa_inv h) he hi hx hio hf
theorem ao_s (i : Nat) {x : Str} (hr : Ao c es fs) (hi : c.N[i]? = some x := by rfl) (hv : ∀ j, Vis (c.X j).env.scope x := by intro _; first | exact Or.inl rfl | exact Or.inr (Or.inl rfl) | exact Or.inr (Or.inr rfl)) (hs : ∀ j, starEach (.Name x pos :: es) (c.X j).env = (false, eval (.Name x pos) (c.X j).env) :: starEach es (c.X j).env := by intro _; rfl)
    (hd : (x == ("__debug__" : Str)) = false := by decide) (hcd : (x == ("__classdict__" : Str)) = false := by decide) : Ao c (.Name x pos :: es) (bSlot i fs) := ao_slot hi hv hr hs hd hcd
end
/-- a method, ready to be called -/
theorem ClT.mk' {P : Program} {w : World} {W : Wd} {mg : Str → Option Value} {base : Heap} {CX : CXT} {k C : Nat} {m : Str} {io : List Nat} {G : List T → Option Re} {f : Addr} {fd : FuncData} {ps : List Str} (h : FnOk P w W.K mg base CX k f fd ps (spF W io G)) (hC : Cls W.K (W.cl C)) (hM : Meth W.K (W.cl C) m f) (hb : Binds W.K fd ps []) : ClT P w W mg base CX k C m io G := ⟨f, fd, ps, h, hC, hM, hb⟩
theorem ClM.mk' {P : Program} {w : World} {W : Wd} {mg : Str → Option Value} {base : Heap} {CX : CXT} {k C : Nat} {x : Str} {io : List Nat} {G : List T → Option Re} {f : Addr} {fd : FuncData} {ps : List Str} (h : FnOk P w W.K mg base CX k f fd ps (spF W io G)) (hm : mg x = some (.ref (W.cl C))) (hM : Mk W.K (W.cl C) f) (hb : Binds W.K fd ps []) : ClM P w W mg base CX k x C io G := ⟨f, fd, ps, h, hm, hM, hb⟩
/-! ### a part is taken out -/
def mPart (i : Nat) (fp : List T → Option (List Sel)) : List T → Option (T × List T) := fun ρ => (fp ρ).bind fun π => ρ[i]?.bind fun t0 => (t0.getP π).bind fun u => if owned u = true then some (u, ρ.set i (t0.putP π .un)) else none
theorem em_part {c : Ctx} {e : Expr} {i : Nat} {fp : List T → Option (List Sel)} (h : Lo c e i fp) : Em c e (mPart i fp) := by
  obtain ⟨t, p, s⟩ := h
  refine ⟨t, p, ?_⟩
  intro b F ρ σ X H τ ρ' Q S e k
  unfold mPart at e
  obtain ⟨π, e1, e⟩ := Option.bind_eq_some_iff.mp e
  obtain ⟨t0, e2, e⟩ := Option.bind_eq_some_iff.mp e
  obtain ⟨u, e3, e⟩ := Option.bind_eq_some_iff.mp e
  split at e
  · rename_i hown
    cases e
    refine s b F ρ σ X H π t0 _ _ S e1 e2 e3 hown fun q v F1 H1 S1 i1 s1 hv hat => ?_
    obtain ⟨fu, yps, q1, q2, q3, q4, q5⟩ := SR.mutX (Y := []) (X := X) S1 e2 hv e3 hat
    obtain ⟨_, rfl⟩ := q2
    rw [List.flatten_nil, List.append_nil] at q3 q4 q5
    have hq : q ∈ fu := by
      cases τ with
      | un => cases hown
      | f d => cases hown
      | l ds => obtain ⟨p', vs, ep, rfl, _⟩ := q1; cases ep; exact List.mem_cons_self
      | dk ks ds => obtain ⟨p', vs, ep, rfl, _⟩ := q1; cases ep; exact List.mem_cons_self
      | di ks ds => obtain ⟨p', vs, ep, rfl, _⟩ := q1; cases ep; exact List.mem_cons_self
      | ll ts => obtain ⟨p', vs, fps, ep, rfl, _⟩ := q1; cases ep; exact List.mem_cons_self
      | tu ts => obtain ⟨p', vs, fps, ep, rfl, _⟩ := q1; cases ep; exact List.mem_cons_self
      | o C ns ts => obtain ⟨p', dx, vs, fps, ep, rfl, _⟩ := q1; cases ep; exact List.mem_cons_self
    obtain ⟨o, ho⟩ := RelT.there _ _ _ q1 q hq
    have hu : upd H1 q o = H1 := by
      funext a
      by_cases z : a = q
      · rw [z, upd_same, ho]
      · rw [upd_ne z]
    have S2 := q5 o .un [] [⟨none, τ, .ref q⟩] [fu] hq rfl (by rw [hu]; exact relTs_one q1) (by simpa using q3) (fun a ha => by simpa using ha) ⟨o, ho, Stb.refl o⟩
    rw [hu] at S2
    exact k _ F1 H1 S2 i1 s1
  · cases e
end Z

namespace Z
open PySem PySem.Spec PyProof.Rows L2
/-! ### xs[::-1] -/
def gRevL (t : T) : Option T := t.ls?.map fun ds => .f (.lst ds.reverse)
theorem Reps.snoc {W : Wd} {F : Hp} : ∀ {ds : List D} {vs : List V} {d : D} {v : V}, Reps W F ds vs → Rep W F d v → Reps W F (ds ++ [d]) (vs ++ [v])
  | [], _, _, _, h, r => by
    have h' : _ = [] := h
    subst h'
    exact ⟨_, [], rfl, r, rfl⟩
  | d :: ds, _, _, _, ⟨v, vr, e, a, b⟩, r => by
    subst e
    exact ⟨v, _, rfl, a, Reps.snoc b r⟩
theorem Reps.rev {W : Wd} {F : Hp} : ∀ {ds : List D} {vs : List V}, Reps W F ds vs → Reps W F ds.reverse vs.reverse
  | [], _, h => by
    have h' : _ = [] := h
    subst h'
    exact rfl
  | d :: ds, _, ⟨v, vr, e, a, b⟩ => by
    subst e
    rw [List.reverse_cons, List.reverse_cons]
    exact (Reps.rev b).snoc a
section
variable {c : Ctx} {a e e' o : Expr} {fa fb : List T → Option T} {pos apos mpos p1 p2 p3 p : Pos}
theorem ev_revL {k : Nat} (ha : Ev c a fa) : Ev c (.Subscript a (.Slice none none (some (.UnaryOp .USub (.Constant (.int 1) k p1) p2)) p3) pos) (f1 gRevL fa) := by
  obtain ⟨ta, pa, sa⟩ := ha
  refine ⟨tRevL c.W.K ta, fun j => by have h := pe_revL (k := k) (p1 := p1) (p2 := p2) (p3 := p3) (pos := pos) (pa j); rw [c.hK j] at h; exact h, ?_⟩
  intro b F ρ σ X H τ Q S e k
  unfold f1 at e
  obtain ⟨t, e1, e⟩ := Option.bind_eq_some_iff.mp e
  obtain ⟨ds, e2, e⟩ := Option.map_eq_some_iff.mp e
  subst e
  refine sa b F ρ σ X H _ _ S e1 fun x F1 H1 S1 i1 s1 r1 => ?_
  obtain ⟨p, vs, ex, hs, r⟩ := r1.ls e2 S1.le
  refine ⟨p, vs, ex, hs, ?_⟩
  exact (k.mono i1 s1).lst S1 r.rev
/-! ### list(d.values()) -/
def tValsL (td : TE) : TE := fun σ H Q => td σ H fun x H1 => ∃ a kvs, x = V.ref a ∧ Rd H1 a (.dK kvs) ∧ ∀ p, H1 p = none → Q (.ref p) (upd H1 p (.lst (kvs.map (·.2))))
theorem relAll_of {xs : List V} {vs : List Value} (hl : vs.length = xs.length) (h : ∀ (i : Nat) (v : Value), vs[i]? = some v → ∃ x, xs[i]? = some x ∧ L2.RelV x v) : Vals xs vs := by
  induction xs generalizing vs with
  | nil =>
    cases vs with
    | nil => exact .nil
    | cons v vs => simp at hl
  | cons x xs ih =>
    cases vs with
    | nil => simp at hl
    | cons v vs =>
      obtain ⟨y, e, r⟩ := h 0 v rfl
      cases (show some x = some y from e)
      exact .cons r (ih (by simpa using hl) fun i w q => h (i + 1) w q)
theorem pe_valsL {X : Cx} {x : Str} {td : TE} (hc : X.calm = true) (hg : Gl X x) (hm : X.mg x = none) (hv : bootBuiltins x = some (.type "list")) (hd : PE X o td) (hbase : attributeBase o "values" X.env (eval o X.env) = eval o X.env) (hline : (apos.endLine == mpos.line) = true)
    (hse : starEach [Expr.Call (.Attribute o "values" apos) [] [] mpos] X.env = [(false, eval (Expr.Call (.Attribute o "values" apos) [] [] mpos) X.env)]) (hn : x ≠ "__name__" := by decide) (hdb : (x == ("__debug__" : Str)) = false := by decide) :
    PE X (.Call (.Name x p) [.Call (.Attribute o "values" apos) [] [] mpos] [] pos) (tValsL td) := by
  refine ⟨fun pins s σ H Q I h => ?_⟩
  refine wpAny_Call_Name_kw (ld_blt I hg hm (u := .type "list") hv ?_ hn hdb)
  rw [hse]
  refine PySem.callWith_type1 (wpAny_Call_method0_late hbase hline (thn (hd.run pins s σ H _ I h) fun v s1 ⟨x, H1, I1, r1, a, kvs, ex, ha, q⟩ => ?_))
  subst ex
  obtain rfl : v = Value.ref a := r1
  obtain ⟨hz, hsys, vs, rel, dof⟩ := dk_rd I1.hok ha
  obtain ⟨ep, dat⟩ := dof.dictAt
  have dat' := dat
  obtain ⟨ob, es, ho, ex, hdat, hko, hpr, hnd⟩ := dat'
  refine ⟨"dict", "dict.values", F.plainAttrs_dict, F.slot_dict_values, F.type_dict_values, ⟨ob, ho, ex.1⟩, fun b e => ?_, Calls.callWith_builtin rfl (PySem.evalArgs_none ?_)⟩
  · cases e
    exact ⟨ob, ho, ex.2.1⟩
  refine call_meetsIn F.slot_dict_values ⟨ob, ho, ex.1⟩ F.entry_dict_values (F.args_dict_values_1 _) (meets_dict_values (mixKind X.prog X.w) a hsys) ⟨⟨vs, dof⟩, ?_⟩
  have k1 : ∀ b u, s1.heap.get? b = some u → (s1.heap.push { cls := .type "dict_values", data := .fields #[.ref a] }).get? b = some u := fun b u e => Heap.get?_push_of_some _ e
  have dat1 : (s1.heap.push { cls := .type "dict_values", data := .fields #[.ref a] }).DictAt (mixKind X.prog X.w) a vs ep := dat.keep k1
  have hlv : vs.length = kvs.length := (KV.length rel).symm
  refine PySem.W.kdl_call (PySem.W.kdl_values (prog := X.prog) (w := X.w) (knd := mixKind X.prog X.w) (d := a) (r := s1.heap.objs.size) (kvs := vs) (ep := ep)) (I.ok.hd hc) ⟨⟨_, Heap.get?_push_size _ rfl, rfl, rfl⟩, dat1⟩ (by omega) fun h' tk acc' c' hk hS hit => ?_
  have hlen : acc'.toList.length = kvs.length := by rw [Array.length_toList, hit.1, hlv]
  have hrel : Vals (kvs.map (·.2)) acc'.toList := relAll_of (by rw [List.length_map]; exact hlen) fun i v e => by
    obtain ⟨k, e2⟩ := hit.2 i v (by rw [← Array.getElem?_toList]; exact e)
    obtain ⟨y, h1, h2⟩ := KV.at' rel e2
    exact ⟨y, by rw [List.getElem?_map, h1]; rfl, h2⟩
  have hsz : (s1.heap.push { cls := .type "dict_values", data := .fields #[.ref a] }).objs.size = s1.heap.objs.size + 1 := Heap.size_push _ _
  have hf : H1 (s1.heap.objs.size + 1) = none := I1.hok.fresh (Nat.le_succ _)
  rw [hsz] at hS ⊢
  refine ⟨.ref (s1.heap.objs.size + 1), _, I1.laid (a := s1.heap.objs.size + 1) (o := .lst (kvs.map (·.2))) (t' := tk) (fun b ob q => hk b ob (k1 b ob q)) (Nat.le_succ _) ⟨by rw [List.length_map]; exact hz, acc'.toList, c', hrel, by simpa using hS⟩, rfl, q _ hf⟩
def gVals (t : T) : Option T := t.dk?.map fun p => .f (.lst p.2)
theorem ev_vals {x : Str} (hg : ∀ j, Gl (c.X j) x) (hm : ∀ j, (c.X j).mg x = none) (hv : bootBuiltins x = some (.type "list")) (ha : Ev c o fa) (hn : x ≠ "__name__" := by decide) (hdb : (x == ("__debug__" : Str)) = false := by decide)
    (hbase : ∀ j, attributeBase o "values" (c.X j).env (eval o (c.X j).env) = eval o (c.X j).env := by intro _; rfl) (hline : (apos.endLine == mpos.line) = true := by rfl)
    (hse : ∀ j, starEach [Expr.Call (.Attribute o "values" apos) [] [] mpos] (c.X j).env = [(false, eval (Expr.Call (.Attribute o "values" apos) [] [] mpos) (c.X j).env)] := by intro _; rfl) :
    Ev c (.Call (.Name x p) [.Call (.Attribute o "values" apos) [] [] mpos] [] pos) (f1 gVals fa) := by
  obtain ⟨ta, pa, sa⟩ := ha
  refine ⟨tValsL ta, fun j => pe_valsL (c.calm j) (hg j) (hm j) hv (pa j) (hbase j) hline (hse j) hn hdb, ?_⟩
  intro b F ρ σ X H τ Q S e k
  unfold f1 at e
  obtain ⟨t, e1, e⟩ := Option.bind_eq_some_iff.mp e
  obtain ⟨⟨ks, ds⟩, e2, e⟩ := Option.map_eq_some_iff.mp e
  subst e
  refine sa b F ρ σ X H _ _ S e1 fun x F1 H1 S1 i1 s1 r1 => ?_
  obtain ⟨p, kvs, ex, hs, hk, r⟩ := r1.dk e2 S1.le
  exact ⟨p, kvs, ex, hs, (k.mono i1 s1).lst S1 r⟩
end
/-! ### dicts of plain values compared -/
def rEqDR (neg : Bool) : R2 := fun x y H Q => ∃ a b ks ls, x = .ref a ∧ y = .ref b ∧ Rd H a (.dK ks) ∧ Rd H b (.dK ls) ∧ ks.length = ls.length ∧ (∀ p ∈ ks, valV ls p.1 = some p.2 ∧ flatB p.2 = true) ∧ Q (.bl (!neg)) H
theorem op_eqDR {X : Cx} (hu : X.A.units < cLine) : OpR X (compareOp .Eq) (rEqDR false) := by
  intro pins s σ H x y v u Q I rx ry h
  obtain ⟨a, b, ks, ls, rfl, rfl, ea, eb, hlen, hp, q⟩ := h
  obtain rfl : v = Value.ref a := rx
  obtain rfl : u = Value.ref b := ry
  obtain ⟨_, ya, va, ra, da⟩ := dk_rd I.hok ea
  obtain ⟨_, yb, vb, rb, db⟩ := dk_rd I.hok eb
  have hl : va.length = vb.length := by rw [← ra.length, ← rb.length]; exact hlen
  exact PySem.W.keq_eq (knd := mixKind X.prog X.w) (r := true) ya yb da db hu (fun _ => hits_all rb ra hp) (fin_bl I q (by simp [hl]))
theorem op_neDR {X : Cx} (hu : X.A.units < cLine) : OpR X (compareOp .NotEq) (rEqDR true) := by
  intro pins s σ H x y v u Q I rx ry h
  obtain ⟨a, b, ks, ls, rfl, rfl, ea, eb, hlen, hp, q⟩ := h
  obtain rfl : v = Value.ref a := rx
  obtain rfl : u = Value.ref b := ry
  obtain ⟨_, ya, va, ra, da⟩ := dk_rd I.hok ea
  obtain ⟨_, yb, vb, rb, db⟩ := dk_rd I.hok eb
  have hl : va.length = vb.length := by rw [← ra.length, ← rb.length]; exact hlen
  exact PySem.W.keq_ne (knd := mixKind X.prog X.w) (r := true) ya yb da db hu (fun _ => hits_all rb ra hp) (fin_bl I q (by simp [hl]))
def dkSub (ls : List Key) (es : List D) : List Key → List D → Bool
  | [], [] => true
  | k :: ks, d :: ds => (match (T.f d).v?, (dAt ls es k).bind fun x => (T.f x).v? with | some v, some w => decide (v = w) | _, _ => false) && dkSub ls es ks ds
  | _, _ => false
theorem flat_v {d : D} {v : V} (h : (T.f d).v? = some v) : flatB v = true := by
  cases d <;> first | (cases h; rfl) | cases h
theorem rep_v {W : Wd} {F : Hp} {d : D} {v w : V} (r : Rep W F d w) (h : (T.f d).v? = some v) : w = v := by
  cases d <;> first | (cases h; exact r) | cases h
theorem dkSub_ok {W : Wd} {F : Hp} {ls : List (Key × V)} {es : List D} (rl : Reps W F es (ls.map (·.2))) : ∀ {ks : List (Key × V)} {ds : List D}, Reps W F ds (ks.map (·.2)) → dkSub (ls.map (·.1)) es (ks.map (·.1)) ds = true → ∀ p ∈ ks, valV ls p.1 = some p.2 ∧ flatB p.2 = true
  | [], _, _, _, p, hp => absurd hp List.not_mem_nil
  | q :: ks, [], r, _, _, _ => by
    have r' : _ = [] := r
    cases r'
  | q :: ks, d :: ds, r, h, p, hp => by
    obtain ⟨v, vr, e, a, b⟩ := r
    have e1 : q.2 = v := (List.cons.inj e).1
    have e2 : ks.map (·.2) = vr := (List.cons.inj e).2
    subst e1 e2
    have h' : ((match (T.f d).v?, (dAt (ls.map (·.1)) es q.1).bind fun x => (T.f x).v? with | some v, some w => decide (v = w) | _, _ => false) && dkSub (ls.map (·.1)) es (ks.map (·.1)) ds) = true := h
    obtain ⟨h1, h2⟩ := Bool.and_eq_true_iff.mp h'
    rcases List.mem_cons.mp hp with z | z
    · subst z
      split at h1
      · rename_i v w hv hw
        obtain ⟨x, hx, hw⟩ := Option.bind_eq_some_iff.mp hw
        have hvw := of_decide_eq_true h1
        subst hvw
        obtain ⟨y, hy, ry⟩ := dAt_val rl hx
        rw [hy, rep_v ry hw, rep_v a hv]
        exact ⟨rfl, flat_v hv⟩
      · cases h1
    · exact dkSub_ok rl b h2 p z
def gEqK (neg : Bool) : T → T → Option T := fun a b => a.dk?.bind fun p => b.dk?.bind fun q => if p.1.length = q.1.length ∧ dkSub q.1 q.2 p.1 p.2 = true then some (.f (.bl (!neg))) else none
theorem s2_eqK {W : Wd} (neg : Bool) : S2 W (rEqDR neg) (gEqK neg) := by
  intro b F ρ σ X H t1 t2 τ x y Q S r1 r2 e k
  unfold gEqK at e
  obtain ⟨⟨ks, ds⟩, e1, e⟩ := Option.bind_eq_some_iff.mp e
  obtain ⟨⟨ls, es⟩, e2, e⟩ := Option.bind_eq_some_iff.mp e
  split at e
  · rename_i hz
    cases e
    obtain ⟨p, kvs, ex, hs, hk, r⟩ := r1.dk e1 S.le
    obtain ⟨p2, kvs2, ex2, hs2, hk2, r'⟩ := r2.dk e2 S.le
    subst hk hk2
    exact ⟨p, p2, kvs, kvs2, ex, ex2, hs, hs2, by have := hz.1; simpa using this, dkSub_ok r' r hz.2, k.d S rfl⟩
  · cases e
def gEqX := or2 gEq (gEqK false)
def gNeX := or2 gNe (gEqK true)
section
variable {c : Ctx}
theorem c_eqX : CmpR c .Eq gEqX := ⟨_, fun j => OpR_or (by have h := op_eqU (X := c.X j) (c.hu j); rw [c.hK j] at h; exact h) (op_eqDR (by have := c.hu j; omega)), S2.or s2_eq (s2_eqK false)⟩
theorem c_neX : CmpR c .NotEq gNeX := ⟨_, fun j => OpR_or (by have h := op_neU (X := c.X j) (c.hu j); rw [c.hK j] at h; exact h) (op_neDR (by have := c.hu j; omega)), S2.or s2_ne (s2_eqK true)⟩
end
/-! ### a concatenation's list of one's own -/
def gCatO (a b : T) : Option (List D) := a.ls?.bind fun xs => b.ls?.bind fun ys => if xs.length + ys.length ≤ sizeLine then some (xs ++ ys) else none
def mCat (fa fb : List T → Option T) : List T → Option (T × List T) := fun ρ => (fa ρ).bind fun a => (fb ρ).bind fun b => (gCatO a b).map fun ds => (.l ds, ρ)
theorem em_cat {c : Ctx} {a e' : Expr} {fa fb : List T → Option T} {pos : Pos} (ha : Ev c a fa) (hb : Ev c e' fb) : Em c (.BinOp a .Add e' pos) (mCat fa fb) := by
  obtain ⟨ta, pa, sa⟩ := ha
  obtain ⟨tb, pb, sb⟩ := hb
  refine ⟨tOp (rCatL c.W.K) ta tb, fun j => pe_op (by have h := op_catL (X := c.X j); rw [c.hK j] at h; exact h) (pa j) (pb j), ?_⟩
  intro b F ρ σ X H τ ρ' Q S e k
  unfold mCat at e
  obtain ⟨t1, e1, e⟩ := Option.bind_eq_some_iff.mp e
  obtain ⟨t2, e2, e⟩ := Option.bind_eq_some_iff.mp e
  obtain ⟨ds, e3, e⟩ := Option.map_eq_some_iff.mp e
  cases e
  unfold gCatO at e3
  obtain ⟨xs, e4, e3⟩ := Option.bind_eq_some_iff.mp e3
  obtain ⟨ys, e5, e3⟩ := Option.bind_eq_some_iff.mp e3
  split at e3
  · rename_i hz
    cases e3
    refine sa b F ρ σ X H _ _ S e1 fun x F1 H1 S1 i1 s1 r1 => ?_
    refine sb b F1 ρ σ X H1 _ _ S1 e2 fun y F2 H2 S2 i2 s2 r2 => ?_
    obtain ⟨p, vs, ex, hs, q⟩ := (r1.ext i2 s2).ls e4 S2.le
    obtain ⟨p2, vs2, ex2, hs2, q2⟩ := r2.ls e5 S2.le
    refine ⟨p, p2, vs, vs2, ex, ex2, hs, hs2, by rw [← q.len, ← q2.len]; exact hz, fun r hr => ?_⟩
    exact k _ F2 _ (S2.own hr ⟨r, _, rfl, rfl, upd_same, q.append q2⟩) (i1.trans i2) ((s1.trans s2).trans fun a u e => by rw [upd_ne (ne_of_none e hr)]; exact e)
  · cases e3
section
variable {c : Ctx} {elt tg iter : Expr} {ifs : List Expr} {scope : Scope} {pos spos : Pos} {fi : List T → Option (List D)} {fg : T → List T → Option (List T)} {ft : List T → Option Bool} {fe : List T → Option T}
theorem sm_setLcM (i : Nat) {y : Str} {py : Pos} (own : List (Str × Nat)) (hi : Ip c tg iter fi) (hg : Gc (cB c scope) tg fg (own.map (·.2))) (ht : Tvs (cB c scope) ifs ft) (he : Ev (cB c scope) elt fe) (ok : ∀ j, blkC c.N (c.X j).env.scope scope own = true := by intro _; rfl)
    (hy : c.N[i]? = some y := by rfl) (hyl : ∀ j, (c.X j).env.scope.names.lookup y = some .local := by intro _; rfl) (hio : c.P.io.contains i = false := by rfl)
    (hsw : ∀ j, swapsWith (.ListComp elt [⟨tg, iter, ifs, 0⟩] scope pos) (some (.Name y py)) spos.line (c.X j).env = pure true := by intro _; rfl)
    (hs : ∀ j x, foldedSetIterable iter (c.X j).env x = pure x := by intro _ _; rfl) : Sm c (.Assign [.Name y py] (.ListComp elt [⟨tg, iter, ifs, 0⟩] scope pos) spos) (sSet i (mE (mLc (own.map (·.2)) fi fg ft fe))) := by
  obtain ⟨wi, pi, si⟩ := hi
  obtain ⟨g, pg, sg, wg⟩ := hg
  obtain ⟨tt, pt, st⟩ := ht
  obtain ⟨te, pe, se⟩ := he
  refine ⟨tAsg (tLc wi g tt te (own.map (·.2))) (gName i), fun j => ps_setLc (c.calm j) (c.hNd j) (by rw [c.hN j]; exact hy) (hyl j) (hsw j) (pi j) (blkOk_by (by rw [c.hN j]; exact ok j)) (fun s H C cl fp => pg (j, s, H, C, cl, fp)) (fun s H C cl fp => pt (j, s, H, C, cl, fp)) (fun s H C cl fp => pe (j, s, H, C, cl, fp)) (hs j), ?_⟩
  intro b F ρ σ X H o D hb S eq k
  unfold sSet mE at eq
  obtain ⟨r, e1, eq⟩ := Option.map_eq_some_iff.mp eq
  obtain ⟨⟨t, ρ'⟩, e2, e3⟩ := Option.map_eq_some_iff.mp e1
  subst e3 eq
  unfold mLc at e2
  obtain ⟨t0, e4, e2⟩ := Option.bind_eq_some_iff.mp e2
  unfold fLc at e4
  split at e4
  · rename_i hok
    obtain ⟨ds, e5, e4⟩ := Option.bind_eq_some_iff.mp e4
    obtain ⟨es, e6, e4⟩ := Option.bind_eq_some_iff.mp e4
    split at e4
    · rename_i hz
      cases e4
      cases e2
      exact slc_core si sg wg st se S hok e5 e6 hz fun D0 F2 H' S3 i2 s2 => k _ F2 H' (S3.store (.inl rfl) (.inl (notio hb (notin_of hio)))) i2
    · cases e4
  · cases e4
end
end Z

namespace Z
open PySem PySem.Spec PyProof.Rows L2
/-! ### a dict locked while it is walked -/
def Nf (u : HO) : Prop := ∀ o w, u ≠ .frz o w
structure Cv (F G : Hp) : Prop where
  rd : ∀ a u, Nf u → Rd F a u → Rd G a u
  ins : ∀ a C dx kvs, F a = some (.ins C dx kvs) → G a = some (.ins C dx kvs)
theorem nf_l {vs : List V} : Nf (.lst vs) := fun _ _ e => nomatch e
theorem nf_t {vs : List V} : Nf (.tup vs) := fun _ _ e => nomatch e
theorem nf_d {kvs : List (Key × V)} : Nf (.dK kvs) := fun _ _ e => nomatch e
mutual
theorem Rep.cv {W : Wd} {F G : Hp} (h : Cv F G) : ∀ (d : D) (v : V), Rep W F d v → Rep W G d v
  | .non, _, r => r
  | .bl _, _, r => r
  | .int _, _, r => r
  | .str _, _, r => r
  | .tup l, _, ⟨p, vs, e, s, q⟩ => ⟨p, vs, e, s.imp (h.rd p _ nf_t) id, Reps.cv h l vs q⟩
  | .lst l, _, ⟨p, vs, e, s, q⟩ => ⟨p, vs, e, s.imp (h.rd p _ nf_l) id, Reps.cv h l vs q⟩
  | .dct ks ds, _, ⟨p, kvs, e, s, k, q⟩ => ⟨p, kvs, e, h.rd p _ nf_d s, k, Reps.cv h ds _ q⟩
  | .obj C ns ds, _, ⟨p, dx, kvs, e, s, k, q⟩ => ⟨p, dx, kvs, e, h.ins p _ _ _ s, k, Reps.cv h ds _ q⟩
theorem Reps.cv {W : Wd} {F G : Hp} (h : Cv F G) : ∀ (ds : List D) (vs : List V), Reps W F ds vs → Reps W G ds vs
  | [], _, r => r
  | d :: ds, _, ⟨v, vr, e, a, b⟩ => ⟨v, vr, e, Rep.cv h d v a, Reps.cv h ds vr b⟩
end
mutual
theorem RelT.cv {W : Wd} {F G H J : Hp} (h : Cv F G) : ∀ (t : T) (v : V) (fp : List Addr), (∀ a ∈ fp, J a = H a) → RelT W F H t v fp → RelT W G J t v fp
  | .un, _, _, _, r => r
  | .f d, _, _, _, r => ⟨r.1, Rep.cv h _ _ r.2⟩
  | .l ds, _, _, k, ⟨p, vs, e1, e2, e3, q⟩ => ⟨p, vs, e1, e2, (k p (by rw [e2]; exact List.mem_singleton.mpr rfl)).trans e3, Reps.cv h _ _ q⟩
  | .dk ks ds, _, _, k, ⟨p, kvs, e1, e2, e3, e4, q⟩ => ⟨p, kvs, e1, e2, (k p (by rw [e2]; exact List.mem_singleton.mpr rfl)).trans e3, e4, Reps.cv h _ _ q⟩
  | .di ks ds, _, _, k, ⟨p, xs, e1, e2, e3, e4, kk, q⟩ => ⟨p, xs, e1, e2, (k p (by rw [e2]; exact List.mem_singleton.mpr rfl)).trans e3, e4, fun x hx => let ⟨l, a, b⟩ := kk x hx; ⟨l, a, Rep.cv h _ _ b⟩, Reps.cv h _ _ q⟩
  | .ll ts, _, _, k, ⟨p, vs, fps, e1, e2, e3, q⟩ => ⟨p, vs, fps, e1, e2, (k p (by rw [e2]; exact List.mem_cons_self)).trans e3, RelTs.cv h ts vs fps (fun a ha => k a (by rw [e2]; exact List.mem_cons_of_mem _ ha)) q⟩
  | .tu ts, _, _, k, ⟨p, vs, fps, e1, e2, e3, q⟩ => ⟨p, vs, fps, e1, e2, (k p (by rw [e2]; exact List.mem_cons_self)).trans e3, RelTs.cv h ts vs fps (fun a ha => k a (by rw [e2]; exact List.mem_cons_of_mem _ ha)) q⟩
  | .o C ns ts, _, _, k, ⟨p, dx, kvs, fps, e1, e2, e3, e4, q⟩ => ⟨p, dx, kvs, fps, e1, e2, (k p (by rw [e2]; exact List.mem_cons_self)).trans e3, e4, RelTs.cv h ts _ fps (fun a ha => k a (by rw [e2]; exact List.mem_cons_of_mem _ ha)) q⟩
theorem RelTs.cv {W : Wd} {F G H J : Hp} (h : Cv F G) : ∀ (ts : List T) (vs : List V) (fps : List (List Addr)), (∀ a ∈ fps.flatten, J a = H a) → RelTs W F H ts vs fps → RelTs W G J ts vs fps
  | [], _, _, _, r => r
  | t :: ts, _, _, k, ⟨v, vr, f, fr, e1, e2, a, b⟩ => by
    subst e2
    rw [List.flatten_cons] at k
    exact ⟨v, vr, f, fr, e1, rfl, RelT.cv h t v f (fun x hx => k x (List.mem_append_left _ hx)) a, RelTs.cv h ts vr fr (fun x hx => k x (List.mem_append_right _ hx)) b⟩
end
theorem Slots.cv {W : Wd} {F G H J : Hp} (h : Cv F G) : ∀ {ts : List T} {σ : L2.St} {fps : List (List Addr)}, (∀ a ∈ fps.flatten, J a = H a) → Slots W F H ts σ fps → Slots W G J ts σ fps
  | [], _, _, _, r => r
  | t :: ts, _, _, k, ⟨s, sr, f, fr, e1, e2, a, b⟩ => by
    subst e2
    rw [List.flatten_cons] at k
    refine ⟨s, sr, f, fr, e1, rfl, ?_, Slots.cv h (fun x hx => k x (List.mem_append_right _ hx)) b⟩
    cases s with
    | none => exact a
    | some v => exact RelT.cv h t v f (fun x hx => k x (List.mem_append_left _ hx)) a
theorem cv_lock {F : Hp} {d : Addr} {od : Obj} {kvs : List (Key × V)} (e : F d = some (.dK kvs)) : Cv F (upd F d (.frz od (.dK kvs))) where
  rd := fun a u n r => by
    by_cases h : a = d
    · subst h
      rcases r with r | ⟨o, r⟩
      · rw [e] at r; cases r; exact .inr ⟨od, upd_same⟩
      · rw [e] at r; cases r
    · rcases r with r | ⟨o, r⟩
      · exact .inl (by rw [upd_ne h]; exact r)
      · exact .inr ⟨o, by rw [upd_ne h]; exact r⟩
  ins := fun a C dx ks r => by
    have h : a ≠ d := fun h => by subst h; rw [e] at r; cases r
    rw [upd_ne h]; exact r
theorem cv_free {F : Hp} {d : Addr} {od : Obj} {kvs : List (Key × V)} (e : F d = some (.frz od (.dK kvs))) : Cv F (upd F d (.dK kvs)) where
  rd := fun a u n r => by
    by_cases h : a = d
    · subst h
      rcases r with r | ⟨o, r⟩
      · rw [e] at r; exact absurd (Option.some.inj r).symm (n od _)
      · rw [e] at r; cases r; exact .inl upd_same
    · rcases r with r | ⟨o, r⟩
      · exact .inl (by rw [upd_ne h]; exact r)
      · exact .inr ⟨o, by rw [upd_ne h]; exact r⟩
  ins := fun a C dx ks r => by
    have h : a ≠ d := fun h => by subst h; rw [e] at r; cases r
    rw [upd_ne h]; exact r
/-- the frame of a def while a dict is locked -/
def Bs.lock (b : Bs) (d : Addr) (o : HO) : Bs := ⟨upd b.H0 d o, upd b.F0 d o, b.As, b.io⟩
section
variable {W : Wd} {b : Bs} {F : Hp} {ρ : List T} {σ : L2.St} {X : List Tm} {H : Hp} {d : Addr} {od : Obj} {kvs : List (Key × V)}
theorem SR.lock (S : SR W b F ρ σ X H) (e : F d = some (.dK kvs)) : SR W (b.lock d (.frz od (.dK kvs))) (upd F d (.frz od (.dK kvs))) ρ σ X (upd H d (.frz od (.dK kvs))) := by
  obtain ⟨le, f0, fn, kept, stab, pin, fps, xps, s1, s2, ⟨nd, ow⟩, lc1, lc2⟩ := S
  have nin : ∀ a ∈ fps.flatten ++ xps.flatten, a ≠ d := fun a ha z => by subst z; rw [ow a ha] at e; cases e
  have H0n : ∀ a, a ≠ d → (b.lock d (.frz od (.dK kvs))).H0 a = b.H0 a := fun a h => upd_ne h
  have F0n : ∀ a, a ≠ d → (b.lock d (.frz od (.dK kvs))).F0 a = b.F0 a := fun a h => upd_ne h
  refine ⟨?_, ?_, ?_, ?_, ?_, pin, fps, xps, Slots.cv (cv_lock e) (fun a ha => upd_ne (nin a (List.mem_append_left _ ha))) s1, RelTs.cv (cv_lock e) _ _ _ (fun a ha => upd_ne (nin a (List.mem_append_right _ ha))) s2, ⟨nd, ?_⟩, ?_, ?_⟩
  · intro a o h
    by_cases z : a = d
    · subst z
      rw [upd_same] at h ⊢
      exact .inl h
    · rw [upd_ne z] at h ⊢
      exact le a o h
  · intro a o h
    by_cases z : a = d
    · subst z
      have h' : upd b.F0 a (.frz od (.dK kvs)) a = some o := h
      rw [upd_same] at h' ⊢
      exact h'
    · rw [F0n a z] at h
      rw [upd_ne z]
      exact f0 a o h
  · intro a o h
    by_cases z : a = d
    · subst z
      rw [upd_same] at h
      exact .inl (show upd b.F0 a _ a = some o by rw [upd_same]; exact h)
    · rw [upd_ne z] at h
      rw [F0n a z, H0n a z]
      exact fn a o h
  · intro a o h na
    by_cases z : a = d
    · subst z
      have h' : upd b.H0 a (.frz od (.dK kvs)) a = some o := h
      rw [upd_same] at h' ⊢
      exact h'
    · rw [H0n a z] at h
      rw [upd_ne z]
      exact kept a o h na
  · intro a o h ha
    by_cases z : a = d
    · subst z
      have h' : upd b.H0 a (.frz od (.dK kvs)) a = some o := h
      rw [upd_same] at h'
      cases h'
      exact ⟨_, upd_same, Stb.frz⟩
    · rw [H0n a z] at h
      obtain ⟨u, q, st⟩ := stab a o h ha
      exact ⟨u, by rw [upd_ne z]; exact q, st⟩
  · intro a ha
    rw [upd_ne (nin a ha)]
    exact ow a ha
  · intro i f hf a ha
    have z : a ≠ d := nin a (List.mem_append_left _ (List.mem_flatten.mpr ⟨f, List.mem_of_getElem? hf, ha⟩))
    exact (lc1 i f hf a ha).imp (fun q => (H0n a z).trans q) id
  · have go : ∀ (X : List Tm) (fs : List (List Addr)), (∀ a ∈ fs.flatten, a ≠ d) → LocX b X fs → LocX (b.lock d (.frz od (.dK kvs))) X fs := by
      intro X
      induction X with
      | nil => intro fs _ _; exact trivial
      | cons x X ih =>
        intro fs hn h
        cases fs with
        | nil => exact trivial
        | cons f fs =>
          rw [List.flatten_cons] at hn
          exact ⟨fun a ha => (h.1 a ha).imp (fun q => (H0n a (hn a (List.mem_append_left _ ha))).trans q) id, ih fs (fun a ha => hn a (List.mem_append_right _ ha)) h.2⟩
    exact go X xps (fun a ha => nin a (List.mem_append_right _ ha)) lc2
theorem SR.free {F0 H0 : Hp} {ρ0 : List T} {σ0 : L2.St} {X0 : List Tm} (S0 : SR W b F0 ρ0 σ0 X0 H0) (e0 : F0 d = some (.dK kvs)) {J : Hp} (hJ : ∀ a, a ≠ d → J a = H a) (eJ : J d = H0 d) (eJ2 : J d = some (.dK kvs) ∨ J d = some (.frz od (.dK kvs))) (S : SR W (b.lock d (.frz od (.dK kvs))) F ρ σ X H) (i : Inc (upd F0 d (.frz od (.dK kvs))) F) :
    SR W b (upd F d (.dK kvs)) ρ σ X J ∧ Inc F0 (upd F d (.dK kvs)) ∧ H d = some (.frz od (.dK kvs)) := by
  have e : F d = some (.frz od (.dK kvs)) := i d _ upd_same
  obtain ⟨le0, f00, fn0, kept0, stab0, _⟩ := S0
  obtain ⟨le, f0, fn, kept, stab, pin, fps, xps, s1, s2, ⟨nd, ow⟩, lc1, lc2⟩ := S
  have nin : ∀ a ∈ fps.flatten ++ xps.flatten, a ≠ d := fun a ha z => by subst z; rw [ow a ha] at e; cases e
  have H0n : ∀ a, a ≠ d → (b.lock d (.frz od (.dK kvs))).H0 a = b.H0 a := fun a h => upd_ne h
  have F0n : ∀ a, a ≠ d → (b.lock d (.frz od (.dK kvs))).F0 a = b.F0 a := fun a h => upd_ne h
  have eH : H d = some (.frz od (.dK kvs)) := by
    rcases le d _ e with q | ⟨u, ks, q, _⟩
    · exact q
    · cases q
  have inc : Inc F0 (upd F d (.dK kvs)) := fun a o h => by
    by_cases z : a = d
    · subst z
      rw [e0] at h
      rw [upd_same]
      exact h
    · rw [upd_ne z]
      exact i a o (by rw [upd_ne z]; exact h)
  refine ⟨⟨?_, f00.trans inc, ?_, ?_, ?_, pin, fps, xps, Slots.cv (cv_free e) (fun a ha => hJ a (nin a (List.mem_append_left _ ha))) s1, RelTs.cv (cv_free e) _ _ _ (fun a ha => hJ a (nin a (List.mem_append_right _ ha))) s2, ⟨nd, ?_⟩, ?_, ?_⟩, inc, eH⟩
  · intro a o h
    by_cases z : a = d
    · subst z
      rw [upd_same] at h
      cases h
      exact eJ2.imp id fun q => ⟨_, _, rfl, q⟩
    · rw [upd_ne z] at h
      rw [hJ a z]
      exact le a o h
  · intro a o h
    by_cases z : a = d
    · subst z
      rw [upd_same] at h
      cases h
      exact fn0 a _ e0
    · rw [upd_ne z] at h
      have := fn a o h
      rw [F0n a z, H0n a z] at this
      exact this
  · intro a o h na
    by_cases z : a = d
    · subst z
      exact eJ.trans (kept0 a o h na)
    · rw [hJ a z]
      exact kept a o (by rw [H0n a z]; exact h) na
  · intro a o h ha
    by_cases z : a = d
    · subst z
      obtain ⟨u, q, st⟩ := stab0 a o h ha
      exact ⟨u, eJ.trans q, st⟩
    · obtain ⟨u, q, st⟩ := stab a o (by rw [H0n a z]; exact h) ha
      exact ⟨u, by rw [hJ a z]; exact q, st⟩
  · intro a ha
    rw [upd_ne (nin a ha)]
    exact ow a ha
  · intro j f hf a ha
    have z : a ≠ d := nin a (List.mem_append_left _ (List.mem_flatten.mpr ⟨f, List.mem_of_getElem? hf, ha⟩))
    exact (lc1 j f hf a ha).imp (fun q => (H0n a z).symm.trans q) id
  · have go : ∀ (X : List Tm) (fs : List (List Addr)), (∀ a ∈ fs.flatten, a ≠ d) → LocX (b.lock d (.frz od (.dK kvs))) X fs → LocX b X fs := by
      intro X
      induction X with
      | nil => intro fs _ _; exact trivial
      | cons x X ih =>
        intro fs hn h
        cases fs with
        | nil => exact trivial
        | cons f fs =>
          rw [List.flatten_cons] at hn
          exact ⟨fun a ha => (h.1 a ha).imp (fun q => (H0n a (hn a (List.mem_append_left _ ha))).symm.trans q) id, ih fs (fun a ha => hn a (List.mem_append_right _ ha)) h.2⟩
    exact go X xps (fun a ha => nin a (List.mem_append_right _ ha)) lc2
end
/-! ### values that are found without a change -/
def kD : Key → D
  | .inl i => .int i
  | .inr x => .str x
theorem kD_rep {W : Wd} {F : Hp} {k : Key} : Rep W F (kD k) (kV k) := by cases k <;> rfl
theorem wk_keys {W : Wd} {F : Hp} {d : Addr} {od : Obj} {kvs : List (Key × V)} (e : F d = some (.frz od (.dK kvs))) : Wk W F (Itk d od kvs) ((kvs.map (·.1)).map kD) where
  go := fun i G H i1 le h => by
    rw [List.length_map, List.length_map] at h
    rcases le d _ (i1 d _ e) with q | ⟨_, _, q, _⟩
    · exact ⟨q, h⟩
    · cases q
  stop := fun G H i1 le => by
    rcases le d _ (i1 d _ e) with q | ⟨_, _, q, _⟩
    · exact ⟨q, by rw [List.length_map, List.length_map]; exact Nat.le_refl _⟩
    · cases q
  yld := fun i G H x H' dd i1 le hd y => by
    obtain ⟨e1, k, v, e2, e3⟩ := y
    refine .inl ⟨e1, ?_⟩
    rw [List.getElem?_map, List.getElem?_map, e2] at hd
    cases hd
    rw [e3]
    exact kD_rep
/-- found without a change: the value is known ahead -/
def Spk (W : Wd) (te : TE) (f : List T → Option T) : Prop := ∀ b F ρ σ X H t, SR W b F ρ σ X H → f ρ = some t → ∃ v, RelV W F H t v ∧ ∀ (G : Hp) (Q : VK), (∀ p vs, SqT W.K F p vs → SqT W.K G p vs) → Q v G → te σ G Q
def Pk (c : Ctx) (e : Expr) (f : List T → Option T) : Prop := ∃ t, (∀ j, PE (c.X j) e t) ∧ Spk c.W t f
section
variable {c : Ctx} {a tg e : Expr} {ss : List Stmt} {fa : List T → Option T} {pos p2 : Pos}
theorem pk_v (i : Nat) {x : Str} (hi : c.N[i]? = some x := by rfl) (hv : ∀ j, Vis (c.X j).env.scope x := by intro _; first | exact Or.inl rfl | exact Or.inr (Or.inl rfl) | exact Or.inr (Or.inr rfl)) (hd : (x == ("__debug__" : Str)) = false := by decide) (hcd : (x == ("__classdict__" : Str)) = false := by decide) : Pk c (.Name x pos) (fVar i) := by
  refine ⟨_, fun j => pe_var (i := i) (by rw [c.hN j]; exact hi) (hv j) hd hcd, ?_⟩
  intro b F ρ σ X H t S e
  unfold fVar at e
  cases q : ρ[i]? with
  | none => rw [q] at e; cases e
  | some u =>
    have hu : u = t ∧ t ≠ .un := by
      rw [q] at e
      cases u <;> first | (cases e; exact ⟨rfl, fun z => nomatch z⟩) | cases e
    obtain ⟨rfl, hn⟩ := hu
    obtain ⟨s, fp, e1, r⟩ := S.slot q
    cases s with
    | none => exact absurd r.1 hn
    | some v => exact ⟨v, ⟨fp, r⟩, fun G Q _ k => ⟨v, e1, k⟩⟩
def fTix (k : Int) (fa : List T → Option T) : List T → Option T := fun ρ => (fa ρ).bind fun t => match t with
  | .f (.tup ds) => (atI ds k).map .f
  | _ => none
theorem pk_ix {kk : Nat} (k : Int) (ha : Pk c a fa) : Pk c (.Subscript a (.Constant (.int k) kk p2) pos) (fTix k fa) := by
  obtain ⟨ta, pa, sa⟩ := ha
  refine ⟨tOp (rIxU c.W.K) ta (tC (.int k)), fun j => pe_ix (by have h := ix_U (X := c.X j) (c.hu1 j); rw [c.hK j] at h; exact h) (pa j) pe_int (fun _ _ => rfl), ?_⟩
  intro b F ρ σ X H t S e
  unfold fTix at e
  obtain ⟨u, e1, e⟩ := Option.bind_eq_some_iff.mp e
  cases u with
  | f d => cases d with
    | tup ds =>
      obtain ⟨d, e2, e3⟩ := Option.map_eq_some_iff.mp e
      subst e3
      obtain ⟨v, r, q⟩ := sa b F ρ σ X H _ S e1
      obtain ⟨p, vs, ex, hs, rs⟩ := r.rep
      subst ex
      obtain ⟨j, h1, h2⟩ := atI_map rs.len e2
      obtain ⟨w, h3, h4⟩ := rs.get h1
      exact ⟨w, ⟨[], rfl, h4⟩, fun G Q hG k' => q G _ hG (.inl (.inl (.inr ⟨p, vs, k, w, rfl, rfl, hG p vs hs, h2 w h3, k'⟩)))⟩
    | _ => cases e
  | _ => cases e
theorem for_core {W : Wd} {P : Sg} {E : L2.St → XK} {g : TG} {tb : TS} {fg : T → List T → Option (List T)} {fb : FS} (hg : Sgt W P g fg) (hb : Ss W P E tb fb) {b : Bs} {F1 : Hp} {ρ1 : List T} {σ : L2.St} {X : List Tm} {H1 : Hp} {J : It} {ds : List D} {o : Out} {D : Ends}
    (bok : Bok P b) (S1 : SR W b F1 ρ1 σ X H1) (wk : Wk W F1 J ds) (e : forF fg fb ds ρ1 = some o) (k : PostS W b F1 X D E o) :
    ∃ Wm : Nat → Nat → L2.St → Hp → Prop, (∃ m, Wm 0 m σ H1) ∧ ∀ i m σ H, Wm i m σ H →
      (J.stop i H ∧ D.nx σ H) ∨ (J.go i H ∧ ∃ N : L2.St → Hp → Prop, (∀ σ' H', N σ' H' → ∃ m', m' < m ∧ Wm (i + 1) m' σ' H') ∧ ∀ x H', J.yld i H x H' → g x σ H' fun σ2 H2 => tb { D with nx := N, ct := N, bk := D.nx } σ2 H2) := by
  refine ⟨fun i m σ' H' => m = ds.length - i ∧ i ≤ ds.length ∧ ∃ F' ρ', SR W b F' ρ' σ' X H' ∧ Inc F1 F' ∧ forF fg fb (ds.drop i) ρ' = some o, ⟨ds.length, by simp, Nat.zero_le _, F1, ρ1, S1, Inc.refl F1, e⟩, ?_⟩
  rintro i m σ2 H2 ⟨rfl, hi2, F2, ρ2, S2, i2, e2⟩
  by_cases hlt : i < ds.length
  · refine .inr ⟨wk.go i F2 H2 i2 S2.le hlt, fun σ' H' => i + 1 ≤ ds.length ∧ ∃ F' ρ', SR W b F' ρ' σ' X H' ∧ Inc F1 F' ∧ forF fg fb (ds.drop (i + 1)) ρ' = some o, fun σ' H' h => ⟨ds.length - (i + 1), by omega, rfl, h⟩, fun x H3 y => ?_⟩
    have hd : ds[i]? = some ds[i] := List.getElem?_eq_getElem hlt
    rw [List.drop_eq_getElem_cons hlt] at e2
    unfold forF at e2
    obtain ⟨ρ3, e3, e2⟩ := Option.bind_eq_some_iff.mp e2
    obtain ⟨o1, e4, e2⟩ := Option.bind_eq_some_iff.mp e2
    obtain ⟨F3, S3, i3⟩ := wk.item S2 i2 hd y
    refine hg b F3 ρ2 ρ3 σ2 X H3 _ x _ bok S3 e3 fun σ4 F4 H4 S4 i4 => ?_
    have i14 := i2.trans (i3.trans i4)
    refine hb b F4 ρ3 σ4 X H4 o1 _ bok S4 e4 ?_
    cases o1 with
    | nx ρ5 => exact fun σ' F' H' S' i' => ⟨hlt, F', ρ5, S', i14.trans i', e2⟩
    | ct ρ5 => exact fun σ' F' H' S' i' => ⟨hlt, F', ρ5, S', i14.trans i', e2⟩
    | bk ρ5 =>
      cases e2
      exact fun σ' F' H' S' i' => k σ' F' H' S' (i14.trans i')
    | rt t ρ5 =>
      cases e2
      exact fun v σ' F' H' S' i' => k v σ' F' H' S' (i14.trans i')
    | xc C ρ5 =>
      cases e2
      exact fun d σ' F' H' S' i' => k d σ' F' H' S' (i14.trans i')
  · have hi3 : i = ds.length := by omega
    subst hi3
    rw [List.drop_length] at e2
    cases e2
    exact .inl ⟨wk.stop F2 H2 i2 S2.le, k σ2 F2 H2 S2 i2⟩
def noX : Out → Option Out
  | .xc _ _ => none
  | o => some o
def sForK (pk : List T → Option T) (fg : T → List T → Option (List T)) (fb : FS) : FS := fun ρ => (pk ρ).bind fun t => match t with
  | .f (.dct ks _) => (forF fg fb (ks.map kD) ρ).bind noX
  | _ => none
theorem sm_forK {fg : T → List T → Option (List T)} {fb : FS} (hp : ∀ j, PassesOwn (model (c.X j).prog (c.X j).w) (c.X j).A (c.X j).env (c.X j).xe) (hi : Pk c e fa) (hg : Gt c tg fg) (hb : Sms c ss fb) (hs : ∀ j x, foldedSetIterable e (c.X j).env x = pure x := by intro _ _; rfl) : Sm c (.For tg e ss [] pos) (sForK fa fg fb) := by
  obtain ⟨te, p1, q1⟩ := hi
  obtain ⟨g, p2, q2⟩ := hg
  obtain ⟨tb, p3, q3⟩ := hb
  have pf : ∀ j, PS (c.X j) (.For tg e ss [] pos) (tFor (iKeys te) g tb) := fun j => ps_for (hp j) (c.calm j) (pi_keys (p1 j)) (p2 j) (p3 j) (hs j)
  refine ⟨fun D σ H => tLock (tFor (iKeys te) g tb) D σ H ∨ tFor (iKeys te) g tb D σ H, fun j => ⟨fun pins s σ H D I h => h.elim (fun h => (ps_lock (pf j)).run pins s σ H D I h) fun h => (pf j).run pins s σ H D I h⟩, ?_⟩
  intro b F ρ σ X H o D bok S eq k
  unfold sForK at eq
  obtain ⟨t, e1, eq⟩ := Option.bind_eq_some_iff.mp eq
  obtain ⟨ks, ds, rfl⟩ : ∃ ks ds, t = .f (.dct ks ds) := by
    cases t with
    | f d => cases d with
      | dct ks ds => exact ⟨ks, ds, rfl⟩
      | _ => cases eq
    | _ => cases eq
  obtain ⟨o', e2, e3⟩ := Option.bind_eq_some_iff.mp (show (forF fg fb (ks.map kD) ρ).bind noX = some o from eq)
  have ho : o' = o ∧ ∀ C ρ', o ≠ .xc C ρ' := by
    cases o' <;> first | (cases e3; exact ⟨rfl, fun _ _ z => nomatch z⟩) | cases e3
  obtain ⟨rfl, hx⟩ := ho
  obtain ⟨v, r, q⟩ := q1 b F ρ σ X H _ S e1
  obtain ⟨d, kvs, ex, hd, hk, rs⟩ := r.rep
  subst ex hk
  -- the loop, once the dict is locked in F
  have loop : ∀ (b' : Bs) (G J : Hp) (od : Obj) (D' : Ends), Bok c.P b' → SR c.W b' G ρ σ X J → G d = some (.frz od (.dK kvs)) → (∀ p vs, SqT c.W.K F p vs → SqT c.W.K J p vs) → PostS c.W b' G X D' c.E o' → tFor (iKeys te) g tb D' σ J := by
    intro b' G J od D' bok' S' hG hJ k'
    refine q J _ hJ ⟨d, od, rfl, .inl ⟨kvs, ?_, for_core q2 q3 bok' S' (wk_keys hG) e2 k'⟩⟩
    rcases S'.le d _ hG with z | ⟨_, _, z, _⟩
    · exact z
    · cases z
  rcases hd with hd | ⟨od, hd⟩
  · rcases S.le d _ hd with hH | ⟨od, _, hu, hH⟩
    · refine .inl ⟨d, .dK kvs, hH, trivial, fun od => ?_⟩
      have SL := S.lock (od := od) hd
      refine loop (b.lock d (.frz od (.dK kvs))) _ _ od _ bok SL upd_same (fun p vs h => ?_) ?_
      · refine h.imp (fun r => ?_) id
        exact (cv_lock (od := od) hH).rd p _ nf_t (Rd.le S.le r)
      · have fin : ∀ {F' : Hp} {ρ' : List T} {σ' : L2.St} {X' : List Tm} {H' : Hp}, SR c.W (b.lock d (.frz od (.dK kvs))) F' ρ' σ' X' H' → Inc (upd F d (.frz od (.dK kvs))) F' → H' d = some (.frz od (.dK kvs)) ∧ SR c.W b (upd F' d (.dK kvs)) ρ' σ' X' (upd H' d (.dK kvs)) ∧ Inc F (upd F' d (.dK kvs)) := fun S' i' => by
          obtain ⟨s1, s2, s3⟩ := SR.free S hd (J := upd _ d (.dK kvs)) (fun a h => upd_ne h) (by rw [upd_same, hH]) (.inl upd_same) S' i'
          exact ⟨s3, s1, s2⟩
        cases o' with
        | nx ρ' => exact fun σ' F' H' S' i' => have f := fin S' i'; ⟨f.1, k σ' _ _ f.2.1 f.2.2⟩
        | rt t ρ' => exact fun v σ' F' H' S' i' => have f := fin S' i'; ⟨f.1, k v σ' _ _ f.2.1 f.2.2⟩
        | bk ρ' => exact fun σ' F' H' S' i' => have f := fin S' i'; ⟨f.1, k σ' _ _ f.2.1 f.2.2⟩
        | ct ρ' => exact fun σ' F' H' S' i' => have f := fin S' i'; ⟨f.1, k σ' _ _ f.2.1 f.2.2⟩
        | xc C ρ' => exact absurd rfl (hx C ρ')
    · cases hu
      refine .inr ?_
      have SL := S.lock (od := od) hd
      have same : upd H d (.frz od (.dK kvs)) = H := by
        funext z
        by_cases h : z = d
        · subst h; rw [upd_same, hH]
        · rw [upd_ne h]
      rw [same] at SL
      refine loop (b.lock d (.frz od (.dK kvs))) _ _ od _ bok SL upd_same (fun p vs h => SqT.le S.le h) ?_
      have fin : ∀ {F' : Hp} {ρ' : List T} {σ' : L2.St} {X' : List Tm} {H' : Hp}, SR c.W (b.lock d (.frz od (.dK kvs))) F' ρ' σ' X' H' → Inc (upd F d (.frz od (.dK kvs))) F' → SR c.W b (upd F' d (.dK kvs)) ρ' σ' X' H' ∧ Inc F (upd F' d (.dK kvs)) := fun {F' ρ' σ' X' H'} S' i' => by
        have z : H' d = some (.frz od (.dK kvs)) := by
          rcases S'.le d _ (i' d _ upd_same) with z | ⟨_, _, z, _⟩
          · exact z
          · cases z
        obtain ⟨s1, s2, s3⟩ := SR.free S hd (J := H') (fun a h => rfl) (by rw [z, hH]) (.inr z) S' i'
        exact ⟨s1, s2⟩
      cases o' with
      | nx ρ' => exact fun σ' F' H' S' i' => have f := fin S' i'; k σ' _ _ f.1 f.2
      | rt t ρ' => exact fun v σ' F' H' S' i' => have f := fin S' i'; k v σ' _ _ f.1 f.2
      | bk ρ' => exact fun σ' F' H' S' i' => have f := fin S' i'; k σ' _ _ f.1 f.2
      | ct ρ' => exact fun σ' F' H' S' i' => have f := fin S' i'; k σ' _ _ f.1 f.2
      | xc C ρ' => exact absurd rfl (hx C ρ')
  · refine .inr (loop b F H od D bok S hd (fun p vs h => SqT.le S.le h) k)
end
end Z

namespace Z
open PySem PySem.Spec PyProof.Rows L2
/-! ### texts joined, dicts copied, things sorted, the greatest -/
def strsOf : List D → Option (List Str)
  | [] => some []
  | .str x :: ds => (strsOf ds).map fun xs => x :: xs
  | _ => none
theorem strsOf_v {W : Wd} {F : Hp} : ∀ {ds : List D} {vs : List V} {xs : List Str}, Reps W F ds vs → strsOf ds = some xs → vs = xs.map V.str
  | [], _, _, r, e => by
    cases e
    exact r
  | d :: ds, _, _, ⟨v, vr, e1, r1, r2⟩, e => by
    subst e1
    cases d with
    | str x =>
      obtain ⟨ys, e2, e3⟩ := Option.map_eq_some_iff.mp (show (strsOf ds).map _ = _ from e)
      subst e3
      rw [strsOf_v r2 e2]
      exact congrArg (· :: ys.map V.str) r1
    | _ => cases e
theorem strsOf_map : ∀ (xs : List Str), strsOf (xs.map .str) = some xs
  | [] => rfl
  | x :: xs => by
    show (strsOf (xs.map .str)).map _ = _
    rw [strsOf_map xs]
    rfl
def gJoin (a b : T) : Option T := a.s?.bind fun s => b.sq?.bind fun ds => (strsOf ds).bind fun ys => if (ys.map (·.length)).sum + ys.length * s.length ≤ 16777216 then some (.f (.str (Txt.join s ys))) else none
section
variable {c : Ctx} {a e : Expr} {fa fb : List T → Option T} {apos pos : Pos}
theorem ev_join (ha : Ev c a fa) (he : Ev c e fb) (hs : ∀ j, starEach [e] (c.X j).env = [(false, eval e (c.X j).env)] := by intro _; rfl) (hbase : ∀ j, attributeBase a "join" (c.X j).env (eval a (c.X j).env) = eval a (c.X j).env := by intro _; rfl) (hline : (apos.endLine == pos.line) = true := by rfl) :
    Ev c (.Call (.Attribute a "join" apos) [e] [] pos) (f2 gJoin fa fb) := by
  obtain ⟨ta, pa, sa⟩ := ha
  obtain ⟨tb, pb, sb⟩ := he
  refine ⟨tM1 (fun x xs H Q => ∃ a p, ∃ ys : List Str, x = .str a ∧ xs = [.ref p] ∧ (SqL c.W.K H p (ys.map V.str) ∨ SqT c.W.K H p (ys.map V.str)) ∧
      (ys.map (·.length)).sum + ys.length * a.length ≤ 16777216 ∧ Q (.str (Txt.join a ys)) H) ta tb, fun j => by have h := pe_join (pa j) (pb j) (hs j) (hbase j) hline; rw [c.hK j] at h; exact h, ?_⟩
  intro b F ρ σ X H τ Q S e k
  unfold f2 at e
  obtain ⟨t1, e1, e⟩ := Option.bind_eq_some_iff.mp e
  obtain ⟨t2, e2, e⟩ := Option.bind_eq_some_iff.mp e
  unfold gJoin at e
  obtain ⟨s, e3, e⟩ := Option.bind_eq_some_iff.mp e
  obtain ⟨ds, e4, e⟩ := Option.bind_eq_some_iff.mp e
  obtain ⟨ys, e5, e⟩ := Option.bind_eq_some_iff.mp e
  split at e
  · rename_i hz
    cases e
    refine sa b F ρ σ X H _ _ S e1 fun x F1 H1 S1 i1 s1 r1 => ?_
    have hx := r1.str e3
    subst hx
    refine ⟨⟨s, rfl⟩, sb b F1 ρ σ X H1 _ _ S1 e2 fun y F2 H2 S2 i2 s2 r2 => ?_⟩
    obtain ⟨p, vs, ex, hs, q⟩ := r2.sq e4 S2.le
    subst ex
    rw [strsOf_v q e5] at hs
    exact ⟨s, p, ys, rfl, rfl, hs, hz, (k.mono (i1.trans i2) (s1.trans s2)).d S2 rfl⟩
  · cases e
end
section
variable {W : Wd} {c : Ctx}
/-! dict(d) -/
def rDictD : List V → Hp → VK → Prop := fun xs H Q => ∃ (a : Addr) (kvs : List (Key × V)), xs = [.ref a] ∧ Rd H a (.dK kvs) ∧ ∀ p, H p = none → Q (.ref p) (upd H p (.dK kvs))
def gDictOf (ts : List T) : Option T := match ts with
  | [t] => t.dk?.map fun p => .f (.dct p.1 p.2)
  | _ => none
theorem sn_dict : Sn W rDictD gDictOf := by
  intro b F ρ σ X H ts τ xs Q S r e k
  match ts, e with
  | [t], e =>
    obtain ⟨x, rfl, r1⟩ := rv1 r
    obtain ⟨⟨ks, ds⟩, e2, e⟩ := Option.map_eq_some_iff.mp (show t.dk?.map _ = some τ from e)
    subst e
    obtain ⟨p, kvs, ex, hp, hk, r2⟩ := r1.dk e2 S.le
    subst ex
    refine ⟨p, kvs, rfl, hp, fun q hq => ?_⟩
    obtain ⟨S2, i2, s2⟩ := S.laid (o := .dK kvs) hq
    exact (k.mono i2 s2).d S2 ⟨q, kvs, rfl, .inl upd_same, hk, r2.inc i2⟩
theorem callDict (j : c.J) : CallR (c.X j) (.type "dict") rDictD := call_dictD
/-! sorted(a dict of texts), sorted(a list of ints) -/
def isort (ns : List Int) : List Int := ns.mergeSort fun a b => decide (a ≤ b)
def sle (a b : Str) : Bool := !ltCps b.cps.toList a.cps.toList
def ssort (xs : List Str) : List Str := xs.mergeSort sle
theorem isort_eq {ns ms : List Int} (h1 : ms.Perm ns) (h2 : ms.Pairwise (· ≤ ·)) : ms = isort ns := by
  have h3 : (isort ns).Pairwise (· ≤ ·) := by
    have := List.pairwise_mergeSort (le := fun a b : Int => decide (a ≤ b)) (fun a b c h1 h2 => by simp at *; omega) (fun a b => by simp; omega) ns
    exact this.imp fun h => of_decide_eq_true h
  exact (h1.trans (List.mergeSort_perm ns _).symm).eq_of_pairwise (fun x y _ _ h1 h2 => Int.le_antisymm h1 h2) h2 h3
theorem sle_iff {a b : Str} : sle a b = true ↔ a.cps.toList ≤ b.cps.toList := by
  unfold sle
  rw [ltCps_eq]
  simp
theorem sle_trans (a b c : Str) (h1 : sle a b = true) (h2 : sle b c = true) : sle a c = true := by
  rw [sle_iff] at *
  exact List.le_trans h1 h2
theorem sle_total (a b : Str) : (sle a b || sle b a) = true := by
  rw [Bool.or_eq_true, sle_iff, sle_iff]
  exact List.le_total _ _
theorem sle_anti {a b : Str} (h1 : sle a b = true) (h2 : sle b a = true) : a = b := by
  rw [sle_iff] at *
  have := List.le_antisymm h1 h2
  cases a with
  | mk x => cases b with
    | mk y => exact congrArg Str.mk (Array.toList_inj.mp this)
theorem rising_pw : ∀ (p : Str) (l : List Str), risingS p l = true → (p :: l).Pairwise fun a b => sle a b = true
  | p, [], _ => by simp
  | p, x :: r, h => by
    have h' : (!ltCps x.cps.toList p.cps.toList && risingS x r) = true := h
    obtain ⟨h1, h2⟩ := Bool.and_eq_true_iff.mp h'
    have ih := rising_pw x r h2
    refine List.pairwise_cons.mpr ⟨fun y hy => ?_, ih⟩
    rcases List.mem_cons.mp hy with z | z
    · subst z; exact h1
    · exact sle_trans _ _ _ h1 (List.rel_of_pairwise_cons ih z)
theorem sorted_pw : ∀ (l : List Str), sortedS l = true → l.Pairwise fun a b => sle a b = true
  | [], _ => .nil
  | x :: r, h => rising_pw x r h
theorem ssort_eq {xs ys : List Str} (h1 : ys.Perm xs) (h2 : sortedS ys = true) : ys = ssort xs := by
  have h3 := List.pairwise_mergeSort (le := sle) sle_trans sle_total xs
  exact (h1.trans (List.mergeSort_perm xs _).symm).eq_of_pairwise (fun x y _ _ h1 h2 => sle_anti h1 h2) (sorted_pw ys h2) h3
def skeys : List Key → Option (List Str)
  | [] => some []
  | .inr x :: ks => (skeys ks).map fun xs => x :: xs
  | _ => none
theorem skeys_eq : ∀ {ks : List Key} {xs : List Str}, skeys ks = some xs → ks = xs.map Sum.inr
  | [], _, e => by cases e; rfl
  | .inr x :: ks, _, e => by
    obtain ⟨ys, e2, e3⟩ := Option.map_eq_some_iff.mp (show (skeys ks).map _ = _ from e)
    subst e3
    rw [skeys_eq e2]
    rfl
  | .inl _ :: _, _, e => by cases e
theorem skeys_map : ∀ (xs : List Str), skeys (xs.map Sum.inr) = some xs
  | [] => rfl
  | x :: xs => by
    show (skeys (xs.map Sum.inr)).map _ = _
    rw [skeys_map xs]
    rfl
def rSortD : List V → Hp → VK → Prop := fun xs H Q => ∃ (a : Addr) (kvs : List (Key × V)) (ks : List Str), xs = [.ref a] ∧ Rd H a (.dK kvs) ∧ kvs.map (·.1) = ks.map Sum.inr ∧ ks.length < 64 ∧
    ∀ ys p, ys.Perm ks → sortedS ys = true → H p = none → Q (.ref p) (upd H p (.lst (ys.map V.str)))
def gSortD (t : T) : Option T := t.dk?.bind fun p => (skeys p.1).bind fun ks => if ks.length < 64 then some (.f (.lst ((ssort ks).map .str))) else none
def gSortI (t : T) : Option T := t.ls?.bind fun ds => (intsOf ds).map fun ns => .f (.lst ((isort ns).map .int))
def gSortS (t : T) : Option T := t.ls?.bind fun ds => (strsOf ds).bind fun xs => if xs.length < 64 then some (.f (.lst ((ssort xs).map .str))) else none
def gSorted1 (t : T) : Option T := match gSortI t with
  | some x => some x
  | none => match gSortD t with
    | some x => some x
    | none => gSortS t
def gSorted (ts : List T) : Option T := match ts with
  | [t] => gSorted1 t
  | _ => none
def rSortX (K : PySem.W.Frag) : List V → Hp → VK → Prop := fun xs H Q => rSortedI K xs H Q ∨ rSortD xs H Q ∨ rSortedS K xs H Q
theorem sn_sorted : Sn W (rSortX W.K) gSorted := by
  intro b F ρ σ X H ts τ xs Q S r e k
  match ts, e with
  | [t], e =>
    obtain ⟨x, rfl, r1⟩ := rv1 r
    have e' : gSorted1 t = some τ := e
    clear e
    unfold gSorted1 at e'
    cases hI : gSortI t with
    | some z =>
      rw [hI] at e'
      cases e'
      obtain ⟨ds, e1, e2⟩ := Option.bind_eq_some_iff.mp hI
      obtain ⟨ns, e3, e4⟩ := Option.map_eq_some_iff.mp e2
      subst e4
      obtain ⟨p, vs, ex, hs, q⟩ := r1.ls e1 S.le
      subst ex
      rw [intsOf_eq e3] at q
      have hv : vs = ns.map V.int := Reps.ints q
      subst hv
      refine .inl ⟨p, ns, rfl, hs, fun ns' q' h1 h2 hq => ?_⟩
      rw [isort_eq h1 h2]
      exact k.lst S (Reps.of_ints _) q' hq
    | none =>
      rw [hI] at e'
      cases hD : gSortD t with
      | some z =>
        rw [hD] at e'
        cases e'
        obtain ⟨⟨ks, ds⟩, e1, e2⟩ := Option.bind_eq_some_iff.mp hD
        obtain ⟨xs, e3, e4⟩ := Option.bind_eq_some_iff.mp e2
        split at e4
        · rename_i hz
          cases e4
          obtain ⟨p, kvs, ex, hs, hk, q⟩ := r1.dk e1 S.le
          subst ex
          refine .inr (.inl ⟨p, kvs, xs, rfl, hs, hk.trans (skeys_eq e3), hz, fun ys q' h1 h2 hq => ?_⟩)
          rw [ssort_eq h1 h2]
          exact k.lst S (Reps.of_strs _) q' hq
        · cases e4
      | none =>
        rw [hD] at e'
        obtain ⟨ds, e1, e2⟩ := Option.bind_eq_some_iff.mp (show t.ls?.bind _ = some τ from e')
        obtain ⟨xs, e3, e4⟩ := Option.bind_eq_some_iff.mp e2
        split at e4
        · rename_i hz
          cases e4
          obtain ⟨p, vs, ex, hs, q⟩ := r1.ls e1 S.le
          subst ex
          rw [strsOf_v q e3] at hs
          refine .inr (.inr ⟨p, xs, rfl, hs, hz, fun ys q' h1 h2 hq => ?_⟩)
          rw [ssort_eq h1 h2]
          exact k.lst S (Reps.of_strs _) q' hq
        · cases e4
theorem callSorted (j : c.J) : CallR (c.X j) (.builtin "sorted") (rSortX c.W.K) := by
  have h := CallR_or (cr_sortedI (X := c.X j)) (CallR_or (call_sortedD (c.calm j)) (cr_sortedS (X := c.X j)))
  rw [c.hK j] at h
  exact h
/-! max(a list of ints) -/
def imax : List Int → Option Int
  | [] => none
  | n :: ns => some (ns.foldl (fun a b => max a b) n)
theorem foldl_max : ∀ (ns : List Int) (n : Int), (ns.foldl (fun a b => max a b) n ∈ n :: ns) ∧ ∀ y ∈ n :: ns, y ≤ ns.foldl (fun a b => max a b) n
  | [], n => ⟨by simp, fun y hy => by simp at hy; subst hy; exact Int.le_refl _⟩
  | m :: ns, n => by
    obtain ⟨h1, h2⟩ := foldl_max ns (max n m)
    refine ⟨?_, fun y hy => ?_⟩
    · rcases List.mem_cons.mp h1 with z | z
      · rw [List.foldl_cons, z]
        rcases Int.le_total n m with q | q
        · rw [Int.max_eq_right q]; simp
        · rw [Int.max_eq_left q]; simp
      · exact List.mem_cons_of_mem _ (List.mem_cons_of_mem _ z)
    · rw [List.foldl_cons]
      have h3 := h2 (max n m) List.mem_cons_self
      rcases List.mem_cons.mp hy with z | z
      · subst z; omega
      · rcases List.mem_cons.mp z with z | z
        · subst z; omega
        · exact h2 y (List.mem_cons_of_mem _ z)
theorem imax_eq {ns : List Int} {m k : Int} (h1 : m ∈ ns) (h2 : ∀ y ∈ ns, y ≤ m) (h3 : imax ns = some k) : m = k := by
  cases ns with
  | nil => cases h3
  | cons n ns =>
    cases h3
    obtain ⟨h4, h5⟩ := foldl_max ns n
    exact Int.le_antisymm (h5 m h1) (h2 _ h4)
def gMaxL (ts : List T) : Option T := match ts with
  | [t] => t.ls?.bind fun ds => (intsOf ds).bind fun ns => (imax ns).map fun m => .f (.int m)
  | _ => none
theorem sn_maxL : Sn W (rMax W.K) gMaxL := by
  intro b F ρ σ X H ts τ xs Q S r e k
  match ts, e with
  | [t], e =>
    obtain ⟨x, rfl, r1⟩ := rv1 r
    obtain ⟨ds, e1, e⟩ := Option.bind_eq_some_iff.mp (show t.ls?.bind _ = some τ from e)
    obtain ⟨ns, e2, e⟩ := Option.bind_eq_some_iff.mp e
    obtain ⟨m, e3, e⟩ := Option.map_eq_some_iff.mp e
    subst e
    obtain ⟨p, vs, ex, hs, q⟩ := r1.ls e1 S.le
    subst ex
    rw [intsOf_eq e2] at q
    have hv : vs = ns.map V.int := Reps.ints q
    subst hv
    refine ⟨p, ns, rfl, hs, ?_, fun m' h1 h2 => ?_⟩
    · cases ns with
      | nil => cases e3
      | cons n ns => simp
    · rw [imax_eq h1 h2 e3]
      exact k.d S rfl
theorem callMaxL (j : c.J) : CallR (c.X j) (.builtin "max") (rMax c.W.K) := by have h := cr_max (c.calm j); rw [c.hK j] at h; exact h
end
end Z


namespace Z
open PySem PySem.Spec PyProof.Rows L2
/-! ### a frame that begins now -/
section
variable {W : Wd} {b : Bs} {F H : Hp} {ρ : List T} {σ : L2.St} {X : List Tm}
theorem SR.rebase (S : SR W b F ρ σ X H) (hm : 0 < b.As.length) : ∃ b2 : Bs, b2.As.length = b.As.length ∧ b2.io = b.io ∧ SR W b2 F ρ σ X H ∧
    ∀ F' ρ' X' H', SR W b2 F' ρ' σ X' H' → Inc F F' → SR W b F' ρ' σ X' H' ∧
      ∀ (i C : Nat) (ns : List Str) (ts : List T) (a : Addr), ρ[i]? = some (T.o C ns ts) → σ[i]? = some (some (V.ref a)) → ∃ dx kvs kvs', H a = some (.ins (W.cl C) dx kvs) ∧ H' a = some (.ins (W.cl C) dx kvs') ∧ ∀ v, kvs.lookup (Str.ofString "endings") = some v → kvs'.lookup (Str.ofString "endings") = some v := by
  obtain ⟨A0, As', hA⟩ : ∃ A0 As', b.As = A0 :: As' := by
    cases h : b.As with
    | nil => rw [h] at hm; cases hm
    | cons a l => exact ⟨a, l, rfl⟩
  obtain ⟨le, f0, fn, kept, stab, pin, fps, xps, s1, s2, ⟨nd, ow⟩, lc1, lc2⟩ := S
  have lX : X.length = xps.length := by have := RelTs.lenA s2; simpa using this.2
  have mine : ∀ a ∈ fps.flatten ++ xps.flatten, b.H0 a = none ∨ a ∈ b.A := fun a ha => by
    rcases List.mem_append.mp ha with z | z
    · exact LocS.old lc1 z
    · exact LocX.old lX lc2 z
  have bA : ∀ a, a ∈ b.A ↔ a ∈ A0 ∨ a ∈ As'.flatten := fun a => by
    show a ∈ b.As.flatten ↔ _
    rw [hA, List.flatten_cons, List.mem_append]
  let b2 : Bs := ⟨H, F, (fps.flatten ++ xps.flatten) :: As', b.io⟩
  have b2A : ∀ a, a ∈ b2.A ↔ a ∈ fps.flatten ++ xps.flatten ∨ a ∈ As'.flatten := fun a => by
    show a ∈ ((fps.flatten ++ xps.flatten) :: As').flatten ↔ _
    rw [List.flatten_cons, List.mem_append]
  have live : ∀ a, H a = none → b.H0 a = none := fun a h => by
    cases e : b.H0 a with
    | none => rfl
    | some o =>
      by_cases q : a ∈ b.A
      · obtain ⟨u, h1, _⟩ := stab a o e q
        rw [h] at h1; cases h1
      · rw [kept a o e q] at h; cases h
  have conv : ∀ a, H a = none ∨ a ∈ b2.A → b.H0 a = none ∨ a ∈ b.A := fun a h => by
    rcases h with h | h
    · exact .inl (live a h)
    · rcases (b2A a).mp h with h | h
      · exact mine a h
      · exact .inr ((bA a).mpr (.inr h))
  refine ⟨b2, by rw [hA]; rfl, rfl, ⟨le, Inc.refl F, fun a o e => .inl e, fun a o e _ => e, fun a o e _ => ⟨o, e, Stb.refl o⟩, pin, fps, xps, s1, s2, ⟨nd, ow⟩, fun i f hf a ha => .inr ((b2A a).mpr (.inl (List.mem_append_left _ (List.mem_flatten.mpr ⟨f, List.mem_of_getElem? hf, ha⟩)))), LocX.any fun a ha => .inr ((b2A a).mpr (.inl (List.mem_append_right _ ha)))⟩, ?_⟩
  intro F' ρ' X' H' S' inc
  obtain ⟨le', f0', fn', kept', stab', pin', fps', xps', s1', s2', ow', lc1', lc2'⟩ := S'
  have lX' : X'.length = xps'.length := by have := RelTs.lenA s2'; simpa using this.2
  refine ⟨⟨le', f0.trans inc, fun a o e => ?_, fun a o e na => ?_, fun a o e ha => ?_, pin', fps', xps', s1', s2', ow', fun i f hf a ha => conv a (lc1' i f hf a ha), LocX.any fun a ha => conv a (LocX.old lX' lc2' ha)⟩, ?_⟩
  · rcases fn' a o e with z | z
    · exact fn a o z
    · exact .inr (conv a z)
  · have h1 := kept a o e na
    refine kept' a o h1 fun z => ?_
    rcases conv a (.inr z) with q | q
    · rw [q] at e; cases e
    · exact na q
  · obtain ⟨u, h1, h2⟩ := stab a o e ha
    by_cases z : a ∈ b2.A
    · obtain ⟨u', h3, h4⟩ := stab' a u h1 z
      exact ⟨u', h3, h2.trans h4⟩
    · exact ⟨u, kept' a u h1 z, h2⟩
  · intro i C ns ts a e1 e2
    obtain ⟨s, f, g1, g2, r⟩ := s1.get e1
    rw [e2] at g1
    cases g1
    obtain ⟨p, dx, kvs, fs, ep, ef, hp, hk, rs⟩ := r
    cases ep
    have ha : a ∈ b2.A := (b2A a).mpr (.inl (List.mem_append_left _ (List.mem_flatten.mpr ⟨f, List.mem_of_getElem? g2, by rw [ef]; exact List.mem_cons_self⟩)))
    obtain ⟨u, h1, h2⟩ := stab' a _ hp ha
    obtain ⟨kvs', h3, h4⟩ := h2 _ _ _ rfl
    subst h3
    exact ⟨dx, kvs, kvs', hp, h1, h4⟩
end
/-! ### o[k] = e, k with an effect, o an object's list that stays -/
def isEnd (π : List Sel) : Option Unit := match π with
  | [.at x] => if x = Str.ofString "endings" then some () else none
  | _ => none
def kSetE (i : Nat) (π : List Sel) (d : D) (r : Re) : Option Out := match r with
  | .ok t ρ1 => t.d?.bind fun q => (mutF i π (setT q d) ρ1).map .nx
  | .xc C ρ1 => some (.xc C ρ1)
def isObj : T → Bool
  | .o _ _ _ => true
  | _ => false
def sSetIxE (i : Nat) (fp : List T → Option (List Sel)) (fk : List T → Option Re) (fe : List T → Option T) : FS := fun ρ => (fe ρ).bind fun x => x.d?.bind fun d => (fp ρ).bind fun π => (isEnd π).bind fun _ => (ρ[i]?).bind fun t => (t.getP π).bind fun u => if isObj t = true ∧ owned u = true then (fk ρ).bind (kSetE i π d) else none
section
variable {c : Ctx} {e ek o : Expr} {fk : List T → Option Re} {fe : List T → Option T} {fp : List T → Option (List Sel)} {i : Nat} {pos pos' : Pos}
theorem sm_setIxE (hm : Nat.blt 0 c.P.m = true) (ho : Lo c o i fp) (hk : Eo c ek fk) (he : Ev c e fe)
    (hsw : ∀ j, swapsWithSole [.Subscript o ek pos'] e pos.line (c.X j).env = pure false := by intro _; rfl) (hw : ∀ j, swappedStores [.Subscript o ek pos'] e (c.X j).env = pure none := by intro _; rfl)
    (h1 : ∀ j, (assignEach [.Subscript o ek pos'] (c.X j).env).map (·.2) = [assign (.Subscript o ek pos') (c.X j).env] := by intro _; rfl)
    (ha : ∀ j v, assign (.Subscript o ek pos') (c.X j).env v = (do
      let ov ← holding [v] (eval o (c.X j).env)
      let iv ← holding [v, ov] (eval ek (c.X j).env)
      standAt pos'
      holding [v, ov, iv] (setItem ov iv v)
      release [v, ov, iv] []) := by intro _ _; rfl) : Sm c (.Assign [.Subscript o ek pos'] e pos) (sSetIxE i fp fk fe) := by
  obtain ⟨to, po, so⟩ := ho
  obtain ⟨te, pe, se⟩ := he
  obtain ⟨tk, pk, sk⟩ := hk
  refine ⟨tAsg te (L2.gSub to tk rSetU), fun j => ps_asg (pe j) (pg_sub (po j) (pk j) (set_U (c.hu1 j)) (ha j)) (hsw j) (hw j) (h1 j), ?_⟩
  intro b F ρ σ X H out D hb S eq k
  unfold sSetIxE at eq
  obtain ⟨x, e2, eq⟩ := Option.bind_eq_some_iff.mp eq
  obtain ⟨d, e3, eq⟩ := Option.bind_eq_some_iff.mp eq
  obtain ⟨π, e1, eq⟩ := Option.bind_eq_some_iff.mp eq
  obtain ⟨_, e4, eq⟩ := Option.bind_eq_some_iff.mp eq
  obtain ⟨t, e5, eq⟩ := Option.bind_eq_some_iff.mp eq
  obtain ⟨u, e6, eq⟩ := Option.bind_eq_some_iff.mp eq
  split at eq
  · rename_i hou
    obtain ⟨hobj, hown⟩ := hou
    obtain ⟨r, e7, e8⟩ := Option.bind_eq_some_iff.mp eq
    cases d_some e3
    have hπ : π = [.at (Str.ofString "endings")] := by
      unfold isEnd at e4
      split at e4
      · split at e4
        · rename_i h; rw [h]
        · cases e4
      · cases e4
    subst hπ
    refine se b F ρ σ X H _ _ S e2 fun y F1 H1 S1 i1 s1 r1 => ?_
    refine so b F1 ρ σ X H1 _ t u _ S1 e1 e5 e6 hown fun p v F2 H2 S2 i2 s2 hv hat => ?_
    have hm2 : 0 < b.As.length := by rw [hb.1]; exact Nat.le_of_ble_eq_true hm
    obtain ⟨b2, q1, q2, S3, q3⟩ := S2.rebase hm2
    obtain ⟨C, ns, ts, rfl⟩ : ∃ C ns ts, t = .o C ns ts := by
      cases t with
      | o C ns ts => exact ⟨C, ns, ts, rfl⟩
      | _ => cases hobj
    refine sk b2 F2 ρ σ X H2 r _ ⟨by rw [q1]; exact hb.1, by rw [q2]; exact hb.2⟩ S3 e7 ?_
    cases r with
    | xc C' ρ1 =>
      cases e8
      intro d' F' H' S' i'
      exact k d' σ F' H' (q3 F' ρ1 X H' S' i').1 ((i1.trans i2).trans i')
    | ok τ ρ1 =>
      obtain ⟨q, e9, e10⟩ := Option.bind_eq_some_iff.mp (show (τ.d?.bind fun q => (mutF i [.at (Str.ofString "endings")] (setT q d) ρ1).map Out.nx) = some out from e8)
      obtain ⟨ρ', e11, e12⟩ := Option.map_eq_some_iff.mp e10
      subst e12
      cases d_some e9
      intro w F' H' S' i'
      obtain ⟨a, C2, dx2, kvs2, w2, hva, ha1, ha2, ha3⟩ := hat
      obtain ⟨S4, q5⟩ := q3 F' ρ1 _ H' S' i'
      obtain ⟨dx, kvs, kvs', g1, g2, g3⟩ := q5 i C ns ts a e5 (by rw [hv, hva])
      rw [ha1] at g1
      cases g1
      have hat' : AtV H' v [.at (Str.ofString "endings")] p := ⟨a, _, dx2, kvs', w2, hva, g2, g3 _ ha2, ha3⟩
      exact S4.drop.setIx e11 hv hat' (Rep.inc i' (r1.ext i2 s2).rep) S4.top fun H5 S5 => k σ F' H5 S5 ((i1.trans i2).trans i')
  · cases eq
end
/-! ### an operator behind an effect; a thing made of nothing; a number of the module -/
def fE2 (g : T → T → Option T) (fo : List T → Option Re) (fb : List T → Option T) : List T → Option Re := fun ρ => (fo ρ).bind fun r => match r with
  | .ok t ρ1 => t.d?.bind fun d => (fb ρ1).bind fun y => (g (.f d) y).bind fun z => z.d?.map fun dz => .ok (.f dz) ρ1
  | .xc C ρ1 => some (.xc C ρ1)
theorem so_2l {W : Wd} {P : Sg} {E : L2.St → XK} {r2 : R2} {g : T → T → Option T} {ta tb : TE} {fo : List T → Option Re} {fb : List T → Option T} (hr : S2 W r2 g) (ha : So W P E ta fo) (hb : Sv W tb fb) : So W P E (tOp r2 ta tb) (fE2 g fo fb) := by
  intro b F ρ σ X H r Q hB S e p
  unfold fE2 at e
  obtain ⟨r1, e1, e2⟩ := Option.bind_eq_some_iff.mp e
  refine ha b F ρ σ X H r1 _ hB S e1 ?_
  cases r1 with
  | xc C ρ1 =>
    cases e2
    exact p
  | ok t ρ1 =>
    obtain ⟨d, e3, e2⟩ := Option.bind_eq_some_iff.mp (show (t.d?.bind fun d => (fb ρ1).bind fun y => (g (.f d) y).bind fun z => z.d?.map fun dz => Re.ok (.f dz) ρ1) = some r from e2)
    obtain ⟨y, e4, e2⟩ := Option.bind_eq_some_iff.mp e2
    obtain ⟨z, e5, e2⟩ := Option.bind_eq_some_iff.mp e2
    obtain ⟨dz, e6, e7⟩ := Option.map_eq_some_iff.mp e2
    subst e7
    cases d_some e3
    cases d_some e6
    intro v F1 H1 S1 i1
    have rt := S1.top
    refine hb b F1 ρ1 σ X H1 _ _ S1.drop e4 fun w F2 H2 S2 i2 s2 rw2 => ?_
    exact hr b F2 ρ1 σ X H2 (.f d) _ _ v w Q S2 ⟨[], rfl, Rep.inc i2 rt⟩ rw2 e5 fun v' F' H' S' i' s' r' => p v' F' H' (S'.push r'.rep) (i1.trans (i2.trans i'))
theorem eo_op {c : Ctx} {a e' : Expr} {fo : List T → Option Re} {fb : List T → Option T} {pos : Pos} {op : Operator} {rd : R2} {g : T → T → Option T} (hop : ∀ j, OpR (c.X j) (binaryOp op) rd) (hr : S2 c.W rd g) (ha : Eo c a fo) (hb : Ev c e' fb) : Eo c (.BinOp a op e' pos) (fE2 g fo fb) := by
  obtain ⟨ta, pa, sa⟩ := ha
  obtain ⟨tb, pb, sb⟩ := hb
  exact ⟨tOp rd ta tb, fun j => pe_op (hop j) (pa j) (pb j), so_2l hr sa sb⟩
theorem eo_sub {c : Ctx} {a e' : Expr} {fo : List T → Option Re} {fb : List T → Option T} {pos : Pos} (ha : Eo c a fo) (hb : Ev c e' fb) : Eo c (.BinOp a .Sub e' pos) (fE2 Z.gSub fo fb) := eo_op (fun _ => op_sub) s2_sub ha hb
theorem eo_add {c : Ctx} {a e' : Expr} {fo : List T → Option Re} {fb : List T → Option T} {pos : Pos} (ha : Eo c a fo) (hb : Ev c e' fb) : Eo c (.BinOp a .Add e' pos) (fE2 gAdd fo fb) := eo_op (fun j => by have h := op_addU (X := c.X j); rw [c.hK j] at h; exact h) s2_add ha hb
section
variable {c : Ctx} {x : Str} {p pos : Pos} {io : List Nat} {G : List T → Option Re} {k C : Nat} {CX : CXT}
theorem eo_make0 {E : XK} (M : ∀ j, ClM (c.X j).prog (c.X j).w c.W (c.X j).mg (c.X j).base CX k x C io G) (hk : k + 1 ≤ c.k) (hg : ∀ j, Gl (c.X j) x) (hx : ∀ j, Passes CX (c.X j) E) (hdb : (x == ("__debug__" : Str)) = false := by decide) : Eo c (.Call (.Name x p) [] [] pos) (fMake C io G aNil) := by
  refine ⟨tMake (c.W.cl C) (spF c.W io G) [] E tNil, fun j => ?_, so_make ?_⟩
  · obtain ⟨f, fd, ps, F, hm, hM, hb⟩ := M j
    have hKj := c.hK j
    exact pe_make0 (by rw [hKj]; exact hM) (by rw [hKj]; exact F) ((c.room j).mono hk) (hg j) hm (by rw [hKj]; exact hb) .nil (hx j) hdb
  · intro b F ρ σ X H τs Q S e k
    cases e
    exact k [] F H S (Inc.refl F) (Same.refl H) RelVs.nil
theorem ev_gc {x : Str} {i : Int} (hg : ∀ j, Gl (c.X j) x) (h : ∀ j, ∃ u, (c.X j).mg x = some u ∧ L2.RelV (.int i) u) (hd : (x == ("__debug__" : Str)) = false := by decide) : Ev c (.Name x pos) (fC (.int i)) :=
  ⟨_, fun j => pe_glob (hg j) (h j).choose_spec.1 (h j).choose_spec.2 hd, sv_C fun _ => rfl⟩
end
end Z

namespace Z
open PySem PySem.Spec PyProof.Rows L2
/-! ### two parameters, one thing -/
def AlOk (io : List Nat) (al : List (Nat × Nat)) (vs : List V) : Prop := ∀ q ∈ al, q.1 ∈ io ∧ q.2 ∈ io ∧ ∃ v, vs[q.1]? = some v ∧ vs[q.2]? = some v
def spFA (W : Wd) (io : List Nat) (al : List (Nat × Nat)) (G : List T → Option Re) : Sp := fun vs H Q E => AlOk io al vs ∧ spF W io G vs H Q E
section
variable {P : Program} {w : World} {W : Wd} {mg : Str → Option Value} {base : Heap}
theorem fnZA {x qual : Str} {st : Stmt} {f : Addr} {fd : FuncData} {N ps : List Str} {k : Nat} {io : List Nat} {al : List (Nat × Nat)} {fb : FS} (F : Fun W.K x qual st f fd) (S : FnScope N ps (defScope st)) (hN : ps.length ≤ N.length) (hio : ∀ i ∈ io, i < ps.length)
    (body : ∀ (cdv : Value) (A : Around) (outer : List Env) (s : Shared) (H : Hp) (E : XK) (hr : Room k (A.deeper (envOfC qual (defScope st) s.heap.objs.size f cdv))),
      Sms (ctx0 (P := P) (w := w) W (mg := mg) (base := base) S.nd (m := ps.length) (io := io) (al := al) (outer := outer) (H := H) (E := E) hr) (defBody st) fb) :
    FnOk P w W.K mg base CX0 (k + 1) f fd ps (spFA W io al (runF ps.length N.length io fb)) := by
  have len : ∀ vs H Q E, spFA W io al (runF ps.length N.length io fb) vs H Q E → vs.length = ps.length := by
    rintro vs H Q E ⟨_, F, ts, fps, r, _, rel, _, _, e, _⟩
    unfold runF at e
    split at e
    · rename_i hl
      have := RelTs.lenA rel
      omega
    · cases e
  refine F.ok S len fun cdv A outer s H vs Q E hr h => ?_
  obtain ⟨t, p, q⟩ := body cdv A outer s H E hr
  exact ⟨t, p (), spF_end h.1 rfl hN hio (len _ _ _ _ h) h.2 q⟩
structure ClA (P : Program) (w : World) (W : Wd) (mg : Str → Option Value) (base : Heap) (CX : CXT) (k : Nat) (x : Str) (io : List Nat) (al : List (Nat × Nat)) (G : List T → Option Re) : Prop where
  ex : ∃ f fd ps, FnOk P w W.K mg base CX k f fd ps (spFA W io al G) ∧ mg x = some (.ref f) ∧ PySem.W.keepIn W.K (.ref f) = true ∧ Binds W.K fd ps []
theorem ClA.mk' {CX : CXT} {k : Nat} {x : Str} {io : List Nat} {al : List (Nat × Nat)} {G : List T → Option Re} {f : Addr} {fd : FuncData} {ps : List Str} (h : FnOk P w W.K mg base CX k f fd ps (spFA W io al G)) (hm : mg x = some (.ref f)) (hk : PySem.W.keepIn W.K (.ref f) = true) (hb : Binds W.K fd ps []) : ClA P w W mg base CX k x io al G := ⟨f, fd, ps, h, hm, hk, hb⟩
end
def Ar.sl : Ar → Option Nat
  | .v _ => none
  | .s j => some j
  | .a j => some j
def sameS (as : List Ar) (i j : Nat) : Bool := match as[i]?, as[j]? with
  | some x, some y => match x.sl, y.sl with
    | some k, some l => k == l
    | _, _ => false
  | _, _ => false
def alR (io : List Nat) (al : List (Nat × Nat)) : Rs → Bool
  | .ok as _ => al.all fun q => io.contains q.1 && io.contains q.2 && sameS as q.1 q.2
  | .xc _ _ => true
theorem Args.at' {σ : L2.St} : ∀ {as : List Ar} {vs : List V} {i j : Nat} {x : Ar}, Args σ as vs → as[i]? = some x → x.sl = some j → ∃ v, vs[i]? = some v ∧ σ[j]? = some (some v)
  | [], _, _, _, _, _, e, _ => by simp at e
  | .v t :: r, _, 0, _, _, _, e, h => by cases e; cases h
  | .s k :: r, _, 0, _, _, ⟨v, vr, e1, g1, _⟩, e, h => by cases e; cases h; exact ⟨v, by rw [e1]; rfl, g1⟩
  | .a k :: r, _, 0, _, _, ⟨v, vr, e1, g1, _⟩, e, h => by cases e; cases h; exact ⟨v, by rw [e1]; rfl, g1⟩
  | .v t :: r, _, i + 1, _, _, ⟨v, vr, e1, g⟩, e, h => by
    obtain ⟨u, q1, q2⟩ := Args.at' (i := i) g (by simpa using e) h
    exact ⟨u, by rw [e1]; simpa using q1, q2⟩
  | .s k :: r, _, i + 1, _, _, ⟨v, vr, e1, _, g⟩, e, h => by
    obtain ⟨u, q1, q2⟩ := Args.at' (i := i) g (by simpa using e) h
    exact ⟨u, by rw [e1]; simpa using q1, q2⟩
  | .a k :: r, _, i + 1, _, _, ⟨v, vr, e1, _, g⟩, e, h => by
    obtain ⟨u, q1, q2⟩ := Args.at' (i := i) g (by simpa using e) h
    exact ⟨u, by rw [e1]; simpa using q1, q2⟩
theorem al_ok {σ : L2.St} {as : List Ar} {ρ : List T} {vs : List V} {io : List Nat} {al : List (Nat × Nat)} (h : alR io al (.ok as ρ) = true) (g : Args σ as vs) : AlOk io al vs := by
  intro q hq
  have h1 := List.all_eq_true.mp h q hq
  obtain ⟨h2, h3⟩ := Bool.and_eq_true_iff.mp h1
  obtain ⟨h4, h5⟩ := Bool.and_eq_true_iff.mp h2
  refine ⟨List.contains_iff_mem.mp h4, List.contains_iff_mem.mp h5, ?_⟩
  unfold sameS at h3
  split at h3
  · rename_i x y ex ey
    split at h3
    · rename_i k l hk hl
      have hkl : k = l := by simpa using h3
      subst hkl
      obtain ⟨v, a1, a2⟩ := g.at' ex hk
      obtain ⟨u, b1, b2⟩ := g.at' ey hl
      rw [a2] at b2
      cases b2
      exact ⟨v, a1, b1⟩
    · cases h3
  · cases h3
def fCallA (al : List (Nat × Nat)) (io : List Nat) (G : List T → Option Re) (fs : List T → Option Rs) : List T → Option Re := fun ρ => (fs ρ).bind fun r => if alR io al r = true then fCall io G (fun _ => some r) ρ else none
theorem so_callA {W : Wd} {P : Sg} {E : L2.St → XK} {E' : XK} {t : TA} {io : List Nat} {al : List (Nat × Nat)} {G : List T → Option Re} {fs : List T → Option Rs} (hE : ∀ σ, E σ = E') (h : Sa W P E t fs) : So W P E (tCall (spFA W io al G) [] E' t) (fCallA al io G fs) := by
  intro b F ρ σ X H r Q hb S e k
  unfold fCallA at e
  obtain ⟨r1, e1, e⟩ := Option.bind_eq_some_iff.mp e
  split at e
  · rename_i hal
    unfold fCall at e
    rw [Option.bind_some] at e
    refine h b F ρ σ X H r1 _ hb S e1 ?_
    cases r1 with
    | xc C ρ1 =>
      cases e
      exact k
    | ok as ρ1 =>
      intro vs F1 H1 S1 g1 i1
      obtain ⟨⟨ts, ρ2⟩, e2, e⟩ := Option.bind_eq_some_iff.mp e
      obtain ⟨S2, h1, h2⟩ := take_ok S1 g1 e2
      split at e
      · rename_i hio
        obtain ⟨r2, e3, e⟩ := Option.bind_eq_some_iff.mp e
        obtain ⟨xa, q1, q2, q3⟩ := S2.call
        rw [h1, h2] at q1
        rw [h2] at q3
        rw [List.append_nil]
        refine ⟨al_ok hal g1, F1, ts, xa, r2, S2.le, q1, q2, hio, e3, ?_⟩
        cases r2 with
        | ok τ us =>
          intro v F' H' R i2
          simp only at e
          split at e
          · rename_i hl
            cases e
            have S3 := q3 io us F' _ H' (fun x hx => by rw [List.mem_singleton.mp hx]) R
            exact k v F' H' (put_ok S3 g1 (take_len e2) hl) (i1.trans i2)
          · cases e
        | xc C us =>
          intro d F' H' R i2
          simp only at e
          split at e
          · rename_i hl
            cases e
            have S3 := q3 io us F' _ H' (fun x hx => by cases hx) R
            have S4 := put_ok (Z := []) S3 g1 (take_len e2) hl
            have := k d F' H' S4 (i1.trans i2)
            rw [hE σ] at this
            exact this
          · cases e
      · cases e
  · cases e
/-- a name's thing, handed over a second time -/
def bAl (i : Nat) (g : List T → Option Rs) : List T → Option Rs := fun ρ => match ρ[i]? with
  | none => none
  | some .un => none
  | some _ => (g ρ).map fun r => match r with
    | .ok as ρ2 => .ok (.a i :: as) ρ2
    | r => r
section
variable {c : Ctx} {a : Expr} {es : List Expr} {fs : List T → Option Rs} {x : Str} {p pos : Pos} {io : List Nat} {al : List (Nat × Nat)} {G : List T → Option Re} {k : Nat} {CX : CXT}
theorem ao_al (i : Nat) {pos : Pos} (hr : Ao c es fs) (hi : c.N[i]? = some x := by rfl) (hv : ∀ j, Vis (c.X j).env.scope x := by intro _; first | exact Or.inl rfl | exact Or.inr (Or.inl rfl) | exact Or.inr (Or.inr rfl)) (hs : ∀ j, starEach (.Name x pos :: es) (c.X j).env = (false, eval (.Name x pos) (c.X j).env) :: starEach es (c.X j).env := by intro _; rfl)
    (hd : (x == ("__debug__" : Str)) = false := by decide) (hcd : (x == ("__classdict__" : Str)) = false := by decide) : Ao c (.Name x pos :: es) (bAl i fs) := by
  obtain ⟨u, q, s'⟩ := hr
  refine ⟨_, fun j => pa_cons (pe_var (i := i) (by rw [c.hN j]; exact hi) (hv j) hd hcd) (q j) (hs j), ?_⟩
  intro b F ρ σ X H r Q hb S e k
  unfold bAl at e
  cases z : ρ[i]? with
  | none => rw [z] at e; cases e
  | some t =>
    have ht : t ≠ .un := by
      rintro rfl
      rw [z] at e
      cases e
    have e2 : ((fs ρ).map fun r => match r with
      | .ok as ρ2 => Rs.ok (.a i :: as) ρ2
      | r => r) = some r := by
      rw [z] at e
      cases t with
      | un => exact absurd rfl ht
      | _ => exact e
    obtain ⟨r2, e3, e4⟩ := Option.map_eq_some_iff.mp e2
    obtain ⟨s, fp, e1, rr⟩ := S.slot z
    cases s with
    | none => exact absurd rr.1 ht
    | some v =>
      refine ⟨v, e1, s' b F ρ σ X H r2 _ hb S e3 ?_⟩
      cases r2 with
      | ok as ρ2 =>
        subst e4
        intro vs F2 H2 S2 g2 i2
        exact k (v :: vs) F2 H2 S2 ⟨v, vs, rfl, e1, g2⟩ i2
      | xc C ρ2 =>
        subst e4
        exact k
theorem eo_callA {E : XK} (C : ∀ j, ClA (c.X j).prog (c.X j).w c.W (c.X j).mg (c.X j).base CX k x io al G) (hk : k ≤ c.k) (hg : ∀ j, Gl (c.X j) x) (hE : ∀ σ, c.E σ = E) (hx : ∀ j, Passes CX (c.X j) E) (ha : Ao c (a :: es) fs) (hdb : (x == ("__debug__" : Str)) = false := by decide)
    (he : ∀ j, starEach (a :: es) (c.X j).env = (false, eval a (c.X j).env) :: starEach es (c.X j).env := by intro _; rfl) (hpl : ∀ j, (backTo pos (starEach es (c.X j).env)).any (·.1) = false := by intro _; rfl) : Eo c (.Call (.Name x p) (a :: es) [] pos) (fCallA al io G fs) := by
  obtain ⟨t, q, s⟩ := ha
  refine ⟨tCall (spFA c.W io al G) [] E t, fun j => ?_, so_callA hE s⟩
  obtain ⟨f, fd, ps, h, hm, hkp, hb⟩ := C j
  have hKj := c.hK j
  exact pe_call (by rw [hKj]; exact h) ((c.room j).mono hk) (hg j) hm (by rw [hKj]; exact hkp) (by rw [hKj]; exact hb) .nil (hx j) (q j) hdb (he j) (hpl j)
end
/-! ### x[k] = e, x another name of slot i's thing -/
section
variable {c : Ctx} {e ek : Expr} {fk fe : List T → Option T} {x : Str} {pos pos' pos2 : Pos}
theorem sm_setIxA (i j : Nat) (hal : c.P.al.contains (i, j) = true) (hk : Ev c ek fk) (he : Ev c e fe) (hj : c.N[j]? = some x := by rfl) (hv : ∀ j, Vis (c.X j).env.scope x := by intro _; first | exact Or.inl rfl | exact Or.inr (Or.inl rfl) | exact Or.inr (Or.inr rfl)) (hd : (x == ("__debug__" : Str)) = false := by decide) (hcd : (x == ("__classdict__" : Str)) = false := by decide)
    (hsw : ∀ j, swapsWithSole [.Subscript (.Name x pos2) ek pos'] e pos.line (c.X j).env = pure false := by intro _; rfl) (hw : ∀ j, swappedStores [.Subscript (.Name x pos2) ek pos'] e (c.X j).env = pure none := by intro _; rfl)
    (h1 : ∀ j, (assignEach [.Subscript (.Name x pos2) ek pos'] (c.X j).env).map (·.2) = [assign (.Subscript (.Name x pos2) ek pos') (c.X j).env] := by intro _; rfl)
    (ha : ∀ j v, assign (.Subscript (.Name x pos2) ek pos') (c.X j).env v = (do
      let ov ← holding [v] (eval (.Name x pos2) (c.X j).env)
      let iv ← holding [v, ov] (eval ek (c.X j).env)
      standAt pos'
      holding [v, ov, iv] (setItem ov iv v)
      release [v, ov, iv] []) := by intro _ _; rfl) : Sm c (.Assign [.Subscript (.Name x pos2) ek pos'] e pos) (sSetIx i pHere fk fe) := by
  obtain ⟨te, pe, se⟩ := he
  obtain ⟨tk, pk, sk⟩ := hk
  refine ⟨tAsg te (L2.gSub (tVar j) tk rSetU), fun j => ps_asg (pe j) (pg_sub (pe_var (by rw [c.hN j]; exact hj) (hv j) hd hcd) (pk j) (set_U (c.hu1 j)) (ha j)) (hsw j) (hw j) (h1 j), ?_⟩
  intro b F ρ σ X H out D hb S eq k
  unfold sSetIx at eq
  obtain ⟨y, e2, eq⟩ := Option.bind_eq_some_iff.mp eq
  obtain ⟨d, e3, eq⟩ := Option.bind_eq_some_iff.mp eq
  obtain ⟨π, e1, eq⟩ := Option.bind_eq_some_iff.mp eq
  obtain ⟨z, e5, eq⟩ := Option.bind_eq_some_iff.mp eq
  obtain ⟨q, e6, eq⟩ := Option.bind_eq_some_iff.mp eq
  obtain ⟨ρ', e4, eq⟩ := Option.map_eq_some_iff.mp eq
  subst eq
  cases e1
  cases d_some e3
  cases d_some e6
  obtain ⟨tt, uu, g1, g2, g3⟩ := mutF_own e4 setT_own
  refine se b F ρ σ X H _ _ S e2 fun y F1 H1 S1 i1 s1 r1 => ?_
  obtain ⟨v, v1, v2⟩ := hb.2.2 (i, j) (List.contains_iff_mem.mp hal)
  have p1 := S1.pin _ v1
  have p2 := S1.pin _ v2
  refine ⟨v, p2, ?_⟩
  obtain ⟨s, fp, f1, f2⟩ := S1.slot g1
  rw [p1] at f1
  cases f1
  have g2' : tt = uu := by cases g2; rfl
  subst g2'
  obtain ⟨p, rfl⟩ := owned_ref f2 g3
  refine sk b F1 ρ σ X H1 _ _ S1 e5 fun w F3 H3 S3 i3 s3 r3 => ?_
  exact S3.setIx e4 p1 (show AtV H3 (.ref p) [] p from rfl) (r1.ext i3 s3).rep r3.rep fun H' S' => k σ F3 H' S' (i1.trans i3)
end
/-! ### a dict's copy of one's own -/
def mCopy (fa : List T → Option T) : List T → Option (T × List T) := fun ρ => (fa ρ).bind fun t => t.dk?.map fun p => (.dk p.1 p.2, ρ)
theorem em_copy {c : Ctx} {a : Expr} {fa : List T → Option T} {apos cpos : Pos} (ha : Ev c a fa) (hbase : ∀ j, attributeBase a "copy" (c.X j).env (eval a (c.X j).env) = eval a (c.X j).env := by intro _; rfl) (hline : (apos.endLine == cpos.line) = true := by rfl) : Em c (.Call (.Attribute a "copy" apos) [] [] cpos) (mCopy fa) := by
  obtain ⟨ta, pa, sa⟩ := ha
  refine ⟨tDM0 rDCopy ta, fun j => pe_dm0 PySem.F.slot_dict_copy PySem.F.type_dict_copy mtd_copy (pa j) (hbase j) hline, ?_⟩
  intro b F ρ σ X H τ ρ' Q S e k
  unfold mCopy at e
  obtain ⟨t, e1, e⟩ := Option.bind_eq_some_iff.mp e
  obtain ⟨⟨ks, ds⟩, e2, e⟩ := Option.map_eq_some_iff.mp e
  cases e
  refine sa b F ρ σ X H _ _ S e1 fun x F1 H1 S1 i1 s1 r1 => ?_
  obtain ⟨p, kvs, ex, hp, hk, r⟩ := r1.dk e2 S1.le
  subst ex
  refine ⟨⟨p, kvs, rfl, hp⟩, p, kvs, rfl, rfl, hp, fun q hq => ?_⟩
  exact k _ F1 _ (S1.own hq ⟨q, kvs, rfl, rfl, upd_same, hk, r⟩) i1 (s1.trans fun a u e => by rw [upd_ne (ne_of_none e hq)]; exact e)
/-! ### a dict without keys -/
def fD0 : List T → Option T := fun _ => some (.f (.dct [] []))
theorem ev_d0 {c : Ctx} {pos : Pos} : Ev c (.Dict [] [] pos) fD0 := by
  refine ⟨_, fun _ => pe_dnewK, ?_⟩
  intro b F ρ σ X H τ Q S e k
  cases e
  intro q hq
  obtain ⟨S2, i2, s2⟩ := S.laid (o := .dK []) hq
  exact (k.mono i2 s2).d S2 ⟨q, [], rfl, .inl upd_same, rfl, rfl⟩
end Z

namespace Z
open PySem PySem.Spec PyProof.Rows L2
/-! ### dicts whose keys are tuples of numbers -/
def V.num : V → Option Int
  | .int i => some i
  | .bl b => some (if b = true then 1 else 0)
  | _ => none
def numsV : List V → Option (List Int)
  | [] => some []
  | d :: ds => (V.num d).bind fun i => (numsV ds).map fun is => i :: is
theorem kH_eq {P : Program} {w : World} (ks : List Int) : tupleKeyHash (leafKind P w) (ks.map Leaf.num) = kH ks := by
  unfold tupleKeyHash kH
  rw [List.map_map]
  rfl
theorem items_num {P : Program} {w : World} : ∀ {ks : List Int} {vs : List V} {us : List Value}, Vals vs us → numsV vs = some ks → ItemsAre (leafKind P w) (ks.map Leaf.num) us
  | _, _, _, .nil, e => by cases e; exact .nil
  | _, _, _, @Paired.cons _ _ _ v u vs us h t, e => by
    obtain ⟨i, e1, e⟩ := Option.bind_eq_some_iff.mp e
    obtain ⟨is, e2, e⟩ := Option.map_eq_some_iff.mp e
    subst e
    refine .cons ?_ (items_num t e2)
    cases v with
    | int j => obtain ⟨t, rfl⟩ := (show ∃ t, u = Value.int j t from h); cases e1; exact decide_eq_true rfl
    | bl c => obtain rfl := (show u = Value.bool c from h); cases e1; exact decide_eq_true rfl
    | _ => cases e1
theorem nums_of {W : Wd} {F : Hp} : ∀ {ds : List D} {vs : List V} {ks : List Int}, Reps W F ds vs → numsOf ds = some ks → numsV vs = some ks
  | [], _, _, r, e => by cases e; obtain rfl := (show _ = [] from r); rfl
  | d :: ds, _, _, r, e => by
    obtain ⟨v, vr, rfl, a, b⟩ := r
    obtain ⟨i, e1, e⟩ := Option.bind_eq_some_iff.mp e
    obtain ⟨is, e2, e⟩ := Option.map_eq_some_iff.mp e
    subst e
    have hv : V.num v = some i := by
      cases d with
      | int j => obtain rfl := (show v = V.int j from a); cases e1; rfl
      | bl j => obtain rfl := (show v = V.bl j from a); cases e1; rfl
      | _ => cases e1
    show (V.num v).bind _ = _
    rw [hv, Option.bind_some, nums_of b e2]
    rfl
section
variable {X : Cx} {pins : List (Addr × Obj)} {σ : L2.St} {H : Hp} {s : Shared}
abbrev YV : List (List Int × Addr × V) → List (List Int × Addr × Value) → Prop := Paired fun (x : List Int × Addr × V) (y : List Int × Addr × Value) => x.1 = y.1 ∧ x.2.1 = y.2.1 ∧ L2.RelV x.2.2 y.2.2
def yk (y : List Int × Addr × Value) : List Leaf × Addr × Value := (y.1.map Leaf.num, y.2)
theorem num_inj : ∀ {a b : List Int}, a.map Leaf.num = b.map Leaf.num → a = b
  | [], [], _ => rfl
  | [], _ :: _, h => by cases h
  | _ :: _, [], h => by cases h
  | a :: as, b :: bs, h => by
    injection h with h1 h2
    injection h1 with h1
    rw [h1, num_inj h2]
theorem atKey_num (ys : List (List Int × Addr × Value)) (k : List Int) : (atKey (ys.map yk) (k.map Leaf.num)).isSome = (ys.map (·.1)).any fun q => decide (q = k) := by
  induction ys with
  | nil => rfl
  | cons y ys ih =>
    have e : decide ((yk y).1 = k.map Leaf.num) = decide (y.1 = k) := by
      by_cases h : y.1 = k
      · rw [decide_eq_true h, decide_eq_true (by show y.1.map Leaf.num = _; rw [h])]
      · rw [decide_eq_false h]; exact decide_eq_false fun q => h (num_inj q)
    simp only [List.map_cons, List.any_cons]
    unfold atKey at ih ⊢
    rw [List.find?_cons, e]
    cases decide (y.1 = k) with
    | true => rfl
    | false => rw [Bool.false_or]; exact ih
theorem YV.keys : ∀ {xs : List (List Int × Addr × V)} {ys : List (List Int × Addr × Value)}, YV xs ys → xs.map (·.1) = ys.map (·.1) := fun r => by
  induction r with
  | nil => rfl
  | cons h _ ih => rw [List.map_cons, List.map_cons, ih, h.1]
theorem key_num {q : Addr} {vs : List V} {ks : List Int} (I : Inv X pins σ H s) (h : SqT X.K H q vs) (e : numsV vs = some ks) : (tupleKind (leafKind X.prog X.w)).is s.heap (ks.map Leaf.num) q := by
  obtain ⟨its, r, ⟨o, h1, h2, n, h3⟩, _⟩ := I.tuple h
  exact ⟨o, its.toArray, n, h1, h2, h3, by simpa using items_num r e⟩
def Keyed (K : PySem.W.Frag) (H : Hp) (xs : List (List Int × Addr × V)) : Prop := ∀ x ∈ xs, ∃ vs, SqT K H x.2.1 vs ∧ numsV vs = some x.1
theorem dx_of {p : Addr} {xs : List (List Int × Addr × V)} (I : Inv X pins σ H s) (hp : H p = some (dxO p xs)) (hk : Keyed X.K H xs) : xs.length ≤ sizeLine ∧ (p == sysModules) = false ∧ ∃ ys, YV xs ys ∧ s.heap.DictOfH (tupleKind (leafKind X.prog X.w)) p (ys.map yk) := by
  obtain ⟨⟨z, hd, ys, r, o, es, ep, h1, h2, h3, h4, h5⟩, _⟩ := (show ObjOk X.prog X.w H s.heap p (dxO p xs) from I.hok p _ hp)
  refine ⟨z, hd, ys, r, o, es, ep, h1, h2, h3, ?_, ?_, ?_⟩
  · rw [h4, List.map_map]
    refine List.map_congr_left fun y _ => ?_
    show (⟨kH y.1, .ref y.2.1, y.2.2⟩ : DictEntry) = ⟨tupleKeyHash (leafKind X.prog X.w) (y.1.map Leaf.num), .ref y.2.1, y.2.2⟩
    rw [kH_eq]
  · intro x hx
    obtain ⟨y, hy, rfl⟩ := List.mem_map.mp hx
    have all : ∀ {l : List (List Int × Addr × V)} {m : List (List Int × Addr × Value)}, YV l m → Keyed X.K H l → ∀ y ∈ m, (tupleKind (leafKind X.prog X.w)).is s.heap (y.1.map Leaf.num) y.2.1 := by
      intro l m q
      induction q with
      | nil => intro _ x hx; exact nomatch hx
      | @cons a b as bs hq t ih =>
        intro hk x hx
        rcases List.mem_cons.mp hx with e | hx
        · subst e
          obtain ⟨vs, a1, a2⟩ := hk a List.mem_cons_self
          rw [← hq.1, ← hq.2.1]
          exact key_num I a1 a2
        · exact ih (fun x hx => hk x (List.mem_cons_of_mem _ hx)) x hx
    exact all r hk y hy
  · rw [List.map_map]
    have e : ((fun x : List Leaf × Addr × Value => x.1) ∘ yk) = (fun l : List Int => l.map Leaf.num) ∘ (fun y : List Int × Addr × Value => y.1) := rfl
    rw [e, ← List.map_map]
    exact List.Pairwise.map _ (fun a b h q => h (num_inj q)) h5
theorem dx_ok {P : Program} {w : World} {H' : Hp} {h' : Heap} {p : Addr} {xs : List (List Int × Addr × V)} {ys : List (List Int × Addr × Value)} (z : xs.length ≤ sizeLine) (hd : (p == sysModules) = false) (r : YV xs ys) (dd : h'.DictOfH (tupleKind (leafKind P w)) p (ys.map yk)) : ObjOk P w H' h' p (dxO p xs) := by
  obtain ⟨o, es, ep, h1, h2, h3, h4, _, h5⟩ := dd
  refine ⟨⟨z, hd, ys, r, o, es, ep, h1, h2, h3, ?_, ?_⟩, ⟨o, h1⟩, ?_⟩
  · rw [h4, List.map_map]
    refine List.map_congr_left fun y _ => ?_
    show (⟨tupleKeyHash (leafKind P w) (y.1.map Leaf.num), .ref y.2.1, y.2.2⟩ : DictEntry) = ⟨kH y.1, .ref y.2.1, y.2.2⟩
    rw [kH_eq]
  · rw [List.map_map] at h5
    have e : ((fun x : List Leaf × Addr × Value => x.1) ∘ yk) = (fun l : List Int => l.map Leaf.num) ∘ (fun y : List Int × Addr × Value => y.1) := rfl
    rw [e, ← List.map_map] at h5
    exact List.Pairwise.of_map (S := (· ≠ ·)) _ (fun a b h q => h (by rw [q])) h5
  · rintro a1 a2 ⟨z, hd, ys, r, o, es, ep, h1, h2, h3, h4, h5⟩ k
    exact ⟨z, hd, ys, r, o, es, ep, k _ h1, h2, h3, h4, h5⟩
end
/-! {} -/
def tDNewX : TE := fun _ H Q => ∀ p, H p = none → Q (.ref p) (upd H p (dxO p []))
theorem pe_dnewX {X : Cx} {pos : Pos} : PE X (.Dict [] [] pos) tDNewX := ⟨fun pins s σ H Q I h =>
  wpAny_Dict_empty ⟨.ref s.heap.objs.size, _, I.laid (a := s.heap.objs.size) (o := dxO s.heap.objs.size []) (t' := s.toks) (fun _ _ q => Heap.get?_push_of_some _ q) (Nat.le_refl _)
    (dx_ok (P := X.prog) (w := X.w) (ys := []) (Nat.zero_le _) (beq_eq_false_iff_ne.mpr (Ne.symm (Nat.ne_of_lt I.big))) .nil (Heap.DictOfH.new _)), rfl, h _ (I.hok.fresh (Nat.le_refl _))⟩⟩
def fNewX : List T → Option Re := fun ρ => some (.ok (.di [] []) ρ)
theorem eo_newx {c : Ctx} {pos : Pos} : Eo c (.Dict [] [] pos) fNewX := by
  refine ⟨_, fun _ => pe_dnewX, ?_⟩
  intro b F ρ σ X H r Q hb S e k
  cases e
  intro p hp
  exact k _ F _ (S.own hp ⟨p, [], rfl, rfl, upd_same, rfl, (fun _ h => nomatch h), rfl⟩) (Inc.refl F)
/-! in -/
def rInX (K : PySem.W.Frag) (neg : Bool) : R2 := fun y x H Q => ∃ p xs q vs ks, x = .ref p ∧ H p = some (dxO p xs) ∧ Keyed K H xs ∧ y = .ref q ∧ SqT K H q vs ∧ numsV vs = some ks ∧ Q (.bl (xor neg ((xs.map (·.1)).any fun z => decide (z = ks)))) H
theorem op_inX {X : Cx} (hu : X.A.units + 1 < cLine) : OpR X (compareOp .In) (rInX X.K false) := by
  intro pins s σ H x y v u Q I rx ry h
  obtain ⟨p, xs, q, vs, ks, rfl, hp, hk, rfl, hq, hn, Qq⟩ := h
  obtain rfl : v = Value.ref q := rx
  obtain rfl : u = Value.ref p := ry
  obtain ⟨z, hd, ys, r, dd⟩ := dx_of I hp hk
  refine wpAny_in_heap (tupleKind_room_in1 hu) (key_num I hq hn) hd dd ?_
  rw [atKey_num, ← r.keys]
  rw [Bool.false_xor] at Qq
  exact ⟨.bl _, H, I.tok _, rfl, Qq⟩
theorem op_notInX {X : Cx} (hu : X.A.units + 1 < cLine) : OpR X (compareOp .NotIn) (rInX X.K true) := by
  intro pins s σ H x y v u Q I rx ry h
  obtain ⟨p, xs, q, vs, ks, rfl, hp, hk, rfl, hq, hn, Qq⟩ := h
  obtain rfl : v = Value.ref q := rx
  obtain rfl : u = Value.ref p := ry
  obtain ⟨z, hd, ys, r, dd⟩ := dx_of I hp hk
  refine wpAny_notIn_heap (tupleKind_room_in1 hu) (key_num I hq hn) hd dd ?_
  rw [atKey_num, ← r.keys]
  rw [Bool.true_xor] at Qq
  exact ⟨.bl _, H, I.tok _, rfl, Qq⟩
def T.di? : T → Option (List (List Int) × List D) | .di ks ds => some (ks, ds) | _ => none
def gInX (neg : Bool) : T → T → Option T := fun a b => a.ts?.bind fun l => (numsOf l).bind fun k => b.di?.bind fun ds => some (.f (.bl (xor neg (ds.1.any fun q => decide (q = k)))))
theorem keyed_of {W : Wd} {F H : Hp} (le : Le F H) {xs : List (List Int × Addr × V)} (h : ∀ x ∈ xs, ∃ l, numsOf l = some x.1 ∧ Rep W F (.tup l) (.ref x.2.1)) : Keyed W.K H xs := fun x hx => by
  obtain ⟨l, e, p, vs, ep, s, q⟩ := h x hx
  cases ep
  exact ⟨vs, SqT.le le s, nums_of q e⟩
theorem s2_inX {W : Wd} (neg : Bool) : S2 W (rInX W.K neg) (gInX neg) := by
  intro b F ρ σ X H t1 t2 τ x y Q S r1 r2 e k
  unfold gInX at e
  obtain ⟨l, e1, e⟩ := Option.bind_eq_some_iff.mp e
  obtain ⟨ks, e2, e⟩ := Option.bind_eq_some_iff.mp e
  obtain ⟨⟨kk, ds⟩, e3, e⟩ := Option.bind_eq_some_iff.mp e
  cases e
  obtain ⟨q, vs, rfl, hs, rq⟩ := r1.ts e1 S.le
  cases t2 with
  | di k2 d2 =>
    cases e3
    obtain ⟨fp, p, xs, ep, _, hp, hk, hy, _⟩ := r2
    refine ⟨p, xs, q, vs, ks, ep, hp, keyed_of S.le hy, rfl, hs, nums_of rq e2, ?_⟩
    rw [hk]
    exact k.d S rfl
  | _ => cases e3
def gInZ := or2 gIn (gInX false)
def gNotInZ := or2 gNotIn (gInX true)
theorem c_inZ {c : Ctx} : CmpR c .In gInZ := ⟨_, fun j => by
    have h := OpR_or (op_inU (X := c.X j) (c.hu1 j)) (op_inX (X := c.X j) (c.hu1 j))
    rw [c.hK j] at h
    exact h, S2.or s2_in (s2_inX false)⟩
theorem c_notInZ {c : Ctx} : CmpR c .NotIn gNotInZ := ⟨_, fun j => by
    have h := OpR_or (op_notInU (X := c.X j) (c.hu1 j)) (op_notInX (X := c.X j) (c.hu1 j))
    rw [c.hK j] at h
    exact h, S2.or s2_notIn (s2_inX true)⟩
/-! d[k] = v, k new -/
def rSetX (K : PySem.W.Frag) : TSet := fun o i v H Q => ∃ p xs q vs ks, o = .ref p ∧ H p = some (dxO p xs) ∧ Keyed K H xs ∧ i = .ref q ∧ SqT K H q vs ∧ numsV vs = some ks ∧ ks ∉ xs.map (·.1) ∧ xs.length < sizeLine ∧ Q (upd H p (dxO p (xs ++ [(ks, q, v)])))
theorem set_X {X : Cx} (hu : X.A.units + 1 < cLine) : PSet X (rSetX X.K) := by
  intro pins s σ H o i v ov iv u Q I ro ri rv h
  obtain ⟨p, xs, q, vs, ks, rfl, hp, hk, rfl, hq, hn, hnew, hz, Qq⟩ := h
  obtain rfl : ov = Value.ref p := ro
  obtain rfl : iv = Value.ref q := ri
  obtain ⟨z, hd, ys, r, dd⟩ := dx_of I hp hk
  have hl : ys.length = xs.length := (Paired.length r).symm
  refine wpAny_setItem_heap (hsz := by rw [List.length_map, hl]; exact z) (tupleKind_room_in1 hu) (key_num I hq hn) dd fun h' dd' hs => ⟨_, ?_, Qq⟩
  have hno : atKey (ys.map yk) (ks.map Leaf.num) = none := by
    have e := atKey_num ys ks
    rw [← r.keys] at e
    have f : ((xs.map (·.1)).any fun q => decide (q = ks)) = false := by
      rw [List.any_eq_false]
      intro a ha q
      exact hnew (by rw [← of_decide_eq_true q]; exact ha)
    rw [f] at e
    cases hh : atKey (ys.map yk) (ks.map Leaf.num) with
    | none => rfl
    | some a => rw [hh] at e; cases e
  rw [storedH_new hno, show [(ks.map Leaf.num, q, u)] = [((ks, q, u) : List Int × Addr × Value)].map yk from rfl, ← List.map_append] at dd'
  have hr : YV (xs ++ [(ks, q, v)]) (ys ++ [(ks, q, u)]) := by
    clear hp hk hnew hz Qq z dd dd' hl hno
    induction r with
    | nil => exact .cons ⟨rfl, rfl, rv⟩ .nil
    | cons h _ ih => exact .cons h ih
  refine d_write I (by rw [hp]; exact True.intro) hs (let ⟨q, _, _, hq, _⟩ := dd'; ⟨q, hq⟩) (dx_ok (by rw [List.length_append]; exact hz) hd hr dd')
def keyD : D → Option (List Int)
  | .tup l => numsOf l
  | _ => none
def setX (k d : D) : T → Option T
  | .di ks ds => (keyD k).bind fun q => if q ∈ ks then none else if ks.length < sizeLine then some (.di (ks ++ [q]) (ds ++ [d])) else none
  | _ => none
def sSetX (i : Nat) (fp : List T → Option (List Sel)) (fk fe : List T → Option T) : FS := fun ρ => (fe ρ).bind fun x => x.d?.bind fun d => (fp ρ).bind fun π => (fk ρ).bind fun z => z.d?.bind fun q => (mutF i π (setX q d) ρ).map .nx
theorem setX_own {k d : D} (u u' : T) (h : setX k d u = some u') : owned u = true := by
  cases u with
  | un => cases h
  | f d => cases h
  | _ => rfl
theorem SR.setX {W : Wd} {b : Bs} {F : Hp} {ρ ρ' : List T} {σ : L2.St} {X : List Tm} {H : Hp} {i : Nat} {π : List Sel} {d q : D} {v y z : V} {p : Addr} (S : SR W b F ρ σ X H) (h : mutF i π (setX q d) ρ = some ρ') (hv : σ[i]? = some (some v)) (ha : AtV H v π p) (r : Rep W F d y) (rq : Rep W F q z)
    {Q : Hp → Prop} (k : ∀ H', SR W b F ρ' σ X H' → Q H') : rSetX W.K (.ref p) z y H Q := by
  obtain ⟨t, u, u', e1, e2, e3, rfl⟩ := mutF_some h
  cases u with
  | di ks ds =>
    obtain ⟨j, e4, e3⟩ := Option.bind_eq_some_iff.mp (show (keyD q).bind _ = some u' from e3)
    split at e3
    · cases e3
    rename_i hno
    split at e3
    · rename_i hl
      cases e3
      cases q with
      | tup l =>
        obtain ⟨fu, q1, q2, q3⟩ := S.mut (u' := .di (ks ++ [j]) (ds ++ [d])) e1 hv e2 ha
        obtain ⟨p', xs, ep, rfl, hp, hk, hy, rs⟩ := q1
        cases ep
        obtain ⟨a, vs, ez, hs, rq'⟩ := id rq
        subst ez
        refine ⟨p, xs, a, vs, j, rfl, hp, keyed_of S.le hy, rfl, SqT.le S.le hs, nums_of rq' e4, by rw [hk]; exact hno, by rw [← hk, List.length_map] at hl; exact hl, k _ (q3 _ _ hp (fun _ => fun _ _ _ e => nomatch e) (List.mem_singleton.mpr rfl) ⟨p, _, rfl, rfl, upd_same, ?_, ?_, ?_⟩)⟩
        · rw [List.map_append, hk]; rfl
        · intro x hx
          rcases List.mem_append.mp hx with hx | hx
          · exact hy x hx
          · cases List.mem_singleton.mp hx
            exact ⟨l, e4, rq⟩
        · rw [List.map_append]
          exact rs.append ⟨y, [], rfl, r, rfl⟩
      | _ => cases e4
    · cases e3
  | _ => cases e3
theorem sm_setX {c : Ctx} {e o ek : Expr} {i : Nat} {fp : List T → Option (List Sel)} {fe fk : List T → Option T} {pos pos' : Pos} (ho : Lo c o i fp) (hk : Ev c ek fk) (he : Ev c e fe)
    (hsw : ∀ j, swapsWithSole [.Subscript o ek pos'] e pos.line (c.X j).env = pure false := by intro _; rfl) (hw : ∀ j, swappedStores [.Subscript o ek pos'] e (c.X j).env = pure none := by intro _; rfl)
    (h1 : ∀ j, (assignEach [.Subscript o ek pos'] (c.X j).env).map (·.2) = [assign (.Subscript o ek pos') (c.X j).env] := by intro _; rfl)
    (ha : ∀ j v, assign (.Subscript o ek pos') (c.X j).env v = (do
      let ov ← holding [v] (eval o (c.X j).env)
      let iv ← holding [v, ov] (eval ek (c.X j).env)
      standAt pos'
      holding [v, ov, iv] (setItem ov iv v)
      release [v, ov, iv] []) := by intro _ _; rfl) : Sm c (.Assign [.Subscript o ek pos'] e pos) (sSetX i fp fk fe) := by
  obtain ⟨to, po, so⟩ := ho
  obtain ⟨te, pe, se⟩ := he
  obtain ⟨tk, pk, sk⟩ := hk
  refine ⟨tAsg te (L2.gSub to tk (rSetX c.W.K)), fun j => ps_asg (pe j) (pg_sub (po j) (pk j) (by have h := set_X (X := c.X j) (c.hu1 j); rw [c.hK j] at h; exact h) (ha j)) (hsw j) (hw j) (h1 j), ?_⟩
  intro b F ρ σ X H out D hb S eq k
  unfold sSetX at eq
  obtain ⟨x, e2, eq⟩ := Option.bind_eq_some_iff.mp eq
  obtain ⟨d, e3, eq⟩ := Option.bind_eq_some_iff.mp eq
  obtain ⟨π, e1, eq⟩ := Option.bind_eq_some_iff.mp eq
  obtain ⟨z, e5, eq⟩ := Option.bind_eq_some_iff.mp eq
  obtain ⟨q, e6, eq⟩ := Option.bind_eq_some_iff.mp eq
  obtain ⟨ρ', e4, eq⟩ := Option.map_eq_some_iff.mp eq
  subst eq
  cases d_some e3
  cases d_some e6
  obtain ⟨tt, uu, h1, h2, h3⟩ := mutF_own e4 setX_own
  refine se b F ρ σ X H _ _ S e2 fun y F1 H1 S1 i1 s1 r1 => ?_
  refine so b F1 ρ σ X H1 π tt uu _ S1 e1 h1 h2 h3 fun p v F2 H2 S2 i2 s2 hv hat => ?_
  refine sk b F2 ρ σ X H2 _ _ S2 e5 fun w F3 H3 S3 i3 s3 r3 => ?_
  exact S3.setX e4 hv (hat.same s3) ((r1.ext i2 s2).ext i3 s3).rep r3.rep fun H' S' => k σ F3 H' S' ((i1.trans i2).trans i3)
/-! list(a list, a tuple or a dict) -/
section
variable {W : Wd} {c : Ctx}
def rListK : List V → Hp → VK → Prop := fun xs H Q => ∃ (a : Addr) (kvs : List (Key × V)), xs = [.ref a] ∧ Rd H a (.dK kvs) ∧ ∀ p, H p = none → Q (.ref p) (upd H p (.lst (kvs.map fun kv => kV kv.1)))
def rListX (K : PySem.W.Frag) : List V → Hp → VK → Prop := fun xs H Q => (∃ p ys, xs = [.ref p] ∧ (SqL K H p ys ∨ SqT K H p ys) ∧ ∀ l, H l = none → Q (.ref l) (upd H l (.lst ys))) ∨ rListK xs H Q
def gListX (ts : List T) : Option T := match ts with
  | [t] => match t.sq? with
    | some ds => some (.f (.lst ds))
    | none => t.dk?.map fun p => .f (.lst (p.1.map kD))
  | _ => none
theorem keys_reps {W : Wd} {F : Hp} : ∀ kvs : List (Key × V), Reps W F ((kvs.map (·.1)).map kD) (kvs.map fun kv => kV kv.1)
  | [] => rfl
  | _ :: kvs => ⟨_, _, rfl, kD_rep, keys_reps kvs⟩
theorem sn_listX : Sn W (rListX W.K) gListX := by
  intro b F ρ σ X H ts τ xs Q S r e k
  match ts, e with
  | [t], e =>
    obtain ⟨x, rfl, r1⟩ := rv1 r
    have e' : (match t.sq? with | some ds => some (T.f (.lst ds)) | none => t.dk?.map fun p => T.f (.lst (p.1.map kD))) = some τ := e
    cases hq : t.sq? with
    | some ds =>
      rw [hq] at e'
      cases e'
      obtain ⟨p, vs, ex, hs, q⟩ := r1.sq hq S.le
      subst ex
      exact .inl ⟨p, vs, rfl, hs, k.lst S q⟩
    | none =>
      rw [hq] at e'
      obtain ⟨⟨ks, ds⟩, e2, e3⟩ := Option.map_eq_some_iff.mp e'
      subst e3
      obtain ⟨p, kvs, ex, hp, hk, r2⟩ := r1.dk e2 S.le
      subst ex
      subst hk
      exact .inr ⟨p, kvs, rfl, hp, k.lst S (keys_reps kvs)⟩
theorem callListX (j : c.J) : CallR (c.X j) (.type "list") (rListX c.W.K) := by
  have h := CallR_or (call_list_of (X := c.X j)) (call_listD (c.calm j))
  rw [c.hK j] at h
  exact h
end
end Z

namespace Z
open PySem L2
/-! ### what pure defs give -/
def val (r : Option Re) : Option D := match r with
  | some (.ok (.f d) _) => some d
  | _ => none
theorem val_some {d : D} {us : List T} : val (some (.ok (.f d) us)) = some d := rfl
theorem val_ex {r : Option Re} {d : D} (h : val r = some d) : ∃ us, r = some (.ok (.f d) us) := by
  unfold val at h
  split at h
  · cases h; exact ⟨_, rfl⟩
  · cases h
theorem fCallV_eq (G : List T → Option Re) (fs : List T → Option (List T)) (ρ : List T) : fCallV G fs ρ = (fs ρ).bind fun ts => (T.fzs ts).bind fun ds => (val (G (ds.map .f))).bind fun d => if (ts.all isF || d.atom) = true then some (.f d) else none := by
  unfold fCallV
  congr 1
  funext ts
  congr 1
  funext ds
  cases h : G (ds.map .f) with
  | none => rfl
  | some r =>
    cases r with
    | xc C us => rfl
    | ok t us => cases t <;> rfl
def oval (o : Option Out) (m : Nat) : Option D := match o with
  | some (.rt (.f d) ρ) => if m ≤ ρ.length then some d else none
  | some (.nx ρ) => if m ≤ ρ.length then some .non else none
  | _ => none
theorem val_run {m n : Nat} {io : List Nat} {fb : FS} {ts : List T} (h : ts.length = m) : val (runF m n io fb ts) = oval (fb (ts ++ List.replicate (n - m) .un)) m := by
  unfold runF
  rw [if_pos h]
  cases e : fb (ts ++ List.replicate (n - m) .un) with
  | none => rfl
  | some o =>
    cases o with
    | nx ρ =>
      show val (if _ then _ else _) = if _ then _ else _
      split <;> rfl
    | rt t ρ =>
      cases t with
      | f d =>
        show val (if _ then _ else _) = if _ then _ else _
        split <;> rfl
      | _ =>
        show val (if _ then _ else _) = none
        split <;> rfl
    | bk ρ => rfl
    | ct ρ => rfl
    | xc C ρ =>
      show val (if _ then _ else _) = none
      split <;> rfl
/-! ### on ints, texts -/
section
variable {i j : Int} {x y : Str} {a b : Bool} {ds es : List D}
@[simp] theorem gAdd_i : gAdd (.f (.int i)) (.f (.int j)) = some (.f (.int (i + j))) := rfl
@[simp] theorem gSub_i : gSub (.f (.int i)) (.f (.int j)) = some (.f (.int (i - j))) := rfl
@[simp] theorem gBAnd_i : gBAnd (.f (.int i)) (.f (.int j)) = some (.f (.int (Builtin.bitAnd i j))) := rfl
@[simp] theorem gBOr_i : gBOr (.f (.int i)) (.f (.int j)) = some (.f (.int (Builtin.bitOr i j))) := rfl
@[simp] theorem gBXor_i : gBXor (.f (.int i)) (.f (.int j)) = some (.f (.int (Builtin.bitXor i j))) := rfl
@[simp] theorem gLt_i : gLt (.f (.int i)) (.f (.int j)) = some (.f (.bl (decide (i < j)))) := rfl
@[simp] theorem gLe_i : gLe (.f (.int i)) (.f (.int j)) = some (.f (.bl (decide (i ≤ j)))) := rfl
@[simp] theorem gGt_i : gGt (.f (.int i)) (.f (.int j)) = some (.f (.bl (decide (j < i)))) := rfl
@[simp] theorem gGe_i : gGe (.f (.int i)) (.f (.int j)) = some (.f (.bl (decide (j ≤ i)))) := rfl
theorem vdec_int : decide (V.int i = V.int j) = decide (i = j) := by
  by_cases h : i = j
  · subst h; simp
  · have : ¬ V.int i = V.int j := fun e => h (V.int.inj e)
    rw [decide_eq_false this, decide_eq_false h]
theorem vdec_str : decide (V.str x = V.str y) = decide (x = y) := by
  by_cases h : x = y
  · subst h; simp
  · have : ¬ V.str x = V.str y := fun e => h (V.str.inj e)
    rw [decide_eq_false this, decide_eq_false h]
theorem vdec_bl : decide (V.bl a = V.bl b) = decide (a = b) := by
  by_cases h : a = b
  · subst h; simp
  · have : ¬ V.bl a = V.bl b := fun e => h (V.bl.inj e)
    rw [decide_eq_false this, decide_eq_false h]
@[simp] theorem gEq_i : gEq (.f (.int i)) (.f (.int j)) = some (.f (.bl (decide (i = j)))) := by
  show some (T.f (.bl (xor false (decide (V.int i = V.int j))))) = _
  rw [Bool.false_xor, vdec_int]
@[simp] theorem gEq_s : gEq (.f (.str x)) (.f (.str y)) = some (.f (.bl (decide (x = y)))) := by
  show some (T.f (.bl (xor false (decide (V.str x = V.str y))))) = _
  rw [Bool.false_xor, vdec_str]
@[simp] theorem gEq_b : gEq (.f (.bl a)) (.f (.bl b)) = some (.f (.bl (decide (a = b)))) := by
  show some (T.f (.bl (xor false (decide (V.bl a = V.bl b))))) = _
  rw [Bool.false_xor, vdec_bl]
@[simp] theorem gEq_is : gEq (.f (.int i)) (.f (.str y)) = some (.f (.bl false)) := rfl
@[simp] theorem gEq_si : gEq (.f (.str x)) (.f (.int j)) = some (.f (.bl false)) := rfl
@[simp] theorem gNe_i : gNe (.f (.int i)) (.f (.int j)) = some (.f (.bl (!decide (i = j)))) := by
  show some (T.f (.bl (xor true (decide (V.int i = V.int j))))) = _
  rw [Bool.true_xor, vdec_int]
@[simp] theorem gNe_s : gNe (.f (.str x)) (.f (.str y)) = some (.f (.bl (!decide (x = y)))) := by
  show some (T.f (.bl (xor true (decide (V.str x = V.str y))))) = _
  rw [Bool.true_xor, vdec_str]
@[simp] theorem gNe_b : gNe (.f (.bl a)) (.f (.bl b)) = some (.f (.bl (!decide (a = b)))) := by
  show some (T.f (.bl (xor true (decide (V.bl a = V.bl b))))) = _
  rw [Bool.true_xor, vdec_bl]
@[simp] theorem gNe_is : gNe (.f (.int i)) (.f (.str y)) = some (.f (.bl true)) := rfl
@[simp] theorem gNe_si : gNe (.f (.str x)) (.f (.int j)) = some (.f (.bl true)) := rfl
@[simp] theorem gNeg_i : gNeg (.f (.int i)) = some (.f (.int (-i))) := rfl
theorem gI_ok {C : Int → Int → Bool} {g : Int → Int → D} (h : C i j = true) : gI C g (.f (.int i)) (.f (.int j)) = some (.f (g i j)) := by
  show (if C i j = true then _ else none) = _
  rw [if_pos h]
theorem gMod_ok (h : 0 < j) : gMod (.f (.int i)) (.f (.int j)) = some (.f (.int (i % j))) := gI_ok (decide_eq_true h)
theorem log2_small {n : Nat} {k : Nat} (h : n < 2 ^ (k + 1)) : n.log2 < k + 1 := by
  by_cases h0 : n = 0
  · subst h0; simp [Nat.log2_zero]
  · exact (Nat.log2_lt h0).mpr h
theorem gDiv_ok (h : 0 < j) (h2 : j.natAbs < 2 ^ 8999) : gDiv (.f (.int i)) (.f (.int j)) = some (.f (.int (i / j))) := gI_ok (by
  unfold divC
  rw [Bool.and_eq_true]
  exact ⟨decide_eq_true h, decide_eq_true (Nat.lt_succ_of_lt (log2_small h2))⟩)
theorem gMul_ok (h : i.natAbs.log2 + j.natAbs.log2 < 130000000) : gMul (.f (.int i)) (.f (.int j)) = some (.f (.int (i * j))) := gI_ok (decide_eq_true h)
theorem gMul_small (h : i.natAbs < 2 ^ 1000) (h2 : j.natAbs < 2 ^ 1000) : gMul (.f (.int i)) (.f (.int j)) = some (.f (.int (i * j))) := gMul_ok (by
  have a := log2_small (k := 999) h
  have b := log2_small (k := 999) h2
  omega)
theorem gShl_ok (h : 0 ≤ j) (h1 : j ≤ 1000000) (h2 : i.natAbs < 2 ^ 64) : gShl (.f (.int i)) (.f (.int j)) = some (.f (.int (i * 2 ^ j.toNat))) := gI_ok (by
  unfold powC
  rw [Bool.and_eq_true, Bool.and_eq_true]
  exact ⟨⟨decide_eq_true h, decide_eq_true h1⟩, decide_eq_true h2⟩)
theorem gPow_ok (h : 0 ≤ j) (h1 : j ≤ 1000000) (h2 : i.natAbs < 2 ^ 64) : gPow (.f (.int i)) (.f (.int j)) = some (.f (.int (i ^ j.toNat))) := gI_ok (by
  unfold powC
  rw [Bool.and_eq_true, Bool.and_eq_true]
  exact ⟨⟨decide_eq_true h, decide_eq_true h1⟩, decide_eq_true h2⟩)
theorem gShr_ok (h : 0 ≤ j) : gShr (.f (.int i)) (.f (.int j)) = some (.f (.int (i / 2 ^ j.toNat))) := gI_ok (decide_eq_true h)
@[simp] theorem gInt1_i : gInt1 [.f (.int i)] = some (.f (.int i)) := rfl
@[simp] theorem gInt1_b : gInt1 [.f (.bl a)] = some (.f (.int (if a = true then 1 else 0))) := rfl
@[simp] theorem gMax2_i : gMax2 [.f (.int i), .f (.int j)] = some (.f (.int (if j > i then j else i))) := rfl
@[simp] theorem gMin2_i : gMin2 [.f (.int i), .f (.int j)] = some (.f (.int (if j < i then j else i))) := rfl
@[simp] theorem gLen_l : gLen [.f (.lst ds)] = some (.f (.int ds.length)) := rfl
@[simp] theorem gLen_t : gLen [.f (.tup ds)] = some (.f (.int ds.length)) := rfl
@[simp] theorem gLen_o : gLen [.l ds] = some (.f (.int ds.length)) := rfl
theorem gIx_l (h : atI ds i = some d) : gIx (.f (.lst ds)) (.f (.int i)) = some (.f d) := by
  show ((((atI ds i).map T.f).orElse fun _ => none).orElse fun _ => _) = _
  rw [h]
  rfl
theorem gIx_t (h : atI ds i = some d) : gIx (.f (.tup ds)) (.f (.int i)) = some (.f d) := by
  show ((((atI ds i).map T.f).orElse fun _ => none).orElse fun _ => _) = _
  rw [h]
  rfl
theorem gIx_o (h : atI ds i = some d) : gIx (.l ds) (.f (.int i)) = some (.f d) := by
  show ((((atI ds i).map T.f).orElse fun _ => none).orElse fun _ => _) = _
  rw [h]
  rfl
end
end Z

namespace Z
open PySem L2
/-! ### walking: forms without binders, so that simp only goes on only with what is reached -/
section
variable {ρ ρ1 : List T} {d e : D} {ds es : List D} {t x y : T} {i n m : Nat} {b : Bool} {f g : FS} {fa fb fc : List T → Option T}
def nn (r : Option T) : Option T := match r with
  | some .un => none
  | r => r
theorem wz_var : fVar i ρ = nn ρ[i]? := by unfold fVar nn; rfl
theorem nn_f : nn (some (.f d)) = some (.f d) := rfl
theorem nn_l : nn (some (.l ds)) = some (.l ds) := rfl
theorem nn_dk {ks} : nn (some (.dk ks ds)) = some (.dk ks ds) := rfl
theorem nn_ll {ts} : nn (some (.ll ts)) = some (.ll ts) := rfl
theorem nn_tu {ts} : nn (some (.tu ts)) = some (.tu ts) := rfl
theorem nn_o {C ns ts} : nn (some (.o C ns ts)) = some (.o C ns ts) := rfl
def mvK (i : Nat) (ρ : List T) (r : Option T) : Option Re := match r with
  | some .un => none
  | some t => some (.ok t (ρ.set i .un))
  | none => none
theorem wz_mv : fMv i ρ = mvK i ρ ρ[i]? := by unfold fMv mvK; rfl
theorem mvK_f : mvK i ρ (some (.f d)) = some (.ok (.f d) (ρ.set i .un)) := rfl
theorem mvK_l : mvK i ρ (some (.l ds)) = some (.ok (.l ds) (ρ.set i .un)) := rfl
theorem mvK_dk {ks} : mvK i ρ (some (.dk ks ds)) = some (.ok (.dk ks ds) (ρ.set i .un)) := rfl
theorem mvK_ll {ts} : mvK i ρ (some (.ll ts)) = some (.ok (.ll ts) (ρ.set i .un)) := rfl
theorem mvK_tu {ts} : mvK i ρ (some (.tu ts)) = some (.ok (.tu ts) (ρ.set i .un)) := rfl
theorem mvK_o {C ns ts} : mvK i ρ (some (.o C ns ts)) = some (.ok (.o C ns ts) (ρ.set i .un)) := rfl
def k1 (g : T → Option T) (o : Option T) : Option T := o.bind g
theorem wz_f1 {g} : f1 g fa ρ = k1 g (fa ρ) := rfl
theorem k1_s {g} : k1 g (some x) = g x := rfl
def k2 (g : T → T → Option T) (o p : Option T) : Option T := o.bind fun x => p.bind fun y => g x y
theorem wz_f2 {g} : f2 g fa fb ρ = k2 g (fa ρ) (fb ρ) := rfl
theorem k2_s {g} : k2 g (some x) (some y) = g x y := rfl
def kN (g : List T → Option T) (o : Option (List T)) : Option T := o.bind g
theorem wz_fN {g fs} : fN g fs ρ = kN g (fs ρ) := rfl
theorem kN_s {g ts} : kN g (some ts) = g ts := rfl
theorem wz_fC : fC d ρ = some (.f d) := rfl
theorem wz_aNil : aNil ρ = some [] := rfl
def kCons (o : Option T) (p : Option (List T)) : Option (List T) := o.bind fun x => p.map fun xs => x :: xs
theorem wz_aCons {fs} : aCons fa fs ρ = kCons (fa ρ) (fs ρ) := rfl
theorem kCons_s {ts} : kCons (some x) (some ts) = some (x :: ts) := rfl
def kT (o : Option T) : Option Bool := o.bind T.b?
theorem wz_fT : fT fa ρ = kT (fa ρ) := rfl
theorem kT_s : kT (some (.f (.bl b))) = some b := rfl
def kAnd (gb : List T → Option Bool) (ρ : List T) (o : Option Bool) : Option Bool := o.bind fun x => if x = true then gb ρ else some false
def kOr (gb : List T → Option Bool) (ρ : List T) (o : Option Bool) : Option Bool := o.bind fun x => if x = true then some true else gb ρ
def kNot (o : Option Bool) : Option Bool := o.map (!·)
theorem wz_tAnd {ga gb} : tAndF ga gb ρ = kAnd gb ρ (ga ρ) := rfl
theorem wz_tOr {ga gb} : tOrF ga gb ρ = kOr gb ρ (ga ρ) := rfl
theorem wz_tNot {ga} : tNotF ga ρ = kNot (ga ρ) := rfl
theorem kAnd_t {gb} : kAnd gb ρ (some true) = gb ρ := rfl
theorem kAnd_f {gb} : kAnd gb ρ (some false) = some false := rfl
theorem kOr_t {gb} : kOr gb ρ (some true) = some true := rfl
theorem kOr_f {gb} : kOr gb ρ (some false) = gb ρ := rfl
theorem kNot_s : kNot (some b) = some (!b) := rfl
def kIf (fa fb : List T → Option T) (ρ : List T) (o : Option Bool) : Option T := o.bind fun x => if x = true then fa ρ else fb ρ
theorem wz_fIf {g} : fIf g fa fb ρ = kIf fa fb ρ (g ρ) := rfl
theorem kIf_t : kIf fa fb ρ (some true) = fa ρ := rfl
theorem kIf_f : kIf fa fb ρ (some false) = fb ρ := rfl
theorem wz_fAnd : fAnd fa fb ρ = kIf fb (fC (.bl false)) ρ (kT (fa ρ)) := rfl
theorem wz_fOr : fOr fa fb ρ = kIf (fC (.bl true)) fb ρ (kT (fa ρ)) := rfl
def kBl (o : Option Bool) : Option T := o.map fun x => .f (.bl x)
theorem kBl_s : kBl (some b) = some (.f (.bl b)) := rfl
theorem wz_fNot : fNot fa ρ = kBl (kNot (kT (fa ρ))) := by
  show (fT fa ρ).map _ = _
  show (kT (fa ρ)).map _ = _
  cases kT (fa ρ) <;> rfl
def kLift (ρ : List T) (o : Option T) : Option Re := o.bind fun t => t.d?.map fun d => .ok (.f d) ρ
theorem wz_lift : lift fa ρ = kLift ρ (fa ρ) := rfl
theorem kLift_s : kLift ρ (some (.f d)) = some (.ok (.f d) ρ) := rfl
def kFz (r : Option Re) : Option Re := r.bind fun r => match r with
  | .ok t ρ' => t.fz.map fun d => .ok (.f d) ρ'
  | r => some r
theorem wz_fFz {fo} : fFz fo ρ = kFz (fo ρ) := by
  unfold fFz kFz
  cases fo ρ with
  | none => rfl
  | some r => cases r <;> rfl
theorem kFz_f : kFz (some (.ok (.f d) ρ)) = some (.ok (.f d) ρ) := rfl
theorem kFz_l : kFz (some (.ok (.l ds) ρ)) = some (.ok (.f (.lst ds)) ρ) := rfl
theorem kFz_dk {ks} : kFz (some (.ok (.dk ks ds) ρ)) = some (.ok (.f (.dct ks ds)) ρ) := rfl
theorem wz_sNil : sNil ρ = some (.nx ρ) := rfl
def kSeq (g : FS) (o : Option Out) : Option Out := o.bind fun o => match o with
  | .nx ρ1 => g ρ1
  | o => some o
theorem wz_sSeq : sSeq f g ρ = kSeq g (f ρ) := by
  unfold sSeq kSeq
  cases f ρ with
  | none => rfl
  | some r => cases r <;> rfl
theorem kSeq_nx : kSeq g (some (.nx ρ)) = g ρ := rfl
theorem kSeq_rt : kSeq g (some (.rt t ρ)) = some (.rt t ρ) := rfl
theorem kSeq_bk : kSeq g (some (.bk ρ)) = some (.bk ρ) := rfl
theorem kSeq_ct : kSeq g (some (.ct ρ)) = some (.ct ρ) := rfl
theorem kSeq_xc {C} : kSeq g (some (.xc C ρ)) = some (.xc C ρ) := rfl
def kSet (i : Nat) (o : Option Re) : Option Out := o.map fun r => match r with
  | .ok t ρ1 => .nx (ρ1.set i t)
  | .xc C ρ1 => .xc C ρ1
theorem wz_sSet {fo} : sSet i fo ρ = kSet i (fo ρ) := by
  unfold sSet kSet
  cases fo ρ with
  | none => rfl
  | some r => cases r <;> rfl
theorem kSet_s : kSet i (some (.ok t ρ)) = some (.nx (ρ.set i t)) := rfl
def kEx (o : Option Re) : Option Out := o.map fun r => match r with
  | .ok t ρ1 => .nx ρ1
  | .xc C ρ1 => .xc C ρ1
theorem wz_sExpr {fo} : sExpr fo ρ = kEx (fo ρ) := by
  unfold sExpr kEx
  cases fo ρ with
  | none => rfl
  | some r => cases r <;> rfl
theorem kEx_s : kEx (some (.ok t ρ)) = some (.nx ρ) := rfl
def kRet (o : Option Re) : Option Out := o.map fun r => match r with
  | .ok t ρ1 => .rt t ρ1
  | .xc C ρ1 => .xc C ρ1
theorem wz_sRet {fo} : sRet fo ρ = kRet (fo ρ) := by
  unfold sRet kRet
  cases fo ρ with
  | none => rfl
  | some r => cases r <;> rfl
theorem kRet_s : kRet (some (.ok t ρ)) = some (.rt t ρ) := rfl
theorem wz_sRetN : sRetN ρ = some (.rt (.f .non) ρ) := rfl
theorem wz_sBk : sBk ρ = some (.bk ρ) := rfl
theorem wz_sCt : sCt ρ = some (.ct ρ) := rfl
def kLiB (ρ : List T) (o : Option Bool) : Option Rb := o.map fun x => .ok x ρ
theorem wz_liftB {h} : liftB h ρ = kLiB ρ (h ρ) := rfl
theorem kLiB_s : kLiB ρ (some b) = some (.ok b ρ) := rfl
def kTst (r : Option Re) : Option Rb := r.bind fun r => match r with
  | .ok t ρ1 => t.b?.map fun x => .ok x ρ1
  | .xc C ρ1 => some (.xc C ρ1)
theorem wz_oTest {fo} : oTest fo ρ = kTst (fo ρ) := by
  unfold oTest kTst
  cases fo ρ with
  | none => rfl
  | some r => cases r <;> rfl
theorem kTst_s : kTst (some (.ok (.f (.bl b)) ρ)) = some (.ok b ρ) := rfl
def kONot (r : Option Rb) : Option Rb := r.map fun r => match r with
  | .ok x ρ1 => .ok (!x) ρ1
  | r => r
theorem wz_oNot {ga} : oNot ga ρ = kONot (ga ρ) := by
  unfold oNot kONot
  cases ga ρ with
  | none => rfl
  | some r => cases r <;> rfl
theorem kONot_s : kONot (some (.ok b ρ)) = some (.ok (!b) ρ) := rfl
def kIfS (f g : FS) (r : Option Rb) : Option Out := r.bind fun r => match r with
  | .ok x ρ1 => if x = true then f ρ1 else g ρ1
  | .xc C ρ1 => some (.xc C ρ1)
theorem wz_sIf {h} : sIf h f g ρ = kIfS f g (h ρ) := by
  unfold sIf kIfS
  cases h ρ with
  | none => rfl
  | some r => cases r <;> rfl
theorem kIfS_t : kIfS f g (some (.ok true ρ)) = f ρ := rfl
theorem kIfS_f : kIfS f g (some (.ok false ρ)) = g ρ := rfl
theorem kIfS_d {p : Prop} [Decidable p] : kIfS f g (some (.ok (decide p) ρ)) = if p then f ρ else g ρ := by
  by_cases h : p
  · rw [decide_eq_true h, if_pos h]; rfl
  · rw [decide_eq_false h, if_neg h]; rfl
/-! calls -/
def kV (o : Option D) : Option T := o.map .f
theorem kV_s : kV (some d) = some (.f d) := rfl
def kCall (G : List T → Option Re) (o : Option (List T)) : Option T := o.bind fun ts => (T.fzs ts).bind fun ds => (val (G (ds.map .f))).bind fun d => if (ts.all isF || d.atom) = true then some (.f d) else none
theorem wz_fCallV {G fs} : fCallV G fs ρ = kCall G (fs ρ) := fCallV_eq G fs ρ
theorem fzs_f : ∀ (ds : List D), T.fzs (ds.map .f) = some ds
  | [] => rfl
  | d :: ds => by
    show (T.fz (.f d)).bind (fun d => (T.fzs (ds.map .f)).map fun ds => d :: ds) = _
    rw [fzs_f ds]
    rfl
theorem all_f : ∀ (ds : List D), (ds.map T.f).all isF = true
  | [] => rfl
  | d :: ds => by
    show (isF (.f d) && (ds.map T.f).all isF) = true
    rw [all_f ds]
    rfl
theorem kCall_m {G} : kCall G (some (ds.map T.f)) = kV (val (G (ds.map T.f))) := by
  show (T.fzs (ds.map T.f)).bind _ = _
  rw [fzs_f]
  show (val (G (ds.map .f))).bind _ = _
  rw [all_f]
  cases val (G (ds.map .f)) <;> rfl
theorem kCall_0 {G} : kCall G (some []) = kV (val (G [])) := kCall_m (ds := [])
theorem kCall_1 {G d1} : kCall G (some [.f d1]) = kV (val (G [.f d1])) := kCall_m (ds := [d1])
theorem kCall_2 {G d1 d2} : kCall G (some [.f d1, .f d2]) = kV (val (G [.f d1, .f d2])) := kCall_m (ds := [d1, d2])
theorem kCall_3 {G d1 d2 d3} : kCall G (some [.f d1, .f d2, .f d3]) = kV (val (G [.f d1, .f d2, .f d3])) := kCall_m (ds := [d1, d2, d3])
theorem kCall_4 {G d1 d2 d3 d4} : kCall G (some [.f d1, .f d2, .f d3, .f d4]) = kV (val (G [.f d1, .f d2, .f d3, .f d4])) := kCall_m (ds := [d1, d2, d3, d4])
theorem kCall_5 {G d1 d2 d3 d4 d5} : kCall G (some [.f d1, .f d2, .f d3, .f d4, .f d5]) = kV (val (G [.f d1, .f d2, .f d3, .f d4, .f d5])) := kCall_m (ds := [d1, d2, d3, d4, d5])
theorem kCall_6 {G d1 d2 d3 d4 d5 d6} : kCall G (some [.f d1, .f d2, .f d3, .f d4, .f d5, .f d6]) = kV (val (G [.f d1, .f d2, .f d3, .f d4, .f d5, .f d6])) := kCall_m (ds := [d1, d2, d3, d4, d5, d6])
theorem kCall_7 {G d1 d2 d3 d4 d5 d6 d7} : kCall G (some [.f d1, .f d2, .f d3, .f d4, .f d5, .f d6, .f d7]) = kV (val (G [.f d1, .f d2, .f d3, .f d4, .f d5, .f d6, .f d7])) := kCall_m (ds := [d1, d2, d3, d4, d5, d6, d7])
/-- owned things lent to a def that answers with an atom -/
theorem kCall_g {G ts} (h : T.fzs ts = some ds) (hv : val (G (ds.map .f)) = some d) (ha : d.atom = true) : kCall G (some ts) = some (.f d) := by
  show (T.fzs ts).bind _ = _
  rw [h]
  show (val (G (ds.map .f))).bind _ = _
  rw [hv]
  show (if _ then _ else _) = _
  rw [if_pos (by rw [ha, Bool.or_true])]
/-! displays -/
def kDisp (o : Option (List (Key × D))) : Option T := o.bind fun kds => if kds.length ≤ 15 then some (.f (.dct (dmerge [] [] kds).1 (dmerge [] [] kds).2)) else none
theorem wz_fDispD {h} : fDispD h ρ = kDisp (h ρ) := rfl
theorem kDisp_s {kds : List (Key × D)} (h : kds.length ≤ 15) : kDisp (some kds) = some (.f (.dct (dmerge [] [] kds).1 (dmerge [] [] kds).2)) := if_pos h
theorem wz_pNil : pNil ρ = some [] := rfl
def kPair (ok ov : Option T) (o : Option (List (Key × D))) : Option (List (Key × D)) := ok.bind fun k => k.key?.bind fun k => ov.bind fun v => v.d?.bind fun d => o.map fun r => (k, d) :: r
theorem wz_pCons {h} : pCons fa fb h ρ = kPair (fa ρ) (fb ρ) (h ρ) := rfl
theorem kPair_s {x : Str} {r} : kPair (some (.f (.str x))) (some (.f d)) (some r) = some ((.inr x, d) :: r) := rfl
theorem kPair_i {x : Int} {r} : kPair (some (.f (.int x))) (some (.f d)) (some r) = some ((.inl x, d) :: r) := rfl
def kNl (ρ : List T) (o : Option (List D)) : Option Re := o.bind fun ds => if ds.length ≤ sizeLine then some (.ok (.l ds) ρ) else none
def kNl' (ρ : List T) (o : Option (List T)) : Option Re := o.bind fun ts => kNl ρ (deep ts)
theorem wz_fNewL {fs} : fNewL fs ρ = kNl' ρ (fs ρ) := rfl
theorem kNl'_s {ts} : kNl' ρ (some ts) = kNl ρ (deep ts) := rfl
theorem kNl_s (h : ds.length ≤ 16777216) : kNl ρ (some ds) = some (.ok (.l ds) ρ) := if_pos h
theorem wz_fNewD : fNewD ρ = some (.ok (.dk [] []) ρ) := rfl
/-! loops -/
def kFor (fg : T → List T → Option (List T)) (fb : FS) (r : Option Ri) : Option Out := r.bind fun r => match r with
  | .ok ds ρ1 => forF fg fb ds ρ1
  | .xc C ρ1 => some (.xc C ρ1)
theorem wz_sFor {fi fg fb} : sFor fi fg fb ρ = kFor fg fb (fi ρ) := by
  unfold sFor kFor
  cases fi ρ with
  | none => rfl
  | some r => cases r <;> rfl
theorem kFor_s {fg fb} : kFor fg fb (some (.ok ds ρ)) = forF fg fb ds ρ := rfl
theorem for_nil {fg fb} : forF fg fb [] ρ = some (.nx ρ) := rfl
def kBody (fg : T → List T → Option (List T)) (fb : FS) (ds : List D) (o : Option Out) : Option Out := o.bind fun o => match o with
  | .nx ρ2 => forF fg fb ds ρ2
  | .ct ρ2 => forF fg fb ds ρ2
  | .bk ρ2 => some (.nx ρ2)
  | o => some o
def kTgt (fg : T → List T → Option (List T)) (fb : FS) (ds : List D) (o : Option (List T)) : Option Out := o.bind fun ρ1 => kBody fg fb ds (fb ρ1)
theorem for_cons {fg fb} : forF fg fb (d :: ds) ρ = kTgt fg fb ds (fg (.f d) ρ) := by
  show (fg (.f d) ρ).bind _ = (fg (.f d) ρ).bind _
  cases fg (.f d) ρ with
  | none => rfl
  | some ρ1 =>
    show (fb ρ1).bind _ = (fb ρ1).bind _
    cases fb ρ1 with
    | none => rfl
    | some o => cases o <;> rfl
theorem kTgt_s {fg fb} : kTgt fg fb ds (some ρ) = kBody fg fb ds (fb ρ) := rfl
theorem kBody_nx {fg fb} : kBody fg fb ds (some (.nx ρ)) = forF fg fb ds ρ := rfl
theorem kBody_ct {fg fb} : kBody fg fb ds (some (.ct ρ)) = forF fg fb ds ρ := rfl
theorem kBody_bk {fg fb} : kBody fg fb ds (some (.bk ρ)) = some (.nx ρ) := rfl
theorem kBody_rt {fg fb} : kBody fg fb ds (some (.rt t ρ)) = some (.rt t ρ) := rfl
theorem kBody_xc {fg fb C} : kBody fg fb ds (some (.xc C ρ)) = some (.xc C ρ) := rfl
/-- a loop that runs to its end -/
theorem for_inv {fg : T → List T → Option (List T)} {fb : FS} (P : List D → List T → Prop)
    (step : ∀ d ds ρ, P (d :: ds) ρ → ∃ ρ1 ρ2, fg (.f d) ρ = some ρ1 ∧ (fb ρ1 = some (.nx ρ2) ∨ fb ρ1 = some (.ct ρ2)) ∧ P ds ρ2) :
    ∀ {ds : List D} {ρ : List T}, P ds ρ → ∃ ρ', forF fg fb ds ρ = some (.nx ρ') ∧ P [] ρ'
  | [], ρ, h => ⟨ρ, rfl, h⟩
  | d :: ds, ρ, h => by
    obtain ⟨ρ1, ρ2, e1, e2, h2⟩ := step d ds ρ h
    obtain ⟨ρ', e3, h3⟩ := for_inv P step h2
    refine ⟨ρ', ?_, h3⟩
    rw [for_cons, e1, kTgt_s]
    rcases e2 with e2 | e2
    · rw [e2, kBody_nx, e3]
    · rw [e2, kBody_ct, e3]
def kIt (r : Option Re) : Option Ri := r.bind fun r => match r with
  | .ok t ρ1 => t.d?.bind fun d => d.its.map fun ds => .ok ds ρ1
  | .xc C ρ1 => some (.xc C ρ1)
theorem wz_iVal {fo} : iVal fo ρ = kIt (fo ρ) := by
  unfold iVal kIt
  cases fo ρ with
  | none => rfl
  | some r => cases r <;> rfl
theorem kIt_l : kIt (some (.ok (.f (.lst ds)) ρ)) = some (.ok ds ρ) := rfl
theorem kIt_t : kIt (some (.ok (.f (.tup ds)) ρ)) = some (.ok ds ρ) := rfl
theorem kIt_s {z : Str} : kIt (some (.ok (.f (.str z)) ρ)) = some (.ok (signs z) ρ) := rfl
def kI1 (g : List D → List D) (ρ : List T) (o : Option (List T)) : Option Ri := o.bind fun ts => match ts with
  | [.f (.lst ds)] => some (.ok (g ds) ρ)
  | _ => none
theorem wz_iL1 {g fs} : iL1 g fs ρ = kI1 g ρ (fs ρ) := by
  unfold iL1 kI1
  rfl
theorem kI1_s {g} : kI1 g ρ (some [.f (.lst ds)]) = some (.ok (g ds) ρ) := rfl
def kI2 (g : List D → List D → List D) (ρ : List T) (o : Option (List T)) : Option Ri := o.bind fun ts => match ts with
  | [.f (.lst ds), .f (.lst es)] => some (.ok (g ds es) ρ)
  | _ => none
theorem wz_iL2 {g fs} : iL2 g fs ρ = kI2 g ρ (fs ρ) := by
  unfold iL2 kI2
  rfl
theorem kI2_s {g} : kI2 g ρ (some [.f (.lst ds), .f (.lst es)]) = some (.ok (g ds es) ρ) := rfl
def kR1 (ρ : List T) (o : Option (List T)) : Option Ri := o.bind fun ts => match ts with
  | [.f (.int n)] => if -(2 ^ 62) ≤ n ∧ n < 2 ^ 62 then some (.ok (rangeD 0 n.toNat) ρ) else none
  | _ => none
theorem wz_iR1 {fs} : iR1 fs ρ = kR1 ρ (fs ρ) := by
  unfold iR1 kR1
  rfl
theorem kR1_s {k : Int} (h : -(2 ^ 62) ≤ k ∧ k < 2 ^ 62) : kR1 ρ (some [.f (.int k)]) = some (.ok (rangeD 0 k.toNat) ρ) := if_pos h
def kR2 (ρ : List T) (o : Option (List T)) : Option Ri := o.bind fun ts => match ts with
  | [.f (.int m), .f (.int n)] => if -(2 ^ 62) ≤ m ∧ m < 2 ^ 62 ∧ -(2 ^ 62) ≤ n ∧ n < 2 ^ 62 then some (.ok (rangeD m (n - m).toNat) ρ) else none
  | _ => none
theorem wz_iR2 {fs} : iR2 fs ρ = kR2 ρ (fs ρ) := by
  unfold iR2 kR2
  rfl
theorem kR2_s {j k : Int} (h : -(2 ^ 62) ≤ j ∧ j < 2 ^ 62 ∧ -(2 ^ 62) ≤ k ∧ k < 2 ^ 62) : kR2 ρ (some [.f (.int j), .f (.int k)]) = some (.ok (rangeD j (k - j).toNat) ρ) := if_pos h
theorem rangeD_zero {j : Int} : rangeD j 0 = [] := rfl
theorem rangeD_succ {j : Int} : rangeD j (n + 1) = .int j :: rangeD (j + 1) n := by
  unfold rangeD
  rw [List.range_succ_eq_map, List.map_cons, List.map_map]
  congr 1
  · simp
  · refine List.map_congr_left fun a _ => ?_
    show D.int (j + ((a + 1 : Nat) : Int)) = D.int (j + 1 + (a : Int))
    congr 1
    omega
/-! targets -/
theorem wz_gSet : gSet i t ρ = some (ρ.set i t) := rfl
theorem wz_gsNil : gsNil [] ρ = some ρ := rfl
def kGs (g : List T → List T → Option (List T)) (ts : List T) (o : Option (List T)) : Option (List T) := o.bind fun ρ1 => g ts ρ1
theorem wz_gsCons {h g ts} : gsCons h g (t :: ts) ρ = kGs g ts (h t ρ) := rfl
theorem kGs_s {g ts} : kGs g ts (some ρ) = g ts ρ := rfl
theorem wz_gTupT {h} (e : ds.length = n) : gTupT n h (.f (.tup ds)) ρ = h (ds.map .f) ρ := if_pos e
/-! ends -/
theorem oval_rt (m : Nat) (d : D) (ρ : List T) (h : m ≤ ρ.length) : oval (some (.rt (.f d) ρ)) m = some d := if_pos h
theorem oval_nx (m : Nat) (ρ : List T) (h : m ≤ ρ.length) : oval (some (.nx ρ)) m = some .non := if_pos h
/-! values -/
theorem gIx_ds {ks z} (h : dAt ks ds (.inr z) = some d) : gIx (.f (.dct ks ds)) (.f (.str z)) = some (.f d) := by
  show (Option.orElse none fun _ => _) = _
  show (Option.orElse none fun _ => (dAt ks ds (.inr z)).map T.f) = _
  rw [h]
  rfl
theorem gIx_di {ks} {z : Int} (h : dAt ks ds (.inl z) = some d) : gIx (.f (.dct ks ds)) (.f (.int z)) = some (.f d) := by
  show (Option.orElse none fun _ => _) = _
  show (Option.orElse none fun _ => (dAt ks ds (.inl z)).map T.f) = _
  rw [h]
  rfl
theorem deep_nil : deep [] = some [] := rfl
def kDc (d : D) (o : Option (List D)) : Option (List D) := o.map fun ds => d :: ds
theorem deep_f {ts} : deep (.f d :: ts) = kDc d (deep ts) := rfl
theorem kDc_s : kDc d (some ds) = some (d :: ds) := rfl
theorem deep_map : ∀ (ds : List D), deep (ds.map .f) = some ds
  | [] => rfl
  | d :: ds => by
    show kDc d (deep (ds.map .f)) = _
    rw [deep_map ds]
    rfl
def kTp (o : Option (List D)) : Option T := o.bind fun ds => if ds.length ≤ sizeLine then some (.f (.tup ds)) else none
theorem wz_gTup {ts} : Z.gTup ts = kTp (deep ts) := rfl
theorem kTp_s (h : ds.length ≤ 16777216) : kTp (some ds) = some (.f (.tup ds)) := if_pos h
def kLs (o : Option (List D)) : Option T := o.bind fun ds => if ds.length ≤ sizeLine then some (.f (.lst ds)) else none
theorem wz_gLst {ts} : gLst ts = kLs (deep ts) := rfl
theorem kLs_s (h : ds.length ≤ 16777216) : kLs (some ds) = some (.f (.lst ds)) := if_pos h
theorem atI_of {α : Type} {xs : List α} {i : Int} {a : α} (h0 : 0 ≤ i) (h : xs[i.toNat]? = some a) : atI xs i = some a := by
  have hl : i.toNat < xs.length := by
    rcases Nat.lt_or_ge i.toNat xs.length with z | z
    · exact z
    · rw [List.getElem?_eq_none z] at h; cases h
  unfold atI ixN
  rw [if_pos h0, if_pos (by omega)]
  exact h
theorem atI_nat {α : Type} {xs : List α} {i : Nat} {a : α} (h : xs[i]? = some a) : atI xs (i : Int) = some a := atI_of (by omega) (by simpa using h)
theorem cutD_take {α : Type} {xs : List α} {k : Nat} : cutD xs none (some (k : Int)) = xs.take k := by
  unfold cutD
  rw [HT.sIx_none, HT.sIx_nat, List.drop_zero, Nat.sub_zero]
  rcases Nat.le_total k xs.length with h | h
  · rw [Nat.min_eq_left h]
  · rw [Nat.min_eq_right h, List.take_length, List.take_of_length_le h]
theorem cutD_drop {α : Type} {xs : List α} {k : Nat} : cutD xs (some (k : Int)) none = xs.drop k := by
  unfold cutD
  rw [HT.sIx_none, HT.sIx_nat]
  rcases Nat.le_total k xs.length with h | h
  · rw [Nat.min_eq_left h, List.take_of_length_le (by rw [List.length_drop]; exact Nat.le_refl _)]
  · rw [Nat.min_eq_right h, List.drop_of_length_le (Nat.le_refl _), List.drop_of_length_le h]
    simp
theorem gSl_l {lo hi} : gSl (.f (.lst ds)) lo hi = some (.f (.lst (cutD ds lo hi))) := rfl
theorem gSl_o {lo hi} : gSl (.l ds) lo hi = some (.f (.lst (cutD ds lo hi))) := rfl
def kS00 (o : Option T) : Option T := o.bind fun t => gSl t none none
def kS10 (o p : Option T) : Option T := o.bind fun t => p.bind fun x => x.i?.bind fun i => gSl t (some i) none
def kS01 (o p : Option T) : Option T := o.bind fun t => p.bind fun x => x.i?.bind fun i => gSl t none (some i)
def kS11 (o p q : Option T) : Option T := o.bind fun t => p.bind fun x => x.i?.bind fun i => q.bind fun y => y.i?.bind fun j => gSl t (some i) (some j)
theorem wz_sl00 : fSl fa none none ρ = kS00 (fa ρ) := rfl
theorem wz_sl10 : fSl fa (some fb) none ρ = kS10 (fa ρ) (fb ρ) := rfl
theorem wz_sl01 : fSl fa none (some fb) ρ = kS01 (fa ρ) (fb ρ) := rfl
theorem wz_sl11 : fSl fa (some fb) (some fc) ρ = kS11 (fa ρ) (fb ρ) (fc ρ) := rfl
theorem kS00_s : kS00 (some t) = gSl t none none := rfl
theorem kS10_s {i : Int} : kS10 (some t) (some (.f (.int i))) = gSl t (some i) none := rfl
theorem kS01_s {i : Int} : kS01 (some t) (some (.f (.int i))) = gSl t none (some i) := rfl
theorem kS11_s {i j : Int} : kS11 (some t) (some (.f (.int i))) (some (.f (.int j))) = gSl t (some i) (some j) := rfl
def gIsi (n : String) (t : T) : Option T := t.ty.bind fun m => (kitB m n).map fun b => .f (.bl b)
theorem wz_fIsi {n : String} : fIsi n fa ρ = k1 (gIsi n) (fa ρ) := rfl
theorem kitB_ii : kitB "int" "int" = some true := by decide +kernel
theorem kitB_ib : kitB "int" "bool" = some false := by decide +kernel
theorem kitB_nl : kitB "NoneType" "list" = some false := by decide +kernel
theorem kitB_ll : kitB "list" "list" = some true := by decide +kernel
theorem kitB_tt : kitB "tuple" "tuple" = some true := by decide +kernel
theorem kitB_ss : kitB "str" "str" = some true := by decide +kernel
theorem kitB_bb : kitB "bool" "bool" = some true := by decide +kernel
theorem kitB_tl : kitB "tuple" "list" = some false := by decide +kernel
theorem kitB_dd : kitB "dict" "dict" = some true := by decide +kernel
theorem gIsi_ii {i : Int} : gIsi "int" (.f (.int i)) = some (.f (.bl true)) := congrArg (Option.map fun b => T.f (.bl b)) kitB_ii
theorem gIsi_ib {i : Int} : gIsi "bool" (.f (.int i)) = some (.f (.bl false)) := congrArg (Option.map fun b => T.f (.bl b)) kitB_ib
theorem gIsi_ll : gIsi "list" (.f (.lst ds)) = some (.f (.bl true)) := congrArg (Option.map fun b => T.f (.bl b)) kitB_ll
theorem gIsi_lo : gIsi "list" (.l ds) = some (.f (.bl true)) := congrArg (Option.map fun b => T.f (.bl b)) kitB_ll
theorem gIsi_tt : gIsi "tuple" (.f (.tup ds)) = some (.f (.bl true)) := congrArg (Option.map fun b => T.f (.bl b)) kitB_tt
theorem gIsi_ss {i : Str} : gIsi "str" (.f (.str i)) = some (.f (.bl true)) := congrArg (Option.map fun b => T.f (.bl b)) kitB_ss
theorem gIsi_bb {i : Bool} : gIsi "bool" (.f (.bl i)) = some (.f (.bl true)) := congrArg (Option.map fun b => T.f (.bl b)) kitB_bb
theorem gIsi_dd {ks} : gIsi "dict" (.f (.dct ks ds)) = some (.f (.bl true)) := congrArg (Option.map fun b => T.f (.bl b)) kitB_dd
theorem gCat_l (h : ds.length + es.length ≤ 16777216) : gAdd (.f (.lst ds)) (.f (.lst es)) = some (.f (.lst (ds ++ es))) := by
  show (Option.orElse none fun _ => Option.orElse none fun _ => Option.orElse (if ds.length + es.length ≤ sizeLine then some (T.f (.lst (ds ++ es))) else none) fun _ => _) = _
  rw [if_pos (show ds.length + es.length ≤ sizeLine from h)]
  rfl
theorem gCat_s {x y : Str} (h : x.length + y.length ≤ 16777216) : gAdd (.f (.str x)) (.f (.str y)) = some (.f (.str (x ++ y))) := by
  show (Option.orElse none fun _ => Option.orElse (if x.length + y.length ≤ sizeLine then some (T.f (.str (x ++ y))) else none) fun _ => _) = _
  rw [if_pos (show x.length + y.length ≤ sizeLine from h)]
  rfl
theorem dec01 {p : Prop} [Decidable p] : (if decide p = true then (1 : Int) else 0) = if p then 1 else 0 := by
  by_cases h : p
  · rw [decide_eq_true h, if_pos h]; rfl
  · rw [decide_eq_false h, if_neg h]; rfl
end
end Z

namespace Z
open PySem L2
/-! ### rules with number conditions, for a walk that discharges them -/
section
variable {i j : Int} {x y : Str} {a b : Bool} {ds es : List D} {d e : D} {ρ : List T}
theorem str_inj {a b : String} : (Str.ofString a = Str.ofString b) = (a = b) := propext ⟨fun h => by
  rw [Str.ofString_eq_toList, Str.ofString_eq_toList] at h
  injection h with h
  have h2 : a.toList.map Char.toNat = b.toList.map Char.toNat := by simpa using h
  have h3 := (List.map_inj_right (fun x y e => Char.ext (UInt32.toNat_inj.mp e))).mp h2
  exact String.ext h3, fun h => by rw [h]⟩
theorem pow8999 : (10 : Nat) ^ 60 < 2 ^ 8999 := by
  have h : (2 : Nat) ^ 200 ≤ 2 ^ 8999 := Nat.pow_le_pow_right (by decide) (by decide)
  exact Nat.lt_of_lt_of_le (by decide) h
theorem pow1000 : (10 : Nat) ^ 60 < 2 ^ 1000 := by
  have h : (2 : Nat) ^ 200 ≤ 2 ^ 1000 := Nat.pow_le_pow_right (by decide) (by decide)
  exact Nat.lt_of_lt_of_le (by decide) h
theorem gDiv_o (h : 0 < j) (h2 : j ≤ 1000000000000000000000000000000000000000000000000000000000000) : gDiv (.f (.int i)) (.f (.int j)) = some (.f (.int (i / j))) := gDiv_ok h (Nat.lt_of_le_of_lt (by show j.natAbs ≤ 10 ^ 60; omega) pow8999)
theorem gMul_o (h1 : -1000000000000000000000000000000000000000000000000000000000000 ≤ i) (h2 : i ≤ 1000000000000000000000000000000000000000000000000000000000000) (h3 : -1000000000000000000000000000000000000000000000000000000000000 ≤ j) (h4 : j ≤ 1000000000000000000000000000000000000000000000000000000000000) : gMul (.f (.int i)) (.f (.int j)) = some (.f (.int (i * j))) :=
  gMul_small (Nat.lt_of_le_of_lt (by show i.natAbs ≤ 10 ^ 60; omega) pow1000) (Nat.lt_of_le_of_lt (by show j.natAbs ≤ 10 ^ 60; omega) pow1000)
theorem gShl_o (h : 0 ≤ j) (h1 : j ≤ 1000000) : gShl (.f (.int 1)) (.f (.int j)) = some (.f (.int (2 ^ j.toNat))) := by
  rw [gShl_ok h h1 (by decide), Int.one_mul]
theorem gShr_o (h : 0 ≤ j) : gShr (.f (.int i)) (.f (.int j)) = some (.f (.int (i / 2 ^ j.toNat))) := gShr_ok h
def kVT (o : Option D) : Option T := o.map T.f
theorem kVT_s : kVT (some d) = some (.f d) := rfl
theorem or2_none {g h : T → T → Option T} {s t : T} (e : g s t = none) : or2 g h s t = h s t := by
  unfold or2
  rw [e]
  rfl
theorem or2_r {g h : T → T → Option T} {s t : T} (e : h s t = none) : or2 g h s t = g s t := by
  unfold or2
  rw [e]
  cases g s t <;> rfl
theorem gIx_lst : gIx (.f (.lst ds)) (.f (.int i)) = kVT (atI ds i) := by
  unfold gIx
  rw [or2_r rfl, or2_r rfl]
  rfl
theorem gIx_own : gIx (.l ds) (.f (.int i)) = kVT (atI ds i) := by
  unfold gIx
  rw [or2_r rfl, or2_r rfl]
  rfl
theorem gIx_tup : gIx (.f (.tup ds)) (.f (.int i)) = kVT (atI ds i) := by
  unfold gIx
  rw [or2_r rfl, or2_r rfl]
  rfl
theorem gIx_dct {ks} : gIx (.f (.dct ks ds)) (.f (.str x)) = kVT (dAt ks ds (.inr x)) := by
  unfold gIx
  rw [or2_none rfl]
  rfl
theorem gIx_dcti {ks} : gIx (.f (.dct ks ds)) (.f (.int i)) = kVT (dAt ks ds (.inl i)) := by
  unfold gIx
  rw [or2_none rfl]
  rfl
theorem gIx_odct {ks} : gIx (.dk ks ds) (.f (.str x)) = kVT (dAt ks ds (.inr x)) := by
  unfold gIx
  rw [or2_none rfl]
  rfl
theorem gIx_odcti {ks} : gIx (.dk ks ds) (.f (.int i)) = kVT (dAt ks ds (.inl i)) := by
  unfold gIx
  rw [or2_none rfl]
  rfl
theorem atI_pos {α : Type} {xs : List α} (h : 0 ≤ i) : atI xs i = xs[i.toNat]? := by
  unfold atI ixN
  rw [if_pos h]
  by_cases hl : i < xs.length
  · rw [if_pos hl]; rfl
  · rw [if_neg hl]
    show none = _
    rw [List.getElem?_eq_none (by omega)]
theorem atI_neg {α : Type} {xs : List α} (h : i < 0) (h2 : -(xs.length : Int) ≤ i) : atI xs i = xs[(i + xs.length).toNat]? := by
  unfold atI ixN
  rw [if_neg (by omega), if_pos h2]
  rfl
theorem dAt_cons {k q : Key} {ks : List Key} : dAt (k :: ks) (d :: ds) q = if k = q then some d else dAt ks ds q := rfl
theorem gTupT1 {h a} : gTupT 1 h (.f (.tup [a])) ρ = h [.f a] ρ := rfl
theorem gTupT2 {h a b} : gTupT 2 h (.f (.tup [a, b])) ρ = h [.f a, .f b] ρ := rfl
theorem gTupT3 {h a b c} : gTupT 3 h (.f (.tup [a, b, c])) ρ = h [.f a, .f b, .f c] ρ := rfl
theorem gTupT4 {h a b c d} : gTupT 4 h (.f (.tup [a, b, c, d])) ρ = h [.f a, .f b, .f c, .f d] ρ := rfl
theorem gTupT5 {h a b c d e} : gTupT 5 h (.f (.tup [a, b, c, d, e])) ρ = h [.f a, .f b, .f c, .f d, .f e] ρ := rfl
/-! None -/
theorem gIsNn_i {neg : Bool} : gIsNn neg (.f (.int i)) = some (.f (.bl (xor neg false))) := rfl
theorem gIsNn_s {neg : Bool} : gIsNn neg (.f (.str x)) = some (.f (.bl (xor neg false))) := rfl
theorem gIsNn_b {neg : Bool} : gIsNn neg (.f (.bl a)) = some (.f (.bl (xor neg false))) := rfl
theorem gIsNn_n {neg : Bool} : gIsNn neg (.f .non) = some (.f (.bl (xor neg true))) := rfl
theorem gIsNn_l {neg : Bool} : gIsNn neg (.f (.lst ds)) = some (.f (.bl (xor neg false))) := rfl
theorem gIsNn_t {neg : Bool} : gIsNn neg (.f (.tup ds)) = some (.f (.bl (xor neg false))) := rfl
theorem gIsNn_d {neg : Bool} {ks} : gIsNn neg (.f (.dct ks ds)) = some (.f (.bl (xor neg false))) := rfl
theorem gIsNn_o {neg : Bool} : gIsNn neg (.l ds) = some (.f (.bl (xor neg false))) := rfl
theorem gIsNn_od {neg : Bool} {ks} : gIsNn neg (.dk ks ds) = some (.f (.bl (xor neg false))) := rfl
theorem wz_fIsN {neg : Bool} {fa} : fIsN neg fa ρ = k1 (gIsNn neg) (fa ρ) := rfl
/-! chains -/
def kChain (g h : T → T → Option T) (fd : List T → Option T) (ρ : List T) (oa ob : Option T) : Option T := oa.bind fun x => ob.bind fun y => (g x y).bind fun z => z.b?.bind fun k => if k = true then (fd ρ).bind fun w => h y w else some (.f (.bl false))
theorem wz_fChain {g h fa fb fd} : fChain g h fa fb fd ρ = kChain g h fd ρ (fa ρ) (fb ρ) := rfl
def kCh1 (h : T → T → Option T) (fd : List T → Option T) (ρ : List T) (y : T) (o : Option T) : Option T := o.bind fun z => z.b?.bind fun k => if k = true then (fd ρ).bind fun w => h y w else some (.f (.bl false))
theorem kChain_s {g h fd x y} : kChain g h fd ρ (some x) (some y) = kCh1 h fd ρ y (g x y) := rfl
theorem kCh1_t {h fd y} : kCh1 h fd ρ y (some (.f (.bl true))) = k2 h (some y) (fd ρ) := rfl
theorem kCh1_f {h fd y} : kCh1 h fd ρ y (some (.f (.bl false))) = some (.f (.bl false)) := rfl
/-! ends of turns -/
def Wn0 (Q : List T → Prop) (R : Out → Prop) : Option Out → Prop
  | some (.nx ρ) => Q ρ
  | some (.ct ρ) => Q ρ
  | some (.bk ρ) => R (.nx ρ)
  | some (.rt t ρ) => R (.rt t ρ)
  | some (.xc C ρ) => R (.xc C ρ)
  | none => False
structure Wn (Q : List T → Prop) (R : Out → Prop) (o : Option Out) : Prop where
  go : Wn0 Q R o
def kTurn (fb : FS) (o : Option (List T)) : Option Out := o.bind fb
theorem kTurn_s {fb} : kTurn fb (some ρ) = fb ρ := rfl
/-- a loop: P what stands ahead of each turn, R how it may end otherwise -/
theorem for_wp {fg : T → List T → Option (List T)} {fb : FS} (P : List D → List T → Prop) (R : Out → Prop) (step : ∀ d ds ρ, P (d :: ds) ρ → Wn (P ds) R (kTurn fb (fg (.f d) ρ))) :
    ∀ {ds : List D} {ρ : List T}, P ds ρ → ∃ o, forF fg fb ds ρ = some o ∧ ((∃ ρ', o = .nx ρ' ∧ P [] ρ') ∨ R o)
  | [], ρ, h => ⟨.nx ρ, rfl, .inl ⟨ρ, rfl, h⟩⟩
  | d :: ds, ρ, h => by
    have s := step d ds ρ h
    rw [for_cons]
    cases e1 : fg (.f d) ρ with
    | none => rw [e1] at s; exact s.go.elim
    | some ρ1 =>
      rw [e1, kTurn_s] at s
      rw [kTgt_s]
      cases e2 : fb ρ1 with
      | none => rw [e2] at s; exact s.go.elim
      | some o =>
        rw [e2] at s
        cases o with
        | nx ρ2 => rw [kBody_nx]; exact for_wp P R step s.go
        | ct ρ2 => rw [kBody_ct]; exact for_wp P R step s.go
        | bk ρ2 => rw [kBody_bk]; exact ⟨_, rfl, .inr s.go⟩
        | rt t ρ2 => rw [kBody_rt]; exact ⟨_, rfl, .inr s.go⟩
        | xc C ρ2 => rw [kBody_xc]; exact ⟨_, rfl, .inr s.go⟩
theorem for_all {fg : T → List T → Option (List T)} {fb : FS} (P : List D → List T → Prop) (step : ∀ d ds ρ, P (d :: ds) ρ → Wn (P ds) (fun _ => False) (kTurn fb (fg (.f d) ρ))) {ds : List D} {ρ : List T} (h : P ds ρ) : ∃ ρ', forF fg fb ds ρ = some (.nx ρ') ∧ P [] ρ' := by
  obtain ⟨o, e, ⟨ρ', rfl, h'⟩ | h'⟩ := for_wp P (fun _ => False) step h
  · exact ⟨ρ', e, h'⟩
  · exact h'.elim
theorem Wn_of {o : Option Out} {Q R} {ρ' : List T} (h : o = some (.nx ρ')) (hq : Q ρ') : Wn Q R o := ⟨by rw [h]; exact hq⟩
theorem Wn_of_rt {o : Option Out} {Q R t} {ρ' : List T} (h : o = some (.rt t ρ')) (hq : R (.rt t ρ')) : Wn Q R o := ⟨by rw [h]; exact hq⟩
theorem Wn_of_ct {o : Option Out} {Q R} {ρ' : List T} (h : o = some (.ct ρ')) (hq : Q ρ') : Wn Q R o := ⟨by rw [h]; exact hq⟩
theorem Wn_of_bk {o : Option Out} {Q R} {ρ' : List T} (h : o = some (.bk ρ')) (hq : R (.nx ρ')) : Wn Q R o := ⟨by rw [h]; exact hq⟩
/-- what a def answers -/
def Vd (Q : D → Prop) (m : Nat) (o : Option Out) : Prop := ∃ d, oval o m = some d ∧ Q d
theorem oval_rt' {m : Nat} {d : D} (h : m ≤ ρ.length) : oval (some (.rt (.f d) ρ)) m = some d := if_pos h
theorem oval_nx' {m : Nat} (h : m ≤ ρ.length) : oval (some (.nx ρ)) m = some .non := if_pos h
end
end Z

namespace Z
open PySem L2
/-! ### walking: lists made, things changed in place -/
section
variable {ρ ρ1 : List T} {d e : D} {ds es : List D} {t x y : T} {i n m : Nat} {b : Bool} {f g : FS} {fa fb fc fe fk : List T → Option T} {vs : List Nat} {q : Int} {z : Str}
variable {fi : List T → Option (List D)} {fg : T → List T → Option (List T)} {ft : List T → Option Bool}
def okV (o : Option T) : Bool := match o with
  | none => true
  | some .un => true
  | some (.f _) => true
  | _ => false
theorem okW_nil : okW ρ [] = true := rfl
theorem okW_cons {v : Nat} : okW ρ (v :: vs) = (okV ρ[v]? && okW ρ vs) := by
  unfold okW okV
  rw [List.all_cons]
  try rfl
theorem okV_n : okV none = true := rfl
theorem okV_u : okV (some .un) = true := rfl
theorem okV_f : okV (some (.f d)) = true := rfl
theorem wipeR_nil : wipeR ρ [] = ρ := rfl
theorem wipeR_cons {v : Nat} : wipeR ρ (v :: vs) = (wipeR ρ vs).set v .un := rfl
def kLc (fg : T → List T → Option (List T)) (ft : List T → Option Bool) (fe : List T → Option T) (ρ0 : List T) (o : Option (List D)) : Option T := o.bind fun ds => kLs (lcF fg ft fe ρ0 ds)
def kLcB (b : Bool) (o : Option T) : Option T := if b = true then o else none
theorem wz_fLc : fLc vs fi fg ft fe ρ = kLcB (okW ρ vs) (kLc fg ft fe (wipeR ρ vs) (fi ρ)) := rfl
theorem kLcB_t {o} : kLcB true o = o := rfl
theorem kLc_s : kLc fg ft fe ρ (some ds) = kLs (lcF fg ft fe ρ ds) := rfl
def kL3 (rest : Option (List D)) (o : Option T) : Option (List D) := o.bind fun t => t.d?.bind fun e => rest.map fun r => e :: r
def kL2 (fe : List T → Option T) (rest : Option (List D)) (ρ1 : List T) (o : Option Bool) : Option (List D) := o.bind fun b => if b = true then kL3 rest (fe ρ1) else rest
def kL1 (ft : List T → Option Bool) (fe : List T → Option T) (rest : Option (List D)) (o : Option (List T)) : Option (List D) := o.bind fun ρ1 => kL2 fe rest ρ1 (ft ρ1)
theorem lcF_nil : lcF fg ft fe ρ [] = some [] := rfl
theorem lcF_cons : lcF fg ft fe ρ (d :: ds) = kL1 ft fe (lcF fg ft fe ρ ds) (fg (.f d) ρ) := rfl
theorem kL1_s {rest} : kL1 ft fe rest (some ρ1) = kL2 fe rest ρ1 (ft ρ1) := rfl
theorem kL2_t {rest} : kL2 fe rest ρ1 (some true) = kL3 rest (fe ρ1) := rfl
theorem kL2_f {rest} : kL2 fe rest ρ1 (some false) = rest := rfl
theorem kL2_d {rest} {p : Prop} [Decidable p] : kL2 fe rest ρ1 (some (decide p)) = if p then kL3 rest (fe ρ1) else rest := by
  by_cases h : p
  · rw [decide_eq_true h, if_pos h]; rfl
  · rw [decide_eq_false h, if_neg h]; rfl
theorem kL3_s : kL3 (some ds) (some (.f d)) = some (d :: ds) := rfl
theorem tYes_s : tYesF ρ = some true := rfl
/-- one turn -/
def lcT (fg : T → List T → Option (List T)) (ft : List T → Option Bool) (fe : List T → Option T) (ρ0 : List T) (d : D) : Option (List D) := kL1 ft fe (some []) (fg (.f d) ρ0)
theorem wz_lcT : lcT fg ft fe ρ d = kL1 ft fe (some []) (fg (.f d) ρ) := rfl
theorem lcF_of {α : Type} {φ : α → D} {G : α → List D} : ∀ {as : List α}, (∀ a ∈ as, lcT fg ft fe ρ (φ a) = some (G a)) → lcF fg ft fe ρ (as.map φ) = some (as.flatMap G)
  | [], _ => rfl
  | a :: as, h => by
    have h1 := h a List.mem_cons_self
    have h2 := lcF_of (as := as) fun b hb => h b (List.mem_cons_of_mem _ hb)
    rw [List.map_cons, lcF_cons, h2, List.flatMap_cons]
    unfold lcT at h1
    cases e1 : fg (.f (φ a)) ρ with
    | none => rw [e1] at h1; cases h1
    | some ρ1 =>
      rw [e1, kL1_s] at h1
      rw [kL1_s]
      cases e2 : ft ρ1 with
      | none => rw [e2] at h1; cases h1
      | some c =>
        rw [e2] at h1
        cases c with
        | false => rw [kL2_f] at h1 ⊢; rw [← Option.some.inj h1]; rfl
        | true =>
          rw [kL2_t] at h1 ⊢
          cases e3 : fe ρ1 with
          | none => rw [e3] at h1; cases h1
          | some t =>
            rw [e3] at h1
            cases t with
            | f dd =>
              rw [kL3_s] at h1 ⊢
              rw [← Option.some.inj h1]
              rfl
            | _ => cases h1
def kJV (o : Option T) : Option (List D) := o.bind fun t => match t with
  | .f d => d.its
  | _ => none
theorem wz_jVal : jVal fa ρ = kJV (fa ρ) := by unfold jVal kJV; rfl
theorem kJV_l : kJV (some (.f (.lst ds))) = some ds := rfl
theorem kJV_t : kJV (some (.f (.tup ds))) = some ds := rfl
theorem kJV_s : kJV (some (.f (.str z))) = some (signs z) := rfl
def kJ1 (g : List D → List D) (o : Option (List T)) : Option (List D) := o.bind fun ts => match ts with
  | [.f (.lst ds)] => some (g ds)
  | _ => none
theorem wz_jL1 {g fs} : jL1 g fs ρ = kJ1 g (fs ρ) := by unfold jL1 kJ1; rfl
theorem kJ1_s {g} : kJ1 g (some [.f (.lst ds)]) = some (g ds) := rfl
def kJ2 (g : List D → List D → List D) (o : Option (List T)) : Option (List D) := o.bind fun ts => match ts with
  | [.f (.lst ds), .f (.lst es)] => some (g ds es)
  | _ => none
theorem wz_jL2 {g fs} : jL2 g fs ρ = kJ2 g (fs ρ) := by unfold jL2 kJ2; rfl
theorem kJ2_s {g} : kJ2 g (some [.f (.lst ds), .f (.lst es)]) = some (g ds es) := rfl
def kJR1 (o : Option (List T)) : Option (List D) := o.bind fun ts => match ts with
  | [.f (.int n)] => if -(2 ^ 62) ≤ n ∧ n < 2 ^ 62 then some (rangeD 0 n.toNat) else none
  | _ => none
theorem wz_jR1 {fs} : jR1 fs ρ = kJR1 (fs ρ) := by unfold jR1 kJR1; rfl
theorem kJR1_s {k : Int} (h : -(2 ^ 62) ≤ k ∧ k < 2 ^ 62) : kJR1 (some [.f (.int k)]) = some (rangeD 0 k.toNat) := if_pos h
def kJR2 (o : Option (List T)) : Option (List D) := o.bind fun ts => match ts with
  | [.f (.int m), .f (.int n)] => if -(2 ^ 62) ≤ m ∧ m < 2 ^ 62 ∧ -(2 ^ 62) ≤ n ∧ n < 2 ^ 62 then some (rangeD m (n - m).toNat) else none
  | _ => none
theorem wz_jR2 {fs} : jR2 fs ρ = kJR2 (fs ρ) := by unfold jR2 kJR2; rfl
theorem kJR2_s {j k : Int} (h : -(2 ^ 62) ≤ j ∧ j < 2 ^ 62 ∧ -(2 ^ 62) ≤ k ∧ k < 2 ^ 62) : kJR2 (some [.f (.int j), .f (.int k)]) = some (rangeD j (k - j).toNat) := if_pos h
/-! places -/
theorem wz_pHere : pHere ρ = some [] := rfl
def kMu (i : Nat) (ρ : List T) (o : Option T) : Option (List T) := o.map fun u => ρ.set i u
theorem kMu_s : kMu i ρ (some t) = some (ρ.set i t) := rfl
theorem mutF_here {g : T → Option T} : mutF i [] g ρ = kMu i ρ (k1 g ρ[i]?) := by
  unfold mutF kMu k1
  cases ρ[i]? <;> rfl
def kNx (o : Option (List T)) : Option Out := o.map .nx
theorem kNx_s : kNx (some ρ) = some (.nx ρ) := rfl
def kApp (i : Nat) (ρ : List T) (π : Option (List Sel)) (o : Option T) : Option Out := π.bind fun π => o.bind fun x => x.d?.bind fun d => kNx (mutF i π (appT d) ρ)
theorem wz_sApp {fp} : sApp i fp fe ρ = kApp i ρ (fp ρ) (fe ρ) := rfl
theorem kApp_s {π} : kApp i ρ (some π) (some (.f d)) = kNx (mutF i π (appT d) ρ) := rfl
theorem appT_l (h : ds.length < 16777216) : appT d (.l ds) = some (.l (ds ++ [d])) := if_pos h
def kSI (i : Nat) (ρ : List T) (o : Option T) (π : Option (List Sel)) (k : Option T) : Option Out := o.bind fun x => x.d?.bind fun d => π.bind fun π => k.bind fun z => z.d?.bind fun q => kNx (mutF i π (setT q d) ρ)
theorem wz_sSetIx {fp} : sSetIx i fp fk fe ρ = kSI i ρ (fe ρ) (fp ρ) (fk ρ) := rfl
theorem kSI_s {π} {q : D} : kSI i ρ (some (.f d)) (some π) (some (.f q)) = kNx (mutF i π (setT q d) ρ) := rfl
theorem setT_l (h0 : 0 ≤ q) (h : q < ds.length) : setT (.int q) d (.l ds) = some (.l (ds.set q.toNat d)) := by
  show (ixN ds.length q).map _ = _
  unfold ixN
  rw [if_pos h0, if_pos h]
  rfl
theorem setT_ds {ks : List Key} (h : ks.length < 16777216) : setT (.str z) d (.dk ks ds) = some (.dk (dput ks ds (.inr z) d).1 (dput ks ds (.inr z) d).2) := if_pos h
theorem setT_di {ks : List Key} (h : ks.length < 16777216) : setT (.int q) d (.dk ks ds) = some (.dk (dput ks ds (.inl q) d).1 (dput ks ds (.inl q) d).2) := if_pos h
/-! becoming deep -/
def kF2 (i : Nat) (ρ : List T) (o : Option T) : Option (List T) := match o with
  | some .un => some ρ
  | some t => t.fz.map fun d => ρ.set i (.f d)
  | none => none
theorem wz_fzS : fzS i ρ = kF2 i ρ ρ[i]? := by unfold fzS kF2; rfl
theorem kF2_u : kF2 i ρ (some .un) = some ρ := rfl
theorem kF2_f : kF2 i ρ (some (.f d)) = some (ρ.set i (.f d)) := rfl
theorem kF2_l : kF2 i ρ (some (.l ds)) = some (ρ.set i (.f (.lst ds))) := rfl
theorem kF2_d {ks} : kF2 i ρ (some (.dk ks ds)) = some (ρ.set i (.f (.dct ks ds))) := rfl
def kFS (f : FS) (o : Option (List T)) : Option Out := o.bind f
theorem wz_sFz : sFz i f ρ = kFS f (fzS i ρ) := rfl
theorem kFS_s : kFS f (some ρ) = f ρ := rfl
/-! in -/
def lstD (l : List Str) : List D := l.map .str
theorem any_v {z : Str} : ∀ (l : List Str), inV (.str z) ((l.map D.str).map D.v) = decide (z ∈ l)
  | [] => rfl
  | a :: l => by
    have ih := any_v (z := z) l
    unfold inV at ih ⊢
    rw [List.map_cons, List.map_cons, List.any_cons, ih]
    rw [show eqV (D.str a).v (V.str z) = decide (a = z) from rfl]
    by_cases h : a = z
    · subst h; simp
    · have h' : z ≠ a := fun e => h e.symm
      simp [h, h']
theorem flat_strs : ∀ (l : List Str), (l.map D.str).all flatD = true
  | [] => rfl
  | a :: l => by rw [List.map_cons, List.all_cons, flat_strs l]; rfl
theorem any_i {z : Int} : ∀ (l : List Int), inV (.int z) ((l.map D.int).map D.v) = decide (z ∈ l)
  | [] => rfl
  | a :: l => by
    have ih := any_i (z := z) l
    unfold inV at ih ⊢
    rw [List.map_cons, List.map_cons, List.any_cons, ih]
    rw [show eqV (D.int a).v (V.int z) = decide (a = z) from rfl]
    by_cases h : a = z
    · subst h; simp
    · have h' : z ≠ a := fun e => h e.symm
      simp [h, h']
theorem flat_ints : ∀ (l : List Int), (l.map D.int).all flatD = true
  | [] => rfl
  | a :: l => by rw [List.map_cons, List.all_cons, flat_ints l]; rfl
theorem gIn_of {neg : Bool} {w : V} {t u : T} {ds : List D} (h1 : t.v? = some w) (h2 : u.sq? = some ds) (h3 : ds.all flatD = true) : gInQ neg t u = some (.f (.bl (xor neg (inV w (ds.map D.v))))) := by
  unfold gInQ
  rw [h1, h2]
  show (if ds.all flatD = true then _ else none) = _
  rw [if_pos h3]
theorem or2_some {g h : T → T → Option T} {s t u : T} (e : g s t = some u) : or2 g h s t = some u := by
  unfold or2
  rw [e]
  rfl
theorem gIn_ss {l : List Str} : gIn (.f (.str z)) (.f (.lst (l.map D.str))) = some (.f (.bl (decide (z ∈ l)))) := by
  rw [show gIn (.f (.str z)) (.f (.lst (l.map D.str))) = _ from or2_some (gIn_of (neg := false) rfl rfl (flat_strs l)), any_v, Bool.false_xor]
theorem gIn_ii {l : List Int} : gIn (.f (.int q)) (.f (.lst (l.map D.int))) = some (.f (.bl (decide (q ∈ l)))) := by
  rw [show gIn (.f (.int q)) (.f (.lst (l.map D.int))) = _ from or2_some (gIn_of (neg := false) rfl rfl (flat_ints l)), any_i, Bool.false_xor]
theorem gNotIn_ss {l : List Str} : gNotIn (.f (.str z)) (.f (.lst (l.map D.str))) = some (.f (.bl (!decide (z ∈ l)))) := by
  rw [show gNotIn (.f (.str z)) (.f (.lst (l.map D.str))) = _ from or2_some (gIn_of (neg := true) rfl rfl (flat_strs l)), any_v, Bool.true_xor]
theorem gNotIn_ii {l : List Int} : gNotIn (.f (.int q)) (.f (.lst (l.map D.int))) = some (.f (.bl (!decide (q ∈ l)))) := by
  rw [show gNotIn (.f (.int q)) (.f (.lst (l.map D.int))) = _ from or2_some (gIn_of (neg := true) rfl rfl (flat_ints l)), any_i, Bool.true_xor]
-- nosimp lcF_of
-- nosimp any_v
-- nosimp any_i
-- nosimp flat_strs
-- nosimp flat_ints
-- nosimp gIn_of
-- nosimp or2_some
end
/-! == of alike deep things -/
mutual
def D.fine : D → Nat → Bool
  | .non, _ => true
  | .bl _, _ => true
  | .int _, _ => true
  | .str x, _ => PyData.canLay0 (.str x)
  | .tup l, n => decide (0 < n) && D.fines l (n - 1)
  | .lst l, n => decide (0 < n) && D.fines l (n - 1)
  | .dct _ _, _ => false
  | .obj _ _ _, _ => false
def D.fines : List D → Nat → Bool
  | [], _ => true
  | d :: ds, n => D.fine d n && D.fines ds n
end
mutual
theorem D.fine_py : ∀ (d : D) (n : Nat), d.fine n = true → ∃ p, d.py = some p ∧ p.canLay0 = true ∧ p.depth ≤ n
  | .non, n, _ => ⟨_, rfl, rfl, Nat.zero_le _⟩
  | .bl _, n, _ => ⟨_, rfl, rfl, Nat.zero_le _⟩
  | .int _, n, _ => ⟨_, rfl, rfl, Nat.zero_le _⟩
  | .str x, n, h => ⟨_, rfl, h, Nat.zero_le _⟩
  | .tup l, n, h => by
    have h' : (decide (0 < n) && D.fines l (n - 1)) = true := h
    rw [Bool.and_eq_true, decide_eq_true_eq] at h'
    obtain ⟨ps, e, q1, q2⟩ := D.fines_py l (n - 1) h'.2
    refine ⟨.tuple ps, by show (D.pys l).map _ = _; rw [e]; rfl, q1, ?_⟩
    show PyData.depthAll ps + 1 ≤ n
    omega
  | .lst l, n, h => by
    have h' : (decide (0 < n) && D.fines l (n - 1)) = true := h
    rw [Bool.and_eq_true, decide_eq_true_eq] at h'
    obtain ⟨ps, e, q1, q2⟩ := D.fines_py l (n - 1) h'.2
    refine ⟨.list ps, by show (D.pys l).map _ = _; rw [e]; rfl, q1, ?_⟩
    show PyData.depthAll ps + 1 ≤ n
    omega
  | .dct _ _, _, h => by cases h
  | .obj _ _ _, _, h => by cases h
theorem D.fines_py : ∀ (l : List D) (n : Nat), D.fines l n = true → ∃ ps, D.pys l = some ps ∧ PyData.canLayAll0 ps = true ∧ PyData.depthAll ps ≤ n
  | [], n, _ => ⟨[], rfl, rfl, Nat.zero_le _⟩
  | d :: ds, n, h => by
    have h' : (D.fine d n && D.fines ds n) = true := h
    rw [Bool.and_eq_true] at h'
    obtain ⟨p, e, q1, q2⟩ := D.fine_py d n h'.1
    obtain ⟨ps, e2, q3, q4⟩ := D.fines_py ds n h'.2
    refine ⟨p :: ps, ?_, ?_, ?_⟩
    · show (D.py d).bind _ = _
      rw [e]
      show (D.pys ds).map _ = _
      rw [e2]
      rfl
    · show (p.canLay0 && PyData.canLayAll0 ps) = true
      rw [q1, q3]
      rfl
    · show max p.depth (PyData.depthAll ps) ≤ n
      omega
end
theorem shaped_fine {d : D} (h : d.fine 64 = true) : ∃ p, d.py = some p ∧ SeqAt.shaped p = true ∧ PyData.eqv p p = true := by
  obtain ⟨p, e, q1, q2⟩ := D.fine_py d 64 h
  refine ⟨p, e, ?_, SeqAt.eqv_refl p q1⟩
  show (p.canLay0 && decide (p.depth ≤ 64)) = true
  rw [q1, decide_eq_true q2]
  rfl
theorem gEqD_refl {d : D} {s t : T} (neg : Bool) (h1 : s.vd = some d) (h2 : t.vd = some d) (h : d.fine 64 = true) : gEqD neg s t = some (.f (.bl (xor neg true))) := by
  obtain ⟨p, e, q1, q2⟩ := shaped_fine h
  unfold gEqD
  rw [h1, h2]
  show ((d.py).bind fun p => (d.py).bind fun q => _) = _
  rw [e]
  show (if _ then _ else _) = _
  rw [if_pos ⟨q1, q1⟩, q2]
theorem gEq_refl_l {ds : List D} (h : D.fines ds 63 = true) : gEq (.f (.lst ds)) (.f (.lst ds)) = some (.f (.bl true)) := by
  unfold gEq
  rw [or2_none rfl]
  exact gEqD_refl false rfl rfl h
theorem gEq_refl_t {ds : List D} (h : D.fines ds 63 = true) : gEq (.f (.tup ds)) (.f (.tup ds)) = some (.f (.bl true)) := by
  unfold gEq
  rw [or2_none rfl]
  exact gEqD_refl false rfl rfl h
theorem gNe_refl_l {ds : List D} (h : D.fines ds 63 = true) : gNe (.f (.lst ds)) (.f (.lst ds)) = some (.f (.bl false)) := by
  unfold gNe
  rw [or2_none rfl]
  exact gEqD_refl true rfl rfl h
theorem gNe_refl_t {ds : List D} (h : D.fines ds 63 = true) : gNe (.f (.tup ds)) (.f (.tup ds)) = some (.f (.bl false)) := by
  unfold gNe
  rw [or2_none rfl]
  exact gEqD_refl true rfl rfl h
theorem fines_of {α : Type} {φ : α → D} {n : Nat} : ∀ {as : List α}, (∀ a ∈ as, (φ a).fine n = true) → D.fines (as.map φ) n = true
  | [], _ => rfl
  | a :: as, h => by
    show (D.fine (φ a) n && D.fines (as.map φ) n) = true
    rw [h a List.mem_cons_self, fines_of fun b hb => h b (List.mem_cons_of_mem _ hb)]
    rfl
section
variable {i j : Int} {x y : Str} {a b : Bool} {ds es : List D}
theorem gEq_sn : gEq (.f (.str x)) (.f .non) = some (.f (.bl false)) := rfl
theorem gEq_ns : gEq (.f .non) (.f (.str x)) = some (.f (.bl false)) := rfl
theorem gEq_in : gEq (.f (.int i)) (.f .non) = some (.f (.bl false)) := rfl
theorem gEq_ni : gEq (.f .non) (.f (.int i)) = some (.f (.bl false)) := rfl
theorem gEq_nn : gEq (.f .non) (.f .non) = some (.f (.bl true)) := rfl
theorem gNe_sn : gNe (.f (.str x)) (.f .non) = some (.f (.bl true)) := rfl
theorem gNe_ns : gNe (.f .non) (.f (.str x)) = some (.f (.bl true)) := rfl
theorem gNe_in : gNe (.f (.int i)) (.f .non) = some (.f (.bl true)) := rfl
theorem gNe_ni : gNe (.f .non) (.f (.int i)) = some (.f (.bl true)) := rfl
theorem gNe_nn : gNe (.f .non) (.f .non) = some (.f (.bl false)) := rfl
end
/-! sums and picks -/
theorem intsOf_map : ∀ (ns : List Int), intsOf (ns.map D.int) = some ns
  | [] => rfl
  | n :: ns => by
    show (intsOf (ns.map D.int)).map _ = _
    rw [intsOf_map ns]
    rfl
theorem gSum_l {ns : List Int} : gSum [.f (.lst (ns.map D.int))] = some (.f (.int ns.sum)) := by
  show (intsOf (ns.map D.int)).map _ = _
  rw [intsOf_map]
  rfl
theorem gList_l {ds : List D} : gList [.f (.lst ds)] = some (.f (.lst ds)) := rfl
theorem gList_t {ds : List D} : gList [.f (.tup ds)] = some (.f (.lst ds)) := rfl
theorem gTuple_l {ds : List D} : gTuple [.f (.lst ds)] = some (.f (.tup ds)) := rfl
theorem gTuple_t {ds : List D} : gTuple [.f (.tup ds)] = some (.f (.tup ds)) := rfl
theorem pick {α : Type} {xs : List α} (hn : 0 < xs.length) (z : Int) : ∃ x ∈ xs, 0 ≤ z % xs.length ∧ ∀ {β : Type} (f : α → β), (xs.map f)[(z % xs.length).toNat]? = some (f x) := by
  have h0 : 0 ≤ z % (xs.length : Int) := Int.emod_nonneg _ (by omega)
  have h1 : z % (xs.length : Int) < xs.length := Int.emod_lt_of_pos _ (by omega)
  have h2 : (z % (xs.length : Int)).toNat < xs.length := by omega
  refine ⟨xs[(z % (xs.length : Int)).toNat], List.getElem_mem h2, h0, fun f => ?_⟩
  rw [List.getElem?_map, List.getElem?_eq_getElem h2]
  rfl
-- nosimp shaped_fine
-- nosimp gEqD_refl
-- nosimp gEq_refl_l
-- nosimp gEq_refl_t
-- nosimp gNe_refl_l
-- nosimp gNe_refl_t
-- nosimp fines_of
-- nosimp intsOf_map
-- nosimp pick
-- nosimp D.fine_py
-- nosimp D.fines_py
end Z

namespace Z
open PySem L2
/-! ### walking: objects, methods, things of one's own -/
section
variable {ρ ρ1 ρ2 : List T} {d e : D} {ds es : List D} {t x y u : T} {ts us : List T} {i n m C : Nat} {b : Bool} {f g : FS} {fa fb fc fe fk fd : List T → Option T} {nm z : Str} {ns : List Str} {ks : List Key} {π : List Sel} {s : Sel}
  {fp : List T → Option (List Sel)} {fm : List T → Option (T × List T)} {fms : List T → Option (List T × List T)} {fo : List T → Option Re} {fr : List T → Option Rs} {G : List T → Option Re} {io : List Nat} {as : List Ar} {fs : List T → Option (List T)}
theorem atN_nil : atN [] [] z = none := rfl
theorem atN_cons : atN (nm :: ns) (t :: ts) z = if nm = z then some t else atN ns ts z := rfl
theorem atD_nil : atD [] [] z = none := rfl
theorem atD_cons : atD (nm :: ns) (d :: ds) z = if nm = z then some d else atD ns ds z := rfl
theorem setN_cons : setN (nm :: ns) (t :: ts) z u = if nm = z then u :: ts else t :: setN ns ts z u := rfl
theorem sub_o : (T.o C ns ts).sub (.at z) = atN ns ts z := rfl
theorem sub_l : (T.ll ts).sub (.ix n) = ts[n]? := rfl
theorem sub_t : (T.tu ts).sub (.ix n) = ts[n]? := rfl
theorem upd_o : (T.o C ns ts).upd (.at z) u = .o C ns (setN ns ts z u) := rfl
theorem upd_l : (T.ll ts).upd (.ix n) u = .ll (ts.set n u) := rfl
theorem upd_t : (T.tu ts).upd (.ix n) u = .tu (ts.set n u) := rfl
def kGp (π : List Sel) (o : Option T) : Option T := o.bind fun t => t.getP π
theorem getP_nil : t.getP [] = some t := by cases t <;> rfl
theorem getP_cons : t.getP (s :: π) = kGp π (t.sub s) := by cases t <;> rfl
theorem kGp_s : kGp π (some t) = t.getP π := rfl
def kPp (t : T) (s : Sel) (π : List Sel) (u : T) (o : Option T) : T := match o with
  | some t1 => t.upd s (t1.putP π u)
  | none => t
theorem putP_nil : t.putP [] u = u := by cases t <;> rfl
theorem putP_cons : t.putP (s :: π) u = kPp t s π u (t.sub s) := by cases t <;> (unfold T.putP kPp; rfl)
theorem kPp_s {t1 : T} : kPp t s π u (some t1) = t.upd s (t1.putP π u) := rfl
/-! attributes -/
def kNn (o : Option T) : Option T := o.bind fun t => match t with
  | .un => none
  | t => some t
theorem kNn_f : kNn (some (.f d)) = some (.f d) := rfl
theorem kNn_l : kNn (some (.l ds)) = some (.l ds) := rfl
theorem kNn_dk : kNn (some (.dk ks ds)) = some (.dk ks ds) := rfl
theorem gAtt_f : gAtt C z (.f (.obj C ns ds)) = kVT (atD ns ds z) := if_pos rfl
theorem gAtt_o : gAtt C z (.o C ns ts) = kNn (atN ns ts z) := if_pos rfl
def kPA3 (z : Str) (π : List Sel) (o : Option T) : Option (List Sel) := o.map fun _ => π ++ [.at z]
def kPA2 (C : Nat) (z : Str) (π : List Sel) (o : Option T) : Option (List Sel) := o.bind fun u => match u with
  | .o C' ns ts => if C' = C then kPA3 z π (atN ns ts z) else none
  | _ => none
def kPA (C : Nat) (z : Str) (o : Option T) (p : Option (List Sel)) : Option (List Sel) := p.bind fun π => kPA2 C z π (kGp π o)
theorem wz_pAt : pAt C z i fp ρ = kPA C z ρ[i]? (fp ρ) := by unfold pAt kPA kPA2 kPA3 kGp; rfl
theorem kPA_s {o : Option T} : kPA C z o (some π) = kPA2 C z π (kGp π o) := rfl
theorem kPA2_s : kPA2 C z π (some (.o C ns ts)) = kPA3 z π (atN ns ts z) := if_pos rfl
theorem kPA3_s : kPA3 z π (some t) = some (π ++ [.at z]) := rfl
def kPI4 (π : List Sel) (o : Option Nat) : Option (List Sel) := o.map fun n => π ++ [.ix n]
def kPI3 (π : List Sel) (l : Nat) (k : Option T) : Option (List Sel) := k.bind fun k => k.i?.bind fun j => kPI4 π (ixN l j)
def kPI2 (π : List Sel) (k : Option T) (o : Option T) : Option (List Sel) := o.bind fun u => u.tsq?.bind fun ts => kPI3 π ts.length k
def kPI (k : Option T) (o : Option T) (p : Option (List Sel)) : Option (List Sel) := p.bind fun π => kPI2 π k (kGp π o)
theorem wz_pIx : pIx fk i fp ρ = kPI (fk ρ) ρ[i]? (fp ρ) := by unfold pIx kPI kPI2 kPI3 kPI4 kGp; rfl
theorem kPI_s {k o : Option T} : kPI k o (some π) = kPI2 π k (kGp π o) := rfl
theorem kPI2_l {k : Option T} : kPI2 π k (some (.ll ts)) = kPI3 π ts.length k := rfl
theorem kPI2_t {k : Option T} : kPI2 π k (some (.tu ts)) = kPI3 π ts.length k := rfl
theorem kPI3_s {j : Int} : kPI3 π n (some (.f (.int j))) = kPI4 π (ixN n j) := rfl
theorem kPI4_s : kPI4 π (some n) = some (π ++ [.ix n]) := rfl
theorem ixN_pos {l : Nat} {j : Int} (h : 0 ≤ j) (h2 : j < l) : ixN l j = some j.toNat := by unfold ixN; rw [if_pos h, if_pos (by omega)]
theorem ixN_neg {l : Nat} {j : Int} (h : j < 0) (h2 : -(l : Int) ≤ j) : ixN l j = some (j + l).toNat := by
  unfold ixN
  rw [if_neg (by omega)]
  first
    | rw [if_pos (by omega)]; done
    | (rw [if_pos (by omega)]; congr 1; omega)
def kM2 (i : Nat) (ρ : List T) (π : List Sel) (t : T) (o : Option T) : Option (List T) := o.map fun u' => ρ.set i (t.putP π u')
def kM1 (i : Nat) (ρ : List T) (π : List Sel) (g : T → Option T) (o : Option T) : Option (List T) := o.bind fun t => kM2 i ρ π t (k1 g (t.getP π))
theorem mutF_at {g : T → Option T} : mutF i (s :: π) g ρ = kM1 i ρ (s :: π) g ρ[i]? := by
  unfold mutF kM1 kM2 k1
  cases ρ[i]? with
  | none => rfl
  | some t =>
    show ((t.getP (s :: π)).bind fun u => (g u).map _) = ((t.getP (s :: π)).bind g).map _
    cases t.getP (s :: π) <;> rfl
theorem kM1_s {g : T → Option T} : kM1 i ρ π g (some t) = kM2 i ρ π t (k1 g (t.getP π)) := rfl
theorem kM2_s : kM2 i ρ π t (some u) = some (ρ.set i (t.putP π u)) := rfl
def kSAt (C : Nat) (z : Str) (i : Nat) (ρ : List T) (o : Option T) (p : Option (List Sel)) : Option Out := o.bind fun x => x.d?.bind fun d => p.bind fun π => kNx (mutF i π (attT C z d) ρ)
theorem wz_sAtt : sAtt C z i fp fe ρ = kSAt C z i ρ (fe ρ) (fp ρ) := rfl
theorem kSAt_s : kSAt C z i ρ (some (.f d)) (some π) = kNx (mutF i π (attT C z d) ρ) := rfl
def kAt (C : Nat) (ns : List Str) (ts : List T) (z : Str) (d : D) (o : Option T) : Option T := match o with
  | none => some (.o C (ns ++ [z]) (ts ++ [.f d]))
  | some (.f _) => if z = Str.ofString "endings" then none else some (.o C ns (setN ns ts z (.f d)))
  | _ => none
theorem attT_o (h : ns.length < 1000) : attT C z d (.o C ns ts) = kAt C ns ts z d (atN ns ts z) := by
  exact if_pos ⟨rfl, h⟩
theorem kAt_n : kAt C ns ts z d none = some (.o C (ns ++ [z]) (ts ++ [.f d])) := rfl
theorem kAt_f : kAt C ns ts z d (some (.f e)) = if z = Str.ofString "endings" then none else some (.o C ns (setN ns ts z (.f d))) := rfl
def kSAM (C : Nat) (z : Str) (i : Nat) (fp : List T → Option (List Sel)) (o : Option (T × List T)) : Option Out := o.bind fun q => (fp q.2).bind fun π => kNx (mutF i π (attM C z q.1) q.2)
def kSAM2 (C : Nat) (z : Str) (i : Nat) (t : T) (ρ : List T) (p : Option (List Sel)) : Option Out := p.bind fun π => kNx (mutF i π (attM C z t) ρ)
theorem wz_sAttM : sAttM C z i fp fm ρ = kSAM C z i fp (fm ρ) := rfl
theorem kSAM_s : kSAM C z i fp (some (t, ρ)) = kSAM2 C z i t ρ (fp ρ) := rfl
theorem kSAM2_s : kSAM2 C z i t ρ (some π) = kNx (mutF i π (attM C z t) ρ) := rfl
def kAM (C : Nat) (ns : List Str) (ts : List T) (z : Str) (t : T) (o : Option T) : Option T := match o with
  | none => some (.o C (ns ++ [z]) (ts ++ [t]))
  | _ => none
theorem attM_o (h : ns.length < 1000) : attM C z t (.o C ns ts) = kAM C ns ts z t (atN ns ts z) := by
  show (if C = C ∧ ns.length < 1000 ∧ (atN ns ts z).isNone = true then _ else _) = _
  cases atN ns ts z with
  | none => exact if_pos ⟨rfl, h, rfl⟩
  | some q => exact if_neg fun z => by cases z.2.2
theorem kAM_n : kAM C ns ts z t none = some (.o C (ns ++ [z]) (ts ++ [t])) := rfl
def kAG5 (C : Nat) (z : Str) (i : Nat) (ρ : List T) (π : List Sel) (o : Option T) : Option Out := o.bind fun z' => z'.d?.bind fun d => kNx (mutF i π (attT C z d) ρ)
def kAG2 (C : Nat) (z : Str) (i : Nat) (ρ : List T) (h : T → T → Option T) (x : Option T) (π : List Sel) (o : Option T) : Option Out := o.bind fun u => kAG5 C z i ρ π (k2 h (gAtt C z u) x)
def kAG (C : Nat) (z : Str) (i : Nat) (ρ : List T) (h : T → T → Option T) (x : Option T) (o : Option T) (p : Option (List Sel)) : Option Out := p.bind fun π => kAG2 C z i ρ h x π (kGp π o)
theorem wz_sAttAug {h : T → T → Option T} : sAttAug C z i fp h fe ρ = kAG C z i ρ h (fe ρ) ρ[i]? (fp ρ) := by
  unfold sAttAug kAG kAG2 kAG5 kGp k2
  cases fp ρ with
  | none => rfl
  | some π =>
    cases q : (ρ[i]?.bind fun t => t.getP π) with
    | none => simp only [Option.bind_some, q, Option.bind_none]
    | some u =>
      simp only [Option.bind_some, q]
      cases gAtt C z u with
      | none => rfl
      | some a => cases fe ρ with
        | none => rfl
        | some x => cases h a x <;> rfl
theorem kAG_s {h : T → T → Option T} {x o : Option T} : kAG C z i ρ h x o (some π) = kAG2 C z i ρ h x π (kGp π o) := rfl
theorem kAG2_s {h : T → T → Option T} {x : Option T} : kAG2 C z i ρ h x π (some u) = kAG5 C z i ρ π (k2 h (gAtt C z u) x) := rfl
theorem kAG5_s : kAG5 C z i ρ π (some (.f d)) = kNx (mutF i π (attT C z d) ρ) := rfl
/-! own values -/
def kME (o : Option (T × List T)) : Option Re := o.map fun p => .ok p.1 p.2
theorem wz_mE : mE fm ρ = kME (fm ρ) := rfl
theorem kME_s : kME (some (t, ρ)) = some (.ok t ρ) := rfl
def kMP (ρ : List T) (o : Option T) : Option (T × List T) := o.bind fun t => t.d?.map fun d => (.f d, ρ)
theorem wz_mP : mP fe ρ = kMP ρ (fe ρ) := rfl
theorem kMP_s : kMP ρ (some (.f d)) = some (.f d, ρ) := rfl
def kMV (i : Nat) (ρ : List T) (o : Option T) : Option (T × List T) := match o with
  | some .un => none
  | some t => some (t, ρ.set i .un)
  | none => none
theorem wz_mV : mV i ρ = kMV i ρ ρ[i]? := by unfold mV kMV; rfl
theorem kMV_f : kMV i ρ (some (.f d)) = some (.f d, ρ.set i .un) := rfl
theorem kMV_l : kMV i ρ (some (.l ds)) = some (.l ds, ρ.set i .un) := rfl
theorem kMV_dk : kMV i ρ (some (.dk ks ds)) = some (.dk ks ds, ρ.set i .un) := rfl
theorem kMV_ll : kMV i ρ (some (.ll ts)) = some (.ll ts, ρ.set i .un) := rfl
theorem kMV_tu : kMV i ρ (some (.tu ts)) = some (.tu ts, ρ.set i .un) := rfl
theorem kMV_o : kMV i ρ (some (.o C ns ts)) = some (.o C ns ts, ρ.set i .un) := rfl
theorem wz_msNil : msNil ρ = some ([], ρ) := rfl
def kMs2 (t : T) (o : Option (List T × List T)) : Option (List T × List T) := o.map fun q => (t :: q.1, q.2)
def kMs (g : List T → Option (List T × List T)) (o : Option (T × List T)) : Option (List T × List T) := o.bind fun p => kMs2 p.1 (g p.2)
theorem wz_msCons : msCons fm fms ρ = kMs fms (fm ρ) := rfl
theorem kMs_s : kMs fms (some (t, ρ)) = kMs2 t (fms ρ) := rfl
theorem kMs2_s : kMs2 t (some (ts, ρ)) = some (t :: ts, ρ) := rfl
def kMTup (o : Option (List T × List T)) : Option (T × List T) := o.bind fun p => if p.1.length ≤ sizeLine then some (.tu p.1, p.2) else none
def kMLst (o : Option (List T × List T)) : Option (T × List T) := o.bind fun p => if p.1.length ≤ sizeLine then some (.ll p.1, p.2) else none
theorem wz_mTup : mTup fms ρ = kMTup (fms ρ) := rfl
theorem wz_mLst : mLst fms ρ = kMLst (fms ρ) := rfl
theorem kMTup_s (h : ts.length ≤ 16777216) : kMTup (some (ts, ρ)) = some (.tu ts, ρ) := if_pos h
theorem kMLst_s (h : ts.length ≤ 16777216) : kMLst (some (ts, ρ)) = some (.ll ts, ρ) := if_pos h
def kMN2 (ρ : List T) (o : Option (List D)) : Option (T × List T) := o.bind fun ds => if ds.length ≤ sizeLine then some (.l ds, ρ) else none
def kMN (ρ : List T) (o : Option (List T)) : Option (T × List T) := o.bind fun ts => kMN2 ρ (deep ts)
theorem wz_mNew : mNew fs ρ = kMN ρ (fs ρ) := rfl
theorem kMN_s : kMN ρ (some ts) = kMN2 ρ (deep ts) := rfl
theorem kMN2_s (h : ds.length ≤ 16777216) : kMN2 ρ (some ds) = some (.l ds, ρ) := if_pos h
theorem wz_mNewD : mNewD ρ = some (.dk [] [], ρ) := rfl
def kMPt3 (i : Nat) (ρ : List T) (π : List Sel) (t0 : T) (o : Option T) : Option (T × List T) := o.bind fun u => if owned u = true then some (u, ρ.set i (t0.putP π .un)) else none
def kMPt2 (i : Nat) (ρ : List T) (π : List Sel) (o : Option T) : Option (T × List T) := o.bind fun t0 => kMPt3 i ρ π t0 (t0.getP π)
def kMPt (i : Nat) (ρ : List T) (p : Option (List Sel)) : Option (T × List T) := p.bind fun π => kMPt2 i ρ π ρ[i]?
theorem wz_mPart : mPart i fp ρ = kMPt i ρ (fp ρ) := rfl
theorem kMPt_s : kMPt i ρ (some π) = kMPt2 i ρ π ρ[i]? := rfl
theorem kMPt2_s : kMPt2 i ρ π (some t) = kMPt3 i ρ π t (t.getP π) := rfl
theorem kMPt3_l : kMPt3 i ρ π t (some (.l ds)) = some (.l ds, ρ.set i (t.putP π .un)) := rfl
theorem kMPt3_d : kMPt3 i ρ π t (some (.dk ks ds)) = some (.dk ks ds, ρ.set i (t.putP π .un)) := rfl
def kMC3 (ρ : List T) (r : Option Re) : Option (T × List T) := r.bind fun r => match r with
  | .ok τ _ => some (τ, ρ)
  | _ => none
def kMC2 (G : List T → Option Re) (ρ : List T) (o : Option (List D)) : Option (T × List T) := o.bind fun ds => kMC3 ρ (G (ds.map .f))
def kMC (G : List T → Option Re) (ρ : List T) (o : Option (List T)) : Option (T × List T) := o.bind fun ts => kMC2 G ρ (deep ts)
theorem wz_mCall : mCall G fs ρ = kMC G ρ (fs ρ) := by unfold mCall kMC kMC2 kMC3; rfl
theorem kMC_s : kMC G ρ (some ts) = kMC2 G ρ (deep ts) := rfl
theorem kMC2_s : kMC2 G ρ (some ds) = kMC3 ρ (G (ds.map .f)) := rfl
theorem kMC3_s : kMC3 ρ (some (.ok t ρ1)) = some (t, ρ) := rfl
def kMCa2 (ρ : List T) (o : Option (List D)) : Option (T × List T) := o.map fun ds => (.l ds, ρ)
def kMCa (ρ : List T) (o p : Option T) : Option (T × List T) := o.bind fun a => p.bind fun b => kMCa2 ρ (gCatO a b)
theorem wz_mCat : mCat fa fb ρ = kMCa ρ (fa ρ) (fb ρ) := rfl
theorem kMCa_s : kMCa ρ (some x) (some y) = kMCa2 ρ (gCatO x y) := rfl
theorem kMCa2_s : kMCa2 ρ (some ds) = some (.l ds, ρ) := rfl
theorem gCatO_ol (h : ds.length + es.length ≤ 16777216) : gCatO (.l ds) (.f (.lst es)) = some (ds ++ es) := if_pos h
theorem gCatO_ll (h : ds.length + es.length ≤ 16777216) : gCatO (.f (.lst ds)) (.f (.lst es)) = some (ds ++ es) := if_pos h
theorem gCatO_lo (h : ds.length + es.length ≤ 16777216) : gCatO (.f (.lst ds)) (.l es) = some (ds ++ es) := if_pos h
theorem gCat_ol (h : ds.length + es.length ≤ 16777216) : gAdd (.l ds) (.f (.lst es)) = some (.f (.lst (ds ++ es))) := by
  show (Option.orElse none fun _ => Option.orElse none fun _ => Option.orElse (if ds.length + es.length ≤ sizeLine then some (T.f (.lst (ds ++ es))) else none) fun _ => _) = _
  rw [if_pos (show ds.length + es.length ≤ sizeLine from h)]
  rfl
theorem gCat_lo (h : ds.length + es.length ≤ 16777216) : gAdd (.f (.lst ds)) (.l es) = some (.f (.lst (ds ++ es))) := by
  show (Option.orElse none fun _ => Option.orElse none fun _ => Option.orElse (if ds.length + es.length ≤ sizeLine then some (T.f (.lst (ds ++ es))) else none) fun _ => _) = _
  rw [if_pos (show ds.length + es.length ≤ sizeLine from h)]
  rfl
theorem gCat_oo (h : ds.length + es.length ≤ 16777216) : gAdd (.l ds) (.l es) = some (.f (.lst (ds ++ es))) := by
  show (Option.orElse none fun _ => Option.orElse none fun _ => Option.orElse (if ds.length + es.length ≤ sizeLine then some (T.f (.lst (ds ++ es))) else none) fun _ => _) = _
  rw [if_pos (show ds.length + es.length ≤ sizeLine from h)]
  rfl
def kMLc (ρ : List T) (o : Option T) : Option (T × List T) := o.bind fun t => match t with
  | .f (.lst es) => some (.l es, ρ)
  | _ => none
theorem wz_mLc {vs : List Nat} {fi fg ft} : mLc vs fi fg ft fe ρ = kMLc ρ (fLc vs fi fg ft fe ρ) := by unfold mLc kMLc; rfl
theorem kMLc_s : kMLc ρ (some (.f (.lst es))) = some (.l es, ρ) := rfl
def kAM3 (i : Nat) (π : List Sel) (o : Option (T × List T)) : Option Out := o.bind fun q => kNx (mutF i π (appM q.1) q.2)
def kAM2 (i : Nat) (fm : List T → Option (T × List T)) (ρ : List T) (π : List Sel) (o : Option T) : Option Out := o.bind fun u0 => if isLst u0 = true then kAM3 i π (fm ρ) else none
def kAM1 (i : Nat) (fm : List T → Option (T × List T)) (ρ : List T) (p : Option (List Sel)) : Option Out := p.bind fun π => kAM2 i fm ρ π (kGp π ρ[i]?)
theorem wz_sAppM : sAppM i fp fm ρ = kAM1 i fm ρ (fp ρ) := by unfold sAppM kAM1 kAM2 kAM3 kGp kNx; rfl
theorem kAM1_s : kAM1 i fm ρ (some π) = kAM2 i fm ρ π (kGp π ρ[i]?) := rfl
theorem kAM2_l : kAM2 i fm ρ π (some (.l ds)) = kAM3 i π (fm ρ) := rfl
theorem kAM2_ll : kAM2 i fm ρ π (some (.ll ts)) = kAM3 i π (fm ρ) := rfl
theorem kAM3_s : kAM3 i π (some (t, ρ)) = kNx (mutF i π (appM t) ρ) := rfl
theorem appM_ll (h : ts.length < 16777216) : appM t (.ll ts) = some (.ll (ts ++ [t])) := if_pos h
/-! pop, targets -/
def kPop4 (i : Nat) (ρ : List T) (π : List Sel) (t0 : T) (o : Option (T × T)) : Option Re := o.map fun q => .ok q.1 (ρ.set i (t0.putP π q.2))
def kPop3 (i : Nat) (ρ : List T) (π : List Sel) (t0 : T) (o : Option T) : Option Re := o.bind fun u => kPop4 i ρ π t0 (popT u)
def kPop2 (i : Nat) (ρ : List T) (π : List Sel) (o : Option T) : Option Re := o.bind fun t0 => kPop3 i ρ π t0 (t0.getP π)
def kPop (i : Nat) (ρ : List T) (p : Option (List Sel)) : Option Re := p.bind fun π => kPop2 i ρ π ρ[i]?
theorem wz_fPop : fPop i fp ρ = kPop i ρ (fp ρ) := rfl
theorem kPop_s : kPop i ρ (some π) = kPop2 i ρ π ρ[i]? := rfl
theorem kPop2_s : kPop2 i ρ π (some t) = kPop3 i ρ π t (t.getP π) := rfl
theorem kPop3_s : kPop3 i ρ π t (some u) = kPop4 i ρ π t (popT u) := rfl
theorem kPop4_s {q : T × T} : kPop4 i ρ π t (some q) = some (.ok q.1 (ρ.set i (t.putP π q.2))) := rfl
theorem popT_l : popT (.l (ds ++ [d])) = some (.f d, .l ds) := by
  show ((ds ++ [d]).getLast?.map fun x => (T.f x, T.l (ds ++ [d]).dropLast)) = _
  rw [List.getLast?_append]
  simp
theorem popT_tu : popT (.ll (ts ++ [.tu us])) = some (.tu us, .ll ts) := by
  show ((ts ++ [T.tu us]).getLast?.bind fun t => _) = _
  rw [List.getLast?_append]
  simp
theorem popT_lf : popT (.ll (ts ++ [.f d])) = some (.f d, .ll ts) := by
  show ((ts ++ [T.f d]).getLast?.bind fun t => _) = _
  rw [List.getLast?_append]
  simp
theorem gTupM2 {h x y} : gTupM 2 h (.f (.tup [x, y])) ρ = h [.f x, .f y] ρ := rfl
theorem gTupM3 {h x y w} : gTupM 3 h (.f (.tup [x, y, w])) ρ = h [.f x, .f y, .f w] ρ := rfl
theorem gTupM4 {h x y w v} : gTupM 4 h (.f (.tup [x, y, w, v])) ρ = h [.f x, .f y, .f w, .f v] ρ := rfl
theorem gTupN2 {h x y} : gTupM 2 h (.tu [x, y]) ρ = h [x, y] ρ := rfl
theorem gTupN3 {h x y w} : gTupM 3 h (.tu [x, y, w]) ρ = h [x, y, w] ρ := rfl
theorem gTupN4 {h x y w v} : gTupM 4 h (.tu [x, y, w, v]) ρ = h [x, y, w, v] ρ := rfl
def kAsg (fg : T → List T → Option (List T)) (r : Option Re) : Option Out := r.bind fun r => match r with
  | .ok t ρ1 => kNx (fg t ρ1)
  | .xc C ρ1 => some (.xc C ρ1)
theorem wz_sAsg {fg} : sAsg fg fo ρ = kAsg fg (fo ρ) := by unfold sAsg kAsg kNx; rfl
theorem kAsg_s {fg} : kAsg fg (some (.ok t ρ)) = kNx (fg t ρ) := rfl
/-! calls that change what they are lent -/
theorem wz_bNil : bNil ρ = some (.ok [] ρ) := rfl
def kBC2 (t : T) (o : Option Rs) : Option Rs := o.map fun r => match r with
    | .ok as ρ2 => .ok (.v t :: as) ρ2
    | r => r
def kBC (g : List T → Option Rs) (o : Option Re) : Option Rs := o.bind fun r => match r with
  | .ok t ρ1 => kBC2 t (g ρ1)
  | .xc C ρ1 => some (.xc C ρ1)
theorem wz_bCons : bCons fo fr ρ = kBC fr (fo ρ) := by unfold bCons kBC kBC2; rfl
theorem kBC_s : kBC fr (some (.ok t ρ)) = kBC2 t (fr ρ) := rfl
theorem kBC2_s : kBC2 t (some (.ok as ρ)) = some (.ok (.v t :: as) ρ) := rfl
def kBS2 (i : Nat) (o : Option Rs) : Option Rs := o.map fun r => match r with
    | .ok as ρ2 => .ok (.s i :: as) ρ2
    | r => r
def kBS (i : Nat) (g : List T → Option Rs) (ρ : List T) (o : Option T) : Option Rs := match o with
  | none => none
  | some .un => none
  | some _ => kBS2 i (g ρ)
theorem wz_bSlot : bSlot i fr ρ = kBS i fr ρ ρ[i]? := by
  unfold bSlot kBS bSlot0 kBS2
  cases ρ[i]? with
  | none => rfl
  | some t => cases t <;> rfl
theorem kBS_f : kBS i fr ρ (some (.f d)) = kBS2 i (fr ρ) := rfl
theorem kBS_l : kBS i fr ρ (some (.l ds)) = kBS2 i (fr ρ) := rfl
theorem kBS_dk : kBS i fr ρ (some (.dk ks ds)) = kBS2 i (fr ρ) := rfl
theorem kBS_ll : kBS i fr ρ (some (.ll ts)) = kBS2 i (fr ρ) := rfl
theorem kBS_tu : kBS i fr ρ (some (.tu ts)) = kBS2 i (fr ρ) := rfl
theorem kBS_o : kBS i fr ρ (some (.o C ns ts)) = kBS2 i (fr ρ) := rfl
theorem kBS2_s : kBS2 i (some (.ok as ρ)) = some (.ok (.s i :: as) ρ) := rfl
theorem take_nil : takeF [] ρ = some ([], ρ) := rfl
def kTk (t : T) (o : Option (List T × List T)) : Option (List T × List T) := o.map fun p => (t :: p.1, p.2)
theorem take_v : takeF (.v t :: as) ρ = kTk t (takeF as ρ) := rfl
def kTs (as : List Ar) (j : Nat) (ρ : List T) (o : Option T) : Option (List T × List T) := match o with
    | none => none
    | some .un => none
    | some t => kTk t (takeF as (ρ.set j .un))
theorem take_s : takeF (.s i :: as) ρ = kTs as i ρ ρ[i]? := by
  rw [takeF]
  unfold kTs kTk
  cases ρ[i]? with
  | none => rfl
  | some t => cases t <;> rfl
theorem kTs_f : kTs as i ρ (some (.f d)) = kTk (.f d) (takeF as (ρ.set i .un)) := rfl
theorem kTs_l : kTs as i ρ (some (.l ds)) = kTk (.l ds) (takeF as (ρ.set i .un)) := rfl
theorem kTs_dk : kTs as i ρ (some (.dk ks ds)) = kTk (.dk ks ds) (takeF as (ρ.set i .un)) := rfl
theorem kTs_ll : kTs as i ρ (some (.ll ts)) = kTk (.ll ts) (takeF as (ρ.set i .un)) := rfl
theorem kTs_tu : kTs as i ρ (some (.tu ts)) = kTk (.tu ts) (takeF as (ρ.set i .un)) := rfl
theorem kTs_o : kTs as i ρ (some (.o C ns ts)) = kTk (.o C ns ts) (takeF as (ρ.set i .un)) := rfl
theorem kTk_s : kTk t (some (ts, ρ)) = some (t :: ts, ρ) := rfl
theorem put_nil : putF [] us ρ = ρ := by cases us <;> rfl
theorem put_v : putF (.v t :: as) (u :: us) ρ = putF as us ρ := rfl
theorem put_s : putF (.s i :: as) (u :: us) ρ = putF as us (ρ.set i u) := rfl
def kCl3 (as : List Ar) (ρ : List T) (r : Option Re) : Option Re := r.bind fun r => match r with
    | .ok τ us => if us.length = as.length then some (.ok τ (putF as us ρ)) else none
    | .xc C us => if us.length = as.length then some (.xc C (putF as us ρ)) else none
def kIo (b : Bool) (o : Option Re) : Option Re := if b = true then o else none
def kCl2 (io : List Nat) (G : List T → Option Re) (as : List Ar) (o : Option (List T × List T)) : Option Re := o.bind fun p => kCl3 as p.2 (kIo (ioOk io 0 p.1) (G p.1))
def kCl (io : List Nat) (G : List T → Option Re) (o : Option Rs) : Option Re := o.bind fun r => match r with
  | .xc C ρ1 => some (.xc C ρ1)
  | .ok as ρ1 => kCl2 io G as (takeF as ρ1)
theorem wz_fCall : fCall io G fr ρ = kCl io G (fr ρ) := by
  unfold fCall kCl kCl2 kCl3 kIo
  cases fr ρ with
  | none => rfl
  | some r => cases r with
    | xc C ρ1 => rfl
    | ok as ρ1 =>
      show ((takeF as ρ1).bind _) = ((takeF as ρ1).bind _)
      cases takeF as ρ1 with
      | none => rfl
      | some p =>
        simp only [Option.bind_some]
        by_cases h : ioOk io 0 p.1 = true
        · rw [if_pos h, if_pos h]
          all_goals (rcases G p.1 with _ | r <;> first | rfl | (cases r <;> rfl))
        · rw [if_neg h, if_neg h]
          all_goals rfl
theorem kCl_s : kCl io G (some (.ok as ρ)) = kCl2 io G as (takeF as ρ) := rfl
theorem kCl2_s : kCl2 io G as (some (ts, ρ)) = kCl3 as ρ (kIo (ioOk io 0 ts) (G ts)) := rfl
theorem kIo_t {o : Option Re} : kIo true o = o := rfl
theorem kCl3_s (h : us.length = as.length) : kCl3 as ρ (some (.ok t us)) = some (.ok t (putF as us ρ)) := if_pos h
theorem ioOk_nil : ioOk io n [] = true := rfl
theorem ioOk_cons : ioOk io n (t :: ts) = ((io.contains n || isF t) && ioOk io (n + 1) ts) := rfl
theorem isF_f : isF (.f d) = true := rfl
theorem cont_nil {j : Nat} : ([] : List Nat).contains j = false := rfl
theorem cont_cons {j : Nat} {l : List Nat} : (i :: l).contains j = (decide (j = i) || l.contains j) := by
  rw [List.contains_cons]
  by_cases h : j = i
  · subst h; simp
  · rw [decide_eq_false h, beq_eq_false_iff_ne.mpr h]
theorem conS_nil : ([] : List Str).contains z = false := rfl
theorem conS_cons : (nm :: ns).contains z = (decide (z = nm) || ns.contains z) := by
  rw [List.contains_cons]
  by_cases h : z = nm
  · subst h; simp
  · rw [decide_eq_false h, beq_eq_false_iff_ne.mpr h]
def kMt2 (b : Bool) (o : Option Re) : Option Re := if b = true then none else o
def kMt (C : Nat) (m : Str) (io : List Nat) (G : List T → Option Re) (fr : List T → Option Rs) (ρ : List T) (o : Option T) : Option Re := match o with
  | some (.o C' ns _) => if C' = C ∧ ns.contains m = false then fCall io G fr ρ else none
  | _ => none
theorem wz_fMeth : fMeth C z i io G fr ρ = kMt C z io G (bSlot i fr) ρ ρ[i]? := by unfold fMeth kMt; rfl
theorem kMt_s : kMt C z io G fr ρ (some (.o C ns ts)) = kMt2 (ns.contains z) (fCall io G fr ρ) := by
  show (if C = C ∧ ns.contains z = false then _ else _) = _
  unfold kMt2
  cases ns.contains z
  · rw [if_pos ⟨rfl, rfl⟩]; rfl
  · rw [if_neg (fun q => by cases q.2)]; rfl
theorem kMt2_f {o : Option Re} : kMt2 false o = o := rfl
def kMv2 (b : Bool) (o : Option T) : Option T := if b = true then none else o
def kMv (C : Nat) (m : Str) (i : Nat) (G : List T → Option Re) (fs : List T → Option (List T)) (ρ : List T) (o : Option T) : Option T := match o with
  | some (.o C' ns _) => if C' = C ∧ ns.contains m = false then fCallV G (aCons (fVar i) fs) ρ else none
  | some (.f (.obj C' ns _)) => if C' = C ∧ ns.contains m = false then fCallV G (aCons (fVar i) fs) ρ else none
  | _ => none
theorem wz_fMethV : fMethV C z i G fs ρ = kMv C z i G fs ρ ρ[i]? := by unfold fMethV kMv; rfl
theorem kMv_o : kMv C z i G fs ρ (some (.o C ns ts)) = kMv2 (ns.contains z) (fCallV G (aCons (fVar i) fs) ρ) := by
  show (if C = C ∧ ns.contains z = false then _ else _) = _
  unfold kMv2
  cases ns.contains z
  · rw [if_pos ⟨rfl, rfl⟩]; rfl
  · rw [if_neg (fun q => by cases q.2)]; rfl
theorem kMv_f : kMv C z i G fs ρ (some (.f (.obj C ns ds))) = kMv2 (ns.contains z) (fCallV G (aCons (fVar i) fs) ρ) := by
  show (if C = C ∧ ns.contains z = false then _ else _) = _
  unfold kMv2
  cases ns.contains z
  · rw [if_pos ⟨rfl, rfl⟩]; rfl
  · rw [if_neg (fun q => by cases q.2)]; rfl
theorem kMv2_f {o : Option T} : kMv2 false o = o := rfl
/-! own things read by a call that answers with an atom -/
def kCO2 (o : Option D) : Option T := o.bind fun d => if d.atom = true then some (.f d) else none
def kCO (G : List T → Option Re) (o : Option (List D)) : Option T := o.bind fun ds => kCO2 (val (G (ds.map .f)))
theorem kCall_own {t : T} {ts : List T} (h : (t :: ts).all isF = false) : kCall G (some (t :: ts)) = kCO G (T.fzs (t :: ts)) := by
  unfold kCO kCO2
  show (T.fzs (t :: ts)).bind _ = _
  cases T.fzs (t :: ts) with
  | none => rfl
  | some ds =>
    show (val (G (ds.map .f))).bind _ = (val (G (ds.map .f))).bind _
    rw [h]
    simp only [Bool.false_or]
theorem kCall_o : kCall G (some (.o C ns ts :: us)) = kCO G (T.fzs (.o C ns ts :: us)) := kCall_own rfl
theorem kCall_l : kCall G (some (.l ds :: us)) = kCO G (T.fzs (.l ds :: us)) := kCall_own rfl
theorem kCall_dk : kCall G (some (.dk ks ds :: us)) = kCO G (T.fzs (.dk ks ds :: us)) := kCall_own rfl
theorem kCall_tu : kCall G (some (.tu ts :: us)) = kCO G (T.fzs (.tu ts :: us)) := kCall_own rfl
theorem kCall_ll : kCall G (some (.ll ts :: us)) = kCO G (T.fzs (.ll ts :: us)) := kCall_own rfl
theorem kCall_f1 : kCall G (some [.f d, .dk ks ds]) = kCO G (T.fzs [.f d, .dk ks ds]) := kCall_own rfl
theorem kCall_f2 : kCall G (some [.f d, .l ds]) = kCO G (T.fzs [.f d, .l ds]) := kCall_own rfl
theorem kCO_s : kCO G (some ds) = kCO2 (val (G (ds.map .f))) := rfl
theorem kCO2_i {j : Int} : kCO2 (some (.int j)) = some (.f (.int j)) := rfl
theorem kCO2_b : kCO2 (some (.bl b)) = some (.f (.bl b)) := rfl
theorem kCO2_s : kCO2 (some (.str z)) = some (.f (.str z)) := rfl
theorem fzs_nil : T.fzs [] = some [] := rfl
def kFs (o : Option D) (p : Option (List D)) : Option (List D) := o.bind fun d => p.map fun ds => d :: ds
theorem fzs_cons : T.fzs (t :: ts) = kFs t.fz (T.fzs ts) := rfl
theorem kFs_s : kFs (some d) (some ds) = some (d :: ds) := rfl
theorem fz_f : (T.f d).fz = some d := rfl
theorem fz_l : (T.l ds).fz = some (.lst ds) := rfl
theorem fz_dk : (T.dk ks ds).fz = some (.dct ks ds) := rfl
def kFo (C : Nat) (ns : List Str) (o : Option (List D)) : Option D := o.map (.obj C ns)
def kFt (o : Option (List D)) : Option D := o.map .tup
def kFl (o : Option (List D)) : Option D := o.map .lst
theorem fz_o : (T.o C ns ts).fz = kFo C ns (T.fzs ts) := by unfold kFo; rw [T.fz]
theorem fz_tu : (T.tu ts).fz = kFt (T.fzs ts) := by unfold kFt; rw [T.fz]
theorem fz_ll : (T.ll ts).fz = kFl (T.fzs ts) := by unfold kFl; rw [T.fz]
theorem kFo_s : kFo C ns (some ds) = some (.obj C ns ds) := rfl
theorem kFt_s : kFt (some ds) = some (.tup ds) := rfl
theorem kFl_s : kFl (some ds) = some (.lst ds) := rfl
def kFz2 (i : Nat) (ρ : List T) (o : Option D) : Option (List T) := o.map fun d => ρ.set i (.f d)
theorem kF2_o : kF2 i ρ (some (.o C ns ts)) = kFz2 i ρ (T.o C ns ts).fz := rfl
theorem kF2_tu : kF2 i ρ (some (.tu ts)) = kFz2 i ρ (T.tu ts).fz := rfl
theorem kF2_ll : kF2 i ρ (some (.ll ts)) = kFz2 i ρ (T.ll ts).fz := rfl
theorem kFz2_s : kFz2 i ρ (some d) = some (ρ.set i (.f d)) := rfl
def kFzR (ρ : List T) (o : Option D) : Option Re := o.map fun d => .ok (.f d) ρ
theorem kFz_o : kFz (some (.ok (.o C ns ts) ρ)) = kFzR ρ (T.o C ns ts).fz := rfl
theorem kFz_tu : kFz (some (.ok (.tu ts) ρ)) = kFzR ρ (T.tu ts).fz := rfl
theorem kFz_ll : kFz (some (.ok (.ll ts) ρ)) = kFzR ρ (T.ll ts).fz := rfl
theorem kFzR_s : kFzR ρ (some d) = some (.ok (.f d) ρ) := rfl
theorem wz_fzR : fzR G ts = kFz (G ts) := by
  unfold fzR kFz
  cases G ts with
  | none => rfl
  | some r => cases r <;> rfl
theorem val_ok : val (some (.ok (.f d) ρ)) = some d := rfl
/-! making -/
def kMk4 (ρ : List T) (o : Option T) : Option Re := o.map fun u => .ok u ρ
def kMk3 (b : Bool) (o : Option Re) : Option T := if b = true then o.bind fun r => match r with
  | .ok (.f .non) (u :: _) => some u
  | _ => none
  else none
def kMk2 (C : Nat) (io : List Nat) (G : List T → Option Re) (ρ : List T) (o : Option (List D)) : Option Re := o.bind fun ds => kMk4 ρ (mkF C io G ds)
def kMk (C : Nat) (io : List Nat) (G : List T → Option Re) (ρ : List T) (o : Option (List T)) : Option Re := o.bind fun ts => kMk2 C io G ρ (deep ts)
theorem wz_fMake : fMake C io G fs ρ = kMk C io G ρ (fs ρ) := rfl
theorem kMk_s : kMk C io G ρ (some ts) = kMk2 C io G ρ (deep ts) := rfl
theorem kMk2_s : kMk2 C io G ρ (some ds) = kMk4 ρ (mkF C io G ds) := rfl
theorem wz_mkF : mkF C io G ds = kMk3 (ioOk io 0 (.o C [] [] :: ds.map .f)) (G (.o C [] [] :: ds.map .f)) := rfl
theorem kMk3_t : kMk3 true (some (.ok (.f .non) (u :: us))) = some u := rfl
theorem kMk4_s : kMk4 ρ (some u) = some (.ok u ρ) := rfl
/-! tests with effects -/
def kOAnd (h : List T → Option Rb) (o : Option Rb) : Option Rb := o.bind fun r => match r with
  | .ok true ρ1 => h ρ1
  | r => some r
def kOOr (h : List T → Option Rb) (o : Option Rb) : Option Rb := o.bind fun r => match r with
  | .ok false ρ1 => h ρ1
  | r => some r
theorem wz_oAnd {h k : List T → Option Rb} : oAnd h k ρ = kOAnd k (h ρ) := by unfold oAnd kOAnd; rfl
theorem wz_oOr {h k : List T → Option Rb} : oOr h k ρ = kOOr k (h ρ) := by unfold oOr kOOr; rfl
theorem kOAnd_t {k : List T → Option Rb} : kOAnd k (some (.ok true ρ)) = k ρ := rfl
theorem kOAnd_f {k : List T → Option Rb} : kOAnd k (some (.ok false ρ)) = some (.ok false ρ) := rfl
theorem kOOr_f {k : List T → Option Rb} : kOOr k (some (.ok false ρ)) = k ρ := rfl
theorem kOOr_t {k : List T → Option Rb} : kOOr k (some (.ok true ρ)) = some (.ok true ρ) := rfl
theorem wz_sAug {h : T → T → Option T} : sAug i h fe ρ = kSet i (lift (f2 h (fVar i) fe) ρ) := wz_sSet
theorem gAddI_i {p q : Int} : gAddI (.f (.int p)) (.f (.int q)) = some (.f (.int (p + q))) := rfl
/-! dicts -/
def kG3 (o p q : Option T) : Option T := o.bind fun a => p.bind fun k => q.bind fun d => gGet a k d
theorem wz_fGet : fGet fa fk fd ρ = kG3 (fa ρ) (fk ρ) (fd ρ) := rfl
theorem kG3_s : kG3 (some t) (some x) (some y) = gGet t x y := rfl
theorem gGet_f : gGet (.f (.dct ks ds)) (.f (.str z)) (.f d) = some (.f ((dAt ks ds (.inr z)).getD d)) := rfl
theorem gGet_o : gGet (.dk ks ds) (.f (.str z)) (.f d) = some (.f ((dAt ks ds (.inr z)).getD d)) := rfl
theorem gCopy_f : gCopy (.f (.dct ks ds)) = some (.f (.dct ks ds)) := rfl
theorem gCopy_o : gCopy (.dk ks ds) = some (.f (.dct ks ds)) := rfl
def kClr (i : Nat) (h : T → Option T) (ρ : List T) (p : Option (List Sel)) : Option Out := p.bind fun π => kNx (mutF i π h ρ)
theorem wz_sClr {h : T → Option T} : sClr i fp h ρ = kClr i h ρ (fp ρ) := rfl
theorem kClr_s {h : T → Option T} : kClr i h ρ (some π) = kNx (mutF i π h ρ) := rfl
theorem clrT_s : clrT (.dk ks ds) = some (.dk [] []) := rfl
theorem gRevL_l : gRevL (.f (.lst ds)) = some (.f (.lst ds.reverse)) := rfl
theorem gRevL_o : gRevL (.l ds) = some (.f (.lst ds.reverse)) := rfl
theorem gVals_f : gVals (.f (.dct ks ds)) = some (.f (.lst ds)) := rfl
theorem gVals_o : gVals (.dk ks ds) = some (.f (.lst ds)) := rfl
theorem kNn_ll : kNn (some (.ll ts)) = some (.ll ts) := rfl
theorem kNn_tu : kNn (some (.tu ts)) = some (.tu ts) := rfl
theorem kNn_o : kNn (some (.o C ns ts)) = some (.o C ns ts) := rfl
theorem gIx_ll {j : Int} : gIx (.ll ts) (.f (.int j)) = kNn (atI ts j) := by
  unfold gIx
  rw [or2_r rfl, or2_none rfl]
  show ((atI ts j).bind fun t => match t with | .un => none | t => some t) = _
  unfold kNn
  rfl
theorem gIx_tu {j : Int} : gIx (.tu ts) (.f (.int j)) = kNn (atI ts j) := by
  unfold gIx
  rw [or2_r rfl, or2_none rfl]
  show ((atI ts j).bind fun t => match t with | .un => none | t => some t) = _
  unfold kNn
  rfl
theorem gLen_ll : gLen [.ll ts] = some (.f (.int ts.length)) := rfl
theorem gLen_tu : gLen [.tu ts] = some (.f (.int ts.length)) := rfl
theorem gLen_dk : gLen [.dk ks ds] = some (.f (.int ks.length)) := rfl
theorem gLen_df : gLen [.f (.dct ks ds)] = some (.f (.int ks.length)) := rfl
/-! a def whole, and what it hands back -/
def kRun (m : Nat) (io : List Nat) (ts : List T) (o : Option Out) : Option Re := o.bind fun o => match o with
  | .rt τ ρ => if m ≤ ρ.length then some (.ok τ (outs io 0 ts ρ)) else none
  | .nx ρ => if m ≤ ρ.length then some (.ok (.f .non) (outs io 0 ts ρ)) else none
  | .xc C ρ => if m ≤ ρ.length then some (.xc C (outs io 0 ts ρ)) else none
  | _ => none
theorem run_of {fb : FS} (h : ts.length = m) : runF m n io fb ts = kRun m io ts (fb (ts ++ List.replicate (n - m) .un)) := if_pos h
theorem kRun_rt (h : m ≤ ρ.length) : kRun m io ts (some (.rt t ρ)) = some (.ok t (outs io 0 ts ρ)) := if_pos h
theorem kRun_nx (h : m ≤ ρ.length) : kRun m io ts (some (.nx ρ)) = some (.ok (.f .non) (outs io 0 ts ρ)) := if_pos h
theorem outs_nil : outs io n [] ρ = [] := by cases ρ <;> rfl
def kOut (b : Bool) (x y : T) : T := if b = true then x else y
theorem outs_cons : outs io n (t :: ts) (u :: ρ) = kOut (io.contains n) u t :: outs io (n + 1) ts ρ := by
  unfold kOut
  show (if n ∈ io then u else t) :: outs io (n + 1) ts ρ = _
  congr 1
  by_cases h : n ∈ io
  · rw [if_pos h, if_pos (List.contains_iff_mem.mpr h)]
  · rw [if_neg h, if_neg (fun q => h (List.contains_iff_mem.mp q))]
theorem kOut_t : kOut true x y = x := rfl
theorem kOut_f : kOut false x y = y := rfl
end
-- nosimp kCall_own
-- nosimp run_of
theorem last_n {α : Type} {A : List α} {x : α} : (-1 + ((A ++ [x]).length : Int)).toNat = A.length := by
  rw [List.length_append]
  simp
  omega
theorem last_g {α : Type} {A : List α} {x : α} : (A ++ [x])[A.length]? = some x := by simp
theorem last_s {α : Type} {A : List α} {x y : α} : (A ++ [x]).set A.length y = A ++ [y] := by
  rw [List.set_append_right _ _ (Nat.le_refl _)]
  simp
theorem cast1 : ((1 : Nat) : Int) = 1 := rfl
theorem cast2 : ((2 : Nat) : Int) = 2 := rfl
theorem cast3 : ((3 : Nat) : Int) = 3 := rfl
theorem cast4 : ((4 : Nat) : Int) = 4 := rfl
theorem cast5 : ((5 : Nat) : Int) = 5 := rfl
theorem cast6 : ((6 : Nat) : Int) = 6 := rfl
theorem cast7 : ((7 : Nat) : Int) = 7 := rfl
theorem cast8 : ((8 : Nat) : Int) = 8 := rfl
theorem cast9 : ((9 : Nat) : Int) = 9 := rfl
theorem cast10 : ((10 : Nat) : Int) = 10 := rfl
theorem cast11 : ((11 : Nat) : Int) = 11 := rfl
theorem cast12 : ((12 : Nat) : Int) = 12 := rfl
/-! while -/
section
variable {ρ ρ1 : List T} {t : T} {n : Nat} {ft : List T → Option Rb} {fb : FS}
def kW2 (ft : List T → Option Rb) (fb : FS) (n : Nat) (o : Option Out) : Option Out := o.bind fun o => match o with
      | .nx ρ2 => whileF ft fb n ρ2
      | .ct ρ2 => whileF ft fb n ρ2
      | .bk ρ2 => some (.nx ρ2)
      | o => some o
def kW1 (ft : List T → Option Rb) (fb : FS) (n : Nat) (o : Option Rb) : Option Out := o.bind fun r => match r with
    | .xc C ρ1 => some (.xc C ρ1)
    | .ok false ρ1 => some (.nx ρ1)
    | .ok true ρ1 => kW2 ft fb n (fb ρ1)
theorem while_step : whileF ft fb (n + 1) ρ = kW1 ft fb n (ft ρ) := by
  rw [whileF]
  unfold kW1 kW2
  cases ft ρ with
  | none => rfl
  | some r => cases r with
    | xc C ρ1 => rfl
    | ok b ρ1 => cases b with
      | false => rfl
      | true =>
        simp only [Option.bind_some]
        all_goals (rcases fb ρ1 with _ | o <;> first | rfl | (cases o <;> rfl))
theorem wz_sWhile {m : Nat} : sWhile (fun _ => m) ft fb ρ = whileF ft fb m ρ := rfl
theorem kW1_f : kW1 ft fb n (some (.ok false ρ)) = some (.nx ρ) := rfl
theorem kW1_t : kW1 ft fb n (some (.ok true ρ)) = kW2 ft fb n (fb ρ) := rfl
theorem kW2_nx : kW2 ft fb n (some (.nx ρ)) = whileF ft fb n ρ := rfl
theorem kW2_ct : kW2 ft fb n (some (.ct ρ)) = whileF ft fb n ρ := rfl
theorem kW2_bk : kW2 ft fb n (some (.bk ρ)) = some (.nx ρ) := rfl
theorem kW2_rt : kW2 ft fb n (some (.rt t ρ)) = some (.rt t ρ) := rfl
end
-- nosimp while_step
/-! ### texts joined, dicts copied and walked, things sorted -/
section
variable {ρ : List T} {ds : List D} {ks : List Key} {t : T} {fa : List T → Option T}
theorem gJoin_l {z : Str} {xs : List Str} (h : (xs.map (·.length)).sum + xs.length * z.length ≤ 16777216) : gJoin (.f (.str z)) (.f (.lst (xs.map D.str))) = some (.f (.str (Txt.join z xs))) := by
  show (strsOf (xs.map D.str)).bind _ = _
  rw [strsOf_map]
  exact if_pos h
theorem gDictOf_f : gDictOf [.f (.dct ks ds)] = some (.f (.dct ks ds)) := rfl
theorem gDictOf_o : gDictOf [.dk ks ds] = some (.f (.dct ks ds)) := rfl
theorem gSorted_d {xs : List Str} (h : xs.length < 64) : gSorted [.f (.dct (xs.map Sum.inr) ds)] = some (.f (.lst ((ssort xs).map D.str))) := by
  have e : gSortD (.f (.dct (xs.map Sum.inr) ds)) = some (.f (.lst ((ssort xs).map D.str))) := by
    show (skeys (xs.map Sum.inr)).bind _ = _
    rw [skeys_map]
    exact if_pos h
  show gSorted1 (.f (.dct (xs.map Sum.inr) ds)) = _
  unfold gSorted1
  rw [show gSortI (.f (.dct (xs.map Sum.inr) ds)) = none from rfl, e]
theorem gSorted_i {ns : List Int} : gSorted [.f (.lst (ns.map D.int))] = some (.f (.lst ((isort ns).map D.int))) := by
  have e : gSortI (.f (.lst (ns.map D.int))) = some (.f (.lst ((isort ns).map D.int))) := by
    show (intsOf (ns.map D.int)).map _ = _
    rw [intsOf_map]
    rfl
  show gSorted1 (.f (.lst (ns.map D.int))) = _
  unfold gSorted1
  rw [e]
theorem gMaxL_l {ns : List Int} : gMaxL [.f (.lst (ns.map D.int))] = (imax ns).map fun m => .f (.int m) := by
  show (intsOf (ns.map D.int)).bind _ = _
  rw [intsOf_map]
  rfl
def kTix (k : Int) (o : Option T) : Option T := o.bind fun t => match t with
  | .f (.tup ds) => (atI ds k).map .f
  | _ => none
theorem wz_fTix {k : Int} : fTix k fa ρ = kTix k (fa ρ) := by unfold fTix kTix; rfl
theorem kTix_s {k : Int} : kTix k (some (.f (.tup ds))) = kV (atI ds k) := rfl
def kNoX (o : Option Out) : Option Out := o.bind noX
theorem kNoX_nx : kNoX (some (.nx ρ)) = some (.nx ρ) := rfl
theorem kNoX_rt : kNoX (some (.rt t ρ)) = some (.rt t ρ) := rfl
def kForK (fg : T → List T → Option (List T)) (fb : FS) (ρ : List T) (o : Option T) : Option Out := o.bind fun t => match t with
  | .f (.dct ks _) => kNoX (forF fg fb (ks.map kD) ρ)
  | _ => none
theorem wz_sForK {fg fb} : sForK fa fg fb ρ = kForK fg fb ρ (fa ρ) := by unfold sForK kForK; rfl
theorem kForK_s {fg fb} : kForK fg fb ρ (some (.f (.dct ks ds))) = kNoX (forF fg fb (ks.map kD) ρ) := rfl
end
/-! ### operators behind effects, stores by such keys, things handed over twice -/
section
variable {ρ ρ1 : List T} {d q : D} {ds : List D} {t u : T} {ts us : List T} {ns : List Str} {i j k C : Nat} {io : List Nat} {al : List (Nat × Nat)} {G : List T → Option Re} {fr : List T → Option Rs} {fo fk : List T → Option Re} {fb fe : List T → Option T} {fp : List T → Option (List Sel)} {as : List Ar}
def kE2 (g : T → T → Option T) (fb : List T → Option T) (o : Option Re) : Option Re := o.bind fun r => match r with
  | .ok t ρ1 => t.d?.bind fun d => (fb ρ1).bind fun y => (g (.f d) y).bind fun z => z.d?.map fun dz => .ok (.f dz) ρ1
  | .xc C ρ1 => some (.xc C ρ1)
theorem wz_fE2 {g} : fE2 g fo fb ρ = kE2 g fb (fo ρ) := by
  unfold fE2 kE2
  cases fo ρ with
  | none => rfl
  | some r => cases r <;> rfl
theorem kE2_s {g} : kE2 g fb (some (.ok (.f d) ρ1)) = kLift ρ1 (k2 g (some (.f d)) (fb ρ1)) := by
  show ((fb ρ1).bind _) = _
  unfold kLift k2
  cases fb ρ1 with
  | none => rfl
  | some y => rfl
def kSE (i : Nat) (fk : List T → Option Re) (ρ : List T) (x : Option T) (p : Option (List Sel)) : Option Out := x.bind fun x => x.d?.bind fun d => p.bind fun π => (isEnd π).bind fun _ => (ρ[i]?).bind fun t => (t.getP π).bind fun u => if isObj t = true ∧ owned u = true then (fk ρ).bind (kSetE i π d) else none
theorem wz_sSetIxE : sSetIxE i fp fk fe ρ = kSE i fk ρ (fe ρ) (fp ρ) := rfl
def kSE2 (i : Nat) (fk : List T → Option Re) (d : D) (ρ : List T) (o : Option T) : Option Out := o.bind fun t => (t.getP [.at (Str.ofString "endings")]).bind fun u => if isObj t = true ∧ owned u = true then (fk ρ).bind (kSetE i [.at (Str.ofString "endings")] d) else none
theorem kSE_s : kSE i fk ρ (some (.f d)) (some [.at (Str.ofString "endings")]) = kSE2 i fk d ρ ρ[i]? := rfl
def kSE3 (i : Nat) (fk : List T → Option Re) (d : D) (ρ : List T) (o : Option T) : Option Out := o.bind fun u => if owned u = true then (fk ρ).bind (kSetE i [.at (Str.ofString "endings")] d) else none
theorem kSE2_s : kSE2 i fk d ρ (some (.o C ns ts)) = kSE3 i fk d ρ (atN ns ts (Str.ofString "endings")) := by
  unfold kSE2 kSE3
  rw [Option.bind_some, getP_cons, sub_o]
  cases atN ns ts (Str.ofString "endings") with
  | none => rfl
  | some u =>
    show (if isObj (T.o C ns ts) = true ∧ owned u = true then _ else _) = _
    by_cases h : owned u = true
    · exact (if_pos ⟨rfl, h⟩).trans (if_pos h).symm
    · exact (if_neg fun z => h z.2).trans (if_neg h).symm
def kSE4 (i : Nat) (d : D) (o : Option Re) : Option Out := o.bind (kSetE i [.at (Str.ofString "endings")] d)
theorem kSE3_l : kSE3 i fk d ρ (some (.l ds)) = kSE4 i d (fk ρ) := rfl
theorem kSE4_s : kSE4 i d (some (.ok (.f q) ρ1)) = kNx (mutF i [.at (Str.ofString "endings")] (setT q d) ρ1) := rfl
def kAl2 (i : Nat) (o : Option Rs) : Option Rs := o.map fun r => match r with
    | .ok as ρ2 => .ok (.a i :: as) ρ2
    | r => r
def kAl (i : Nat) (g : List T → Option Rs) (ρ : List T) (o : Option T) : Option Rs := match o with
  | none => none
  | some .un => none
  | some _ => kAl2 i (g ρ)
theorem wz_bAl : bAl i fr ρ = kAl i fr ρ ρ[i]? := by
  unfold bAl kAl kAl2
  cases ρ[i]? with
  | none => rfl
  | some t => cases t <;> rfl
theorem kAl_dk {ks} : kAl i fr ρ (some (.dk ks ds)) = kAl2 i (fr ρ) := rfl
theorem kAl2_s : kAl2 i (some (.ok as ρ)) = some (.ok (.a i :: as) ρ) := rfl
theorem take_a : takeF (.a i :: as) ρ = kTk .un (takeF as ρ) := rfl
theorem put_a : putF (.a i :: as) (u :: us) ρ = putF as us ρ := rfl
def kCA (al : List (Nat × Nat)) (io : List Nat) (G : List T → Option Re) (o : Option Rs) : Option Re := o.bind fun r => if alR io al r = true then kCl io G (some r) else none
theorem wz_fCallA : fCallA al io G fr ρ = kCA al io G (fr ρ) := by
  unfold fCallA kCA
  cases fr ρ with
  | none => rfl
  | some r =>
    show (if alR io al r = true then _ else _) = (if alR io al r = true then _ else _)
    rw [wz_fCall]
theorem kCA_do {t1 t5 : T} : kCA [(1, 2)] [1, 2, 3] G (some (.ok [.v t1, .s i, .a i, .s k, .v t5] ρ)) = kCl [1, 2, 3] G (some (.ok [.v t1, .s i, .a i, .s k, .v t5] ρ)) := by
  refine if_pos ?_
  show (([1, 2, 3].contains 1 && [1, 2, 3].contains 2 && (i == i)) && true) = true
  rw [beq_self_eq_true]
  rfl
theorem isF_un : isF .un = false := rfl
end
/-! ### a copy of one's own -/
section
variable {ρ : List T} {ds : List D} {ks : List Key} {fa : List T → Option T}
theorem wz_fD0 : fD0 ρ = some (.f (.dct [] [])) := rfl
def kCp (ρ : List T) (o : Option T) : Option (T × List T) := o.bind fun t => t.dk?.map fun p => (.dk p.1 p.2, ρ)
theorem wz_mCopy : mCopy fa ρ = kCp ρ (fa ρ) := rfl
theorem kCp_f : kCp ρ (some (.f (.dct ks ds))) = some (.dk ks ds, ρ) := rfl
theorem kCp_o : kCp ρ (some (.dk ks ds)) = some (.dk ks ds, ρ) := rfl
end
/-! ### dicts whose keys are tuples of numbers -/
section
variable {ρ : List T} {d q : D} {ds : List D} {i : Nat} {fe fk : List T → Option T} {fp : List T → Option (List Sel)} {ks : List (List Int)} {l : List Bool}
def b2i (b : Bool) : Int := if b = true then 1 else 0
theorem nn_dix : nn (some (.di ks ds)) = some (.di ks ds) := rfl
theorem wz_fNewX : fNewX ρ = some (.ok (.di [] []) ρ) := rfl
theorem nums_bl : ∀ l : List Bool, numsOf (l.map D.bl) = some (l.map b2i)
  | [] => rfl
  | b :: l => by
    show ((D.bl b).num).bind _ = _
    rw [show (D.bl b).num = some (b2i b) from rfl, Option.bind_some, nums_bl l]
    rfl
theorem any_k (k : List Int) : (ks.any fun q => decide (q = k)) = decide (k ∈ ks) := by
  by_cases h : k ∈ ks
  · rw [decide_eq_true h, List.any_eq_true]
    exact ⟨k, h, decide_eq_true rfl⟩
  · rw [decide_eq_false h, List.any_eq_false]
    intro a ha q
    exact h (by rw [← of_decide_eq_true q]; exact ha)
theorem gInZ_b : gInZ (.f (.tup (l.map D.bl))) (.di ks ds) = some (.f (.bl (decide (l.map b2i ∈ ks)))) := by
  show (numsOf (l.map D.bl)).bind (fun k => some (T.f (.bl (xor false (ks.any fun q => decide (q = k)))))) = _
  rw [nums_bl, Option.bind_some, any_k, Bool.false_xor]
theorem gNotInZ_b : gNotInZ (.f (.tup (l.map D.bl))) (.di ks ds) = some (.f (.bl (!decide (l.map b2i ∈ ks)))) := by
  show (numsOf (l.map D.bl)).bind (fun k => some (T.f (.bl (xor true (ks.any fun q => decide (q = k)))))) = _
  rw [nums_bl, Option.bind_some, any_k, Bool.true_xor]
def kSX (i : Nat) (ρ : List T) (o : Option T) (π : Option (List Sel)) (k : Option T) : Option Out := o.bind fun x => x.d?.bind fun d => π.bind fun π => k.bind fun z => z.d?.bind fun q => kNx (mutF i π (setX q d) ρ)
theorem wz_sSetX : sSetX i fp fk fe ρ = kSX i ρ (fe ρ) (fp ρ) (fk ρ) := rfl
theorem kSX_s {π : List Sel} : kSX i ρ (some (.f d)) (some π) (some (.f q)) = kNx (mutF i π (setX q d) ρ) := rfl
theorem setX_b (h : l.map b2i ∉ ks) (hz : ks.length < 16777216) : setX (.tup (l.map D.bl)) d (.di ks ds) = some (.di (ks ++ [l.map b2i]) (ds ++ [d])) := by
  show (numsOf (l.map D.bl)).bind (fun q => if q ∈ ks then none else if ks.length < sizeLine then some (T.di (ks ++ [q]) (ds ++ [d])) else none) = _
  rw [nums_bl, Option.bind_some, if_neg h]
  exact if_pos hz
end
/-! list(a dict) -/
section
variable {ds : List D} {ks : List Key}
theorem gListX_l : gListX [.f (.lst ds)] = some (.f (.lst ds)) := rfl
theorem gListX_t : gListX [.f (.tup ds)] = some (.f (.lst ds)) := rfl
theorem gListX_d : gListX [.f (.dct ks ds)] = some (.f (.lst (ks.map kD))) := rfl
end
-- nosimp any_k
-- nosimp nums_bl
-- nosimp gJoin_l
-- nosimp gSorted_d
-- nosimp gSorted_i
-- nosimp gMaxL_l
end Z

namespace Z
open PySem L2
/-! ### loops by the place -/
section
variable {fg : T → List T → Option (List T)} {fb : FS}
theorem for_idx (ds : List D) (P : Nat → List T → Prop) (R : Out → Prop) (step : ∀ i d ρ, ds[i]? = some d → P i ρ → Wn (P (i + 1)) R (kTurn fb (fg (.f d) ρ))) {ρ : List T} (h : P 0 ρ) :
    ∃ o, forF fg fb ds ρ = some o ∧ ((∃ ρ', o = .nx ρ' ∧ P ds.length ρ') ∨ R o) := by
  obtain ⟨o, e, h⟩ := for_wp (fg := fg) (fb := fb) (fun l ρ => ∃ i, l = ds.drop i ∧ i ≤ ds.length ∧ P i ρ) R (by
    rintro d l ρ ⟨i, e, hi, hp⟩
    have hlt : i < ds.length := by
      rcases Nat.lt_or_ge i ds.length with z | z
      · exact z
      · rw [List.drop_of_length_le z] at e; cases e
    rw [List.drop_eq_getElem_cons hlt] at e
    have e1 := (List.cons.inj e).1
    have e2 := (List.cons.inj e).2
    have s := step i d ρ (by rw [e1]; exact List.getElem?_eq_getElem hlt) hp
    generalize kTurn fb (fg (.f d) ρ) = o at s ⊢
    refine ⟨?_⟩
    have s := s.go
    cases o with
    | none => exact s
    | some o => cases o with
      | nx ρ2 => exact ⟨i + 1, e2, hlt, s⟩
      | ct ρ2 => exact ⟨i + 1, e2, hlt, s⟩
      | _ => exact s) (ds := ds) (ρ := ρ) ⟨0, rfl, Nat.zero_le _, h⟩
  refine ⟨o, e, h.imp (fun ⟨ρ', e1, i, e2, hi, hp⟩ => ⟨ρ', e1, ?_⟩) id⟩
  have : i = ds.length := by
    rcases Nat.lt_or_ge i ds.length with z | z
    · rw [List.drop_eq_getElem_cons z] at e2; cases e2
    · omega
  rw [← this]
  exact hp
theorem for_idxN (ds : List D) (P : Nat → List T → Prop) (step : ∀ i d ρ, ds[i]? = some d → P i ρ → Wn (P (i + 1)) (fun _ => False) (kTurn fb (fg (.f d) ρ))) {ρ : List T} (h : P 0 ρ) :
    ∃ ρ', forF fg fb ds ρ = some (.nx ρ') ∧ P ds.length ρ' := by
  obtain ⟨o, e, ⟨ρ', rfl, h⟩ | h⟩ := for_idx ds P (fun _ => False) step h
  · exact ⟨ρ', e, h⟩
  · exact h.elim
theorem rangeD_len {lo : Int} {n : Nat} : (rangeD lo n).length = n := by unfold rangeD; rw [List.length_map, List.length_range]
theorem rangeD_at {lo : Int} {n i : Nat} {d : D} (h : (rangeD lo n)[i]? = some d) : i < n ∧ d = .int (lo + i) := by
  unfold rangeD at h
  rw [List.getElem?_map] at h
  obtain ⟨j, e, e2⟩ := Option.map_eq_some_iff.mp h
  have hl := (List.getElem?_eq_some_iff.mp e).1
  rw [List.length_range] at hl
  rw [List.getElem?_range hl] at e
  cases e
  exact ⟨hl, e2.symm⟩
theorem enumD_at : ∀ {ds : List D} {k i : Nat} {d : D}, (enumD k ds)[i]? = some d → ∃ x, ds[i]? = some x ∧ d = .tup [.int ((k + i : Nat) : Int), x]
  | [], _, _, _, h => by simp [enumD] at h
  | x :: ds, k, 0, d, h => ⟨x, rfl, by simpa [enumD] using h.symm⟩
  | x :: ds, k, i + 1, d, h => by
    have h' : (enumD (k + 1) ds)[i]? = some d := by simpa [enumD] using h
    obtain ⟨y, e, r⟩ := enumD_at h'
    exact ⟨y, by simpa using e, by rw [r, show k + 1 + i = k + (i + 1) by omega]⟩
theorem map_at {α : Type} {φ : α → D} {xs : List α} {i : Nat} {d : D} (h : (xs.map φ)[i]? = some d) : ∃ a, xs[i]? = some a ∧ d = φ a := by
  rw [List.getElem?_map] at h
  obtain ⟨a, e, e2⟩ := Option.map_eq_some_iff.mp h
  exact ⟨a, e, e2.symm⟩
theorem at_map {α : Type} {φ : α → D} {xs : List α} {i : Nat} {a : α} (h : xs[i]? = some a) : (xs.map φ)[i]? = some (φ a) := by
  rw [List.getElem?_map, h]
  rfl
/-- over range(n) -/
theorem for_range (n : Nat) (P : Nat → List T → Prop) (step : ∀ (i : Nat) ρ, i < n → P i ρ → Wn (P (i + 1)) (fun _ => False) (kTurn fb (fg (.f (.int (i : Int))) ρ))) {ρ : List T} (h : P 0 ρ) :
    ∃ ρ', forF fg fb (rangeD 0 n) ρ = some (.nx ρ') ∧ P n ρ' := by
  obtain ⟨ρ', e, q⟩ := for_idxN (fg := fg) (fb := fb) (rangeD 0 n) P (fun i d ρ hd hp => by
    obtain ⟨hi, rfl⟩ := rangeD_at hd
    rw [Int.zero_add]
    exact step i ρ hi hp) h
  rw [rangeD_len] at q
  exact ⟨ρ', e, q⟩
/-- over a list's items -/
theorem for_map {α : Type} {φ : α → D} (xs : List α) (P : Nat → List T → Prop) (step : ∀ (i : Nat) a ρ, xs[i]? = some a → P i ρ → Wn (P (i + 1)) (fun _ => False) (kTurn fb (fg (.f (φ a)) ρ))) {ρ : List T} (h : P 0 ρ) :
    ∃ ρ', forF fg fb (xs.map φ) ρ = some (.nx ρ') ∧ P xs.length ρ' := by
  obtain ⟨ρ', e, q⟩ := for_idxN (fg := fg) (fb := fb) (xs.map φ) P (fun i d ρ hd hp => by
    obtain ⟨a, ha, rfl⟩ := map_at hd
    exact step i a ρ ha hp) h
  rw [List.length_map] at q
  exact ⟨ρ', e, q⟩
theorem for_enum {α : Type} {φ : α → D} (xs : List α) (P : Nat → List T → Prop) (step : ∀ (i : Nat) a ρ, xs[i]? = some a → P i ρ → Wn (P (i + 1)) (fun _ => False) (kTurn fb (fg (.f (.tup [.int (i : Int), φ a])) ρ))) {ρ : List T} (h : P 0 ρ) :
    ∃ ρ', forF fg fb (enumD 0 (xs.map φ)) ρ = some (.nx ρ') ∧ P xs.length ρ' := by
  obtain ⟨ρ', e, q⟩ := for_idxN (fg := fg) (fb := fb) (enumD 0 (xs.map φ)) P (fun i d ρ hd hp => by
    obtain ⟨x, hx, rfl⟩ := enumD_at hd
    obtain ⟨a, ha, rfl⟩ := map_at hx
    rw [Nat.zero_add]
    exact step i a ρ ha hp) h
  rw [enumD_len, List.length_map] at q
  exact ⟨ρ', e, q⟩
end
end Z

set_option maxHeartbeats 4000000
set_option exponentiation.threshold 3000
namespace K
open PySem PySem.Spec PyProof.Rows L2 Z
def top (i : Nat) : Stmt := PySem.Challenge.pw_deedloom_k32_whole_least_layings.main.body.getD i (.Pass ⟨0, 0, 0, 0⟩)
structure Bi (mg : Str → Option Value) : Prop where
  isinstance_ : mg "isinstance" = none
  str_ : mg "str" = none
  range_ : mg "range" = none
  len_ : mg "len" = none
  tuple_ : mg "tuple" = none
  all_ : mg "all" = none
  int_ : mg "int" = none
  bool_ : mg "bool" = none
  enumerate_ : mg "enumerate" = none
  list_ : mg "list" = none
  sum_ : mg "sum" = none
abbrev s_reads : Stmt := top 1
theorem sc_reads : FnScope ["deed", "operands", "operand"] ["deed"] (defScope s_reads) := ⟨rfl, rfl, rfl, by decide +kernel, rfl, by decide +kernel, by decide +kernel⟩
def m_reads_1 : List T → Option T := fVar 2
def n_reads_1 : List T → Option Bool := fT (fIsi "str" (fVar 2))
def b_reads : FS := sSeq (sSet 1 (lift (fSl (fVar 0) (some (fC (.int 2))) none))) (sSeq (sIf (liftB (fT (f2 gEq (f2 gIx (fVar 0) (fC (.int 0))) (fC (.str "tell"))))) (sSet 1 (lift (fSl (fVar 0) (some (fC (.int 1))) none))) (sNil)) (sRet (lift (fLc [2] (jVal (fVar 1)) (gSet 2) (n_reads_1) (m_reads_1)))))
def g_reads : List T → Option Re := runF 1 3 [] b_reads
theorem ok_reads {P : Program} {w : World} {W : Wd} {mg : Str → Option Value} {base : Heap} {f : Addr} {fd : FuncData} (F : Fun W.K "reads" "reads" s_reads f fd) (B : Bi mg) : FnOk P w W.K mg base CX0 1 f fd ["deed"] (spF W [] g_reads) :=
  fnZ F sc_reads (by decide) (by decide) fun _ _ _ _ _ _ hr =>
  sms_cons (sm_s 1 (evo (ev_sl10 (ev_v 0) (ev_int)))) (sms_cons (sm_if (tvo (tv_c c_eq (ev_ix (ev_v 0) (ev_int)) (ev_str))) (sms_one (sm_s 1 (evo (ev_sl10 (ev_v 0) (ev_int))))) (sms_nil)) (sms_one (sm_ret (evo (ev_lc [("operand", 2)] (ip_val (ev_v 1)) (gc_n 2) (tvs_one (tv_val (ev_isi (by intro _; rfl) (fun _ => B.isinstance_) (ev_v 2) (by intro _; rfl) (fun _ => B.str_) (by decide +kernel)) (by intro _ _; rfl))) (ev_v 2))))))
abbrev s_writes : Stmt := top 2
theorem sc_writes : FnScope ["deed"] ["deed"] (defScope s_writes) := ⟨rfl, rfl, rfl, by decide +kernel, rfl, by decide +kernel, by decide +kernel⟩
def b_writes : FS := sSeq (sIf (liftB (fT (f2 gEq (f2 gIx (fVar 0) (fC (.int 0))) (fC (.str "tell"))))) (sRet (lift (fC .non))) (sNil)) (sRet (lift (f2 gIx (fVar 0) (fC (.int 1)))))
def g_writes : List T → Option Re := runF 1 1 [] b_writes
theorem ok_writes {P : Program} {w : World} {W : Wd} {mg : Str → Option Value} {base : Heap} {f : Addr} {fd : FuncData} (F : Fun W.K "writes" "writes" s_writes f fd) (B : Bi mg) : FnOk P w W.K mg base CX0 1 f fd ["deed"] (spF W [] g_writes) :=
  fnZ F sc_writes (by decide) (by decide) fun _ _ _ _ _ _ hr =>
  sms_cons (sm_if (tvo (tv_c c_eq (ev_ix (ev_v 0) (ev_int)) (ev_str))) (sms_one (sm_ret (evo (ev_non)))) (sms_nil)) (sms_one (sm_ret (evo (ev_ix (ev_v 0) (ev_int)))))
abbrev s_gap : Stmt := top 3
theorem sc_gap : FnScope ["deeds", "j", "k", "one", "other", "name"] ["deeds", "j", "k"] (defScope s_gap) := ⟨rfl, rfl, rfl, by decide +kernel, rfl, by decide +kernel, by decide +kernel⟩
def b_gap : FS := sSeq (sSet 3 (lift (f2 gIx (fVar 0) (fVar 1)))) (sSeq (sSet 4 (lift (f2 gIx (fVar 0) (fVar 2)))) (sSeq (sIf (liftB (tAndF (fT (f2 gEq (f2 gIx (fVar 3) (fC (.int 0))) (fC (.str "tell")))) (fT (f2 gEq (f2 gIx (fVar 4) (fC (.int 0))) (fC (.str "tell")))))) (sRet (lift (fC (.int 1)))) (sNil)) (sSeq (sSet 5 (lift (fCallV g_writes (aCons (fVar 3) (aNil))))) (sSeq (sIf (liftB (tAndF (fT (fIsN true (fVar 5))) (tOrF (fT (f2 gIn (fVar 5) (fCallV g_reads (aCons (fVar 4) (aNil))))) (fT (f2 gEq (fVar 5) (fCallV g_writes (aCons (fVar 4) (aNil)))))))) (sRet (lift (fC (.int 1)))) (sNil)) (sSeq (sSet 5 (lift (fCallV g_writes (aCons (fVar 4) (aNil))))) (sSeq (sIf (liftB (tAndF (fT (fIsN true (fVar 5))) (fT (f2 gIn (fVar 5) (fCallV g_reads (aCons (fVar 3) (aNil))))))) (sRet (lift (fC (.int 0)))) (sNil)) (sRet (lift (fC .non)))))))))
def g_gap : List T → Option Re := runF 3 6 [] b_gap
theorem ok_gap {P : Program} {w : World} {W : Wd} {mg : Str → Option Value} {base : Heap} {f : Addr} {fd : FuncData} (F : Fun W.K "gap" "gap" s_gap f fd) (B : Bi mg) (C_reads : Cl P w W mg base CX0 1 "reads" [] g_reads) (C_writes : Cl P w W mg base CX0 1 "writes" [] g_writes) : FnOk P w W.K mg base CX0 2 f fd ["deeds", "j", "k"] (spF W [] g_gap) :=
  fnZ F sc_gap (by decide) (by decide) fun _ _ _ _ _ _ hr =>
  sms_cons (sm_s 3 (evo (ev_ix (ev_v 0) (ev_v 1)))) (sms_cons (sm_s 4 (evo (ev_ix (ev_v 0) (ev_v 2)))) (sms_cons (sm_if (tvo (wvt (wv_and (tv_c c_eq (ev_ix (ev_v 3) (ev_int)) (ev_str)) (wv_and1 (tv_c c_eq (ev_ix (ev_v 4) (ev_int)) (ev_str)))))) (sms_one (sm_ret (evo (ev_int)))) (sms_nil)) (sms_cons (sm_s 5 (evo (ev_call (fun _ => C_writes) (Nat.le_of_ble_eq_true rfl) (by intro _; rfl) (E := E0) (fun _ => pass0') (av_cons (ev_v 3) (av_nil))))) (sms_cons (sm_if (tvo (wvt (wv_and (tv_notN (ev_v 5)) (wv_and1 (wvt (wv_or (tv_c c_in (ev_v 5) (ev_call (fun _ => C_reads) (Nat.le_of_ble_eq_true rfl) (by intro _; rfl) (E := E0) (fun _ => pass0') (av_cons (ev_v 4) (av_nil)))) (wv_or1 (tv_c c_eq (ev_v 5) (ev_call (fun _ => C_writes) (Nat.le_of_ble_eq_true rfl) (by intro _; rfl) (E := E0) (fun _ => pass0') (av_cons (ev_v 4) (av_nil))))))))))) (sms_one (sm_ret (evo (ev_int)))) (sms_nil)) (sms_cons (sm_s 5 (evo (ev_call (fun _ => C_writes) (Nat.le_of_ble_eq_true rfl) (by intro _; rfl) (E := E0) (fun _ => pass0') (av_cons (ev_v 4) (av_nil))))) (sms_cons (sm_if (tvo (wvt (wv_and (tv_notN (ev_v 5)) (wv_and1 (tv_c c_in (ev_v 5) (ev_call (fun _ => C_reads) (Nat.le_of_ble_eq_true rfl) (by intro _; rfl) (E := E0) (fun _ => pass0') (av_cons (ev_v 3) (av_nil)))))))) (sms_one (sm_ret (evo (ev_int)))) (sms_nil)) (sms_one (sm_ret (evo (ev_non))))))))))
abbrev s_sort_of : Stmt := top 4
theorem sc_sort_of : FnScope ["deed"] ["deed"] (defScope s_sort_of) := ⟨rfl, rfl, rfl, by decide +kernel, rfl, by decide +kernel, by decide +kernel⟩
def b_sort_of : FS := sSeq (sIf (liftB (fT (f2 gIn (f2 gIx (fVar 0) (fC (.int 0))) (fN gTup (aCons (fC (.str "plus")) (aCons (fC (.str "less")) (aNil))))))) (sRet (lift (fC (.int 0)))) (sNil)) (sSeq (sIf (liftB (fT (f2 gIn (f2 gIx (fVar 0) (fC (.int 0))) (fN gTup (aCons (fC (.str "below")) (aCons (fC (.str "same")) (aNil))))))) (sRet (lift (fC (.int 1)))) (sNil)) (sSeq (sIf (liftB (fT (f2 gIn (f2 gIx (fVar 0) (fC (.int 0))) (fN gTup (aCons (fC (.str "and")) (aCons (fC (.str "or")) (aCons (fC (.str "xor")) (aNil)))))))) (sRet (lift (fC (.int 2)))) (sNil)) (sRet (lift (fC .non)))))
def g_sort_of : List T → Option Re := runF 1 1 [] b_sort_of
theorem ok_sort_of {P : Program} {w : World} {W : Wd} {mg : Str → Option Value} {base : Heap} {f : Addr} {fd : FuncData} (F : Fun W.K "sort_of" "sort_of" s_sort_of f fd) (B : Bi mg) : FnOk P w W.K mg base CX0 1 f fd ["deed"] (spF W [] g_sort_of) :=
  fnZ F sc_sort_of (by decide) (by decide) fun _ _ _ _ _ _ hr =>
  sms_cons (sm_if (tvo (tv_c c_in (ev_ix (ev_v 0) (ev_int)) (ev_tup (av_cons (ev_str) (av_cons (ev_str) (av_nil)))))) (sms_one (sm_ret (evo (ev_int)))) (sms_nil)) (sms_cons (sm_if (tvo (tv_c c_in (ev_ix (ev_v 0) (ev_int)) (ev_tup (av_cons (ev_str) (av_cons (ev_str) (av_nil)))))) (sms_one (sm_ret (evo (ev_int)))) (sms_nil)) (sms_cons (sm_if (tvo (tv_c c_in (ev_ix (ev_v 0) (ev_int)) (ev_tup (av_cons (ev_str) (av_cons (ev_str) (av_cons (ev_str) (av_nil))))))) (sms_one (sm_ret (evo (ev_int)))) (sms_nil)) (sms_one (sm_ret (evo (ev_non))))))
abbrev s_fits_units : Stmt := top 5
theorem sc_fits_units : FnScope ["deeds", "units", "beat", "sort", "k"] ["deeds", "units", "beat"] (defScope s_fits_units) := ⟨rfl, rfl, rfl, by decide +kernel, rfl, by decide +kernel, by decide +kernel⟩
def m_fits_units_1 : List T → Option T := fVar 4
def n_fits_units_1 : List T → Option Bool := fT (f2 gEq (fCallV g_sort_of (aCons (f2 gIx (fVar 0) (fVar 4)) (aNil))) (fVar 3))
def l_fits_units_1 : FS := sIf (liftB (fT (f2 gGt (fN gLen (aCons (fLc [4] (jVal (fVar 2)) (gSet 4) (n_fits_units_1) (m_fits_units_1)) (aNil))) (f2 gIx (fVar 1) (fVar 3))))) (sRet (lift (fC (.bl false)))) (sNil)
def b_fits_units : FS := sSeq (sFor (iR1 (aCons (fC (.int 3)) (aNil))) (gSet 3) (l_fits_units_1)) (sRet (lift (fC (.bl true))))
def g_fits_units : List T → Option Re := runF 3 5 [] b_fits_units
theorem ok_fits_units {P : Program} {w : World} {W : Wd} {mg : Str → Option Value} {base : Heap} {f : Addr} {fd : FuncData} (F : Fun W.K "fits_units" "fits_units" s_fits_units f fd) (B : Bi mg) (C_sort_of : Cl P w W mg base CX0 1 "sort_of" [] g_sort_of) : FnOk P w W.K mg base CX0 2 f fd ["deeds", "units", "beat"] (spF W [] g_fits_units) :=
  fnZ F sc_fits_units (by decide) (by decide) fun _ _ _ _ _ _ hr =>
  sms_cons (sm_for (fun _ => PassesOwn.never) (iw_range1 (by intro _; rfl) (fun _ => B.range_) (av_cons (ev_int) (av_nil))) (gt_n 3) (sms_one (sm_if (tvo (tv_c c_gt (ev_callB (fun j => callLen j) sn_len (by intro _; rfl) (fun _ => B.len_) (by decide +kernel) (av_cons (ev_lc [("k", 4)] (ip_val (ev_v 2)) (gc_n 4) (tvs_one (tv_c c_eq (ev_call (fun _ => C_sort_of) (Nat.le_of_ble_eq_true rfl) (by intro _; rfl) (E := E0) (fun _ => pass0') (av_cons (ev_ix (ev_v 0) (ev_v 4)) (av_nil))) (ev_v 3))) (ev_v 4)) (av_nil))) (ev_ix (ev_v 1) (ev_v 3)))) (sms_one (sm_ret (evo (ev_bl)))) (sms_nil)))) (sms_one (sm_ret (evo (ev_bl))))
abbrev s_may_go : Stmt := top 6
theorem sc_may_go : FnScope ["deeds", "done", "beat", "k", "j", "far"] ["deeds", "done", "beat", "k"] (defScope s_may_go) := ⟨rfl, rfl, rfl, by decide +kernel, rfl, by decide +kernel, by decide +kernel⟩
def l_may_go_1 : FS := sIf (liftB (tNotF (fT (f2 gIx (fVar 1) (fVar 4))))) (sSeq (sSet 5 (lift (fCallV g_gap (aCons (fVar 0) (aCons (fVar 4) (aCons (fVar 3) (aNil))))))) (sIf (liftB (tOrF (fT (f2 gEq (fVar 5) (fC (.int 1)))) (tAndF (fT (f2 gEq (fVar 5) (fC (.int 0)))) (fT (f2 gNotIn (fVar 4) (fVar 2)))))) (sRet (lift (fC (.bl false)))) (sNil))) (sNil)
def b_may_go : FS := sSeq (sFor (iR1 (aCons (fVar 3) (aNil))) (gSet 4) (l_may_go_1)) (sRet (lift (fC (.bl true))))
def g_may_go : List T → Option Re := runF 4 6 [] b_may_go
theorem ok_may_go {P : Program} {w : World} {W : Wd} {mg : Str → Option Value} {base : Heap} {f : Addr} {fd : FuncData} (F : Fun W.K "may_go" "may_go" s_may_go f fd) (B : Bi mg) (C_gap : Cl P w W mg base CX0 2 "gap" [] g_gap) : FnOk P w W.K mg base CX0 3 f fd ["deeds", "done", "beat", "k"] (spF W [] g_may_go) :=
  fnZ F sc_may_go (by decide) (by decide) fun _ _ _ _ _ _ hr =>
  sms_cons (sm_for (fun _ => PassesOwn.never) (iw_range1 (by intro _; rfl) (fun _ => B.range_) (av_cons (ev_v 3) (av_nil))) (gt_n 4) (sms_one (sm_if (tvo (tv_not (tv_val (ev_ix (ev_v 1) (ev_v 4)) (by intro _ _; rfl)))) (sms_cons (sm_s 5 (evo (ev_call (fun _ => C_gap) (Nat.le_of_ble_eq_true rfl) (by intro _; rfl) (E := E0) (fun _ => pass0') (av_cons (ev_v 0) (av_cons (ev_v 4) (av_cons (ev_v 3) (av_nil))))))) (sms_one (sm_if (tvo (wvt (wv_or (tv_c c_eq (ev_v 5) (ev_int)) (wv_or1 (wvt (wv_and (tv_c c_eq (ev_v 5) (ev_int)) (wv_and1 (tv_c c_notIn (ev_v 4) (ev_v 2))))))))) (sms_one (sm_ret (evo (ev_bl)))) (sms_nil)))) (sms_nil)))) (sms_one (sm_ret (evo (ev_bl))))
abbrev s_is_full : Stmt := top 7
theorem sc_is_full : FnScope ["deeds", "units", "done", "beat", "k"] ["deeds", "units", "done", "beat"] (defScope s_is_full) := ⟨rfl, rfl, rfl, by decide +kernel, rfl, by decide +kernel, by decide +kernel⟩
def l_is_full_1 : FS := sIf (liftB (tAndF (tNotF (fT (f2 gIx (fVar 2) (fVar 4)))) (fT (f2 gNotIn (fVar 4) (fVar 3))))) (sIf (liftB (tAndF (fT (fCallV g_may_go (aCons (fVar 0) (aCons (fVar 2) (aCons (fVar 3) (aCons (fVar 4) (aNil))))))) (fT (fCallV g_fits_units (aCons (fVar 0) (aCons (fVar 1) (aCons (f2 gAdd (fVar 3) (fN gLst (aCons (fVar 4) (aNil)))) (aNil)))))))) (sRet (lift (fC (.bl false)))) (sNil)) (sNil)
def b_is_full : FS := sSeq (sFor (iR1 (aCons (fN gLen (aCons (fVar 0) (aNil))) (aNil))) (gSet 4) (l_is_full_1)) (sRet (lift (fC (.bl true))))
def g_is_full : List T → Option Re := runF 4 5 [] b_is_full
theorem ok_is_full {P : Program} {w : World} {W : Wd} {mg : Str → Option Value} {base : Heap} {f : Addr} {fd : FuncData} (F : Fun W.K "is_full" "is_full" s_is_full f fd) (B : Bi mg) (C_may_go : Cl P w W mg base CX0 3 "may_go" [] g_may_go) (C_fits_units : Cl P w W mg base CX0 2 "fits_units" [] g_fits_units) : FnOk P w W.K mg base CX0 4 f fd ["deeds", "units", "done", "beat"] (spF W [] g_is_full) :=
  fnZ F sc_is_full (by decide) (by decide) fun _ _ _ _ _ _ hr =>
  sms_cons (sm_for (fun _ => PassesOwn.never) (iw_range1 (by intro _; rfl) (fun _ => B.range_) (av_cons (ev_callB (fun j => callLen j) sn_len (by intro _; rfl) (fun _ => B.len_) (by decide +kernel) (av_cons (ev_v 0) (av_nil))) (av_nil))) (gt_n 4) (sms_one (sm_if (tvo (wvt (wv_and (tv_not (tv_val (ev_ix (ev_v 2) (ev_v 4)) (by intro _ _; rfl))) (wv_and1 (tv_c c_notIn (ev_v 4) (ev_v 3)))))) (sms_one (sm_if (tvo (wvt (wv_and (tv_val (ev_call (fun _ => C_may_go) (Nat.le_of_ble_eq_true rfl) (by intro _; rfl) (E := E0) (fun _ => pass0') (av_cons (ev_v 0) (av_cons (ev_v 2) (av_cons (ev_v 3) (av_cons (ev_v 4) (av_nil)))))) (by intro _ _; rfl)) (wv_and1 (tv_val (ev_call (fun _ => C_fits_units) (Nat.le_of_ble_eq_true rfl) (by intro _; rfl) (E := E0) (fun _ => pass0') (av_cons (ev_v 0) (av_cons (ev_v 1) (av_cons (ev_add (ev_v 3) (ev_lst (av_cons (ev_v 4) (av_nil)))) (av_nil))))) (by intro _ _; rfl)))))) (sms_one (sm_ret (evo (ev_bl)))) (sms_nil))) (sms_nil)))) (sms_one (sm_ret (evo (ev_bl))))
abbrev s_next_beats : Stmt := top 8
theorem sc_next_beats : FnScope ["deeds", "units", "done", "found", "k", "grown", "kept", "beat", "fits"] ["deeds", "units", "done"] (defScope s_next_beats) := ⟨rfl, rfl, rfl, by decide +kernel, rfl, by decide +kernel, by decide +kernel⟩
def m_next_beats_1 : List T → Option T := fVar 7
def n_next_beats_1 : List T → Option Bool := fT (fCallV g_is_full (aCons (fVar 0) (aCons (fVar 1) (aCons (fVar 2) (aCons (fVar 7) (aNil))))))
def l_next_beats_2 : FS := sSeq (sSet 8 (lift (fAnd (fCallV g_may_go (aCons (fVar 0) (aCons (fVar 2) (aCons (fVar 7) (aCons (fVar 4) (aNil)))))) (fCallV g_fits_units (aCons (fVar 0) (aCons (fVar 1) (aCons (f2 gAdd (fVar 7) (fN gLst (aCons (fVar 4) (aNil)))) (aNil)))))))) (sSeq (sIf (liftB (fT (fVar 8))) (sApp 5 (pHere) (f2 gAdd (fVar 7) (fN gLst (aCons (fVar 4) (aNil))))) (sNil)) (sIf (liftB (tOrF (tNotF (fT (fVar 8))) (fT (fIsN true (fCallV g_sort_of (aCons (f2 gIx (fVar 0) (fVar 4)) (aNil))))))) (sApp 6 (pHere) (fVar 7)) (sNil)))
def l_next_beats_1 : FS := sIf (liftB (tNotF (fT (f2 gIx (fVar 2) (fVar 4))))) (sSeq (sSet 5 (mE (mNew (aNil)))) (sSeq (sSet 6 (mE (mNew (aNil)))) (sSeq (sFor (iVal (lift (fVar 3))) (gSet 7) (l_next_beats_2)) (sFz 5 (sFz 6 (sSet 3 (lift (f2 gAdd (fVar 5) (fVar 6))))))))) (sNil)
def b_next_beats : FS := sSeq (sSet 3 (lift (fN gLst (aCons (fN gLst (aNil)) (aNil))))) (sSeq (sFor (iR1 (aCons (fN gLen (aCons (fVar 0) (aNil))) (aNil))) (gSet 4) (l_next_beats_1)) (sRet (lift (fLc [7] (jVal (fVar 3)) (gSet 7) (n_next_beats_1) (m_next_beats_1)))))
def g_next_beats : List T → Option Re := runF 3 9 [] b_next_beats
theorem ok_next_beats {P : Program} {w : World} {W : Wd} {mg : Str → Option Value} {base : Heap} {f : Addr} {fd : FuncData} (F : Fun W.K "next_beats" "next_beats" s_next_beats f fd) (B : Bi mg) (C_is_full : Cl P w W mg base CX0 4 "is_full" [] g_is_full) (C_sort_of : Cl P w W mg base CX0 1 "sort_of" [] g_sort_of) (C_may_go : Cl P w W mg base CX0 3 "may_go" [] g_may_go) (C_fits_units : Cl P w W mg base CX0 2 "fits_units" [] g_fits_units) : FnOk P w W.K mg base CX0 5 f fd ["deeds", "units", "done"] (spF W [] g_next_beats) :=
  fnZ F sc_next_beats (by decide) (by decide) fun _ _ _ _ _ _ hr =>
  sms_cons (sm_s 3 (evo (ev_lst (av_cons (ev_lst (av_nil)) (av_nil))))) (sms_cons (sm_for (fun _ => PassesOwn.never) (iw_range1 (by intro _; rfl) (fun _ => B.range_) (av_cons (ev_callB (fun j => callLen j) sn_len (by intro _; rfl) (fun _ => B.len_) (by decide +kernel) (av_cons (ev_v 0) (av_nil))) (av_nil))) (gt_n 4) (sms_one (sm_if (tvo (tv_not (tv_val (ev_ix (ev_v 2) (ev_v 4)) (by intro _ _; rfl)))) (sms_cons (sm_s 5 (emo (em_new (av_nil)))) (sms_cons (sm_s 6 (emo (em_new (av_nil)))) (sms_cons (sm_for (fun _ => PassesOwn.never) (iw_val (evo (ev_v 3))) (gt_n 7) (sms_cons (sm_s 8 (evo (ev_and (ev_call (fun _ => C_may_go) (Nat.le_of_ble_eq_true rfl) (by intro _; rfl) (E := E0) (fun _ => pass0') (av_cons (ev_v 0) (av_cons (ev_v 2) (av_cons (ev_v 7) (av_cons (ev_v 4) (av_nil)))))) (ev_one (ev_call (fun _ => C_fits_units) (Nat.le_of_ble_eq_true rfl) (by intro _; rfl) (E := E0) (fun _ => pass0') (av_cons (ev_v 0) (av_cons (ev_v 1) (av_cons (ev_add (ev_v 7) (ev_lst (av_cons (ev_v 4) (av_nil)))) (av_nil))))))))) (sms_cons (sm_if (tvo (tv_val (ev_v 8) (by intro _ _; rfl))) (sms_one (sm_app (lo_v 5) (ev_add (ev_v 7) (ev_lst (av_cons (ev_v 4) (av_nil)))))) (sms_nil)) (sms_one (sm_if (tvo (wvt (wv_or (tv_not (tv_val (ev_v 8) (by intro _ _; rfl))) (wv_or1 (tv_notN (ev_call (fun _ => C_sort_of) (Nat.le_of_ble_eq_true rfl) (by intro _; rfl) (E := E0) (fun _ => pass0') (av_cons (ev_ix (ev_v 0) (ev_v 4)) (av_nil)))))))) (sms_one (sm_app (lo_v 6) (ev_v 7))) (sms_nil)))))) (sms_fz 5 (sms_fz 6 (sms_one (sm_s 3 (evo (ev_add (ev_v 5) (ev_v 6)))))))))) (sms_nil)))) (sms_one (sm_ret (evo (ev_lc [("beat", 7)] (ip_val (ev_v 3)) (gc_n 7) (tvs_one (tv_val (ev_call (fun _ => C_is_full) (Nat.le_of_ble_eq_true rfl) (by intro _; rfl) (E := E0) (fun _ => pass0') (av_cons (ev_v 0) (av_cons (ev_v 1) (av_cons (ev_v 2) (av_cons (ev_v 7) (av_nil)))))) (by intro _ _; rfl))) (ev_v 7))))))
abbrev s_laid : Stmt := top 9
theorem sc_laid : FnScope ["deeds", "units", "level", "seen", "grown", "done", "beats", "beat", "more", "deed", "k"] ["deeds", "units"] (defScope s_laid) := ⟨rfl, rfl, rfl, by decide +kernel, rfl, by decide +kernel, by decide +kernel⟩
def m_laid_1 : List T → Option T := fOr (f2 gIx (fVar 5) (fVar 10)) (f2 gIn (fVar 10) (fVar 7))
def l_laid_3 : FS := sSeq (sSet 8 (lift (fLc [10] (jR1 (aCons (fN gLen (aCons (fVar 0) (aNil))) (aNil))) (gSet 10) (tYesF) (m_laid_1)))) (sSeq (sIf (liftB (fT (fN gAll (aCons (fVar 8) (aNil))))) (sRet (lift (f2 gAdd (fVar 6) (fN gLst (aCons (fVar 7) (aNil)))))) (sNil)) (sIf (liftB (fT (f2 gNotInZ (fN gTuple (aCons (fVar 8) (aNil))) (fVar 3)))) (sSeq (sSetX 3 (pHere) (fN gTuple (aCons (fVar 8) (aNil))) (fC (.bl true))) (sApp 4 (pHere) (fN gTup (aCons (fVar 8) (aCons (f2 gAdd (fVar 6) (fN gLst (aCons (fVar 7) (aNil)))) (aNil)))))) (sNil)))
def l_laid_2 : FS := sFor (iVal (lift (fCallV g_next_beats (aCons (fVar 0) (aCons (fVar 1) (aCons (fVar 5) (aNil))))))) (gSet 7) (l_laid_3)
def l_laid_1t : List T → Option Rb := liftB (fT (f2 gGt (fN gLen (aCons (fVar 0) (aNil))) (fC (.int 0))))
def l_laid_1 : FS := sSeq (sSet 4 (mE (mNew (aNil)))) (sSeq (sFor (iVal (lift (fVar 2))) (gTupT 2 (gsCons (gSet 5) (gsCons (gSet 6) (gsNil)))) (l_laid_2)) (sFz 4 (sSet 2 (lift (fVar 4)))))
def m_laid_2 : List T → Option T := fC (.bl false)
def b_laid : FS := sSeq (sSet 2 (lift (fN gLst (aCons (fN gTup (aCons (fLc [9] (jVal (fVar 0)) (gSet 9) (tYesF) (m_laid_2)) (aCons (fN gLst (aNil)) (aNil)))) (aNil))))) (sSeq (sSet 3 fNewX) (sSeq (sWhile (fun _ => 1000000) (l_laid_1t) (l_laid_1)) (sRet (lift (fN gLst (aNil))))))
def g_laid : List T → Option Re := runF 2 11 [] b_laid
theorem ok_laid {P : Program} {w : World} {W : Wd} {mg : Str → Option Value} {base : Heap} {f : Addr} {fd : FuncData} (F : Fun W.K "laid" "laid" s_laid f fd) (B : Bi mg) (C_next_beats : Cl P w W mg base CX0 5 "next_beats" [] g_next_beats) : FnOk P w W.K mg base CX0 6 f fd ["deeds", "units"] (spF W [] g_laid) :=
  fnZ F sc_laid (by decide) (by decide) fun _ _ _ _ _ _ hr =>
  sms_cons (sm_s 2 (evo (ev_lst (av_cons (ev_tup (av_cons (ev_lc [("deed", 9)] (ip_val (ev_v 0)) (gc_n 9) (tvs_nil) (ev_bl)) (av_cons (ev_lst (av_nil)) (av_nil)))) (av_nil))))) (sms_cons (sm_s 3 eo_newx) (sms_cons (sm_while (fun _ => 1000000) (fun _ => PassesOwn.never) (tvo (tv_c c_gt (ev_callB (fun j => callLen j) sn_len (by intro _; rfl) (fun _ => B.len_) (by decide +kernel) (av_cons (ev_v 0) (av_nil))) (ev_int))) (sms_cons (sm_s 4 (emo (em_new (av_nil)))) (sms_cons (sm_for (fun _ => PassesOwn.never) (iw_val (evo (ev_v 2))) (gt_tup (gts_cons (gt_n 5) (gts_cons (gt_n 6) (gts_nil)))) (sms_one (sm_for (fun _ => PassesOwn.never) (iw_val (evo (ev_call (fun _ => C_next_beats) (Nat.le_of_ble_eq_true rfl) (by intro _; rfl) (E := E0) (fun _ => pass0') (av_cons (ev_v 0) (av_cons (ev_v 1) (av_cons (ev_v 5) (av_nil))))))) (gt_n 7) (sms_cons ((by first | exact sm_setLc 8 [("k", 10)] (ip_range1 (by intro _; rfl) (fun _ => B.range_) (av_cons (ev_callB (fun j => callLen j) sn_len (by intro _; rfl) (fun _ => B.len_) (by decide +kernel) (av_cons (ev_v 0) (av_nil))) (av_nil))) (gc_n 10) (tvs_nil) (ev_or (ev_ix (ev_v 5) (ev_v 10)) (ev_one (ev_c c_in (ev_v 10) (ev_v 7)))) | exact sm_s 8 (evo (ev_lc [("k", 10)] (ip_range1 (by intro _; rfl) (fun _ => B.range_) (av_cons (ev_callB (fun j => callLen j) sn_len (by intro _; rfl) (fun _ => B.len_) (by decide +kernel) (av_cons (ev_v 0) (av_nil))) (av_nil))) (gc_n 10) (tvs_nil) (ev_or (ev_ix (ev_v 5) (ev_v 10)) (ev_one (ev_c c_in (ev_v 10) (ev_v 7)))))))) (sms_cons (sm_if (tvo (tv_val (ev_callB (fun j => callAll j) sn_all (by intro _; rfl) (fun _ => B.all_) (by decide +kernel) (av_cons (ev_v 8) (av_nil))) (by intro _ _; rfl))) (sms_one (sm_ret (evo (ev_add (ev_v 6) (ev_lst (av_cons (ev_v 7) (av_nil))))))) (sms_nil)) (sms_one (sm_if (tvo (tv_c c_notInZ (ev_callTy (fun j => callTuple j) sn_tuple (by intro _; rfl) (fun _ => B.tuple_) (by decide +kernel) (av_cons (ev_v 8) (av_nil))) (ev_v 3))) (sms_cons (sm_setX (lo_v 3) (ev_callTy (fun j => callTuple j) sn_tuple (by intro _; rfl) (fun _ => B.tuple_) (by decide +kernel) (av_cons (ev_v 8) (av_nil))) (ev_bl)) (sms_one (sm_app (lo_v 4) (ev_tup (av_cons (ev_v 8) (av_cons (ev_add (ev_v 6) (ev_lst (av_cons (ev_v 7) (av_nil)))) (av_nil))))))) (sms_nil)))))))) (sms_fz 4 (sms_one (sm_s 2 (evo (ev_v 4)))))))) (sms_one (sm_ret (evo (ev_lst (av_nil)))))))
abbrev s_law_whole : Stmt := top 11
theorem sc_law_whole : FnScope ["_law_found"] ["_law_found"] (defScope s_law_whole) := ⟨rfl, rfl, rfl, by decide +kernel, rfl, by decide +kernel, by decide +kernel⟩
def b_law_whole : FS := sRet (lift (fAnd (fIsi "int" (fVar 0)) (fNot (fIsi "bool" (fVar 0)))))
def g_law_whole : List T → Option Re := runF 1 1 [] b_law_whole
theorem ok_law_whole {P : Program} {w : World} {W : Wd} {mg : Str → Option Value} {base : Heap} {f : Addr} {fd : FuncData} (F : Fun W.K "_law_whole" "_law_whole" s_law_whole f fd) (B : Bi mg) : FnOk P w W.K mg base CX0 1 f fd ["_law_found"] (spF W [] g_law_whole) :=
  fnZ F sc_law_whole (by decide) (by decide) fun _ _ _ _ _ _ hr =>
  sms_one (sm_ret (evo (ev_and (ev_isi (by intro _; rfl) (fun _ => B.isinstance_) (ev_v 0) (by intro _; rfl) (fun _ => B.int_) (by decide +kernel)) (ev_one (ev_not (ev_isi (by intro _; rfl) (fun _ => B.isinstance_) (ev_v 0) (by intro _; rfl) (fun _ => B.bool_) (by decide +kernel)))))))
abbrev s_law_mixed : Stmt := top 12
theorem sc_law_mixed : FnScope ["_law_cell", "_law_k", "_law_number"] ["_law_cell", "_law_k"] (defScope s_law_mixed) := ⟨rfl, rfl, rfl, by decide +kernel, rfl, by decide +kernel, by decide +kernel⟩
def b_law_mixed : FS := sSeq (sIf (liftB (fT (f2 gGe (fVar 0) (f2 gPow (fC (.int 10)) (fC (.int 40)))))) (sRet (lift (f2 gMod (f2 gDiv (f2 gSub (fVar 0) (f2 gPow (fC (.int 10)) (fC (.int 40)))) (f2 gShl (fC (.int 1)) (f2 gMul (fC (.int 100)) (f2 gMod (fVar 1) (fC (.int 60)))))) (f2 gShl (fC (.int 1)) (fC (.int 100)))))) (sNil)) (sSeq (sSet 2 (lift (f2 gMod (f2 gMul (f2 gAdd (f2 gAdd (f2 gAdd (f2 gMul (fVar 0) (fVar 0)) (f2 gMul (fC (.int 3)) (fVar 0))) (f2 gMul (fC (.int 7919)) (fVar 1))) (fC (.int 1))) (fC (.int 48271))) (fC (.int 2147483629))))) (sRet (lift (f2 gMod (f2 gAdd (f2 gMul (fVar 2) (fVar 2)) (fC (.int 7))) (fC (.int 2147483587))))))
def g_law_mixed : List T → Option Re := runF 2 3 [] b_law_mixed
theorem ok_law_mixed {P : Program} {w : World} {W : Wd} {mg : Str → Option Value} {base : Heap} {f : Addr} {fd : FuncData} (F : Fun W.K "_law_mixed" "_law_mixed" s_law_mixed f fd) (B : Bi mg) : FnOk P w W.K mg base CX0 1 f fd ["_law_cell", "_law_k"] (spF W [] g_law_mixed) :=
  fnZ F sc_law_mixed (by decide) (by decide) fun _ _ _ _ _ _ hr =>
  sms_cons (sm_if (tvo (tv_c c_ge (ev_v 0) (ev_pow (ev_int) (ev_int)))) (sms_one (sm_ret (evo (ev_mod (ev_div (ev_sub (ev_v 0) (ev_pow (ev_int) (ev_int))) (ev_shl (ev_int) (ev_mul (ev_int) (ev_mod (ev_v 1) (ev_int))))) (ev_shl (ev_int) (ev_int)))))) (sms_nil)) (sms_cons (sm_s 2 (evo (ev_mod (ev_mul (ev_add (ev_add (ev_add (ev_mul (ev_v 0) (ev_v 0)) (ev_mul (ev_int) (ev_v 0))) (ev_mul (ev_int) (ev_v 1))) (ev_int)) (ev_int)) (ev_int)))) (sms_one (sm_ret (evo (ev_mod (ev_add (ev_mul (ev_v 2) (ev_v 2)) (ev_int)) (ev_int))))))
abbrev s_law_operand : Stmt := top 13
theorem sc_law_operand : FnScope ["_law_mixed_here", "_law_names", "_law_width"] ["_law_mixed_here", "_law_names", "_law_width"] (defScope s_law_operand) := ⟨rfl, rfl, rfl, by decide +kernel, rfl, by decide +kernel, by decide +kernel⟩
def b_law_operand : FS := sSeq (sIf (liftB (tAndF (fT (f2 gGt (f2 gMod (fVar 0) (fC (.int 3))) (fC (.int 0)))) (fT (f2 gGt (fN gLen (aCons (fVar 1) (aNil))) (fC (.int 0)))))) (sRet (lift (f2 gIx (fVar 1) (f2 gMod (f2 gDiv (fVar 0) (fC (.int 3))) (fN gLen (aCons (fVar 1) (aNil))))))) (sNil)) (sRet (lift (f2 gMod (f2 gDiv (fVar 0) (fC (.int 3))) (f2 gShl (fC (.int 1)) (fVar 2)))))
def g_law_operand : List T → Option Re := runF 3 3 [] b_law_operand
theorem ok_law_operand {P : Program} {w : World} {W : Wd} {mg : Str → Option Value} {base : Heap} {f : Addr} {fd : FuncData} (F : Fun W.K "_law_operand" "_law_operand" s_law_operand f fd) (B : Bi mg) : FnOk P w W.K mg base CX0 1 f fd ["_law_mixed_here", "_law_names", "_law_width"] (spF W [] g_law_operand) :=
  fnZ F sc_law_operand (by decide) (by decide) fun _ _ _ _ _ _ hr =>
  sms_cons (sm_if (tvo (wvt (wv_and (tv_c c_gt (ev_mod (ev_v 0) (ev_int)) (ev_int)) (wv_and1 (tv_c c_gt (ev_callB (fun j => callLen j) sn_len (by intro _; rfl) (fun _ => B.len_) (by decide +kernel) (av_cons (ev_v 1) (av_nil))) (ev_int)))))) (sms_one (sm_ret (evo (ev_ix (ev_v 1) (ev_mod (ev_div (ev_v 0) (ev_int)) (ev_callB (fun j => callLen j) sn_len (by intro _; rfl) (fun _ => B.len_) (by decide +kernel) (av_cons (ev_v 1) (av_nil)))))))) (sms_nil)) (sms_one (sm_ret (evo (ev_mod (ev_div (ev_v 0) (ev_int)) (ev_shl (ev_int) (ev_v 2))))))
abbrev s_law_deed : Stmt := top 14
theorem sc_law_deed : FnScope ["_law_mixed_here", "_law_names", "_law_width", "_law_one", "_law_name", "_law_op"] ["_law_mixed_here", "_law_names", "_law_width"] (defScope s_law_deed) := ⟨rfl, rfl, rfl, by decide +kernel, rfl, by decide +kernel, by decide +kernel⟩
def b_law_deed : FS := sSeq (sSet 3 (lift (fCallV g_law_operand (aCons (f2 gDiv (fVar 0) (fC (.int 16))) (aCons (fVar 1) (aCons (fVar 2) (aNil))))))) (sSeq (sIf (liftB (tOrF (fT (f2 gEq (f2 gMod (fVar 0) (fC (.int 9))) (fC (.int 0)))) (fT (f2 gEq (fN gLen (aCons (fVar 1) (aNil))) (fC (.int 0)))))) (sRet (lift (fN gTup (aCons (fC (.str "tell")) (aCons (fVar 3) (aNil)))))) (sNil)) (sSeq (sSet 4 (lift (f2 gIx (fVar 1) (f2 gMod (f2 gDiv (fVar 0) (fC (.int 7))) (fN gLen (aCons (fVar 1) (aNil))))))) (sSeq (sIf (liftB (fT (f2 gEq (f2 gMod (fVar 0) (fC (.int 9))) (fC (.int 1))))) (sRet (lift (fN gTup (aCons (fC (.str "copy")) (aCons (fVar 4) (aCons (fVar 3) (aNil))))))) (sNil)) (sSeq (sSet 5 (lift (f2 gIx (fN gLst (aCons (fC (.str "plus")) (aCons (fC (.str "less")) (aCons (fC (.str "and")) (aCons (fC (.str "or")) (aCons (fC (.str "xor")) (aCons (fC (.str "below")) (aCons (fC (.str "same")) (aNil))))))))) (f2 gSub (f2 gMod (fVar 0) (fC (.int 9))) (fC (.int 2)))))) (sRet (lift (fN gTup (aCons (fVar 5) (aCons (fVar 4) (aCons (fVar 3) (aCons (fCallV g_law_operand (aCons (f2 gDiv (fVar 0) (fC (.int 1009))) (aCons (fVar 1) (aCons (fVar 2) (aNil))))) (aNil))))))))))))
def g_law_deed : List T → Option Re := runF 3 6 [] b_law_deed
theorem ok_law_deed {P : Program} {w : World} {W : Wd} {mg : Str → Option Value} {base : Heap} {f : Addr} {fd : FuncData} (F : Fun W.K "_law_deed" "_law_deed" s_law_deed f fd) (B : Bi mg) (C_law_operand : Cl P w W mg base CX0 1 "_law_operand" [] g_law_operand) : FnOk P w W.K mg base CX0 2 f fd ["_law_mixed_here", "_law_names", "_law_width"] (spF W [] g_law_deed) :=
  fnZ F sc_law_deed (by decide) (by decide) fun _ _ _ _ _ _ hr =>
  sms_cons (sm_s 3 (evo (ev_call (fun _ => C_law_operand) (Nat.le_of_ble_eq_true rfl) (by intro _; rfl) (E := E0) (fun _ => pass0') (av_cons (ev_div (ev_v 0) (ev_int)) (av_cons (ev_v 1) (av_cons (ev_v 2) (av_nil))))))) (sms_cons (sm_if (tvo (wvt (wv_or (tv_c c_eq (ev_mod (ev_v 0) (ev_int)) (ev_int)) (wv_or1 (tv_c c_eq (ev_callB (fun j => callLen j) sn_len (by intro _; rfl) (fun _ => B.len_) (by decide +kernel) (av_cons (ev_v 1) (av_nil))) (ev_int)))))) (sms_one (sm_ret (evo (ev_tup (av_cons (ev_str) (av_cons (ev_v 3) (av_nil))))))) (sms_nil)) (sms_cons (sm_s 4 (evo (ev_ix (ev_v 1) (ev_mod (ev_div (ev_v 0) (ev_int)) (ev_callB (fun j => callLen j) sn_len (by intro _; rfl) (fun _ => B.len_) (by decide +kernel) (av_cons (ev_v 1) (av_nil))))))) (sms_cons (sm_if (tvo (tv_c c_eq (ev_mod (ev_v 0) (ev_int)) (ev_int))) (sms_one (sm_ret (evo (ev_tup (av_cons (ev_str) (av_cons (ev_v 4) (av_cons (ev_v 3) (av_nil)))))))) (sms_nil)) (sms_cons (sm_s 5 (evo (ev_ix (ev_lst (av_cons (ev_str) (av_cons (ev_str) (av_cons (ev_str) (av_cons (ev_str) (av_cons (ev_str) (av_cons (ev_str) (av_cons (ev_str) (av_nil))))))))) (ev_sub (ev_mod (ev_v 0) (ev_int)) (ev_int))))) (sms_one (sm_ret (evo (ev_tup (av_cons (ev_v 5) (av_cons (ev_v 4) (av_cons (ev_v 3) (av_cons (ev_call (fun _ => C_law_operand) (Nat.le_of_ble_eq_true rfl) (by intro _; rfl) (E := E0) (fun _ => pass0') (av_cons (ev_div (ev_v 0) (ev_int)) (av_cons (ev_v 1) (av_cons (ev_v 2) (av_nil))))) (av_nil)))))))))))))
abbrev s_law_reads : Stmt := top 15
theorem sc_law_reads : FnScope ["_law_deed_here", "_law_operands", "_law_one"] ["_law_deed_here"] (defScope s_law_reads) := ⟨rfl, rfl, rfl, by decide +kernel, rfl, by decide +kernel, by decide +kernel⟩
def m_law_reads_1 : List T → Option T := fVar 2
def n_law_reads_1 : List T → Option Bool := fT (fIsi "str" (fVar 2))
def b_law_reads : FS := sSeq (sSet 1 (lift (fSl (fVar 0) (some (fC (.int 2))) none))) (sSeq (sIf (liftB (fT (f2 gEq (f2 gIx (fVar 0) (fC (.int 0))) (fC (.str "tell"))))) (sSet 1 (lift (fSl (fVar 0) (some (fC (.int 1))) none))) (sNil)) (sRet (lift (fLc [2] (jVal (fVar 1)) (gSet 2) (n_law_reads_1) (m_law_reads_1)))))
def g_law_reads : List T → Option Re := runF 1 3 [] b_law_reads
theorem ok_law_reads {P : Program} {w : World} {W : Wd} {mg : Str → Option Value} {base : Heap} {f : Addr} {fd : FuncData} (F : Fun W.K "_law_reads" "_law_reads" s_law_reads f fd) (B : Bi mg) : FnOk P w W.K mg base CX0 1 f fd ["_law_deed_here"] (spF W [] g_law_reads) :=
  fnZ F sc_law_reads (by decide) (by decide) fun _ _ _ _ _ _ hr =>
  sms_cons (sm_s 1 (evo (ev_sl10 (ev_v 0) (ev_int)))) (sms_cons (sm_if (tvo (tv_c c_eq (ev_ix (ev_v 0) (ev_int)) (ev_str))) (sms_one (sm_s 1 (evo (ev_sl10 (ev_v 0) (ev_int))))) (sms_nil)) (sms_one (sm_ret (evo (ev_lc [("_law_one", 2)] (ip_val (ev_v 1)) (gc_n 2) (tvs_one (tv_val (ev_isi (by intro _; rfl) (fun _ => B.isinstance_) (ev_v 2) (by intro _; rfl) (fun _ => B.str_) (by decide +kernel)) (by intro _ _; rfl))) (ev_v 2))))))
abbrev s_law_gap : Stmt := top 16
theorem sc_law_gap : FnScope ["_law_one", "_law_other"] ["_law_one", "_law_other"] (defScope s_law_gap) := ⟨rfl, rfl, rfl, by decide +kernel, rfl, by decide +kernel, by decide +kernel⟩
def b_law_gap : FS := sSeq (sIf (liftB (fT (f2 gEq (f2 gIx (fVar 0) (fC (.int 0))) (fC (.str "tell"))))) (sIf (liftB (fT (f2 gEq (f2 gIx (fVar 1) (fC (.int 0))) (fC (.str "tell"))))) (sRet (lift (fC (.int 1)))) (sNil)) (sIf (liftB (fT (f2 gIn (f2 gIx (fVar 0) (fC (.int 1))) (fCallV g_law_reads (aCons (fVar 1) (aNil)))))) (sRet (lift (fC (.int 1)))) (sNil))) (sSeq (sIf (liftB (fT (f2 gEq (f2 gIx (fVar 1) (fC (.int 0))) (fC (.str "tell"))))) (sRet (lift (fC .non))) (sNil)) (sSeq (sIf (liftB (tAndF (fT (f2 gNe (f2 gIx (fVar 0) (fC (.int 0))) (fC (.str "tell")))) (fT (f2 gEq (f2 gIx (fVar 0) (fC (.int 1))) (f2 gIx (fVar 1) (fC (.int 1))))))) (sRet (lift (fC (.int 1)))) (sNil)) (sSeq (sIf (liftB (fT (f2 gIn (f2 gIx (fVar 1) (fC (.int 1))) (fCallV g_law_reads (aCons (fVar 0) (aNil)))))) (sRet (lift (fC (.int 0)))) (sNil)) (sRet (lift (fC .non))))))
def g_law_gap : List T → Option Re := runF 2 2 [] b_law_gap
theorem ok_law_gap {P : Program} {w : World} {W : Wd} {mg : Str → Option Value} {base : Heap} {f : Addr} {fd : FuncData} (F : Fun W.K "_law_gap" "_law_gap" s_law_gap f fd) (B : Bi mg) (C_law_reads : Cl P w W mg base CX0 1 "_law_reads" [] g_law_reads) : FnOk P w W.K mg base CX0 2 f fd ["_law_one", "_law_other"] (spF W [] g_law_gap) :=
  fnZ F sc_law_gap (by decide) (by decide) fun _ _ _ _ _ _ hr =>
  sms_cons (sm_if (tvo (tv_c c_eq (ev_ix (ev_v 0) (ev_int)) (ev_str))) (sms_one (sm_if (tvo (tv_c c_eq (ev_ix (ev_v 1) (ev_int)) (ev_str))) (sms_one (sm_ret (evo (ev_int)))) (sms_nil))) (sms_one (sm_if (tvo (tv_c c_in (ev_ix (ev_v 0) (ev_int)) (ev_call (fun _ => C_law_reads) (Nat.le_of_ble_eq_true rfl) (by intro _; rfl) (E := E0) (fun _ => pass0') (av_cons (ev_v 1) (av_nil))))) (sms_one (sm_ret (evo (ev_int)))) (sms_nil)))) (sms_cons (sm_if (tvo (tv_c c_eq (ev_ix (ev_v 1) (ev_int)) (ev_str))) (sms_one (sm_ret (evo (ev_non)))) (sms_nil)) (sms_cons (sm_if (tvo (wvt (wv_and (tv_c c_ne (ev_ix (ev_v 0) (ev_int)) (ev_str)) (wv_and1 (tv_c c_eq (ev_ix (ev_v 0) (ev_int)) (ev_ix (ev_v 1) (ev_int))))))) (sms_one (sm_ret (evo (ev_int)))) (sms_nil)) (sms_cons (sm_if (tvo (tv_c c_in (ev_ix (ev_v 1) (ev_int)) (ev_call (fun _ => C_law_reads) (Nat.le_of_ble_eq_true rfl) (by intro _; rfl) (E := E0) (fun _ => pass0') (av_cons (ev_v 0) (av_nil))))) (sms_one (sm_ret (evo (ev_int)))) (sms_nil)) (sms_one (sm_ret (evo (ev_non)))))))
abbrev s_law_deeds : Stmt := top 17
theorem sc_law_deeds : FnScope ["_law_cells", "_law_most", "_law_boxes", "_law_deeds_here", "_law_k", "_law_cell"] ["_law_cells", "_law_most", "_law_boxes"] (defScope s_law_deeds) := ⟨rfl, rfl, rfl, by decide +kernel, rfl, by decide +kernel, by decide +kernel⟩
def l_law_deeds_1 : FS := sApp 3 (pHere) (fCallV g_law_deed (aCons (fCallV g_law_mixed (aCons (fVar 5) (aCons (fVar 4) (aNil)))) (aCons (fSl (fN gLst (aCons (fC (.str "a")) (aCons (fC (.str "bb")) (aCons (fC (.str "bc")) (aCons (fC (.str "dddddd")) (aCons (fC (.str "x")) (aCons (fC (.str "y")) (aNil)))))))) none (some (fVar 2))) (aCons (fC (.int 4)) (aNil)))))
def b_law_deeds : FS := sSeq (sSet 3 (mE (mNew (aNil)))) (sSeq (sFor (iL1 (enumD 0) (aCons (fSl (fVar 0) none (some (fVar 1))) (aNil))) (gTupT 2 (gsCons (gSet 4) (gsCons (gSet 5) (gsNil)))) (l_law_deeds_1)) (sRet (fFz (fMv 3))))
def g_law_deeds : List T → Option Re := runF 3 6 [] b_law_deeds
theorem ok_law_deeds {P : Program} {w : World} {W : Wd} {mg : Str → Option Value} {base : Heap} {f : Addr} {fd : FuncData} (F : Fun W.K "_law_deeds" "_law_deeds" s_law_deeds f fd) (B : Bi mg) (C_law_mixed : Cl P w W mg base CX0 1 "_law_mixed" [] g_law_mixed) (C_law_deed : Cl P w W mg base CX0 2 "_law_deed" [] g_law_deed) : FnOk P w W.K mg base CX0 3 f fd ["_law_cells", "_law_most", "_law_boxes"] (spF W [] g_law_deeds) :=
  fnZ F sc_law_deeds (by decide) (by decide) fun _ _ _ _ _ _ hr =>
  sms_cons (sm_s 3 (emo (em_new (av_nil)))) (sms_cons (sm_for (fun _ => PassesOwn.never) (iw_enum (by intro _; rfl) (fun _ => B.enumerate_) (av_cons (ev_sl01 (ev_v 0) (ev_v 1)) (av_nil))) (gt_tup (gts_cons (gt_n 4) (gts_cons (gt_n 5) (gts_nil)))) (sms_one (sm_app (lo_v 3) (ev_call (fun _ => C_law_deed) (Nat.le_of_ble_eq_true rfl) (by intro _; rfl) (E := E0) (fun _ => pass0') (av_cons (ev_call (fun _ => C_law_mixed) (Nat.le_of_ble_eq_true rfl) (by intro _; rfl) (E := E0) (fun _ => pass0') (av_cons (ev_v 5) (av_cons (ev_v 4) (av_nil)))) (av_cons (ev_sl01 (ev_lst (av_cons (ev_str) (av_cons (ev_str) (av_cons (ev_str) (av_cons (ev_str) (av_cons (ev_str) (av_cons (ev_str) (av_nil)))))))) (ev_v 2)) (av_cons (ev_int) (av_nil)))))))) (sms_one (sm_ret (eo_fz (eo_m 3)))))
abbrev s_law_sort : Stmt := top 18
theorem sc_law_sort : FnScope ["_law_deed_here"] ["_law_deed_here"] (defScope s_law_sort) := ⟨rfl, rfl, rfl, by decide +kernel, rfl, by decide +kernel, by decide +kernel⟩
def b_law_sort : FS := sSeq (sIf (liftB (fT (f2 gIn (f2 gIx (fVar 0) (fC (.int 0))) (fN gTup (aCons (fC (.str "plus")) (aCons (fC (.str "less")) (aNil))))))) (sRet (lift (fC (.int 0)))) (sNil)) (sSeq (sIf (liftB (fT (f2 gIn (f2 gIx (fVar 0) (fC (.int 0))) (fN gTup (aCons (fC (.str "below")) (aCons (fC (.str "same")) (aNil))))))) (sRet (lift (fC (.int 1)))) (sNil)) (sSeq (sIf (liftB (fT (f2 gIn (f2 gIx (fVar 0) (fC (.int 0))) (fN gTup (aCons (fC (.str "and")) (aCons (fC (.str "or")) (aCons (fC (.str "xor")) (aNil)))))))) (sRet (lift (fC (.int 2)))) (sNil)) (sRet (lift (fC (.int 3))))))
def g_law_sort : List T → Option Re := runF 1 1 [] b_law_sort
theorem ok_law_sort {P : Program} {w : World} {W : Wd} {mg : Str → Option Value} {base : Heap} {f : Addr} {fd : FuncData} (F : Fun W.K "_law_sort" "_law_sort" s_law_sort f fd) (B : Bi mg) : FnOk P w W.K mg base CX0 1 f fd ["_law_deed_here"] (spF W [] g_law_sort) :=
  fnZ F sc_law_sort (by decide) (by decide) fun _ _ _ _ _ _ hr =>
  sms_cons (sm_if (tvo (tv_c c_in (ev_ix (ev_v 0) (ev_int)) (ev_tup (av_cons (ev_str) (av_cons (ev_str) (av_nil)))))) (sms_one (sm_ret (evo (ev_int)))) (sms_nil)) (sms_cons (sm_if (tvo (tv_c c_in (ev_ix (ev_v 0) (ev_int)) (ev_tup (av_cons (ev_str) (av_cons (ev_str) (av_nil)))))) (sms_one (sm_ret (evo (ev_int)))) (sms_nil)) (sms_cons (sm_if (tvo (tv_c c_in (ev_ix (ev_v 0) (ev_int)) (ev_tup (av_cons (ev_str) (av_cons (ev_str) (av_cons (ev_str) (av_nil))))))) (sms_one (sm_ret (evo (ev_int)))) (sms_nil)) (sms_one (sm_ret (evo (ev_int))))))
abbrev s_law_load : Stmt := top 19
theorem sc_law_load : FnScope ["_law_deeds_here", "_law_beat", "_law_units", "_law_many", "_law_k"] ["_law_deeds_here", "_law_beat", "_law_units"] (defScope s_law_load) := ⟨rfl, rfl, rfl, by decide +kernel, rfl, by decide +kernel, by decide +kernel⟩
def l_law_load_1 : FS := sSetIx 3 (pHere) (fCallV g_law_sort (aCons (f2 gIx (fVar 0) (fVar 4)) (aNil))) (f2 gAdd (f2 gIx (fVar 3) (fCallV g_law_sort (aCons (f2 gIx (fVar 0) (fVar 4)) (aNil)))) (fC (.int 1)))
def b_law_load : FS := sSeq (sSet 3 (mE (mNew (aCons (fC (.int 0)) (aCons (fC (.int 0)) (aCons (fC (.int 0)) (aCons (fC (.int 0)) (aNil)))))))) (sSeq (sFor (iVal (lift (fVar 1))) (gSet 4) (l_law_load_1)) (sFz 3 (sRet (lift (fAnd (f2 gLe (f2 gIx (fVar 3) (fC (.int 0))) (f2 gIx (fVar 2) (fC (.int 0)))) (fAnd (f2 gLe (f2 gIx (fVar 3) (fC (.int 1))) (f2 gIx (fVar 2) (fC (.int 1)))) (f2 gLe (f2 gIx (fVar 3) (fC (.int 2))) (f2 gIx (fVar 2) (fC (.int 2))))))))))
def g_law_load : List T → Option Re := runF 3 5 [] b_law_load
theorem ok_law_load {P : Program} {w : World} {W : Wd} {mg : Str → Option Value} {base : Heap} {f : Addr} {fd : FuncData} (F : Fun W.K "_law_load" "_law_load" s_law_load f fd) (B : Bi mg) (C_law_sort : Cl P w W mg base CX0 1 "_law_sort" [] g_law_sort) : FnOk P w W.K mg base CX0 2 f fd ["_law_deeds_here", "_law_beat", "_law_units"] (spF W [] g_law_load) :=
  fnZ F sc_law_load (by decide) (by decide) fun _ _ _ _ _ _ hr =>
  sms_cons (sm_s 3 (emo (em_new (av_cons (ev_int) (av_cons (ev_int) (av_cons (ev_int) (av_cons (ev_int) (av_nil)))))))) (sms_cons (sm_for (fun _ => PassesOwn.never) (iw_val (evo (ev_v 1))) (gt_n 4) (sms_one (sm_setIx (lo_v 3) (ev_call (fun _ => C_law_sort) (Nat.le_of_ble_eq_true rfl) (by intro _; rfl) (E := E0) (fun _ => pass0') (av_cons (ev_ix (ev_v 0) (ev_v 4)) (av_nil))) (ev_add (ev_ix (ev_v 3) (ev_call (fun _ => C_law_sort) (Nat.le_of_ble_eq_true rfl) (by intro _; rfl) (E := E0) (fun _ => pass0') (av_cons (ev_ix (ev_v 0) (ev_v 4)) (av_nil)))) (ev_int))))) (sms_fz 3 (sms_one (sm_ret (evo (ev_and (ev_c c_le (ev_ix (ev_v 3) (ev_int)) (ev_ix (ev_v 2) (ev_int))) (ev_and (ev_c c_le (ev_ix (ev_v 3) (ev_int)) (ev_ix (ev_v 2) (ev_int))) (ev_one (ev_c c_le (ev_ix (ev_v 3) (ev_int)) (ev_ix (ev_v 2) (ev_int)))))))))))
abbrev s_law_kept : Stmt := top 20
theorem sc_law_kept : FnScope ["_law_deeds_here", "_law_units", "_law_beats", "_law_at", "_law_place", "_law_beat", "_law_last", "_law_k", "_law_j", "_law_far"] ["_law_deeds_here", "_law_units", "_law_beats"] (defScope s_law_kept) := ⟨rfl, rfl, rfl, by decide +kernel, rfl, by decide +kernel, by decide +kernel⟩
def l_law_kept_2 : FS := sSeq (sSet 9 (lift (fCallV g_law_gap (aCons (f2 gIx (fVar 0) (fVar 8)) (aCons (f2 gIx (fVar 0) (fVar 7)) (aNil)))))) (sIf (liftB (tAndF (fT (fIsN true (fVar 9))) (fT (f2 gLt (f2 gSub (f2 gIx (fVar 3) (fVar 7)) (f2 gIx (fVar 3) (fVar 8))) (fVar 9))))) (sRet (lift (fC (.bl false)))) (sNil))
def l_law_kept_1 : FS := sFor (iR1 (aCons (fVar 7) (aNil))) (gSet 8) (l_law_kept_2)
def l_law_kept_4 : FS := sSeq (sIf (liftB (tOrF (tNotF (fT (fCallV g_law_whole (aCons (fVar 7) (aNil))))) (tOrF (fT (f2 gLe (fVar 7) (fVar 6))) (tOrF (fT (f2 gGe (fVar 7) (fN gLen (aCons (fVar 0) (aNil))))) (fT (f2 gIn (fVar 7) (fVar 3))))))) (sRet (lift (fC (.bl false)))) (sNil)) (sSeq (sSetIx 3 (pHere) (fVar 7) (fVar 4)) (sSet 6 (lift (fVar 7))))
def l_law_kept_3 : FS := sSeq (sIf (liftB (tOrF (tNotF (fT (fIsi "list" (fVar 5)))) (fT (f2 gEq (fN gLen (aCons (fVar 5) (aNil))) (fC (.int 0)))))) (sRet (lift (fC (.bl false)))) (sNil)) (sSeq (sSet 6 (lift (f1 gNeg (fC (.int 1))))) (sSeq (sFor (iVal (lift (fVar 5))) (gSet 7) (l_law_kept_4)) (sIf (liftB (tNotF (fT (fCallV g_law_load (aCons (fVar 0) (aCons (fVar 5) (aCons (fVar 1) (aNil)))))))) (sRet (lift (fC (.bl false)))) (sNil))))
def b_law_kept : FS := sSeq (sSet 3 (mE (mNewD))) (sSeq (sFor (iL1 (enumD 0) (aCons (fVar 2) (aNil))) (gTupT 2 (gsCons (gSet 4) (gsCons (gSet 5) (gsNil)))) (l_law_kept_3)) (sFz 3 (sSeq (sIf (liftB (fT (f2 gNe (fN gLen (aCons (fVar 3) (aNil))) (fN gLen (aCons (fVar 0) (aNil)))))) (sRet (lift (fC (.bl false)))) (sNil)) (sSeq (sFor (iR1 (aCons (fN gLen (aCons (fVar 0) (aNil))) (aNil))) (gSet 7) (l_law_kept_1)) (sRet (lift (fC (.bl true))))))))
def g_law_kept : List T → Option Re := runF 3 10 [] b_law_kept
theorem ok_law_kept {P : Program} {w : World} {W : Wd} {mg : Str → Option Value} {base : Heap} {f : Addr} {fd : FuncData} (F : Fun W.K "_law_kept" "_law_kept" s_law_kept f fd) (B : Bi mg) (C_law_gap : Cl P w W mg base CX0 2 "_law_gap" [] g_law_gap) (C_law_load : Cl P w W mg base CX0 2 "_law_load" [] g_law_load) (C_law_whole : Cl P w W mg base CX0 1 "_law_whole" [] g_law_whole) : FnOk P w W.K mg base CX0 3 f fd ["_law_deeds_here", "_law_units", "_law_beats"] (spF W [] g_law_kept) :=
  fnZ F sc_law_kept (by decide) (by decide) fun _ _ _ _ _ _ hr =>
  sms_cons (sm_s 3 (emo (em_newd))) (sms_cons (sm_for (fun _ => PassesOwn.never) (iw_enum (by intro _; rfl) (fun _ => B.enumerate_) (av_cons (ev_v 2) (av_nil))) (gt_tup (gts_cons (gt_n 4) (gts_cons (gt_n 5) (gts_nil)))) (sms_cons (sm_if (tvo (wvt (wv_or (tv_not (tv_val (ev_isi (by intro _; rfl) (fun _ => B.isinstance_) (ev_v 5) (by intro _; rfl) (fun _ => B.list_) (by decide +kernel)) (by intro _ _; rfl))) (wv_or1 (tv_c c_eq (ev_callB (fun j => callLen j) sn_len (by intro _; rfl) (fun _ => B.len_) (by decide +kernel) (av_cons (ev_v 5) (av_nil))) (ev_int)))))) (sms_one (sm_ret (evo (ev_bl)))) (sms_nil)) (sms_cons (sm_s 6 (evo (ev_neg (ev_int)))) (sms_cons (sm_for (fun _ => PassesOwn.never) (iw_val (evo (ev_v 5))) (gt_n 7) (sms_cons (sm_if (tvo (wvt (wv_or (tv_not (tv_val (ev_call (fun _ => C_law_whole) (Nat.le_of_ble_eq_true rfl) (by intro _; rfl) (E := E0) (fun _ => pass0') (av_cons (ev_v 7) (av_nil))) (by intro _ _; rfl))) (wv_or (tv_c c_le (ev_v 7) (ev_v 6)) (wv_or (tv_c c_ge (ev_v 7) (ev_callB (fun j => callLen j) sn_len (by intro _; rfl) (fun _ => B.len_) (by decide +kernel) (av_cons (ev_v 0) (av_nil)))) (wv_or1 (tv_c c_in (ev_v 7) (ev_v 3)))))))) (sms_one (sm_ret (evo (ev_bl)))) (sms_nil)) (sms_cons (sm_setIx (lo_v 3) (ev_v 7) (ev_v 4)) (sms_one (sm_s 6 (evo (ev_v 7))))))) (sms_one (sm_if (tvo (tv_not (tv_val (ev_call (fun _ => C_law_load) (Nat.le_of_ble_eq_true rfl) (by intro _; rfl) (E := E0) (fun _ => pass0') (av_cons (ev_v 0) (av_cons (ev_v 5) (av_cons (ev_v 1) (av_nil))))) (by intro _ _; rfl)))) (sms_one (sm_ret (evo (ev_bl)))) (sms_nil))))))) (sms_fz 3 (sms_cons (sm_if (tvo (tv_c c_ne (ev_callB (fun j => callLen j) sn_len (by intro _; rfl) (fun _ => B.len_) (by decide +kernel) (av_cons (ev_v 3) (av_nil))) (ev_callB (fun j => callLen j) sn_len (by intro _; rfl) (fun _ => B.len_) (by decide +kernel) (av_cons (ev_v 0) (av_nil))))) (sms_one (sm_ret (evo (ev_bl)))) (sms_nil)) (sms_cons (sm_for (fun _ => PassesOwn.never) (iw_range1 (by intro _; rfl) (fun _ => B.range_) (av_cons (ev_callB (fun j => callLen j) sn_len (by intro _; rfl) (fun _ => B.len_) (by decide +kernel) (av_cons (ev_v 0) (av_nil))) (av_nil))) (gt_n 7) (sms_one (sm_for (fun _ => PassesOwn.never) (iw_range1 (by intro _; rfl) (fun _ => B.range_) (av_cons (ev_v 7) (av_nil))) (gt_n 8) (sms_cons (sm_s 9 (evo (ev_call (fun _ => C_law_gap) (Nat.le_of_ble_eq_true rfl) (by intro _; rfl) (E := E0) (fun _ => pass0') (av_cons (ev_ix (ev_v 0) (ev_v 8)) (av_cons (ev_ix (ev_v 0) (ev_v 7)) (av_nil)))))) (sms_one (sm_if (tvo (wvt (wv_and (tv_notN (ev_v 9)) (wv_and1 (tv_c c_lt (ev_sub (ev_ix (ev_v 3) (ev_v 7)) (ev_ix (ev_v 3) (ev_v 8))) (ev_v 9)))))) (sms_one (sm_ret (evo (ev_bl)))) (sms_nil))))))) (sms_one (sm_ret (evo (ev_bl))))))))
abbrev s_law_more : Stmt := top 21
theorem sc_law_more : FnScope ["_law_deeds_here", "_law_units", "_law_leans_here", "_law_done", "_law_found", "_law_k", "_law_grown", "_law_beat", "_law_inside", "_law_free", "_law_j", "_law_far"] ["_law_deeds_here", "_law_units", "_law_leans_here", "_law_done"] (defScope s_law_more) := ⟨rfl, rfl, rfl, by decide +kernel, rfl, by decide +kernel, by decide +kernel⟩
def l_law_more_3 : FS := sIf (liftB (tAndF (fT (f2 gEq (f2 gBAnd (f2 gShr (fVar 3) (fVar 10)) (fC (.int 1))) (fC (.int 0)))) (tOrF (fT (f2 gEq (fVar 11) (fC (.int 1)))) (fT (f2 gNotIn (fVar 10) (fVar 8)))))) (sSet 9 (lift (fC (.bl false)))) (sNil)
def m_law_more_1 : List T → Option T := fVar 10
def n_law_more_1 : List T → Option Bool := fT (f2 gEq (f2 gBAnd (f2 gShr (fVar 7) (fVar 10)) (fC (.int 1))) (fC (.int 1)))
def l_law_more_2 : FS := sSeq (sSet 8 (lift (fLc [10] (jR1 (aCons (fVar 5) (aNil))) (gSet 10) (n_law_more_1) (m_law_more_1)))) (sSeq (sSet 9 (lift (fC (.bl true)))) (sSeq (sFor (iVal (lift (f2 gIx (fVar 2) (fVar 5)))) (gTupT 2 (gsCons (gSet 10) (gsCons (gSet 11) (gsNil)))) (l_law_more_3)) (sIf (liftB (tAndF (fT (fVar 9)) (fT (fCallV g_law_load (aCons (fVar 0) (aCons (f2 gAdd (fVar 8) (fN gLst (aCons (fVar 5) (aNil)))) (aCons (fVar 1) (aNil)))))))) (sApp 6 (pHere) (f2 gBOr (fVar 7) (f2 gShl (fC (.int 1)) (fVar 5)))) (sNil))))
def l_law_more_1 : FS := sIf (liftB (fT (f2 gEq (f2 gBAnd (f2 gShr (fVar 3) (fVar 5)) (fC (.int 1))) (fC (.int 0))))) (sSeq (sSet 6 (mE (mNew (aNil)))) (sSeq (sFor (iVal (lift (fVar 4))) (gSet 7) (l_law_more_2)) (sFz 6 (sSet 4 (lift (f2 gAdd (fVar 4) (fVar 6))))))) (sNil)
def b_law_more : FS := sSeq (sSet 4 (lift (fN gLst (aCons (fC (.int 0)) (aNil))))) (sSeq (sFor (iR1 (aCons (fN gLen (aCons (fVar 0) (aNil))) (aNil))) (gSet 5) (l_law_more_1)) (sRet (lift (fVar 4))))
def g_law_more : List T → Option Re := runF 4 12 [] b_law_more
theorem ok_law_more {P : Program} {w : World} {W : Wd} {mg : Str → Option Value} {base : Heap} {f : Addr} {fd : FuncData} (F : Fun W.K "_law_more" "_law_more" s_law_more f fd) (B : Bi mg) (C_law_load : Cl P w W mg base CX0 2 "_law_load" [] g_law_load) : FnOk P w W.K mg base CX0 3 f fd ["_law_deeds_here", "_law_units", "_law_leans_here", "_law_done"] (spF W [] g_law_more) :=
  fnZ F sc_law_more (by decide) (by decide) fun _ _ _ _ _ _ hr =>
  sms_cons (sm_s 4 (evo (ev_lst (av_cons (ev_int) (av_nil))))) (sms_cons (sm_for (fun _ => PassesOwn.never) (iw_range1 (by intro _; rfl) (fun _ => B.range_) (av_cons (ev_callB (fun j => callLen j) sn_len (by intro _; rfl) (fun _ => B.len_) (by decide +kernel) (av_cons (ev_v 0) (av_nil))) (av_nil))) (gt_n 5) (sms_one (sm_if (tvo (tv_c c_eq (ev_band (ev_shr (ev_v 3) (ev_v 5)) (ev_int)) (ev_int))) (sms_cons (sm_s 6 (emo (em_new (av_nil)))) (sms_cons (sm_for (fun _ => PassesOwn.never) (iw_val (evo (ev_v 4))) (gt_n 7) (sms_cons ((by first | exact sm_setLc 8 [("_law_j", 10)] (ip_range1 (by intro _; rfl) (fun _ => B.range_) (av_cons (ev_v 5) (av_nil))) (gc_n 10) (tvs_one (tv_c c_eq (ev_band (ev_shr (ev_v 7) (ev_v 10)) (ev_int)) (ev_int))) (ev_v 10) | exact sm_s 8 (evo (ev_lc [("_law_j", 10)] (ip_range1 (by intro _; rfl) (fun _ => B.range_) (av_cons (ev_v 5) (av_nil))) (gc_n 10) (tvs_one (tv_c c_eq (ev_band (ev_shr (ev_v 7) (ev_v 10)) (ev_int)) (ev_int))) (ev_v 10))))) (sms_cons (sm_s 9 (evo (ev_bl))) (sms_cons (sm_for (fun _ => PassesOwn.never) (iw_val (evo (ev_ix (ev_v 2) (ev_v 5)))) (gt_tup (gts_cons (gt_n 10) (gts_cons (gt_n 11) (gts_nil)))) (sms_one (sm_if (tvo (wvt (wv_and (tv_c c_eq (ev_band (ev_shr (ev_v 3) (ev_v 10)) (ev_int)) (ev_int)) (wv_and1 (wvt (wv_or (tv_c c_eq (ev_v 11) (ev_int)) (wv_or1 (tv_c c_notIn (ev_v 10) (ev_v 8))))))))) (sms_one (sm_s 9 (evo (ev_bl)))) (sms_nil)))) (sms_one (sm_if (tvo (wvt (wv_and (tv_val (ev_v 9) (by intro _ _; rfl)) (wv_and1 (tv_val (ev_call (fun _ => C_law_load) (Nat.le_of_ble_eq_true rfl) (by intro _; rfl) (E := E0) (fun _ => pass0') (av_cons (ev_v 0) (av_cons (ev_add (ev_v 8) (ev_lst (av_cons (ev_v 5) (av_nil)))) (av_cons (ev_v 1) (av_nil))))) (by intro _ _; rfl)))))) (sms_one (sm_app (lo_v 6) (ev_bor (ev_v 7) (ev_shl (ev_int) (ev_v 5))))) (sms_nil))))))) (sms_fz 6 (sms_one (sm_s 4 (evo (ev_add (ev_v 4) (ev_v 6)))))))) (sms_nil)))) (sms_one (sm_ret (evo (ev_v 4)))))
abbrev s_law_leans : Stmt := top 22
theorem sc_law_leans : FnScope ["_law_deeds_here", "_law_found", "_law_k", "_law_some", "_law_j", "_law_far"] ["_law_deeds_here"] (defScope s_law_leans) := ⟨rfl, rfl, rfl, by decide +kernel, rfl, by decide +kernel, by decide +kernel⟩
def m_law_leans_1 : List T → Option T := fN gTup (aCons (fVar 4) (aCons (fVar 5) (aNil)))
def n_law_leans_1 : List T → Option Bool := fT (fIsN true (fVar 5))
def m_law_leans_2 : List T → Option T := fN gTup (aCons (fVar 4) (aCons (fCallV g_law_gap (aCons (f2 gIx (fVar 0) (fVar 4)) (aCons (f2 gIx (fVar 0) (fVar 2)) (aNil)))) (aNil)))
def l_law_leans_1 : FS := sSeq (sSet 3 (lift (fLc [4] (jR1 (aCons (fVar 2) (aNil))) (gSet 4) (tYesF) (m_law_leans_2)))) (sApp 1 (pHere) (fLc [4, 5] (jVal (fVar 3)) (gTupT 2 (gsCons (gSet 4) (gsCons (gSet 5) (gsNil)))) (n_law_leans_1) (m_law_leans_1)))
def b_law_leans : FS := sSeq (sSet 1 (mE (mNew (aNil)))) (sSeq (sFor (iR1 (aCons (fN gLen (aCons (fVar 0) (aNil))) (aNil))) (gSet 2) (l_law_leans_1)) (sRet (fFz (fMv 1))))
def g_law_leans : List T → Option Re := runF 1 6 [] b_law_leans
theorem ok_law_leans {P : Program} {w : World} {W : Wd} {mg : Str → Option Value} {base : Heap} {f : Addr} {fd : FuncData} (F : Fun W.K "_law_leans" "_law_leans" s_law_leans f fd) (B : Bi mg) (C_law_gap : Cl P w W mg base CX0 2 "_law_gap" [] g_law_gap) : FnOk P w W.K mg base CX0 3 f fd ["_law_deeds_here"] (spF W [] g_law_leans) :=
  fnZ F sc_law_leans (by decide) (by decide) fun _ _ _ _ _ _ hr =>
  sms_cons (sm_s 1 (emo (em_new (av_nil)))) (sms_cons (sm_for (fun _ => PassesOwn.never) (iw_range1 (by intro _; rfl) (fun _ => B.range_) (av_cons (ev_callB (fun j => callLen j) sn_len (by intro _; rfl) (fun _ => B.len_) (by decide +kernel) (av_cons (ev_v 0) (av_nil))) (av_nil))) (gt_n 2) (sms_cons ((by first | exact sm_setLc 3 [("_law_j", 4)] (ip_range1 (by intro _; rfl) (fun _ => B.range_) (av_cons (ev_v 2) (av_nil))) (gc_n 4) (tvs_nil) (ev_tup (av_cons (ev_v 4) (av_cons (ev_call (fun _ => C_law_gap) (Nat.le_of_ble_eq_true rfl) (by intro _; rfl) (E := E0) (fun _ => pass0') (av_cons (ev_ix (ev_v 0) (ev_v 4)) (av_cons (ev_ix (ev_v 0) (ev_v 2)) (av_nil)))) (av_nil)))) | exact sm_s 3 (evo (ev_lc [("_law_j", 4)] (ip_range1 (by intro _; rfl) (fun _ => B.range_) (av_cons (ev_v 2) (av_nil))) (gc_n 4) (tvs_nil) (ev_tup (av_cons (ev_v 4) (av_cons (ev_call (fun _ => C_law_gap) (Nat.le_of_ble_eq_true rfl) (by intro _; rfl) (E := E0) (fun _ => pass0') (av_cons (ev_ix (ev_v 0) (ev_v 4)) (av_cons (ev_ix (ev_v 0) (ev_v 2)) (av_nil)))) (av_nil)))))))) (sms_one (sm_app (lo_v 1) (ev_lc [("_law_j", 4), ("_law_far", 5)] (ip_val (ev_v 3)) (gc_tup (gcs_cons (gc_n 4) (gcs_cons (gc_n 5) (gcs_nil)))) (tvs_one (tv_notN (ev_v 5))) (ev_tup (av_cons (ev_v 4) (av_cons (ev_v 5) (av_nil))))))))) (sms_one (sm_ret (eo_fz (eo_m 1)))))
abbrev s_law : Stmt := top 23
theorem sc_law : FnScope ["_law_script", "_law_first", "_law_most", "_law_deeds_here", "_law_units", "_law_handed", "_law_found", "_law_leans_here", "_law_level", "_law_beat", "_law_grown", "_law_done", "_law_more_here"] ["_law_script"] (defScope s_law) := ⟨rfl, rfl, rfl, by decide +kernel, rfl, by decide +kernel, by decide +kernel⟩
def l_law_3 : FS := sSetIx 10 (pHere) (f2 gBOr (fVar 11) (fVar 12)) (fC (.bl true))
def l_law_2 : FS := sFor (iVal (lift (fCallV g_law_more (aCons (fVar 3) (aCons (fVar 4) (aCons (fVar 7) (aCons (fVar 11) (aNil)))))))) (gSet 12) (l_law_3)
def l_law_1 : FS := sSeq (sSet 10 (mE (mNewD))) (sSeq (sFor (iVal (lift (fN gListX (aCons (fVar 8) (aNil))))) (gSet 11) (l_law_2)) (sFz 10 (sSeq (sSet 8 (lift (fVar 10))) (sIf (liftB (fT (f2 gIn (f2 gSub (f2 gShl (fC (.int 1)) (fN gLen (aCons (fVar 3) (aNil)))) (fC (.int 1))) (fVar 8)))) (sRet (lift (fC (.bl false)))) (sNil)))))
def b_law : FS := sSeq (sSet 1 (lift (fN gSum (aCons (fSl (fVar 0) none (some (fC (.int 63)))) (aNil))))) (sSeq (sSet 2 (lift (f2 gMod (fVar 1) (fC (.int 7))))) (sSeq (sIf (liftB (fT (f2 gEq (f2 gMod (f2 gDiv (fVar 1) (fC (.int 63))) (fC (.int 3))) (fC (.int 1))))) (sSet 2 (lift (f2 gAdd (fC (.int 7)) (f2 gMod (fVar 1) (fC (.int 2)))))) (sNil)) (sSeq (sSet 3 (lift (fCallV g_law_deeds (aCons (fSl (fVar 0) none (some (fC (.int 63)))) (aCons (fVar 2) (aCons (f2 gAdd (fC (.int 1)) (f2 gMod (f2 gDiv (fVar 1) (fC (.int 7))) (fC (.int 6)))) (aNil))))))) (sSeq (sSet 4 (lift (fN gTup (aCons (f2 gAdd (fC (.int 1)) (f2 gMod (f2 gDiv (fVar 1) (fC (.int 54))) (fC (.int 3)))) (aCons (f2 gAdd (fC (.int 1)) (f2 gMod (f2 gDiv (fVar 1) (fC (.int 162))) (fC (.int 3)))) (aCons (f2 gAdd (fC (.int 1)) (f2 gMod (f2 gDiv (fVar 1) (fC (.int 486))) (fC (.int 3)))) (aNil))))))) (sSeq (sSet 5 (lift (fN gListX (aCons (fVar 3) (aNil))))) (sSeq (sSet 6 (lift (fCallV g_laid (aCons (fVar 5) (aCons (fVar 4) (aNil)))))) (sSeq (sIf (liftB (tOrF (fT (f2 gNe (fVar 5) (fVar 3))) (tOrF (tNotF (fT (fIsi "list" (fVar 6)))) (tNotF (fT (fCallV g_law_kept (aCons (fVar 3) (aCons (fVar 4) (aCons (fVar 6) (aNil)))))))))) (sRet (lift (fC (.bl false)))) (sNil)) (sSeq (sSet 7 (lift (fCallV g_law_leans (aCons (fVar 3) (aNil))))) (sSeq (sSet 8 (lift (fDispD (pCons (fC (.int 0)) (fC (.bl true)) (pNil))))) (sSeq (sFor (iR1 (aCons (f2 gSub (fN gLen (aCons (fVar 6) (aNil))) (fC (.int 1))) (aNil))) (gSet 9) (l_law_1)) (sRet (lift (fC (.bl true))))))))))))))
def g_law : List T → Option Re := runF 1 13 [] b_law
theorem ok_law {P : Program} {w : World} {W : Wd} {mg : Str → Option Value} {base : Heap} {f : Addr} {fd : FuncData} (F : Fun W.K "law" "law" s_law f fd) (B : Bi mg) (C_law_more : Cl P w W mg base CX0 3 "_law_more" [] g_law_more) (C_law_leans : Cl P w W mg base CX0 3 "_law_leans" [] g_law_leans) (C_law_kept : Cl P w W mg base CX0 3 "_law_kept" [] g_law_kept) (C_laid : Cl P w W mg base CX0 6 "laid" [] g_laid) (C_law_deeds : Cl P w W mg base CX0 3 "_law_deeds" [] g_law_deeds) : FnOk P w W.K mg base CX0 7 f fd ["_law_script"] (spF W [] g_law) :=
  fnZ F sc_law (by decide) (by decide) fun _ _ _ _ _ _ hr =>
  sms_cons (sm_s 1 (evo (ev_callB (fun j => callSum j) sn_sum (by intro _; rfl) (fun _ => B.sum_) (by decide +kernel) (av_cons (ev_sl01 (ev_v 0) (ev_int)) (av_nil))))) (sms_cons (sm_s 2 (evo (ev_mod (ev_v 1) (ev_int)))) (sms_cons (sm_if (tvo (tv_c c_eq (ev_mod (ev_div (ev_v 1) (ev_int)) (ev_int)) (ev_int))) (sms_one (sm_s 2 (evo (ev_add (ev_int) (ev_mod (ev_v 1) (ev_int)))))) (sms_nil)) (sms_cons (sm_s 3 (evo (ev_call (fun _ => C_law_deeds) (Nat.le_of_ble_eq_true rfl) (by intro _; rfl) (E := E0) (fun _ => pass0') (av_cons (ev_sl01 (ev_v 0) (ev_int)) (av_cons (ev_v 2) (av_cons (ev_add (ev_int) (ev_mod (ev_div (ev_v 1) (ev_int)) (ev_int))) (av_nil))))))) (sms_cons (sm_s 4 (evo (ev_tup (av_cons (ev_add (ev_int) (ev_mod (ev_div (ev_v 1) (ev_int)) (ev_int))) (av_cons (ev_add (ev_int) (ev_mod (ev_div (ev_v 1) (ev_int)) (ev_int))) (av_cons (ev_add (ev_int) (ev_mod (ev_div (ev_v 1) (ev_int)) (ev_int))) (av_nil))))))) (sms_cons (sm_s 5 (evo (ev_callTy (fun j => callListX j) sn_listX (by intro _; rfl) (fun _ => B.list_) (by decide +kernel) (av_cons (ev_v 3) (av_nil))))) (sms_cons (sm_s 6 (evo (ev_call (fun _ => C_laid) (Nat.le_of_ble_eq_true rfl) (by intro _; rfl) (E := E0) (fun _ => pass0') (av_cons (ev_v 5) (av_cons (ev_v 4) (av_nil)))))) (sms_cons (sm_if (tvo (wvt (wv_or (tv_c c_ne (ev_v 5) (ev_v 3)) (wv_or (tv_not (tv_val (ev_isi (by intro _; rfl) (fun _ => B.isinstance_) (ev_v 6) (by intro _; rfl) (fun _ => B.list_) (by decide +kernel)) (by intro _ _; rfl))) (wv_or1 (tv_not (tv_val (ev_call (fun _ => C_law_kept) (Nat.le_of_ble_eq_true rfl) (by intro _; rfl) (E := E0) (fun _ => pass0') (av_cons (ev_v 3) (av_cons (ev_v 4) (av_cons (ev_v 6) (av_nil))))) (by intro _ _; rfl)))))))) (sms_one (sm_ret (evo (ev_bl)))) (sms_nil)) (sms_cons (sm_s 7 (evo (ev_call (fun _ => C_law_leans) (Nat.le_of_ble_eq_true rfl) (by intro _; rfl) (E := E0) (fun _ => pass0') (av_cons (ev_v 3) (av_nil))))) (sms_cons (sm_s 8 (evo (ev_disp (dp_cons (ev_int) (ev_bl) (dp_nil)) rfl rfl (by decide) (by decide)))) (sms_cons (sm_for (fun _ => PassesOwn.never) (iw_range1 (by intro _; rfl) (fun _ => B.range_) (av_cons (ev_sub (ev_callB (fun j => callLen j) sn_len (by intro _; rfl) (fun _ => B.len_) (by decide +kernel) (av_cons (ev_v 6) (av_nil))) (ev_int)) (av_nil))) (gt_n 9) (sms_cons (sm_s 10 (emo (em_newd))) (sms_cons (sm_for (fun _ => PassesOwn.never) (iw_val (evo (ev_callTy (fun j => callListX j) sn_listX (by intro _; rfl) (fun _ => B.list_) (by decide +kernel) (av_cons (ev_v 8) (av_nil))))) (gt_n 11) (sms_one (sm_for (fun _ => PassesOwn.never) (iw_val (evo (ev_call (fun _ => C_law_more) (Nat.le_of_ble_eq_true rfl) (by intro _; rfl) (E := E0) (fun _ => pass0') (av_cons (ev_v 3) (av_cons (ev_v 4) (av_cons (ev_v 7) (av_cons (ev_v 11) (av_nil)))))))) (gt_n 12) (sms_one (sm_setIx (lo_v 10) (ev_bor (ev_v 11) (ev_v 12)) (ev_bl)))))) (sms_fz 10 (sms_cons (sm_s 8 (evo (ev_v 10))) (sms_one (sm_if (tvo (tv_c c_in (ev_sub (ev_shl (ev_int) (ev_callB (fun j => callLen j) sn_len (by intro _; rfl) (fun _ => B.len_) (by decide +kernel) (av_cons (ev_v 3) (av_nil)))) (ev_int)) (ev_v 8))) (sms_one (sm_ret (evo (ev_bl)))) (sms_nil)))))))) (sms_one (sm_ret (evo (ev_bl))))))))))))))
theorem all_mk {l : PySem.W.OpenLaw} {w : World} {K : PySem.W.Frag} {h : Heap} {mg : Str → Option Value} {fa f1 f2 f3 f4 f5 f6 f7 f8 f9 f10 f11 f12 f13 f14 f15 f16 f17 f18 f19 f20 f21 f22 : Addr} (X : K.In h) (G : h.Ns mainGlobals mg) (hfa : mg "law" = some (.ref fa))
    {od1 an1 od2 an2 od3 an3 od4 an4 od5 an5 od6 an6 od7 an7 od8 an8 od9 an9 od10 an10 od11 an11 od12 an12 od13 an13 od14 an14 od15 an15 od16 an16 od17 an17 od18 an18 od19 an19 od20 an20 od21 an21 od22 an22 : Option Addr} {sl1 sl2 sl3 sl4 sl5 sl6 sl7 sl8 sl9 sl10 sl11 sl12 sl13 sl14 sl15 sl16 sl17 sl18 sl19 sl20 sl21 sl22 : Array (Option Value)} {oc1 kV1 dc1 pm1 cd1 ct1 oc2 kV2 dc2 pm2 cd2 ct2 oc3 kV3 dc3 pm3 cd3 ct3 oc4 kV4 dc4 pm4 cd4 ct4 oc5 kV5 dc5 pm5 cd5 ct5 oc6 kV6 dc6 pm6 cd6 ct6 oc7 kV7 dc7 pm7 cd7 ct7 oc8 kV8 dc8 pm8 cd8 ct8 oc9 kV9 dc9 pm9 cd9 ct9 oc10 kV10 dc10 pm10 cd10 ct10 oc11 kV11 dc11 pm11 cd11 ct11 oc12 kV12 dc12 pm12 cd12 ct12 oc13 kV13 dc13 pm13 cd13 ct13 oc14 kV14 dc14 pm14 cd14 ct14 oc15 kV15 dc15 pm15 cd15 ct15 oc16 kV16 dc16 pm16 cd16 ct16 oc17 kV17 dc17 pm17 cd17 ct17 oc18 kV18 dc18 pm18 cd18 ct18 oc19 kV19 dc19 pm19 cd19 ct19 oc20 kV20 dc20 pm20 cd20 ct20 oc21 kV21 dc21 pm21 cd21 ct21 oc22 kV22 dc22 pm22 cd22 ct22 : Value}
    (a1 : PySem.W.nsIn K mainGlobals "reads" = some (some (.ref f1)))
    (l1 : K.lookup f1 = some ⟨oc1, od1, .func (PySem.W.fnOf "reads" "reads" (defArgs s_reads) (defBody s_reads) (defScope s_reads) .none kV1 dc1 pm1 an1 cd1 ct1), sl1⟩) (c1 : PySem.W.codeIn K cd1 "reads" = true) (k1 : PySem.W.keepIn K (.ref f1) = true)
    (a2 : PySem.W.nsIn K mainGlobals "writes" = some (some (.ref f2)))
    (l2 : K.lookup f2 = some ⟨oc2, od2, .func (PySem.W.fnOf "writes" "writes" (defArgs s_writes) (defBody s_writes) (defScope s_writes) .none kV2 dc2 pm2 an2 cd2 ct2), sl2⟩) (c2 : PySem.W.codeIn K cd2 "writes" = true) (k2 : PySem.W.keepIn K (.ref f2) = true)
    (a3 : PySem.W.nsIn K mainGlobals "gap" = some (some (.ref f3)))
    (l3 : K.lookup f3 = some ⟨oc3, od3, .func (PySem.W.fnOf "gap" "gap" (defArgs s_gap) (defBody s_gap) (defScope s_gap) .none kV3 dc3 pm3 an3 cd3 ct3), sl3⟩) (c3 : PySem.W.codeIn K cd3 "gap" = true) (k3 : PySem.W.keepIn K (.ref f3) = true)
    (a4 : PySem.W.nsIn K mainGlobals "sort_of" = some (some (.ref f4)))
    (l4 : K.lookup f4 = some ⟨oc4, od4, .func (PySem.W.fnOf "sort_of" "sort_of" (defArgs s_sort_of) (defBody s_sort_of) (defScope s_sort_of) .none kV4 dc4 pm4 an4 cd4 ct4), sl4⟩) (c4 : PySem.W.codeIn K cd4 "sort_of" = true) (k4 : PySem.W.keepIn K (.ref f4) = true)
    (a5 : PySem.W.nsIn K mainGlobals "fits_units" = some (some (.ref f5)))
    (l5 : K.lookup f5 = some ⟨oc5, od5, .func (PySem.W.fnOf "fits_units" "fits_units" (defArgs s_fits_units) (defBody s_fits_units) (defScope s_fits_units) .none kV5 dc5 pm5 an5 cd5 ct5), sl5⟩) (c5 : PySem.W.codeIn K cd5 "fits_units" = true) (k5 : PySem.W.keepIn K (.ref f5) = true)
    (a6 : PySem.W.nsIn K mainGlobals "may_go" = some (some (.ref f6)))
    (l6 : K.lookup f6 = some ⟨oc6, od6, .func (PySem.W.fnOf "may_go" "may_go" (defArgs s_may_go) (defBody s_may_go) (defScope s_may_go) .none kV6 dc6 pm6 an6 cd6 ct6), sl6⟩) (c6 : PySem.W.codeIn K cd6 "may_go" = true) (k6 : PySem.W.keepIn K (.ref f6) = true)
    (a7 : PySem.W.nsIn K mainGlobals "is_full" = some (some (.ref f7)))
    (l7 : K.lookup f7 = some ⟨oc7, od7, .func (PySem.W.fnOf "is_full" "is_full" (defArgs s_is_full) (defBody s_is_full) (defScope s_is_full) .none kV7 dc7 pm7 an7 cd7 ct7), sl7⟩) (c7 : PySem.W.codeIn K cd7 "is_full" = true) (k7 : PySem.W.keepIn K (.ref f7) = true)
    (a8 : PySem.W.nsIn K mainGlobals "next_beats" = some (some (.ref f8)))
    (l8 : K.lookup f8 = some ⟨oc8, od8, .func (PySem.W.fnOf "next_beats" "next_beats" (defArgs s_next_beats) (defBody s_next_beats) (defScope s_next_beats) .none kV8 dc8 pm8 an8 cd8 ct8), sl8⟩) (c8 : PySem.W.codeIn K cd8 "next_beats" = true) (k8 : PySem.W.keepIn K (.ref f8) = true)
    (a9 : PySem.W.nsIn K mainGlobals "laid" = some (some (.ref f9)))
    (l9 : K.lookup f9 = some ⟨oc9, od9, .func (PySem.W.fnOf "laid" "laid" (defArgs s_laid) (defBody s_laid) (defScope s_laid) .none kV9 dc9 pm9 an9 cd9 ct9), sl9⟩) (c9 : PySem.W.codeIn K cd9 "laid" = true) (k9 : PySem.W.keepIn K (.ref f9) = true)
    (a10 : PySem.W.nsIn K mainGlobals "_law_whole" = some (some (.ref f10)))
    (l10 : K.lookup f10 = some ⟨oc10, od10, .func (PySem.W.fnOf "_law_whole" "_law_whole" (defArgs s_law_whole) (defBody s_law_whole) (defScope s_law_whole) .none kV10 dc10 pm10 an10 cd10 ct10), sl10⟩) (c10 : PySem.W.codeIn K cd10 "_law_whole" = true) (k10 : PySem.W.keepIn K (.ref f10) = true)
    (a11 : PySem.W.nsIn K mainGlobals "_law_mixed" = some (some (.ref f11)))
    (l11 : K.lookup f11 = some ⟨oc11, od11, .func (PySem.W.fnOf "_law_mixed" "_law_mixed" (defArgs s_law_mixed) (defBody s_law_mixed) (defScope s_law_mixed) .none kV11 dc11 pm11 an11 cd11 ct11), sl11⟩) (c11 : PySem.W.codeIn K cd11 "_law_mixed" = true) (k11 : PySem.W.keepIn K (.ref f11) = true)
    (a12 : PySem.W.nsIn K mainGlobals "_law_operand" = some (some (.ref f12)))
    (l12 : K.lookup f12 = some ⟨oc12, od12, .func (PySem.W.fnOf "_law_operand" "_law_operand" (defArgs s_law_operand) (defBody s_law_operand) (defScope s_law_operand) .none kV12 dc12 pm12 an12 cd12 ct12), sl12⟩) (c12 : PySem.W.codeIn K cd12 "_law_operand" = true) (k12 : PySem.W.keepIn K (.ref f12) = true)
    (a13 : PySem.W.nsIn K mainGlobals "_law_deed" = some (some (.ref f13)))
    (l13 : K.lookup f13 = some ⟨oc13, od13, .func (PySem.W.fnOf "_law_deed" "_law_deed" (defArgs s_law_deed) (defBody s_law_deed) (defScope s_law_deed) .none kV13 dc13 pm13 an13 cd13 ct13), sl13⟩) (c13 : PySem.W.codeIn K cd13 "_law_deed" = true) (k13 : PySem.W.keepIn K (.ref f13) = true)
    (a14 : PySem.W.nsIn K mainGlobals "_law_reads" = some (some (.ref f14)))
    (l14 : K.lookup f14 = some ⟨oc14, od14, .func (PySem.W.fnOf "_law_reads" "_law_reads" (defArgs s_law_reads) (defBody s_law_reads) (defScope s_law_reads) .none kV14 dc14 pm14 an14 cd14 ct14), sl14⟩) (c14 : PySem.W.codeIn K cd14 "_law_reads" = true) (k14 : PySem.W.keepIn K (.ref f14) = true)
    (a15 : PySem.W.nsIn K mainGlobals "_law_gap" = some (some (.ref f15)))
    (l15 : K.lookup f15 = some ⟨oc15, od15, .func (PySem.W.fnOf "_law_gap" "_law_gap" (defArgs s_law_gap) (defBody s_law_gap) (defScope s_law_gap) .none kV15 dc15 pm15 an15 cd15 ct15), sl15⟩) (c15 : PySem.W.codeIn K cd15 "_law_gap" = true) (k15 : PySem.W.keepIn K (.ref f15) = true)
    (a16 : PySem.W.nsIn K mainGlobals "_law_deeds" = some (some (.ref f16)))
    (l16 : K.lookup f16 = some ⟨oc16, od16, .func (PySem.W.fnOf "_law_deeds" "_law_deeds" (defArgs s_law_deeds) (defBody s_law_deeds) (defScope s_law_deeds) .none kV16 dc16 pm16 an16 cd16 ct16), sl16⟩) (c16 : PySem.W.codeIn K cd16 "_law_deeds" = true) (k16 : PySem.W.keepIn K (.ref f16) = true)
    (a17 : PySem.W.nsIn K mainGlobals "_law_sort" = some (some (.ref f17)))
    (l17 : K.lookup f17 = some ⟨oc17, od17, .func (PySem.W.fnOf "_law_sort" "_law_sort" (defArgs s_law_sort) (defBody s_law_sort) (defScope s_law_sort) .none kV17 dc17 pm17 an17 cd17 ct17), sl17⟩) (c17 : PySem.W.codeIn K cd17 "_law_sort" = true) (k17 : PySem.W.keepIn K (.ref f17) = true)
    (a18 : PySem.W.nsIn K mainGlobals "_law_load" = some (some (.ref f18)))
    (l18 : K.lookup f18 = some ⟨oc18, od18, .func (PySem.W.fnOf "_law_load" "_law_load" (defArgs s_law_load) (defBody s_law_load) (defScope s_law_load) .none kV18 dc18 pm18 an18 cd18 ct18), sl18⟩) (c18 : PySem.W.codeIn K cd18 "_law_load" = true) (k18 : PySem.W.keepIn K (.ref f18) = true)
    (a19 : PySem.W.nsIn K mainGlobals "_law_kept" = some (some (.ref f19)))
    (l19 : K.lookup f19 = some ⟨oc19, od19, .func (PySem.W.fnOf "_law_kept" "_law_kept" (defArgs s_law_kept) (defBody s_law_kept) (defScope s_law_kept) .none kV19 dc19 pm19 an19 cd19 ct19), sl19⟩) (c19 : PySem.W.codeIn K cd19 "_law_kept" = true) (k19 : PySem.W.keepIn K (.ref f19) = true)
    (a20 : PySem.W.nsIn K mainGlobals "_law_more" = some (some (.ref f20)))
    (l20 : K.lookup f20 = some ⟨oc20, od20, .func (PySem.W.fnOf "_law_more" "_law_more" (defArgs s_law_more) (defBody s_law_more) (defScope s_law_more) .none kV20 dc20 pm20 an20 cd20 ct20), sl20⟩) (c20 : PySem.W.codeIn K cd20 "_law_more" = true) (k20 : PySem.W.keepIn K (.ref f20) = true)
    (a21 : PySem.W.nsIn K mainGlobals "_law_leans" = some (some (.ref f21)))
    (l21 : K.lookup f21 = some ⟨oc21, od21, .func (PySem.W.fnOf "_law_leans" "_law_leans" (defArgs s_law_leans) (defBody s_law_leans) (defScope s_law_leans) .none kV21 dc21 pm21 an21 cd21 ct21), sl21⟩) (c21 : PySem.W.codeIn K cd21 "_law_leans" = true) (k21 : PySem.W.keepIn K (.ref f21) = true)
    (a22 : PySem.W.nsIn K mainGlobals "law" = some (some (.ref f22)))
    (l22 : K.lookup f22 = some ⟨oc22, od22, .func (PySem.W.fnOf "law" "law" (defArgs s_law) (defBody s_law) (defScope s_law) .none kV22 dc22 pm22 an22 cd22 ct22), sl22⟩) (c22 : PySem.W.codeIn K cd22 "law" = true) (k22 : PySem.W.keepIn K (.ref f22) = true)
    (z_isinstance : PySem.W.nsIn K mainGlobals "isinstance" = some none)
    (z_str : PySem.W.nsIn K mainGlobals "str" = some none)
    (z_range : PySem.W.nsIn K mainGlobals "range" = some none)
    (z_len : PySem.W.nsIn K mainGlobals "len" = some none)
    (z_tuple : PySem.W.nsIn K mainGlobals "tuple" = some none)
    (z_all : PySem.W.nsIn K mainGlobals "all" = some none)
    (z_int : PySem.W.nsIn K mainGlobals "int" = some none)
    (z_bool : PySem.W.nsIn K mainGlobals "bool" = some none)
    (z_enumerate : PySem.W.nsIn K mainGlobals "enumerate" = some none)
    (z_list : PySem.W.nsIn K mainGlobals "list" = some none)
    (z_sum : PySem.W.nsIn K mainGlobals "sum" = some none)
    : ∃ (fd : FuncData) (cl : Nat → Addr), (∀ (s : Shared) (v : Value), BindsTo s fd ⟨[v], []⟩ [("_law_script", v)]) ∧ ∀ base : Heap, K.In base → base.Ns mainGlobals mg → FnOk l.prog w K mg base CX0 7 fa fd ["_law_script"] (spF ⟨K, cl⟩ [] g_law) := by
  have e := hfa.symm.trans (PySem.W.mg_of X G a22)
  cases e
  have B : Bi mg := ⟨PySem.W.mg_none_of X G z_isinstance, PySem.W.mg_none_of X G z_str, PySem.W.mg_none_of X G z_range, PySem.W.mg_none_of X G z_len, PySem.W.mg_none_of X G z_tuple, PySem.W.mg_none_of X G z_all, PySem.W.mg_none_of X G z_int, PySem.W.mg_none_of X G z_bool, PySem.W.mg_none_of X G z_enumerate, PySem.W.mg_none_of X G z_list, PySem.W.mg_none_of X G z_sum⟩
  have F1 := fun_mk (st := s_reads) l1 c1 k1
  have b1 := F1.binds (ps := ["deed"]) fun _ _ _ _ _ _ us hl => match us, hl with | [_], _ => rfl
  have F2 := fun_mk (st := s_writes) l2 c2 k2
  have b2 := F2.binds (ps := ["deed"]) fun _ _ _ _ _ _ us hl => match us, hl with | [_], _ => rfl
  have F3 := fun_mk (st := s_gap) l3 c3 k3
  have b3 := F3.binds (ps := ["deeds", "j", "k"]) fun _ _ _ _ _ _ us hl => match us, hl with | [_, _, _], _ => rfl
  have F4 := fun_mk (st := s_sort_of) l4 c4 k4
  have b4 := F4.binds (ps := ["deed"]) fun _ _ _ _ _ _ us hl => match us, hl with | [_], _ => rfl
  have F5 := fun_mk (st := s_fits_units) l5 c5 k5
  have b5 := F5.binds (ps := ["deeds", "units", "beat"]) fun _ _ _ _ _ _ us hl => match us, hl with | [_, _, _], _ => rfl
  have F6 := fun_mk (st := s_may_go) l6 c6 k6
  have b6 := F6.binds (ps := ["deeds", "done", "beat", "k"]) fun _ _ _ _ _ _ us hl => match us, hl with | [_, _, _, _], _ => rfl
  have F7 := fun_mk (st := s_is_full) l7 c7 k7
  have b7 := F7.binds (ps := ["deeds", "units", "done", "beat"]) fun _ _ _ _ _ _ us hl => match us, hl with | [_, _, _, _], _ => rfl
  have F8 := fun_mk (st := s_next_beats) l8 c8 k8
  have b8 := F8.binds (ps := ["deeds", "units", "done"]) fun _ _ _ _ _ _ us hl => match us, hl with | [_, _, _], _ => rfl
  have F9 := fun_mk (st := s_laid) l9 c9 k9
  have b9 := F9.binds (ps := ["deeds", "units"]) fun _ _ _ _ _ _ us hl => match us, hl with | [_, _], _ => rfl
  have F10 := fun_mk (st := s_law_whole) l10 c10 k10
  have b10 := F10.binds (ps := ["_law_found"]) fun _ _ _ _ _ _ us hl => match us, hl with | [_], _ => rfl
  have F11 := fun_mk (st := s_law_mixed) l11 c11 k11
  have b11 := F11.binds (ps := ["_law_cell", "_law_k"]) fun _ _ _ _ _ _ us hl => match us, hl with | [_, _], _ => rfl
  have F12 := fun_mk (st := s_law_operand) l12 c12 k12
  have b12 := F12.binds (ps := ["_law_mixed_here", "_law_names", "_law_width"]) fun _ _ _ _ _ _ us hl => match us, hl with | [_, _, _], _ => rfl
  have F13 := fun_mk (st := s_law_deed) l13 c13 k13
  have b13 := F13.binds (ps := ["_law_mixed_here", "_law_names", "_law_width"]) fun _ _ _ _ _ _ us hl => match us, hl with | [_, _, _], _ => rfl
  have F14 := fun_mk (st := s_law_reads) l14 c14 k14
  have b14 := F14.binds (ps := ["_law_deed_here"]) fun _ _ _ _ _ _ us hl => match us, hl with | [_], _ => rfl
  have F15 := fun_mk (st := s_law_gap) l15 c15 k15
  have b15 := F15.binds (ps := ["_law_one", "_law_other"]) fun _ _ _ _ _ _ us hl => match us, hl with | [_, _], _ => rfl
  have F16 := fun_mk (st := s_law_deeds) l16 c16 k16
  have b16 := F16.binds (ps := ["_law_cells", "_law_most", "_law_boxes"]) fun _ _ _ _ _ _ us hl => match us, hl with | [_, _, _], _ => rfl
  have F17 := fun_mk (st := s_law_sort) l17 c17 k17
  have b17 := F17.binds (ps := ["_law_deed_here"]) fun _ _ _ _ _ _ us hl => match us, hl with | [_], _ => rfl
  have F18 := fun_mk (st := s_law_load) l18 c18 k18
  have b18 := F18.binds (ps := ["_law_deeds_here", "_law_beat", "_law_units"]) fun _ _ _ _ _ _ us hl => match us, hl with | [_, _, _], _ => rfl
  have F19 := fun_mk (st := s_law_kept) l19 c19 k19
  have b19 := F19.binds (ps := ["_law_deeds_here", "_law_units", "_law_beats"]) fun _ _ _ _ _ _ us hl => match us, hl with | [_, _, _], _ => rfl
  have F20 := fun_mk (st := s_law_more) l20 c20 k20
  have b20 := F20.binds (ps := ["_law_deeds_here", "_law_units", "_law_leans_here", "_law_done"]) fun _ _ _ _ _ _ us hl => match us, hl with | [_, _, _, _], _ => rfl
  have F21 := fun_mk (st := s_law_leans) l21 c21 k21
  have b21 := F21.binds (ps := ["_law_deeds_here"]) fun _ _ _ _ _ _ us hl => match us, hl with | [_], _ => rfl
  have F22 := fun_mk (st := s_law) l22 c22 k22
  have b22 := F22.binds (ps := ["_law_script"]) fun _ _ _ _ _ _ us hl => match us, hl with | [_], _ => rfl
  refine ⟨PySem.W.fnOf "law" "law" (defArgs s_law) (defBody s_law) (defScope s_law) .none kV22 dc22 pm22 an22 cd22 ct22, fun _ => 0, fun s v => .of_eq rfl, fun base _ _ => ?_⟩
  have C_reads : Cl l.prog w ⟨K, fun _ => 0⟩ mg base CX0 1 "reads" [] g_reads := .mk' (ok_reads (W := ⟨K, fun _ => 0⟩) F1 B) (PySem.W.mg_of X G a1) k1 b1
  have C_writes : Cl l.prog w ⟨K, fun _ => 0⟩ mg base CX0 1 "writes" [] g_writes := .mk' (ok_writes (W := ⟨K, fun _ => 0⟩) F2 B) (PySem.W.mg_of X G a2) k2 b2
  have C_gap : Cl l.prog w ⟨K, fun _ => 0⟩ mg base CX0 2 "gap" [] g_gap := .mk' (ok_gap (W := ⟨K, fun _ => 0⟩) F3 B C_reads C_writes) (PySem.W.mg_of X G a3) k3 b3
  have C_sort_of : Cl l.prog w ⟨K, fun _ => 0⟩ mg base CX0 1 "sort_of" [] g_sort_of := .mk' (ok_sort_of (W := ⟨K, fun _ => 0⟩) F4 B) (PySem.W.mg_of X G a4) k4 b4
  have C_fits_units : Cl l.prog w ⟨K, fun _ => 0⟩ mg base CX0 2 "fits_units" [] g_fits_units := .mk' (ok_fits_units (W := ⟨K, fun _ => 0⟩) F5 B C_sort_of) (PySem.W.mg_of X G a5) k5 b5
  have C_may_go : Cl l.prog w ⟨K, fun _ => 0⟩ mg base CX0 3 "may_go" [] g_may_go := .mk' (ok_may_go (W := ⟨K, fun _ => 0⟩) F6 B C_gap) (PySem.W.mg_of X G a6) k6 b6
  have C_is_full : Cl l.prog w ⟨K, fun _ => 0⟩ mg base CX0 4 "is_full" [] g_is_full := .mk' (ok_is_full (W := ⟨K, fun _ => 0⟩) F7 B C_may_go C_fits_units) (PySem.W.mg_of X G a7) k7 b7
  have C_next_beats : Cl l.prog w ⟨K, fun _ => 0⟩ mg base CX0 5 "next_beats" [] g_next_beats := .mk' (ok_next_beats (W := ⟨K, fun _ => 0⟩) F8 B C_is_full C_sort_of C_may_go C_fits_units) (PySem.W.mg_of X G a8) k8 b8
  have C_laid : Cl l.prog w ⟨K, fun _ => 0⟩ mg base CX0 6 "laid" [] g_laid := .mk' (ok_laid (W := ⟨K, fun _ => 0⟩) F9 B C_next_beats) (PySem.W.mg_of X G a9) k9 b9
  have C_law_whole : Cl l.prog w ⟨K, fun _ => 0⟩ mg base CX0 1 "_law_whole" [] g_law_whole := .mk' (ok_law_whole (W := ⟨K, fun _ => 0⟩) F10 B) (PySem.W.mg_of X G a10) k10 b10
  have C_law_mixed : Cl l.prog w ⟨K, fun _ => 0⟩ mg base CX0 1 "_law_mixed" [] g_law_mixed := .mk' (ok_law_mixed (W := ⟨K, fun _ => 0⟩) F11 B) (PySem.W.mg_of X G a11) k11 b11
  have C_law_operand : Cl l.prog w ⟨K, fun _ => 0⟩ mg base CX0 1 "_law_operand" [] g_law_operand := .mk' (ok_law_operand (W := ⟨K, fun _ => 0⟩) F12 B) (PySem.W.mg_of X G a12) k12 b12
  have C_law_deed : Cl l.prog w ⟨K, fun _ => 0⟩ mg base CX0 2 "_law_deed" [] g_law_deed := .mk' (ok_law_deed (W := ⟨K, fun _ => 0⟩) F13 B C_law_operand) (PySem.W.mg_of X G a13) k13 b13
  have C_law_reads : Cl l.prog w ⟨K, fun _ => 0⟩ mg base CX0 1 "_law_reads" [] g_law_reads := .mk' (ok_law_reads (W := ⟨K, fun _ => 0⟩) F14 B) (PySem.W.mg_of X G a14) k14 b14
  have C_law_gap : Cl l.prog w ⟨K, fun _ => 0⟩ mg base CX0 2 "_law_gap" [] g_law_gap := .mk' (ok_law_gap (W := ⟨K, fun _ => 0⟩) F15 B C_law_reads) (PySem.W.mg_of X G a15) k15 b15
  have C_law_deeds : Cl l.prog w ⟨K, fun _ => 0⟩ mg base CX0 3 "_law_deeds" [] g_law_deeds := .mk' (ok_law_deeds (W := ⟨K, fun _ => 0⟩) F16 B C_law_mixed C_law_deed) (PySem.W.mg_of X G a16) k16 b16
  have C_law_sort : Cl l.prog w ⟨K, fun _ => 0⟩ mg base CX0 1 "_law_sort" [] g_law_sort := .mk' (ok_law_sort (W := ⟨K, fun _ => 0⟩) F17 B) (PySem.W.mg_of X G a17) k17 b17
  have C_law_load : Cl l.prog w ⟨K, fun _ => 0⟩ mg base CX0 2 "_law_load" [] g_law_load := .mk' (ok_law_load (W := ⟨K, fun _ => 0⟩) F18 B C_law_sort) (PySem.W.mg_of X G a18) k18 b18
  have C_law_kept : Cl l.prog w ⟨K, fun _ => 0⟩ mg base CX0 3 "_law_kept" [] g_law_kept := .mk' (ok_law_kept (W := ⟨K, fun _ => 0⟩) F19 B C_law_gap C_law_load C_law_whole) (PySem.W.mg_of X G a19) k19 b19
  have C_law_more : Cl l.prog w ⟨K, fun _ => 0⟩ mg base CX0 3 "_law_more" [] g_law_more := .mk' (ok_law_more (W := ⟨K, fun _ => 0⟩) F20 B C_law_load) (PySem.W.mg_of X G a20) k20 b20
  have C_law_leans : Cl l.prog w ⟨K, fun _ => 0⟩ mg base CX0 3 "_law_leans" [] g_law_leans := .mk' (ok_law_leans (W := ⟨K, fun _ => 0⟩) F21 B C_law_gap) (PySem.W.mg_of X G a21) k21 b21
  exact ok_law (W := ⟨K, fun _ => 0⟩) F22 B C_law_more C_law_leans C_law_kept C_laid C_law_deeds
theorem walk {l : PySem.W.OpenLaw} {q : Program} {loose : List Str} {XP : (Str → Option Value) → Heap → Prop} {YP : World → Heap → Prop} {d : DefRec} {K : Params → PySem.W.Frag} (hn : l.most = some 63) (hdf : d.params.defaults = [])
    (hY : ∀ (w : World) (h : Heap), YP w h → (K w.params).In h) (ht : ∀ ns : List Int, ns.length ≤ 63 → (∀ z ∈ ns, Builtin.Int.intBits z ≤ 1048576) → ∃ us, g_law [.f (.lst (ns.map .int))] = some (.ok (.f (.bl true)) us))
    (F : ∀ (w : World) (mg : Str → Option Value) (fa : Addr) (h : Heap), (K w.params).In h → h.Ns mainGlobals mg → mg d.name = some (.ref fa) →
      ∃ (fd : FuncData) (cl : Nat → Addr), (∀ (s : Shared) (u : Value), BindsTo s fd ⟨[u], []⟩ [("_law_script", u)]) ∧ ∀ base : Heap, (K w.params).In base → base.Ns mainGlobals mg → FnOk l.prog w (K w.params) mg base CX0 7 fa fd ["_law_script"] (spF ⟨K w.params, cl⟩ [] g_law)) :
    PySem.W.WalkO q loose XP YP l.row.toRowW d [] (fun f vs => PySem.call f vs) :=
  L2.walk_ofB (n := 63) (k := 7) (x := "_law_script") (CX := fun _ => CX0) (sp := fun w vs H Q E => ∀ cl, spF ⟨K w.params, cl⟩ [] g_law vs H Q E) hn (by decide) hdf ⟨rfl, by decide, by decide⟩ hY (fun w mg fa h a b c => let ⟨fd, cl, h1, h2⟩ := F w mg fa h a b c; ⟨fd, h1, fun base p q => (h2 base p q).imp fun vs H Q E h => h cl⟩) (fun w H a ns hl hb _ hS cl => law_sp (W := ⟨K w.params, cl⟩) hS (ht ns hl hb)) fun _ _ _ _ _ z => z
end K
namespace K
open PySem L2 Z
local macro_rules | `(tactic| walk_at "w") => `(tactic| simp -implicitDefEqProofs (disch := (first | omega | ((try simp only [List.length_cons, List.length_nil, List.length_map, List.length_append, List.length_range, List.length_take, List.length_set, List.length_reverse, enumD_len]) <;> omega) | fail)) only [wz_var, nn_f, nn_l, nn_dk, nn_ll, nn_tu, nn_o, wz_mv, mvK_f, mvK_l, mvK_dk, mvK_ll, mvK_tu, mvK_o, wz_f1, k1_s, wz_f2, k2_s, wz_fN, kN_s, wz_fC, wz_aNil, wz_aCons, kCons_s, wz_fT, kT_s, wz_tAnd, wz_tOr, wz_tNot, kAnd_t, kAnd_f, kOr_t, kOr_f, kNot_s, wz_fIf, kIf_t, kIf_f, wz_fAnd, wz_fOr, kBl_s, wz_fNot, wz_lift, kLift_s, wz_fFz, kFz_f, kFz_l, kFz_dk, wz_sNil, wz_sSeq, kSeq_nx, kSeq_rt, kSeq_bk, kSeq_ct, kSeq_xc, wz_sSet, kSet_s, wz_sExpr, kEx_s, wz_sRet, kRet_s, wz_sRetN, wz_sBk, wz_sCt, wz_liftB, kLiB_s, wz_oTest, kTst_s, wz_oNot, kONot_s, wz_sIf, kIfS_t, kIfS_f, kIfS_d, kV_s, wz_fCallV, kCall_0, kCall_1, kCall_2, kCall_3, kCall_4, kCall_5, kCall_6, kCall_7, wz_fDispD, wz_pNil, wz_pCons, kPair_s, kPair_i, wz_fNewL, kNl'_s, wz_fNewD, wz_sFor, kFor_s, for_nil, for_cons, kTgt_s, kBody_nx, kBody_ct, kBody_bk, kBody_rt, kBody_xc, wz_iVal, kIt_l, kIt_t, kIt_s, wz_iL1, kI1_s, wz_iL2, kI2_s, wz_iR1, kR1_s, wz_iR2, kR2_s, wz_gSet, wz_gsNil, wz_gsCons, kGs_s, deep_nil, deep_f, kDc_s, wz_gTup, wz_gLst, gSl_l, gSl_o, wz_sl00, wz_sl10, wz_sl01, wz_sl11, kS00_s, kS10_s, kS01_s, kS11_s, wz_fIsi, gIsi_ii, gIsi_ib, gIsi_ll, gIsi_lo, gIsi_tt, gIsi_ss, gIsi_bb, gIsi_dd, dec01, str_inj, gDiv_o, gMul_o, gShl_o, gShr_o, kVT_s, gIx_lst, gIx_own, gIx_tup, gIx_dct, gIx_dcti, gIx_odct, gIx_odcti, atI_pos, atI_neg, gTupT1, gTupT2, gTupT3, gTupT4, gTupT5, gIsNn_i, gIsNn_s, gIsNn_b, gIsNn_n, gIsNn_l, gIsNn_t, gIsNn_d, gIsNn_o, gIsNn_od, wz_fIsN, wz_fChain, kChain_s, kCh1_t, kCh1_f, kTurn_s, okW_nil, okW_cons, okV_n, okV_u, okV_f, wipeR_nil, wipeR_cons, wz_fLc, kLcB_t, kLc_s, lcF_nil, lcF_cons, kL1_s, kL2_t, kL2_f, kL2_d, kL3_s, tYes_s, wz_lcT, wz_jVal, kJV_l, kJV_t, kJV_s, wz_jL1, kJ1_s, wz_jL2, kJ2_s, wz_jR1, kJR1_s, wz_jR2, kJR2_s, wz_pHere, kMu_s, mutF_here, kNx_s, wz_sApp, kApp_s, appT_l, wz_sSetIx, kSI_s, setT_l, setT_ds, setT_di, wz_fzS, kF2_u, kF2_f, kF2_l, kF2_d, wz_sFz, kFS_s, gIn_ss, gIn_ii, gNotIn_ss, gNotIn_ii, gEq_sn, gEq_ns, gEq_in, gEq_ni, gEq_nn, gNe_sn, gNe_ns, gNe_in, gNe_ni, gNe_nn, gSum_l, gList_l, gList_t, gTuple_l, gTuple_t, atN_nil, atN_cons, atD_nil, atD_cons, setN_cons, sub_o, sub_l, sub_t, upd_o, upd_l, upd_t, getP_nil, getP_cons, kGp_s, putP_nil, putP_cons, kPp_s, kNn_f, kNn_l, kNn_dk, gAtt_f, gAtt_o, wz_pAt, kPA_s, kPA2_s, kPA3_s, wz_pIx, kPI_s, kPI2_l, kPI2_t, kPI3_s, kPI4_s, ixN_pos, ixN_neg, mutF_at, kM1_s, kM2_s, wz_sAtt, kSAt_s, attT_o, kAt_n, kAt_f, wz_sAttM, kSAM_s, kSAM2_s, attM_o, kAM_n, wz_sAttAug, kAG_s, kAG2_s, kAG5_s, wz_mE, kME_s, wz_mP, kMP_s, wz_mV, kMV_f, kMV_l, kMV_dk, kMV_ll, kMV_tu, kMV_o, wz_msNil, wz_msCons, kMs_s, kMs2_s, wz_mTup, wz_mLst, kMTup_s, kMLst_s, wz_mNew, kMN_s, kMN2_s, wz_mNewD, wz_mPart, kMPt_s, kMPt2_s, kMPt3_l, kMPt3_d, wz_mCall, kMC_s, kMC2_s, kMC3_s, wz_mCat, kMCa_s, kMCa2_s, gCatO_ol, gCatO_ll, gCatO_lo, gCat_ol, gCat_lo, gCat_oo, wz_mLc, kMLc_s, wz_sAppM, kAM1_s, kAM2_l, kAM2_ll, kAM3_s, appM_ll, wz_fPop, kPop_s, kPop2_s, kPop3_s, kPop4_s, popT_l, popT_tu, popT_lf, gTupM2, gTupM3, gTupM4, gTupN2, gTupN3, gTupN4, wz_sAsg, kAsg_s, wz_bNil, wz_bCons, kBC_s, kBC2_s, wz_bSlot, kBS_f, kBS_l, kBS_dk, kBS_ll, kBS_tu, kBS_o, kBS2_s, take_nil, take_v, take_s, kTs_f, kTs_l, kTs_dk, kTs_ll, kTs_tu, kTs_o, kTk_s, put_nil, put_v, put_s, wz_fCall, kCl_s, kCl2_s, kIo_t, kCl3_s, ioOk_nil, ioOk_cons, isF_f, cont_nil, cont_cons, conS_nil, conS_cons, wz_fMeth, kMt_s, kMt2_f, wz_fMethV, kMv_o, kMv_f, kMv2_f, kCall_o, kCall_l, kCall_dk, kCall_tu, kCall_ll, kCall_f1, kCall_f2, kCO_s, kCO2_i, kCO2_b, kCO2_s, fzs_nil, fzs_cons, kFs_s, fz_f, fz_l, fz_dk, fz_o, fz_tu, fz_ll, kFo_s, kFt_s, kFl_s, kF2_o, kF2_tu, kF2_ll, kFz2_s, kFz_o, kFz_tu, kFz_ll, kFzR_s, wz_fzR, val_ok, wz_fMake, kMk_s, kMk2_s, wz_mkF, kMk3_t, kMk4_s, wz_oAnd, wz_oOr, kOAnd_t, kOAnd_f, kOOr_f, kOOr_t, wz_sAug, gAddI_i, wz_fGet, kG3_s, gGet_f, gGet_o, gCopy_f, gCopy_o, wz_sClr, kClr_s, clrT_s, gRevL_l, gRevL_o, gVals_f, gVals_o, kNn_ll, kNn_tu, kNn_o, gIx_ll, gIx_tu, gLen_ll, gLen_tu, gLen_dk, gLen_df, kRun_rt, kRun_nx, outs_nil, outs_cons, kOut_t, kOut_f, last_n, last_g, last_s, cast1, cast2, cast3, cast4, cast5, cast6, cast7, cast8, cast9, cast10, cast11, cast12, wz_sWhile, kW1_f, kW1_t, kW2_nx, kW2_ct, kW2_bk, kW2_rt, gDictOf_f, gDictOf_o, wz_fTix, kTix_s, kNoX_nx, kNoX_rt, wz_sForK, kForK_s, wz_fE2, kE2_s, wz_sSetIxE, kSE_s, kSE2_s, kSE3_l, kSE4_s, wz_bAl, kAl_dk, kAl2_s, take_a, put_a, wz_fCallA, kCA_do, isF_un, wz_fD0, wz_mCopy, kCp_f, kCp_o, nn_dix, wz_fNewX, gInZ_b, gNotInZ_b, wz_sSetX, kSX_s, setX_b, gListX_l, gListX_t, gListX_d, kTp_s, kLs_s, kNl_s, kDisp_s, gCat_l, gCat_s, oval_rt', oval_nx', gMod_ok, Sum.inr.injEq, Sum.inl.injEq, reduceCtorEq, String.reduceEq, reduceIte, gAdd_i, gSub_i, gBAnd_i, gBOr_i, gBXor_i, gLt_i, gLe_i, gGt_i, gGe_i, gEq_i, gEq_s, gEq_b, gEq_is, gEq_si, gNe_i, gNe_s, gNe_b, gNe_is, gNe_si, gNeg_i, gInt1_i, gInt1_b, gMax2_i, gMin2_i, gLen_l, gLen_t, gLen_o, List.getElem?_cons_zero, List.getElem?_cons_succ, List.set_cons_zero, List.set_cons_succ, List.length_cons, List.length_nil, List.map_cons, List.map_nil, List.cons_append, List.nil_append, List.replicate, List.length_map, Nat.zero_add, Nat.reduceAdd, Nat.reduceSub, Nat.reduceLeDiff, Nat.reduceEqDiff, Bool.not_true, Bool.not_false, Bool.not_not, if_true, if_false, Bool.false_eq_true, decide_true, decide_false, eq_self, Int.reduceLT, Int.reduceLE, Int.reduceEq, Int.reduceToNat, Int.reduceAdd, Int.reduceSub, Int.toNat_natCast, Bool.true_xor, Bool.true_and, Bool.and_true, Bool.false_and, Bool.and_false, Bool.true_or, Bool.or_true, Bool.false_or, Bool.or_false, Bool.false_xor, Bool.xor_false, Bool.xor_true, not_true, not_false])
local macro_rules | `(tactic| walk_at "W") => `(tactic| simp -implicitDefEqProofs (disch := (first | omega | ((try simp only [List.length_cons, List.length_nil, List.length_map, List.length_append, List.length_range, List.length_take, List.length_set, List.length_reverse, enumD_len]) <;> omega) | fail)) only [wz_var, nn_f, nn_l, nn_dk, nn_ll, nn_tu, nn_o, wz_mv, mvK_f, mvK_l, mvK_dk, mvK_ll, mvK_tu, mvK_o, wz_f1, k1_s, wz_f2, k2_s, wz_fN, kN_s, wz_fC, wz_aNil, wz_aCons, kCons_s, wz_fT, kT_s, wz_tAnd, wz_tOr, wz_tNot, kAnd_t, kAnd_f, kOr_t, kOr_f, kNot_s, wz_fIf, kIf_t, kIf_f, wz_fAnd, wz_fOr, kBl_s, wz_fNot, wz_lift, kLift_s, wz_fFz, kFz_f, kFz_l, kFz_dk, wz_sNil, wz_sSeq, kSeq_nx, kSeq_rt, kSeq_bk, kSeq_ct, kSeq_xc, wz_sSet, kSet_s, wz_sExpr, kEx_s, wz_sRet, kRet_s, wz_sRetN, wz_sBk, wz_sCt, wz_liftB, kLiB_s, wz_oTest, kTst_s, wz_oNot, kONot_s, wz_sIf, kIfS_t, kIfS_f, kIfS_d, kV_s, wz_fCallV, kCall_0, kCall_1, kCall_2, kCall_3, kCall_4, kCall_5, kCall_6, kCall_7, wz_fDispD, wz_pNil, wz_pCons, kPair_s, kPair_i, wz_fNewL, kNl'_s, wz_fNewD, wz_sFor, kFor_s, for_nil, for_cons, kTgt_s, kBody_nx, kBody_ct, kBody_bk, kBody_rt, kBody_xc, wz_iVal, kIt_l, kIt_t, kIt_s, wz_iL1, kI1_s, wz_iL2, kI2_s, wz_iR1, kR1_s, wz_iR2, kR2_s, wz_gSet, wz_gsNil, wz_gsCons, kGs_s, deep_nil, deep_f, kDc_s, wz_gTup, wz_gLst, gSl_l, gSl_o, wz_sl00, wz_sl10, wz_sl01, wz_sl11, kS00_s, kS10_s, kS01_s, kS11_s, wz_fIsi, gIsi_ii, gIsi_ib, gIsi_ll, gIsi_lo, gIsi_tt, gIsi_ss, gIsi_bb, gIsi_dd, dec01, str_inj, gDiv_o, gMul_o, gShl_o, gShr_o, kVT_s, gIx_lst, gIx_own, gIx_tup, gIx_dct, gIx_dcti, gIx_odct, gIx_odcti, atI_pos, atI_neg, gTupT1, gTupT2, gTupT3, gTupT4, gTupT5, gIsNn_i, gIsNn_s, gIsNn_b, gIsNn_n, gIsNn_l, gIsNn_t, gIsNn_d, gIsNn_o, gIsNn_od, wz_fIsN, wz_fChain, kChain_s, kCh1_t, kCh1_f, kTurn_s, okW_nil, okW_cons, okV_n, okV_u, okV_f, wipeR_nil, wipeR_cons, wz_fLc, kLcB_t, kLc_s, lcF_nil, lcF_cons, kL1_s, kL2_t, kL2_f, kL2_d, kL3_s, tYes_s, wz_lcT, wz_jVal, kJV_l, kJV_t, kJV_s, wz_jL1, kJ1_s, wz_jL2, kJ2_s, wz_jR1, kJR1_s, wz_jR2, kJR2_s, wz_pHere, kMu_s, mutF_here, kNx_s, wz_sApp, kApp_s, appT_l, wz_sSetIx, kSI_s, setT_l, setT_ds, setT_di, wz_fzS, kF2_u, kF2_f, kF2_l, kF2_d, wz_sFz, kFS_s, gIn_ss, gIn_ii, gNotIn_ss, gNotIn_ii, gEq_sn, gEq_ns, gEq_in, gEq_ni, gEq_nn, gNe_sn, gNe_ns, gNe_in, gNe_ni, gNe_nn, gSum_l, gList_l, gList_t, gTuple_l, gTuple_t, atN_nil, atN_cons, atD_nil, atD_cons, setN_cons, sub_o, sub_l, sub_t, upd_o, upd_l, upd_t, getP_nil, getP_cons, kGp_s, putP_nil, putP_cons, kPp_s, kNn_f, kNn_l, kNn_dk, gAtt_f, gAtt_o, wz_pAt, kPA_s, kPA2_s, kPA3_s, wz_pIx, kPI_s, kPI2_l, kPI2_t, kPI3_s, kPI4_s, ixN_pos, ixN_neg, mutF_at, kM1_s, kM2_s, wz_sAtt, kSAt_s, attT_o, kAt_n, kAt_f, wz_sAttM, kSAM_s, kSAM2_s, attM_o, kAM_n, wz_sAttAug, kAG_s, kAG2_s, kAG5_s, wz_mE, kME_s, wz_mP, kMP_s, wz_mV, kMV_f, kMV_l, kMV_dk, kMV_ll, kMV_tu, kMV_o, wz_msNil, wz_msCons, kMs_s, kMs2_s, wz_mTup, wz_mLst, kMTup_s, kMLst_s, wz_mNew, kMN_s, kMN2_s, wz_mNewD, wz_mPart, kMPt_s, kMPt2_s, kMPt3_l, kMPt3_d, wz_mCall, kMC_s, kMC2_s, kMC3_s, wz_mCat, kMCa_s, kMCa2_s, gCatO_ol, gCatO_ll, gCatO_lo, gCat_ol, gCat_lo, gCat_oo, wz_mLc, kMLc_s, wz_sAppM, kAM1_s, kAM2_l, kAM2_ll, kAM3_s, appM_ll, wz_fPop, kPop_s, kPop2_s, kPop3_s, kPop4_s, popT_l, popT_tu, popT_lf, gTupM2, gTupM3, gTupM4, gTupN2, gTupN3, gTupN4, wz_sAsg, kAsg_s, wz_bNil, wz_bCons, kBC_s, kBC2_s, wz_bSlot, kBS_f, kBS_l, kBS_dk, kBS_ll, kBS_tu, kBS_o, kBS2_s, take_nil, take_v, take_s, kTs_f, kTs_l, kTs_dk, kTs_ll, kTs_tu, kTs_o, kTk_s, put_nil, put_v, put_s, wz_fCall, kCl_s, kCl2_s, kIo_t, kCl3_s, ioOk_nil, ioOk_cons, isF_f, cont_nil, cont_cons, conS_nil, conS_cons, wz_fMeth, kMt_s, kMt2_f, wz_fMethV, kMv_o, kMv_f, kMv2_f, kCall_o, kCall_l, kCall_dk, kCall_tu, kCall_ll, kCall_f1, kCall_f2, kCO_s, kCO2_i, kCO2_b, kCO2_s, fzs_nil, fzs_cons, kFs_s, fz_f, fz_l, fz_dk, fz_o, fz_tu, fz_ll, kFo_s, kFt_s, kFl_s, kF2_o, kF2_tu, kF2_ll, kFz2_s, kFz_o, kFz_tu, kFz_ll, kFzR_s, wz_fzR, val_ok, wz_fMake, kMk_s, kMk2_s, wz_mkF, kMk3_t, kMk4_s, wz_oAnd, wz_oOr, kOAnd_t, kOAnd_f, kOOr_f, kOOr_t, wz_sAug, gAddI_i, wz_fGet, kG3_s, gGet_f, gGet_o, gCopy_f, gCopy_o, wz_sClr, kClr_s, clrT_s, gRevL_l, gRevL_o, gVals_f, gVals_o, kNn_ll, kNn_tu, kNn_o, gIx_ll, gIx_tu, gLen_ll, gLen_tu, gLen_dk, gLen_df, kRun_rt, kRun_nx, outs_nil, outs_cons, kOut_t, kOut_f, last_n, last_g, last_s, cast1, cast2, cast3, cast4, cast5, cast6, cast7, cast8, cast9, cast10, cast11, cast12, wz_sWhile, kW1_f, kW1_t, kW2_nx, kW2_ct, kW2_bk, kW2_rt, gDictOf_f, gDictOf_o, wz_fTix, kTix_s, kNoX_nx, kNoX_rt, wz_sForK, kForK_s, wz_fE2, kE2_s, wz_sSetIxE, kSE_s, kSE2_s, kSE3_l, kSE4_s, wz_bAl, kAl_dk, kAl2_s, take_a, put_a, wz_fCallA, kCA_do, isF_un, wz_fD0, wz_mCopy, kCp_f, kCp_o, nn_dix, wz_fNewX, gInZ_b, gNotInZ_b, wz_sSetX, kSX_s, setX_b, gListX_l, gListX_t, gListX_d, kTp_s, kLs_s, kNl_s, kDisp_s, gCat_l, gCat_s, oval_rt', oval_nx', gMod_ok, Sum.inr.injEq, Sum.inl.injEq, reduceCtorEq, String.reduceEq, reduceIte, gAdd_i, gSub_i, gBAnd_i, gBOr_i, gBXor_i, gLt_i, gLe_i, gGt_i, gGe_i, gEq_i, gEq_s, gEq_b, gEq_is, gEq_si, gNe_i, gNe_s, gNe_b, gNe_is, gNe_si, gNeg_i, gInt1_i, gInt1_b, gMax2_i, gMin2_i, gLen_l, gLen_t, gLen_o, List.getElem?_cons_zero, List.getElem?_cons_succ, List.set_cons_zero, List.set_cons_succ, List.length_cons, List.length_nil, List.map_cons, List.map_nil, List.cons_append, List.nil_append, List.replicate, List.length_map, Nat.zero_add, Nat.reduceAdd, Nat.reduceSub, Nat.reduceLeDiff, Nat.reduceEqDiff, Bool.not_true, Bool.not_false, Bool.not_not, if_true, if_false, Bool.false_eq_true, decide_true, decide_false, eq_self, Int.reduceLT, Int.reduceLE, Int.reduceEq, Int.reduceToNat, Int.reduceAdd, Int.reduceSub, Int.toNat_natCast, Bool.true_xor, Bool.true_and, Bool.and_true, Bool.false_and, Bool.and_false, Bool.true_or, Bool.or_true, Bool.false_or, Bool.or_false, Bool.false_xor, Bool.xor_false, Bool.xor_true, not_true, not_false, *])
def ops : List Str := ["plus", "less", "and", "or", "xor", "below", "same"]
def rk (op : Str) (x y : Int) (w : Nat) : Int :=
  if op = "plus" then (x + y) % 2 ^ w else if op = "less" then (x - y) % 2 ^ w else if op = "and" then Builtin.bitAnd x y
  else if op = "or" then Builtin.bitOr x y else if op = "xor" then Builtin.bitXor x y else if op = "below" then (if x < y then 1 else 0) else if x = y then 1 else 0
/-! deeds -/
inductive Opd where
  | nm (x : Str)
  | wd (i : Int)
def Opd.d : Opd → D
  | .nm x => .str x
  | .wd i => .int i
def Opd.Ok (names : List Str) (w : Nat) : Opd → Prop
  | .nm x => x ∈ names
  | .wd i => 0 ≤ i ∧ i < 2 ^ w
inductive Deed where
  | tell (a : Opd)
  | copy (n : Str) (a : Opd)
  | op (p n : Str) (a b : Opd)
def Deed.d : Deed → D
  | .tell a => .tup [.str "tell", a.d]
  | .copy n a => .tup [.str "copy", .str n, a.d]
  | .op p n a b => .tup [.str p, .str n, a.d, b.d]
def Deed.Ok (names : List Str) (w : Nat) : Deed → Prop
  | .tell a => a.Ok names w
  | .copy n a => n ∈ names ∧ a.Ok names w
  | .op p n a b => p ∈ ops ∧ n ∈ names ∧ a.Ok names w ∧ b.Ok names w
theorem isi_nm {x : Str} : gIsi "str" (.f (.str x)) = some (.f (.bl true)) := gIsi_ss
theorem kitB_is : kitB "int" "str" = some false := by decide +kernel
theorem isi_wd {i : Int} : gIsi "str" (.f (.int i)) = some (.f (.bl false)) := congrArg (Option.map fun b => T.f (.bl b)) kitB_is
theorem ops_not {p : Str} (h : p ∈ ops) : (p = "tell") = False ∧ (p = "copy") = False ∧ (p = "if") = False ∧ (p = "while") = False := by
  simp only [ops, List.mem_cons, List.mem_nil_iff, or_false] at h
  rcases h with rfl | rfl | rfl | rfl | rfl | rfl | rfl <;> exact ⟨eq_false (by decide), eq_false (by decide), eq_false (by decide), eq_false (by decide)⟩
theorem seven (j : Nat) (h : j < 7) : ∃ op, op ∈ ops ∧ [D.str "plus", .str "less", .str "and", .str "or", .str "xor", .str "below", .str "same"][j]? = some (.str op) := by
  have h3 : j = 0 ∨ j = 1 ∨ j = 2 ∨ j = 3 ∨ j = 4 ∨ j = 5 ∨ j = 6 := by omega
  rcases h3 with rfl | rfl | rfl | rfl | rfl | rfl | rfl
  · exact ⟨"plus", by simp [ops], rfl⟩
  · exact ⟨"less", by simp [ops], rfl⟩
  · exact ⟨"and", by simp [ops], rfl⟩
  · exact ⟨"or", by simp [ops], rfl⟩
  · exact ⟨"xor", by simp [ops], rfl⟩
  · exact ⟨"below", by simp [ops], rfl⟩
  · exact ⟨"same", by simp [ops], rfl⟩
def Deed.hd : Deed → Str
  | .tell _ => "tell"
  | .copy _ _ => "copy"
  | .op p _ _ _ => p
def Deed.tl : Deed → List D
  | .tell a => [a.d]
  | .copy n a => [.str n, a.d]
  | .op _ n a b => [.str n, a.d, b.d]
theorem Deed.d_eq (d : Deed) : d.d = .tup (.str d.hd :: d.tl) := by cases d <;> rfl
/-! how deeds lean -/
def Opd.rd : Opd → List Str
  | .nm x => [x]
  | .wd _ => []
def Deed.rd : Deed → List Str
  | .tell a => a.rd
  | .copy _ a => a.rd
  | .op _ _ a b => a.rd ++ b.rd
def Deed.wr : Deed → Option Str
  | .tell _ => none
  | .copy n _ => some n
  | .op _ n _ _ => some n
def gp (d e : Deed) : Option Int := match d, e with
  | .tell _, .tell _ => some 1
  | d, e => match d.wr, e.wr with
    | some n, some m => if n ∈ e.rd ∨ n = m then some 1 else if m ∈ d.rd then some 0 else none
    | some n, none => if n ∈ e.rd then some 1 else none
    | none, some m => if m ∈ d.rd then some 0 else none
    | none, none => none
def gD : Option Int → D
  | none => .non
  | some i => .int i
theorem opd_isi (a : Opd) : gIsi "str" (.f a.d) = some (.f (.bl (match a with | .nm _ => true | .wd _ => false))) := by
  cases a with
  | nm x => exact isi_nm
  | wd i => exact isi_wd
theorem tell_of {p : Str} (h : p ∈ ops) : (p = "tell") = False ∧ (p = "copy") = False := by
  simp only [ops, List.mem_cons, List.mem_nil_iff, or_false] at h
  rcases h with rfl | rfl | rfl | rfl | rfl | rfl | rfl <;> exact ⟨eq_false (by decide), eq_false (by decide)⟩
theorem cut_1 {a b : D} : cutD [a, b] (some 1) none = [b] := rfl
theorem cut_2a {a b c : D} : cutD [a, b, c] (some 2) none = [c] := rfl
theorem cut_2b {a b c d : D} : cutD [a, b, c, d] (some 2) none = [c, d] := rfl
theorem cut_2c {a b : D} : cutD [a, b] (some 2) none = [] := rfl
theorem gSl_t {ds : List D} {i : Int} (h : 0 < i) (h2 : ds ≠ []) : gSl (.f (.tup ds)) (some i) none = some (.f (.tup (cutD ds (some i) none))) := by
  show (if HT.sIx ds.length 0 (some i) = 0 ∧ HT.sIx ds.length ds.length none = ds.length then none else _) = _
  rw [if_neg]
  rintro ⟨z, _⟩
  obtain ⟨n, rfl⟩ := Int.eq_ofNat_of_zero_le (Int.le_of_lt h)
  rw [HT.sIx_nat] at z
  cases ds with
  | nil => exact h2 rfl
  | cons a l =>
    rw [List.length_cons] at z
    omega
theorem reads_ok (dd : Deed) {names : List Str} {w : Nat} (h : dd.Ok names w) : val (g_reads [.f dd.d]) = some (.lst (dd.rd.map .str)) := by
  have hv : val (g_reads [.f dd.d]) = oval (b_reads ([.f dd.d] ++ List.replicate (3 - 1) .un)) 1 := val_run (m := 1) (n := 3) rfl
  rw [hv]
  clear hv
  have c1 := @cut_1
  have c2 := @cut_2a
  have c3 := @cut_2b
  have c4 := @cut_2c
  have s1 : ∀ {ds : List D} {a : D}, gSl (.f (.tup (a :: ds))) (some 1) none = some (.f (.tup (cutD (a :: ds) (some 1) none))) := gSl_t (by decide) (by simp)
  have s2 : ∀ {ds : List D} {a : D}, gSl (.f (.tup (a :: ds))) (some 2) none = some (.f (.tup (cutD (a :: ds) (some 2) none))) := gSl_t (by decide) (by simp)
  have k1 := @isi_nm
  have k2 := @isi_wd
  cases dd with
  | tell a =>
    clear h
    cases a with
    | nm x =>
      unfold b_reads m_reads_1 n_reads_1 Deed.d Opd.d Deed.rd Opd.rd
      walk_at "W"
    | wd i =>
      unfold b_reads m_reads_1 n_reads_1 Deed.d Opd.d Deed.rd Opd.rd
      walk_at "W"
  | copy n a =>
    clear h
    cases a with
    | nm x =>
      unfold b_reads m_reads_1 n_reads_1 Deed.d Opd.d Deed.rd Opd.rd
      walk_at "W"
    | wd i =>
      unfold b_reads m_reads_1 n_reads_1 Deed.d Opd.d Deed.rd Opd.rd
      walk_at "W"
  | op p n a b =>
    have hp := (tell_of h.1).1
    clear h
    cases a with
    | nm x =>
      cases b with
      | nm y =>
        unfold b_reads m_reads_1 n_reads_1 Deed.d Opd.d Deed.rd Opd.rd
        walk_at "W"
      | wd j =>
        unfold b_reads m_reads_1 n_reads_1 Deed.d Opd.d Deed.rd Opd.rd
        walk_at "W"
    | wd i =>
      cases b with
      | nm y =>
        unfold b_reads m_reads_1 n_reads_1 Deed.d Opd.d Deed.rd Opd.rd
        walk_at "W"
      | wd j =>
        unfold b_reads m_reads_1 n_reads_1 Deed.d Opd.d Deed.rd Opd.rd
        walk_at "W"
theorem writes_ok (dd : Deed) {names : List Str} {w : Nat} (h : dd.Ok names w) : val (g_writes [.f dd.d]) = some (match dd.wr with | some n => .str n | none => .non) := by
  have hv : val (g_writes [.f dd.d]) = oval (b_writes ([.f dd.d] ++ List.replicate (1 - 1) .un)) 1 := val_run (m := 1) (n := 1) rfl
  rw [hv]
  clear hv
  cases dd with
  | tell a =>
    clear h
    unfold b_writes Deed.d Deed.wr
    walk_at "W"
  | copy n a =>
    clear h
    unfold b_writes Deed.d Deed.wr
    walk_at "W"
  | op p n a b =>
    have hp := (tell_of h.1).1
    clear h
    unfold b_writes Deed.d Deed.wr
    walk_at "W"
theorem gIsNn_T {neg : Bool} {o : Option Str} : gIsNn neg (.f (match o with | some n => .str n | none => .non)) = some (.f (.bl (xor neg o.isNone))) := by
  cases o <;> rfl
theorem gap_ok {ds : List Deed} {j k : Nat} {d e : Deed} (hj : ds[j]? = some d) (hk : ds[k]? = some e) {names : List Str} {w : Nat} (h1 : d.Ok names w) (h2 : e.Ok names w) : val (g_gap [.f (.lst (ds.map Deed.d)), .f (.int (j : Int)), .f (.int (k : Int))]) = some (gD (gp d e)) := by
  have hv : val (g_gap [.f (.lst (ds.map Deed.d)), .f (.int (j : Int)), .f (.int (k : Int))]) = oval (b_gap ([.f (.lst (ds.map Deed.d)), .f (.int (j : Int)), .f (.int (k : Int))] ++ List.replicate (6 - 3) .un)) 3 := val_run (m := 3) (n := 6) rfl
  rw [hv]
  clear hv
  have x1 : (ds.map Deed.d)[j]? = some d.d := by rw [List.getElem?_map, hj]; rfl
  have x2 : (ds.map Deed.d)[k]? = some e.d := by rw [List.getElem?_map, hk]; rfl
  have r1 := reads_ok d h1
  have r2 := reads_ok e h2
  have w1 := writes_ok d h1
  have w2 := writes_ok e h2
  clear hj hk
  cases d with
  | tell a =>
    cases e with
    | tell b =>
      clear h1 h2
      have gd0 : gD none = .non := rfl
      have gd1 : ∀ i, gD (some i) = .int i := fun _ => rfl
      generalize hg : gp _ _ = r
      simp only [Deed.d, Deed.wr] at *
      unfold b_gap
      simp [gp, Deed.wr] at hg
      subst hg
      walk_at "W"
    | copy n b =>
      clear h1 h2
      have gd0 : gD none = .non := rfl
      have gd1 : ∀ i, gD (some i) = .int i := fun _ => rfl
      generalize hg : gp _ _ = r
      simp only [Deed.d, Deed.wr] at *
      unfold b_gap
      by_cases q : n ∈ (Deed.tell a).rd
      · simp [gp, Deed.wr, q] at hg
        subst hg
        walk_at "W"
      · simp [gp, Deed.wr, q] at hg
        subst hg
        walk_at "W"
    | op p n b b2 =>
      have hp := (tell_of h2.1).1
      clear h1 h2
      have gd0 : gD none = .non := rfl
      have gd1 : ∀ i, gD (some i) = .int i := fun _ => rfl
      generalize hg : gp _ _ = r
      simp only [Deed.d, Deed.wr] at *
      unfold b_gap
      by_cases q : n ∈ (Deed.tell a).rd
      · simp [gp, Deed.wr, q] at hg
        subst hg
        walk_at "W"
      · simp [gp, Deed.wr, q] at hg
        subst hg
        walk_at "W"
  | copy n a =>
    cases e with
    | tell b =>
      clear h1 h2
      have gd0 : gD none = .non := rfl
      have gd1 : ∀ i, gD (some i) = .int i := fun _ => rfl
      generalize hg : gp _ _ = r
      simp only [Deed.d, Deed.wr] at *
      unfold b_gap
      by_cases q : n ∈ (Deed.tell b).rd
      · simp [gp, Deed.wr, q] at hg
        subst hg
        walk_at "W"
      · simp [gp, Deed.wr, q] at hg
        subst hg
        walk_at "W"
    | copy m b =>
      clear h1 h2
      have gd0 : gD none = .non := rfl
      have gd1 : ∀ i, gD (some i) = .int i := fun _ => rfl
      generalize hg : gp _ _ = r
      simp only [Deed.d, Deed.wr] at *
      unfold b_gap
      by_cases q : n ∈ (Deed.copy m b).rd
      · simp [gp, Deed.wr, q] at hg
        subst hg
        walk_at "W"
      · by_cases q2 : n = m
        · subst q2
          simp [gp, Deed.wr, q] at hg
          subst hg
          walk_at "W"
        · by_cases q3 : m ∈ (Deed.copy n a).rd
          · simp [gp, Deed.wr, q3, q2, q] at hg
            subst hg
            walk_at "W"
          · simp [gp, Deed.wr, q3, q2, q] at hg
            subst hg
            walk_at "W"
    | op p m b b2 =>
      have hp := (tell_of h2.1).1
      clear h1 h2
      have gd0 : gD none = .non := rfl
      have gd1 : ∀ i, gD (some i) = .int i := fun _ => rfl
      generalize hg : gp _ _ = r
      simp only [Deed.d, Deed.wr] at *
      unfold b_gap
      by_cases q : n ∈ (Deed.op p m b b2).rd
      · simp [gp, Deed.wr, q] at hg
        subst hg
        walk_at "W"
      · by_cases q2 : n = m
        · subst q2
          simp [gp, Deed.wr, q] at hg
          subst hg
          walk_at "W"
        · by_cases q3 : m ∈ (Deed.copy n a).rd
          · simp [gp, Deed.wr, q3, q2, q] at hg
            subst hg
            walk_at "W"
          · simp [gp, Deed.wr, q3, q2, q] at hg
            subst hg
            walk_at "W"
  | op p n a a2 =>
    have hp := (tell_of h1.1).1
    cases e with
    | tell b =>
      clear h1 h2
      have gd0 : gD none = .non := rfl
      have gd1 : ∀ i, gD (some i) = .int i := fun _ => rfl
      generalize hg : gp _ _ = r
      simp only [Deed.d, Deed.wr] at *
      unfold b_gap
      by_cases q : n ∈ (Deed.tell b).rd
      · simp [gp, Deed.wr, q] at hg
        subst hg
        walk_at "W"
      · simp [gp, Deed.wr, q] at hg
        subst hg
        walk_at "W"
    | copy m b =>
      clear h1 h2
      have gd0 : gD none = .non := rfl
      have gd1 : ∀ i, gD (some i) = .int i := fun _ => rfl
      generalize hg : gp _ _ = r
      simp only [Deed.d, Deed.wr] at *
      unfold b_gap
      by_cases q : n ∈ (Deed.copy m b).rd
      · simp [gp, Deed.wr, q] at hg
        subst hg
        walk_at "W"
      · by_cases q2 : n = m
        · subst q2
          simp [gp, Deed.wr, q] at hg
          subst hg
          walk_at "W"
        · by_cases q3 : m ∈ (Deed.op p n a a2).rd
          · simp [gp, Deed.wr, q3, q2, q] at hg
            subst hg
            walk_at "W"
          · simp [gp, Deed.wr, q3, q2, q] at hg
            subst hg
            walk_at "W"
    | op p2 m b b2 =>
      have hp2 := (tell_of h2.1).1
      clear h1 h2
      have gd0 : gD none = .non := rfl
      have gd1 : ∀ i, gD (some i) = .int i := fun _ => rfl
      generalize hg : gp _ _ = r
      simp only [Deed.d, Deed.wr] at *
      unfold b_gap
      by_cases q : n ∈ (Deed.op p2 m b b2).rd
      · simp [gp, Deed.wr, q] at hg
        subst hg
        walk_at "W"
      · by_cases q2 : n = m
        · subst q2
          simp [gp, Deed.wr, q] at hg
          subst hg
          walk_at "W"
        · by_cases q3 : m ∈ (Deed.op p n a a2).rd
          · simp [gp, Deed.wr, q3, q2, q] at hg
            subst hg
            walk_at "W"
          · simp [gp, Deed.wr, q3, q2, q] at hg
            subst hg
            walk_at "W"
theorem law_reads_ok (dd : Deed) {names : List Str} {w : Nat} (h : dd.Ok names w) : val (g_law_reads [.f dd.d]) = some (.lst (dd.rd.map .str)) := by
  have hv : val (g_law_reads [.f dd.d]) = oval (b_law_reads ([.f dd.d] ++ List.replicate (3 - 1) .un)) 1 := val_run (m := 1) (n := 3) rfl
  rw [hv]
  clear hv
  have c1 := @cut_1
  have c2 := @cut_2a
  have c3 := @cut_2b
  have c4 := @cut_2c
  have s1 : ∀ {ds : List D} {a : D}, gSl (.f (.tup (a :: ds))) (some 1) none = some (.f (.tup (cutD (a :: ds) (some 1) none))) := gSl_t (by decide) (by simp)
  have s2 : ∀ {ds : List D} {a : D}, gSl (.f (.tup (a :: ds))) (some 2) none = some (.f (.tup (cutD (a :: ds) (some 2) none))) := gSl_t (by decide) (by simp)
  have k1 := @isi_nm
  have k2 := @isi_wd
  cases dd with
  | tell a =>
    clear h
    cases a with
    | nm x =>
      unfold b_law_reads m_law_reads_1 n_law_reads_1 Deed.d Opd.d Deed.rd Opd.rd
      walk_at "W"
    | wd i =>
      unfold b_law_reads m_law_reads_1 n_law_reads_1 Deed.d Opd.d Deed.rd Opd.rd
      walk_at "W"
  | copy n a =>
    clear h
    cases a with
    | nm x =>
      unfold b_law_reads m_law_reads_1 n_law_reads_1 Deed.d Opd.d Deed.rd Opd.rd
      walk_at "W"
    | wd i =>
      unfold b_law_reads m_law_reads_1 n_law_reads_1 Deed.d Opd.d Deed.rd Opd.rd
      walk_at "W"
  | op p n a b =>
    have hp := (tell_of h.1).1
    clear h
    cases a with
    | nm x =>
      cases b with
      | nm y =>
        unfold b_law_reads m_law_reads_1 n_law_reads_1 Deed.d Opd.d Deed.rd Opd.rd
        walk_at "W"
      | wd j =>
        unfold b_law_reads m_law_reads_1 n_law_reads_1 Deed.d Opd.d Deed.rd Opd.rd
        walk_at "W"
    | wd i =>
      cases b with
      | nm y =>
        unfold b_law_reads m_law_reads_1 n_law_reads_1 Deed.d Opd.d Deed.rd Opd.rd
        walk_at "W"
      | wd j =>
        unfold b_law_reads m_law_reads_1 n_law_reads_1 Deed.d Opd.d Deed.rd Opd.rd
        walk_at "W"
theorem law_gap_ok {d e : Deed} {names : List Str} {w : Nat} (h1 : d.Ok names w) (h2 : e.Ok names w) : val (g_law_gap [.f d.d, .f e.d]) = some (gD (gp d e)) := by
  have hv : val (g_law_gap [.f d.d, .f e.d]) = oval (b_law_gap ([.f d.d, .f e.d] ++ List.replicate (2 - 2) .un)) 2 := val_run (m := 2) (n := 2) rfl
  rw [hv]
  clear hv
  have r1 := law_reads_ok d h1
  have r2 := law_reads_ok e h2
  cases d with
  | tell a =>
    cases e with
    | tell b =>
      clear h1 h2
      have gd0 : gD none = .non := rfl
      have gd1 : ∀ i, gD (some i) = .int i := fun _ => rfl
      generalize hg : gp _ _ = r
      simp only [Deed.d, Deed.wr] at *
      unfold b_law_gap
      simp [gp, Deed.wr] at hg
      subst hg
      walk_at "W"
    | copy n b =>
      clear h1 h2
      have gd0 : gD none = .non := rfl
      have gd1 : ∀ i, gD (some i) = .int i := fun _ => rfl
      generalize hg : gp _ _ = r
      simp only [Deed.d, Deed.wr] at *
      unfold b_law_gap
      by_cases q : n ∈ (Deed.tell a).rd
      · simp [gp, Deed.wr, q] at hg
        subst hg
        walk_at "W"
      · simp [gp, Deed.wr, q] at hg
        subst hg
        walk_at "W"
    | op p n b b2 =>
      have hp := (tell_of h2.1).1
      clear h1 h2
      have gd0 : gD none = .non := rfl
      have gd1 : ∀ i, gD (some i) = .int i := fun _ => rfl
      generalize hg : gp _ _ = r
      simp only [Deed.d, Deed.wr] at *
      unfold b_law_gap
      by_cases q : n ∈ (Deed.tell a).rd
      · simp [gp, Deed.wr, q] at hg
        subst hg
        walk_at "W"
      · simp [gp, Deed.wr, q] at hg
        subst hg
        walk_at "W"
  | copy n a =>
    cases e with
    | tell b =>
      clear h1 h2
      have gd0 : gD none = .non := rfl
      have gd1 : ∀ i, gD (some i) = .int i := fun _ => rfl
      generalize hg : gp _ _ = r
      simp only [Deed.d, Deed.wr] at *
      unfold b_law_gap
      by_cases q : n ∈ (Deed.tell b).rd
      · simp [gp, Deed.wr, q] at hg
        subst hg
        walk_at "W"
      · simp [gp, Deed.wr, q] at hg
        subst hg
        walk_at "W"
    | copy m b =>
      clear h1 h2
      have gd0 : gD none = .non := rfl
      have gd1 : ∀ i, gD (some i) = .int i := fun _ => rfl
      generalize hg : gp _ _ = r
      simp only [Deed.d, Deed.wr] at *
      unfold b_law_gap
      by_cases q : n ∈ (Deed.copy m b).rd
      · simp [gp, Deed.wr, q] at hg
        subst hg
        walk_at "W"
      · by_cases q2 : n = m
        · subst q2
          simp [gp, Deed.wr, q] at hg
          subst hg
          walk_at "W"
        · by_cases q3 : m ∈ (Deed.copy n a).rd
          · simp [gp, Deed.wr, q3, q2, q] at hg
            subst hg
            walk_at "W"
          · simp [gp, Deed.wr, q3, q2, q] at hg
            subst hg
            walk_at "W"
    | op p m b b2 =>
      have hp := (tell_of h2.1).1
      clear h1 h2
      have gd0 : gD none = .non := rfl
      have gd1 : ∀ i, gD (some i) = .int i := fun _ => rfl
      generalize hg : gp _ _ = r
      simp only [Deed.d, Deed.wr] at *
      unfold b_law_gap
      by_cases q : n ∈ (Deed.op p m b b2).rd
      · simp [gp, Deed.wr, q] at hg
        subst hg
        walk_at "W"
      · by_cases q2 : n = m
        · subst q2
          simp [gp, Deed.wr, q] at hg
          subst hg
          walk_at "W"
        · by_cases q3 : m ∈ (Deed.copy n a).rd
          · simp [gp, Deed.wr, q3, q2, q] at hg
            subst hg
            walk_at "W"
          · simp [gp, Deed.wr, q3, q2, q] at hg
            subst hg
            walk_at "W"
  | op p n a a2 =>
    have hp := (tell_of h1.1).1
    cases e with
    | tell b =>
      clear h1 h2
      have gd0 : gD none = .non := rfl
      have gd1 : ∀ i, gD (some i) = .int i := fun _ => rfl
      generalize hg : gp _ _ = r
      simp only [Deed.d, Deed.wr] at *
      unfold b_law_gap
      by_cases q : n ∈ (Deed.tell b).rd
      · simp [gp, Deed.wr, q] at hg
        subst hg
        walk_at "W"
      · simp [gp, Deed.wr, q] at hg
        subst hg
        walk_at "W"
    | copy m b =>
      clear h1 h2
      have gd0 : gD none = .non := rfl
      have gd1 : ∀ i, gD (some i) = .int i := fun _ => rfl
      generalize hg : gp _ _ = r
      simp only [Deed.d, Deed.wr] at *
      unfold b_law_gap
      by_cases q : n ∈ (Deed.copy m b).rd
      · simp [gp, Deed.wr, q] at hg
        subst hg
        walk_at "W"
      · by_cases q2 : n = m
        · subst q2
          simp [gp, Deed.wr, q] at hg
          subst hg
          walk_at "W"
        · by_cases q3 : m ∈ (Deed.op p n a a2).rd
          · simp [gp, Deed.wr, q3, q2, q] at hg
            subst hg
            walk_at "W"
          · simp [gp, Deed.wr, q3, q2, q] at hg
            subst hg
            walk_at "W"
    | op p2 m b b2 =>
      have hp2 := (tell_of h2.1).1
      clear h1 h2
      have gd0 : gD none = .non := rfl
      have gd1 : ∀ i, gD (some i) = .int i := fun _ => rfl
      generalize hg : gp _ _ = r
      simp only [Deed.d, Deed.wr] at *
      unfold b_law_gap
      by_cases q : n ∈ (Deed.op p2 m b b2).rd
      · simp [gp, Deed.wr, q] at hg
        subst hg
        walk_at "W"
      · by_cases q2 : n = m
        · subst q2
          simp [gp, Deed.wr, q] at hg
          subst hg
          walk_at "W"
        · by_cases q3 : m ∈ (Deed.op p n a a2).rd
          · simp [gp, Deed.wr, q3, q2, q] at hg
            subst hg
            walk_at "W"
          · simp [gp, Deed.wr, q3, q2, q] at hg
            subst hg
            walk_at "W"
/-! laying: what is reckoned -/
def srt : Deed → Option Nat
  | .op p _ _ _ => if p = "plus" ∨ p = "less" then some 0 else if p = "below" ∨ p = "same" then some 1 else some 2
  | _ => none
def sD : Option Nat → D
  | none => .non
  | some n => .int (n : Int)
def kS (ds : List Deed) (k : Nat) : Option Nat := (ds[k]?).bind srt
def hasS (ds : List Deed) (s k : Nat) : Bool := decide (kS ds k = some s)
def cnt (ds : List Deed) (s : Nat) (b : List Nat) : Nat := (b.filter (hasS ds s)).length
def fitsB (ds : List Deed) (u : Nat → Nat) (b : List Nat) : Bool := decide (cnt ds 0 b ≤ u 0) && (decide (cnt ds 1 b ≤ u 1) && decide (cnt ds 2 b ≤ u 2))
def gpk (ds : List Deed) (j k : Nat) : Option Int := (ds[j]?).bind fun d => (ds[k]?).bind fun e => gp d e
def dn (done : List Bool) (j : Nat) : Bool := (done[j]?).getD false
def leanB (ds : List Deed) (done : List Bool) (b : List Nat) (k j : Nat) : Bool := dn done j || (!decide (gpk ds j k = some 1) && (!decide (gpk ds j k = some 0) || decide (j ∈ b)))
def mayB (ds : List Deed) (done : List Bool) (b : List Nat) (k : Nat) : Bool := (List.range k).all (leanB ds done b k)
def okB (ds : List Deed) (u : Nat → Nat) (done : List Bool) (k : Nat) (b : List Nat) : Bool := mayB ds done b k && fitsB ds u (b ++ [k])
def fullK (ds : List Deed) (u : Nat → Nat) (done : List Bool) (b : List Nat) (k : Nat) : Bool := dn done k || (decide (k ∈ b) || !okB ds u done k b)
def fullB (ds : List Deed) (u : Nat → Nat) (done : List Bool) (b : List Nat) : Bool := (List.range ds.length).all (fullK ds u done b)
def keepB (ds : List Deed) (u : Nat → Nat) (done : List Bool) (k : Nat) (b : List Nat) : Bool := !okB ds u done k b || (kS ds k).isSome
def stepB (ds : List Deed) (u : Nat → Nat) (done : List Bool) (f : List (List Nat)) (k : Nat) : List (List Nat) :=
  if dn done k = true then f else (f.filter (okB ds u done k)).map (· ++ [k]) ++ f.filter (keepB ds u done k)
def foundB (ds : List Deed) (u : Nat → Nat) (done : List Bool) (n : Nat) : List (List Nat) := (List.range n).foldl (stepB ds u done) [[]]
def nextB (ds : List Deed) (u : Nat → Nat) (done : List Bool) : List (List Nat) := (foundB ds u done ds.length).filter (fullB ds u done)
def nI (b : List Nat) : List Int := b.map fun k : Nat => (k : Int)
def nL (b : List Nat) : D := .lst ((nI b).map .int)
def uD (u : Nat → Nat) : D := .tup [.int (u 0 : Nat), .int (u 1 : Nat), .int (u 2 : Nat)]
theorem nI_mem {k : Nat} {b : List Nat} : ((k : Int) ∈ nI b) = (k ∈ b) := by
  apply propext
  unfold nI
  rw [List.mem_map]
  constructor
  · rintro ⟨j, h, e⟩
    rw [← Int.ofNat_inj.mp e]
    exact h
  · intro h
    exact ⟨k, h, rfl⟩
theorem nI_len {b : List Nat} : (nI b).length = b.length := List.length_map _
theorem nI_app {b c : List Nat} : nI (b ++ c) = nI b ++ nI c := List.map_append
theorem gIn_st {l : List Str} {z : Str} : gIn (.f (.str z)) (.f (.tup (l.map D.str))) = some (.f (.bl (decide (z ∈ l)))) := by
  rw [show gIn (.f (.str z)) (.f (.tup (l.map D.str))) = _ from or2_some (gIn_of (neg := false) rfl rfl (flat_strs l)), any_v, Bool.false_xor]
theorem sort_ok (d : Deed) {names : List Str} {w : Nat} (h : d.Ok names w) : val (g_sort_of [.f d.d]) = some (sD (srt d)) := by
  have hv : val (g_sort_of [.f d.d]) = oval (b_sort_of ([.f d.d] ++ List.replicate (1 - 1) .un)) 1 := val_run (m := 1) (n := 1) rfl
  rw [hv]
  clear hv
  have i2 : ∀ z a b : Str, gIn (.f (.str z)) (.f (.tup [.str a, .str b])) = some (.f (.bl (decide (z ∈ [a, b])))) := fun z a b => gIn_st (l := [a, b])
  have i3 : ∀ z a b c : Str, gIn (.f (.str z)) (.f (.tup [.str a, .str b, .str c])) = some (.f (.bl (decide (z ∈ [a, b, c])))) := fun z a b c => gIn_st (l := [a, b, c])
  have key : ∀ (p : Str) (tl : List D) (r : D) (c1 c2 c3 : Bool), decide (p ∈ (["plus", "less"] : List Str)) = c1 → decide (p ∈ (["below", "same"] : List Str)) = c2 → decide (p ∈ (["and", "or", "xor"] : List Str)) = c3 →
      r = (if c1 = true then .int 0 else if c2 = true then .int 1 else if c3 = true then .int 2 else .non) → oval (b_sort_of [.f (.tup (.str p :: tl))]) 1 = some r := by
    intro p tl r c1 c2 c3 h1 h2 h3 hr
    subst hr
    unfold b_sort_of
    cases c1 <;> cases c2 <;> cases c3 <;> walk_at "W"
  cases d with
  | tell a => exact key "tell" _ _ false false false (by decide) (by decide) (by decide) rfl
  | copy n a => exact key "copy" _ _ false false false (by decide) (by decide) (by decide) rfl
  | op p n a b =>
    have hp := h.1
    simp only [ops, List.mem_cons, List.mem_nil_iff, or_false] at hp
    rcases hp with rfl | rfl | rfl | rfl | rfl | rfl | rfl
    · exact key "plus" _ _ true false false (by decide) (by decide) (by decide) rfl
    · exact key "less" _ _ true false false (by decide) (by decide) (by decide) rfl
    · exact key "and" _ _ false false true (by decide) (by decide) (by decide) rfl
    · exact key "or" _ _ false false true (by decide) (by decide) (by decide) rfl
    · exact key "xor" _ _ false false true (by decide) (by decide) (by decide) rfl
    · exact key "below" _ _ false true false (by decide) (by decide) (by decide) rfl
    · exact key "same" _ _ false true false (by decide) (by decide) (by decide) rfl
structure DsOk (ds : List Deed) (names : List Str) (w : Nat) : Prop where
  ok : ∀ d ∈ ds, d.Ok names w
  len : ds.length ≤ 8
theorem kS_at {ds : List Deed} {names : List Str} {w k : Nat} (h : DsOk ds names w) (hk : k < ds.length) : ∃ d, ds[k]? = some d ∧ d.Ok names w ∧ kS ds k = srt d := by
  refine ⟨ds[k], List.getElem?_eq_getElem hk, h.ok _ (List.getElem_mem hk), ?_⟩
  unfold kS
  rw [List.getElem?_eq_getElem hk]
  rfl
theorem gEq_sD {o : Option Nat} {s : Nat} : gEq (.f (sD o)) (.f (.int (s : Int))) = some (.f (.bl (decide (o = some s)))) := by
  cases o with
  | none => rfl
  | some n =>
    show gEq (.f (.int (n : Int))) (.f (.int (s : Int))) = _
    rw [gEq_i]
    congr 3
    by_cases h : n = s
    · subst h; simp
    · have h1 : ¬ (n : Int) = s := by omega
      have h2 : ¬ some n = some s := fun e => h (Option.some.inj e)
      rw [decide_eq_false h1, decide_eq_false h2]
theorem flat_filter {α : Type} (p : α → Bool) (φ : α → D) : ∀ b : List α, (b.flatMap fun k => if p k = true then [φ k] else []) = (b.filter p).map φ
  | [] => rfl
  | a :: b => by
    rw [List.flatMap_cons, flat_filter p φ b, List.filter_cons]
    cases p a <;> rfl
theorem fits_ok {ds : List Deed} {u : Nat → Nat} {b : List Nat} {names : List Str} {w : Nat} (h : DsOk ds names w) (hb : ∀ k ∈ b, k < ds.length) (hz : b.length ≤ 100) :
    val (g_fits_units [.f (.lst (ds.map Deed.d)), .f (uD u), .f (nL b)]) = some (.bl (fitsB ds u b)) := by
  have hv : val (g_fits_units [.f (.lst (ds.map Deed.d)), .f (uD u), .f (nL b)]) = oval (b_fits_units ([.f (.lst (ds.map Deed.d)), .f (uD u), .f (nL b)] ++ List.replicate (5 - 3) .un)) 3 := val_run (m := 3) (n := 5) rfl
  rw [hv]
  clear hv
  unfold b_fits_units fitsB uD nL
  have hl : ∀ (s : Nat) (z : Int) (s4 : T), z = (s : Int) → lcF (gSet 4) n_fits_units_1 m_fits_units_1 [.f (.lst (ds.map Deed.d)), .f (.tup [.int (u 0 : Nat), .int (u 1 : Nat), .int (u 2 : Nat)]), .f (.lst ((nI b).map .int)), .f (.int z), s4] ((nI b).map .int) = some ((nI (b.filter (hasS ds s))).map .int) := by
    intro s z s4 hz
    subst hz
    have e : (nI b).map D.int = b.map fun k : Nat => D.int (k : Int) := by unfold nI; rw [List.map_map]; rfl
    rw [e, lcF_of (φ := fun k : Nat => D.int (k : Int)) (G := fun k => if hasS ds s k = true then [D.int (k : Int)] else []), flat_filter]
    · unfold nI; rw [List.map_map]; rfl
    · intro k hk
      obtain ⟨d, hd, ho, hs⟩ := kS_at h (hb k hk)
      have so := sort_ok d ho
      have x1 : (ds.map Deed.d)[k]? = some d.d := by rw [List.getElem?_map, hd]; rfl
      have q := gEq_sD (o := srt d) (s := s)
      unfold n_fits_units_1 m_fits_units_1
      have hh : hasS ds s k = decide (srt d = some s) := by unfold hasS; rw [hs]
      rw [hh]
      clear hh hs hd ho h hb e
      generalize srt d = o at *
      by_cases z : o = some s
      · rw [decide_eq_true z] at q ⊢
        clear z
        walk_at "W"
      · rw [decide_eq_false z] at q ⊢
        clear z
        walk_at "W"
  have r3 : rangeD 0 3 = [.int 0, .int 1, .int 2] := rfl
  have h0 := fun s4 => hl 0 0 s4 rfl
  have h1 := fun s4 => hl 1 1 s4 rfl
  have h2 := fun s4 => hl 2 2 s4 rfl
  have c0 : ((nI (b.filter (hasS ds 0))).map D.int).length = cnt ds 0 b := by rw [List.length_map, nI_len]; rfl
  have c1 : ((nI (b.filter (hasS ds 1))).map D.int).length = cnt ds 1 b := by rw [List.length_map, nI_len]; rfl
  have c2 : ((nI (b.filter (hasS ds 2))).map D.int).length = cnt ds 2 b := by rw [List.length_map, nI_len]; rfl
  have l0 : cnt ds 0 b ≤ 100 := Nat.le_trans (List.length_filter_le _ _) hz
  have l1 : cnt ds 1 b ≤ 100 := Nat.le_trans (List.length_filter_le _ _) hz
  have l2 : cnt ds 2 b ≤ 100 := Nat.le_trans (List.length_filter_le _ _) hz
  clear hz
  generalize (nI (b.filter (hasS ds 0))).map D.int = m0 at *
  generalize (nI (b.filter (hasS ds 1))).map D.int = m1 at *
  generalize (nI (b.filter (hasS ds 2))).map D.int = m2 at *
  generalize cnt ds 0 b = n0 at *
  generalize cnt ds 1 b = n1 at *
  generalize cnt ds 2 b = n2 at *
  generalize (nI b).map D.int = bb at *
  clear hl hb h
  unfold l_fits_units_1
  by_cases z0 : n0 ≤ u 0
  · have y0 : (decide ((u 0 : Int) < (n0 : Int))) = false := decide_eq_false (by omega)
    rw [decide_eq_true z0]
    by_cases z1 : n1 ≤ u 1
    · have y1 : (decide ((u 1 : Int) < (n1 : Int))) = false := decide_eq_false (by omega)
      rw [decide_eq_true z1]
      by_cases z2 : n2 ≤ u 2
      · have y2 : (decide ((u 2 : Int) < (n2 : Int))) = false := decide_eq_false (by omega)
        rw [decide_eq_true z2]
        clear z0 z1 z2
        walk_at "W"
      · have y2 : (decide ((u 2 : Int) < (n2 : Int))) = true := decide_eq_true (by omega)
        rw [decide_eq_false z2]
        clear z0 z1 z2
        walk_at "W"
    · have y1 : (decide ((u 1 : Int) < (n1 : Int))) = true := decide_eq_true (by omega)
      rw [decide_eq_false z1]
      clear z0 z1
      walk_at "W"
  · have y0 : (decide ((u 0 : Int) < (n0 : Int))) = true := decide_eq_true (by omega)
    rw [decide_eq_false z0]
    clear z0
    walk_at "W"
/-! loops that may end early -/
theorem for_rangeR {fg : T → List T → Option (List T)} {fb : FS} (n : Nat) (P : Nat → List T → Prop) (R : Out → Prop) (step : ∀ (i : Nat) ρ, i < n → P i ρ → Wn (P (i + 1)) R (kTurn fb (fg (.f (.int (i : Int))) ρ))) {ρ : List T} (h : P 0 ρ) :
    ∃ o, forF fg fb (rangeD 0 n) ρ = some o ∧ ((∃ ρ', o = .nx ρ' ∧ P n ρ') ∨ R o) := by
  obtain ⟨o, e, q⟩ := for_idx (fg := fg) (fb := fb) (rangeD 0 n) P R (fun i d ρ hd hp => by
    obtain ⟨hi, rfl⟩ := rangeD_at hd
    rw [Int.zero_add]
    exact step i ρ hi hp) h
  rw [rangeD_len] at q
  exact ⟨o, e, q⟩
theorem for_mapR {fg : T → List T → Option (List T)} {fb : FS} {α : Type} {φ : α → D} (xs : List α) (P : Nat → List T → Prop) (R : Out → Prop) (step : ∀ (i : Nat) a ρ, xs[i]? = some a → P i ρ → Wn (P (i + 1)) R (kTurn fb (fg (.f (φ a)) ρ))) {ρ : List T} (h : P 0 ρ) :
    ∃ o, forF fg fb (xs.map φ) ρ = some o ∧ ((∃ ρ', o = .nx ρ' ∧ P xs.length ρ') ∨ R o) := by
  obtain ⟨o, e, q⟩ := for_idx (fg := fg) (fb := fb) (xs.map φ) P R (fun i d ρ hd hp => by
    obtain ⟨a, ha, rfl⟩ := map_at hd
    exact step i a ρ ha hp) h
  rw [List.length_map] at q
  exact ⟨o, e, q⟩
/-- a thing kept from a walk -/
structure Hid (p : Prop) : Prop where
  out : p
theorem all_succ {n : Nat} {p : Nat → Bool} : (List.range (n + 1)).all p = ((List.range n).all p && p n) := by
  rw [List.range_succ, List.all_append]
  simp
theorem all_false {n i : Nat} {p : Nat → Bool} (h : i < n) (h2 : p i = false) : (List.range n).all p = false := by
  rw [List.all_eq_false]
  exact ⟨i, List.mem_range.mpr h, by rw [h2]; decide⟩
/-- for i in range(n): if not p(i): return False -/
theorem for_allB {fg : T → List T → Option (List T)} {fb : FS} (n m : Nat) (p : Nat → Bool) (I : List T → Prop)
    (st : ∀ (i : Nat) ρ, i < n → I ρ → p i = true → Wn I (fun _ => False) (kTurn fb (fg (.f (.int (i : Int))) ρ)))
    (sf : ∀ (i : Nat) ρ, i < n → I ρ → p i = false → Wn (fun _ => False) (fun o => ∃ ρ', m ≤ ρ'.length ∧ o = .rt (.f (.bl false)) ρ') (kTurn fb (fg (.f (.int (i : Int))) ρ))) {ρ : List T} (h : I ρ) :
    ∃ o, forF fg fb (rangeD 0 n) ρ = some o ∧ ((∃ ρ', o = .nx ρ' ∧ I ρ' ∧ (List.range n).all p = true) ∨ (∃ ρ', o = .rt (.f (.bl false)) ρ' ∧ m ≤ ρ'.length ∧ (List.range n).all p = false)) := by
  obtain ⟨o, e, q⟩ := for_rangeR (fg := fg) (fb := fb) n (fun i ρ => I ρ ∧ (List.range i).all p = true) (fun o => ∃ ρ', o = .rt (.f (.bl false)) ρ' ∧ m ≤ ρ'.length ∧ (List.range n).all p = false) (fun i ρ hi hp => by
    cases hpi : p i with
    | true =>
      have s := (st i ρ hi hp.1 hpi).go
      refine ⟨?_⟩
      generalize kTurn fb (fg (.f (.int (i : Int))) ρ) = o at s ⊢
      have ha : (List.range (i + 1)).all p = true := by rw [all_succ, hp.2, hpi]; rfl
      cases o with
      | none => exact s
      | some o => cases o with
        | nx ρ2 => exact ⟨s, ha⟩
        | ct ρ2 => exact ⟨s, ha⟩
        | bk ρ2 => exact s.elim
        | rt t ρ2 => exact s.elim
        | xc C ρ2 => exact s.elim
    | false =>
      have s := (sf i ρ hi hp.1 hpi).go
      refine ⟨?_⟩
      generalize kTurn fb (fg (.f (.int (i : Int))) ρ) = o at s ⊢
      have ha : (List.range n).all p = false := all_false hi hpi
      cases o with
      | none => exact s
      | some o => cases o with
        | nx ρ2 => exact s.elim
        | ct ρ2 => exact s.elim
        | bk ρ2 => obtain ⟨_, _, z⟩ := s; cases z
        | rt t ρ2 => obtain ⟨r, z1, z2⟩ := s; exact ⟨r, z2, z1, ha⟩
        | xc C ρ2 => obtain ⟨_, _, z⟩ := s; cases z) (ρ := ρ) ⟨h, rfl⟩
  refine ⟨o, e, q.imp (fun ⟨ρ', e1, h1, h2⟩ => ⟨ρ', e1, h1, h2⟩) id⟩
def dL (done : List Bool) : D := .lst (done.map .bl)
theorem dn_at {done : List Bool} {i : Nat} (h : i < done.length) : (done.map D.bl)[i]? = some (.bl (dn done i)) := by
  rw [List.getElem?_map]
  unfold dn
  rw [List.getElem?_eq_getElem h]
  rfl
theorem gEq_gD {o : Option Int} {s : Int} : gEq (.f (gD o)) (.f (.int s)) = some (.f (.bl (decide (o = some s)))) := by
  cases o with
  | none => rfl
  | some n =>
    show gEq (.f (.int n)) (.f (.int s)) = _
    rw [gEq_i]
    congr 3
    by_cases h : n = s
    · subst h; simp
    · have h2 : ¬ some n = some s := fun e => h (Option.some.inj e)
      rw [decide_eq_false h, decide_eq_false h2]
theorem nNot {i : Nat} {b : List Nat} {c : Bool} (h : decide (i ∈ b) = c) : gNotIn (.f (.int (i : Int))) (.f (nL b)) = some (.f (.bl (!c))) := by
  unfold nL
  rw [gNotIn_ii, ← h]
  have : decide ((i : Int) ∈ nI b) = decide (i ∈ b) := decide_eq_decide.mpr (by rw [nI_mem])
  rw [this]
theorem nIn {i : Nat} {b : List Nat} {c : Bool} (h : decide (i ∈ b) = c) : gIn (.f (.int (i : Int))) (.f (nL b)) = some (.f (.bl c)) := by
  unfold nL
  rw [gIn_ii, ← h]
  have : decide ((i : Int) ∈ nI b) = decide (i ∈ b) := decide_eq_decide.mpr (by rw [nI_mem])
  rw [this]
theorem may_ok {ds : List Deed} {names : List Str} {w k : Nat} {done : List Bool} {b : List Nat} (h : DsOk ds names w) (hk : k < ds.length) (hd : done.length = ds.length) :
    val (g_may_go [.f (.lst (ds.map Deed.d)), .f (dL done), .f (nL b), .f (.int (k : Int))]) = some (.bl (mayB ds done b k)) := by
  have hv : val (g_may_go [.f (.lst (ds.map Deed.d)), .f (dL done), .f (nL b), .f (.int (k : Int))]) = oval (b_may_go ([.f (.lst (ds.map Deed.d)), .f (dL done), .f (nL b), .f (.int (k : Int))] ++ List.replicate (6 - 4) .un)) 4 := val_run (m := 4) (n := 6) rfl
  rw [hv]
  clear hv
  obtain ⟨o, l1, hout⟩ := for_allB (fg := gSet 4) (fb := l_may_go_1) k 4 (leanB ds done b k) (fun ρ => ∃ s4 s5 : T, ρ = [.f (.lst (ds.map Deed.d)), .f (dL done), .f (nL b), .f (.int (k : Int)), s4, s5]) (by
      rintro i ρ hi ⟨s4, s5, rfl⟩ hp
      have x1 := dn_at (done := done) (i := i) (by omega)
      have g1 := gap_ok (j := i) (k := k) (List.getElem?_eq_getElem (by omega)) (List.getElem?_eq_getElem hk) (h.ok _ (List.getElem_mem (by omega))) (h.ok _ (List.getElem_mem hk))
      have gk : gpk ds i k = gp ds[i] ds[k] := by unfold gpk; rw [List.getElem?_eq_getElem (by omega), List.getElem?_eq_getElem hk]; rfl
      rw [← gk] at g1
      clear gk
      unfold leanB at hp
      have q1 := gEq_gD (o := gpk ds i k) (s := 1)
      have q0 := gEq_gD (o := gpk ds i k) (s := 0)
      have nx : gNotIn (.f (.int (i : Nat))) (.f (nL b)) = some (.f (.bl (!decide (i ∈ b)))) := nNot rfl
      unfold l_may_go_1 dL at *
      generalize dn done i = c at *
      generalize nL b = bb at *
      generalize done.map D.bl = dd at *
      generalize ds.map Deed.d = de at *
      generalize decide (gpk ds i k = some 1) = c1 at *
      generalize decide (gpk ds i k = some 0) = c0 at *
      generalize gD (gpk ds i k) = gg at *
      generalize decide (i ∈ b) = c2 at *
      clear h hk hd hi
      cases c <;> cases c1 <;> cases c0 <;> cases c2 <;> first
        | (cases hp; done)
        | (clear hp
           apply Wn_of
           case h =>
             walk_at "W"
             rfl
           case hq => exact ⟨_, _, rfl⟩)) (by
      rintro i ρ hi ⟨s4, s5, rfl⟩ hp
      have x1 := dn_at (done := done) (i := i) (by omega)
      have g1 := gap_ok (j := i) (k := k) (List.getElem?_eq_getElem (by omega)) (List.getElem?_eq_getElem hk) (h.ok _ (List.getElem_mem (by omega))) (h.ok _ (List.getElem_mem hk))
      have gk : gpk ds i k = gp ds[i] ds[k] := by unfold gpk; rw [List.getElem?_eq_getElem (by omega), List.getElem?_eq_getElem hk]; rfl
      rw [← gk] at g1
      clear gk
      unfold leanB at hp
      have q1 := gEq_gD (o := gpk ds i k) (s := 1)
      have q0 := gEq_gD (o := gpk ds i k) (s := 0)
      have nx : gNotIn (.f (.int (i : Nat))) (.f (nL b)) = some (.f (.bl (!decide (i ∈ b)))) := nNot rfl
      unfold l_may_go_1 dL at *
      generalize dn done i = c at *
      generalize nL b = bb at *
      generalize done.map D.bl = dd at *
      generalize ds.map Deed.d = de at *
      generalize decide (gpk ds i k = some 1) = c1 at *
      generalize decide (gpk ds i k = some 0) = c0 at *
      generalize gD (gpk ds i k) = gg at *
      generalize decide (i ∈ b) = c2 at *
      clear h hk hd hi
      cases c
      · cases c1
        · cases c0
          · cases hp
          · cases c2
            · clear hp
              apply Wn_of_rt
              case h => walk_at "W"; rfl
              case hq => exact ⟨_, by simp, rfl⟩
            · cases hp
        · clear hp
          apply Wn_of_rt
          case h => walk_at "W"; rfl
          case hq => exact ⟨_, by simp, rfl⟩
      · cases hp) (ρ := [.f (.lst (ds.map Deed.d)), .f (dL done), .f (nL b), .f (.int (k : Int)), .un, .un]) ⟨_, _, rfl⟩
  have hk2 : k ≤ 16777216 := by have := h.len; omega
  show _ = some (D.bl ((List.range k).all (leanB ds done b k)))
  unfold b_may_go
  clear h hd hk
  generalize dL done = q1 at *
  generalize nL b = q2 at *
  generalize ds.map Deed.d = q3 at *
  generalize (List.range k).all (leanB ds done b k) = ans at *
  rcases hout with ⟨ρ', rfl, ⟨s4, s5, rfl⟩, rfl⟩ | ⟨ρ', rfl, hρ, rfl⟩
  · walk_at "W"
  · walk_at "W"
theorem nL_app {b : List Nat} {i : Nat} (h : b.length ≤ 100) : gAdd (.f (nL b)) (.f (.lst [.int (i : Int)])) = some (.f (nL (b ++ [i]))) := by
  unfold nL
  have : ((nI b).map D.int).length ≤ 100 := by rw [List.length_map, nI_len]; exact h
  have e : (nI (b ++ [i])).map D.int = (nI b).map D.int ++ [D.int (i : Int)] := by rw [nI_app, List.map_append]; rfl
  rw [e]
  generalize (nI b).map D.int = l at *
  show (Option.orElse none fun _ => Option.orElse none fun _ => Option.orElse (if l.length + [D.int (i : Int)].length ≤ sizeLine then some (T.f (.lst (l ++ [D.int (i : Int)]))) else none) fun _ => _) = _
  rw [if_pos (show l.length + [D.int (i : Int)].length ≤ sizeLine by show l.length + 1 ≤ 16777216; omega)]
  rfl
structure BOk (n : Nat) (b : List Nat) : Prop where
  lt : ∀ k ∈ b, k < n
  len : b.length ≤ 50
theorem BOk.app {n i : Nat} {b : List Nat} (h : BOk n b) (hi : i < n) : ∀ k ∈ b ++ [i], k < n := by
  intro k hk
  rcases List.mem_append.mp hk with hk | hk
  · exact h.lt k hk
  · rw [List.mem_singleton.mp hk]; exact hi
theorem fits_app_ok {ds : List Deed} {u : Nat → Nat} {b : List Nat} {i : Nat} {names : List Str} {w : Nat} (h : DsOk ds names w) (hb : BOk ds.length b) (hi : i < ds.length) :
    val (g_fits_units [.f (.lst (ds.map Deed.d)), .f (uD u), .f (nL (b ++ [i]))]) = some (.bl (fitsB ds u (b ++ [i]))) :=
  fits_ok h (hb.app hi) (by have := hb.len; rw [List.length_append, List.length_singleton]; omega)
theorem full_ok {ds : List Deed} {u : Nat → Nat} {names : List Str} {w : Nat} {done : List Bool} {b : List Nat} (h : DsOk ds names w) (hd : done.length = ds.length) (hb : BOk ds.length b) :
    val (g_is_full [.f (.lst (ds.map Deed.d)), .f (uD u), .f (dL done), .f (nL b)]) = some (.bl (fullB ds u done b)) := by
  have hv : val (g_is_full [.f (.lst (ds.map Deed.d)), .f (uD u), .f (dL done), .f (nL b)]) = oval (b_is_full ([.f (.lst (ds.map Deed.d)), .f (uD u), .f (dL done), .f (nL b)] ++ List.replicate (5 - 4) .un)) 4 := val_run (m := 4) (n := 5) rfl
  rw [hv]
  clear hv
  obtain ⟨o, l1, hout⟩ := for_allB (fg := gSet 4) (fb := l_is_full_1) ds.length 4 (fullK ds u done b) (fun ρ => ∃ s4 : T, ρ = [.f (.lst (ds.map Deed.d)), .f (uD u), .f (dL done), .f (nL b), s4]) (by
      rintro i ρ hi ⟨s4, rfl⟩ hp
      have x1 := dn_at (done := done) (i := i) (by omega)
      have nx : gNotIn (.f (.int (i : Nat))) (.f (nL b)) = some (.f (.bl (!decide (i ∈ b)))) := nNot rfl
      have f1 := fits_app_ok (u := u) h hb hi
      have m1 := may_ok (b := b) h hi hd
      have a1 := nL_app (i := i) (show b.length ≤ 100 by have := hb.len; omega)
      unfold fullK okB at hp
      unfold l_is_full_1 dL at *
      generalize dn done i = c at *
      generalize mayB ds done b i = c1 at *
      generalize fitsB ds u (b ++ [i]) = c0 at *
      generalize nL (b ++ [i]) = b1 at *
      generalize nL b = bb at *
      generalize done.map D.bl = dd at *
      generalize ds.map Deed.d = de at *
      generalize decide (i ∈ b) = c2 at *
      generalize uD u = uu at *
      clear h hd hi hb
      cases c <;> cases c1 <;> cases c0 <;> cases c2 <;> first
        | (cases hp; done)
        | (clear hp
           apply Wn_of
           case h =>
             walk_at "W"
             rfl
           case hq => exact ⟨_, rfl⟩)) (by
      rintro i ρ hi ⟨s4, rfl⟩ hp
      have x1 := dn_at (done := done) (i := i) (by omega)
      have nx : gNotIn (.f (.int (i : Nat))) (.f (nL b)) = some (.f (.bl (!decide (i ∈ b)))) := nNot rfl
      have f1 := fits_app_ok (u := u) h hb hi
      have m1 := may_ok (b := b) h hi hd
      have a1 := nL_app (i := i) (show b.length ≤ 100 by have := hb.len; omega)
      unfold fullK okB at hp
      unfold l_is_full_1 dL at *
      generalize dn done i = c at *
      generalize mayB ds done b i = c1 at *
      generalize fitsB ds u (b ++ [i]) = c0 at *
      generalize nL (b ++ [i]) = b1 at *
      generalize nL b = bb at *
      generalize done.map D.bl = dd at *
      generalize ds.map Deed.d = de at *
      generalize decide (i ∈ b) = c2 at *
      generalize uD u = uu at *
      clear h hd hi hb
      cases c <;> cases c1 <;> cases c0 <;> cases c2 <;> first | (cases hp; done) | skip
      clear hp
      apply Wn_of_rt
      case h => walk_at "W"; rfl
      case hq => exact ⟨_, by simp, rfl⟩) (ρ := [.f (.lst (ds.map Deed.d)), .f (uD u), .f (dL done), .f (nL b), .un]) ⟨_, rfl⟩
  have hk2 : ds.length ≤ 16777216 := by have := h.len; omega
  have hl : (ds.map Deed.d).length = ds.length := List.length_map _
  show _ = some (D.bl ((List.range ds.length).all (fullK ds u done b)))
  unfold b_is_full
  generalize (List.range ds.length).all (fullK ds u done b) = ans at *
  clear h hd hb
  generalize dL done = q1 at *
  generalize nL b = q2 at *
  generalize ds.map Deed.d = q3 at *
  generalize uD u = q4 at *
  generalize ds.length = n at *
  rcases hout with ⟨ρ', rfl, ⟨s4, rfl⟩, rfl⟩ | ⟨ρ', rfl, hρ, rfl⟩
  · walk_at "W"
  · walk_at "W"
/-! the next beats -/
inductive Fl : T → Prop
  | un : Fl .un
  | f (d : D) : Fl (.f d)
theorem gIsNn_sD {o : Option Nat} {neg : Bool} : gIsNn neg (.f (sD o)) = some (.f (.bl (xor neg o.isNone))) := by
  cases o <;> rfl
def fnD (f : List (List Nat)) : List D := f.map nL
theorem step_mem {ds : List Deed} {u : Nat → Nat} {done : List Bool} {f : List (List Nat)} {k : Nat} {b : List Nat} (h : b ∈ stepB ds u done f k) : b ∈ f ∨ ∃ a ∈ f, b = a ++ [k] ∧ dn done k = false ∧ okB ds u done k a = true := by
  unfold stepB at h
  cases hd : dn done k with
  | true => rw [if_pos hd] at h; exact .inl h
  | false =>
    rw [if_neg (by rw [hd]; decide)] at h
    rcases List.mem_append.mp h with h | h
    · obtain ⟨a, ha, rfl⟩ := List.mem_map.mp h
      have := List.mem_filter.mp ha
      exact .inr ⟨a, this.1, rfl, rfl, this.2⟩
    · exact .inl (List.mem_filter.mp h).1
theorem step_len {ds : List Deed} {u : Nat → Nat} {done : List Bool} {f : List (List Nat)} {k : Nat} : (stepB ds u done f k).length ≤ 2 * f.length := by
  unfold stepB
  split
  · omega
  · rw [List.length_append, List.length_map]
    have h1 := List.length_filter_le (okB ds u done k) f
    have h2 := List.length_filter_le (keepB ds u done k) f
    omega
theorem found_succ {ds : List Deed} {u : Nat → Nat} {done : List Bool} {k : Nat} : foundB ds u done (k + 1) = stepB ds u done (foundB ds u done k) k := by
  unfold foundB
  rw [List.range_succ, List.foldl_append]
  rfl
theorem found_len {ds : List Deed} {u : Nat → Nat} {done : List Bool} : ∀ k, (foundB ds u done k).length ≤ 2 ^ k
  | 0 => Nat.le_refl _
  | k + 1 => by
    rw [found_succ]
    have h1 := step_len (ds := ds) (u := u) (done := done) (f := foundB ds u done k) (k := k)
    have h2 := found_len (ds := ds) (u := u) (done := done) k
    rw [Nat.pow_succ]
    omega
theorem found_bok {ds : List Deed} {u : Nat → Nat} {done : List Bool} : ∀ k, ∀ b ∈ foundB ds u done k, (∀ j ∈ b, j < k) ∧ b.length ≤ k
  | 0, b, h => by
    have : b = [] := by simpa [foundB] using h
    subst this
    exact ⟨fun _ h => (List.not_mem_nil h).elim, Nat.le_refl _⟩
  | k + 1, b, h => by
    rw [found_succ] at h
    rcases step_mem h with h | ⟨a, ha, rfl, _⟩
    · have := found_bok k b h
      exact ⟨fun j hj => Nat.lt_succ_of_lt (this.1 j hj), Nat.le_succ_of_le this.2⟩
    · have := found_bok k a ha
      refine ⟨fun j hj => ?_, ?_⟩
      · rcases List.mem_append.mp hj with hj | hj
        · exact Nat.lt_succ_of_lt (this.1 j hj)
        · rw [List.mem_singleton.mp hj]; omega
      · rw [List.length_append, List.length_singleton]; omega
theorem filt_snoc {α β : Type} (f : List α) (p : α → Bool) (g : α → β) (i : Nat) (a : α) (h : f[i]? = some a) : ((f.take (i + 1)).filter p).map g = if p a = true then ((f.take i).filter p).map g ++ [g a] else ((f.take i).filter p).map g := by
  have : f.take (i + 1) = f.take i ++ [a] := by
    rw [List.take_succ, h]
    rfl
  rw [this, List.filter_append, List.map_append, List.filter_cons]
  split
  · rfl
  · exact List.append_nil _
theorem next_inner {ds : List Deed} {u : Nat → Nat} {names : List Str} {w k : Nat} {done : List Bool} {f : List (List Nat)} (h : DsOk ds names w) (hd : done.length = ds.length) (hk : k < ds.length) (hf : ∀ b ∈ f, BOk ds.length b) (hfl : f.length ≤ 1000) {s7 s8 : T} (h7 : Fl s7) :
    ∃ s7' s8' : T, Fl s7' ∧ forF (gSet 7) l_next_beats_2 (fnD f) [.f (.lst (ds.map Deed.d)), .f (uD u), .f (dL done), .f (.lst (fnD f)), .f (.int (k : Int)), .l [], .l [], s7, s8]
      = some (.nx [.f (.lst (ds.map Deed.d)), .f (uD u), .f (dL done), .f (.lst (fnD f)), .f (.int (k : Int)), .l ((f.filter (okB ds u done k)).map fun b => nL (b ++ [k])), .l ((f.filter (keepB ds u done k)).map nL), s7', s8']) := by
  have hs : ∃ d, ds[k]? = some d ∧ d.Ok names w ∧ kS ds k = srt d := kS_at h hk
  obtain ⟨d, hdk, hdo, hks⟩ := hs
  have so := sort_ok d hdo
  rw [← hks] at so
  have x1 : (ds.map Deed.d)[k]? = some d.d := by rw [List.getElem?_map, hdk]; rfl
  obtain ⟨ρ', l1, s7', s8', h7', rfl⟩ := for_map (fg := gSet 7) (fb := l_next_beats_2) (φ := nL) f (fun i ρ => ∃ s7 s8 : T, Fl s7 ∧ ρ = [.f (.lst (ds.map Deed.d)), .f (uD u), .f (dL done), .f (.lst (fnD f)), .f (.int (k : Int)), .l (((f.take i).filter (okB ds u done k)).map fun b => nL (b ++ [k])), .l (((f.take i).filter (keepB ds u done k)).map nL), s7, s8]) (by
    rintro i b ρ hb ⟨s7, s8, h7, rfl⟩
    rw [filt_snoc f _ (fun b => nL (b ++ [k])) i b hb, filt_snoc f _ nL i b hb]
    have hbm : b ∈ f := List.mem_of_getElem? hb
    have z1 : (((f.take i).filter (okB ds u done k)).map fun b => nL (b ++ [k])).length ≤ 1000 := by
      rw [List.length_map]
      have h1 := List.length_filter_le (okB ds u done k) (f.take i)
      have h2 := List.length_take_le i f
      have h3 : (f.take i).length ≤ f.length := by rw [List.length_take]; omega
      omega
    have z2 : (((f.take i).filter (keepB ds u done k)).map nL).length ≤ 1000 := by
      rw [List.length_map]
      have h1 := List.length_filter_le (keepB ds u done k) (f.take i)
      have h3 : (f.take i).length ≤ f.length := by rw [List.length_take]; omega
      omega
    have f1 := fits_app_ok (u := u) h (hf b hbm) hk
    have m1 := may_ok (b := b) h hk hd
    have a1 := nL_app (i := k) (show b.length ≤ 100 by have := (hf b hbm).len; omega)
    have q1 := gIsNn_sD (o := kS ds k) (neg := true)
    rw [Bool.true_xor] at q1
    have hkeep : keepB ds u done k b = (!(mayB ds done b k && fitsB ds u (b ++ [k])) || (kS ds k).isSome) := rfl
    have hok : okB ds u done k b = (mayB ds done b k && fitsB ds u (b ++ [k])) := rfl
    rw [hkeep, hok]
    have hsome : (kS ds k).isSome = !(kS ds k).isNone := by cases kS ds k <;> rfl
    rw [hsome]
    generalize ((f.take i).filter (okB ds u done k)).map (fun b => nL (b ++ [k])) = l1 at *
    generalize ((f.take i).filter (keepB ds u done k)).map nL = l2 at *
    generalize mayB ds done b k = c1 at *
    generalize fitsB ds u (b ++ [k]) = c2 at *
    generalize (kS ds k).isNone = c3 at *
    generalize sD (kS ds k) = sd at *
    generalize nL (b ++ [k]) = b1 at *
    generalize nL b = bb at *
    generalize d.d = dd at *
    generalize dL done = dn' at *
    generalize ds.map Deed.d = de at *
    generalize uD u = uu at *
    generalize fnD f = ff at *
    clear h hd hk hf hfl hdk hdo hks hb hbm hkeep hok hsome
    unfold l_next_beats_2
    cases c1 <;> cases c2 <;> cases c3 <;>
      (apply Wn_of
       case h =>
         walk_at "W"
         rfl
       case hq => exact ⟨_, _, .f _, rfl⟩)) (ρ := [.f (.lst (ds.map Deed.d)), .f (uD u), .f (dL done), .f (.lst (fnD f)), .f (.int (k : Int)), .l [], .l [], s7, s8]) ⟨_, _, h7, rfl⟩
  rw [List.take_length] at l1
  exact ⟨s7', s8', h7', l1⟩
theorem next_ok {ds : List Deed} {u : Nat → Nat} {names : List Str} {w : Nat} {done : List Bool} (h : DsOk ds names w) (hd : done.length = ds.length) :
    val (g_next_beats [.f (.lst (ds.map Deed.d)), .f (uD u), .f (dL done)]) = some (.lst (fnD (nextB ds u done))) := by
  have hv : val (g_next_beats [.f (.lst (ds.map Deed.d)), .f (uD u), .f (dL done)]) = oval (b_next_beats ([.f (.lst (ds.map Deed.d)), .f (uD u), .f (dL done)] ++ List.replicate (9 - 3) .un)) 3 := val_run (m := 3) (n := 9) rfl
  rw [hv]
  clear hv
  have h8 := h.len
  have hpow : ∀ k, k ≤ 8 → 2 ^ k ≤ 256 := fun k hk => Nat.le_trans (Nat.pow_le_pow_right (by decide) hk) (by decide)
  have hbok : ∀ k, k ≤ ds.length → ∀ b ∈ foundB ds u done k, BOk ds.length b := fun k hk b hb => by
    have := found_bok k b hb
    exact ⟨fun j hj => by have := this.1 j hj; omega, by omega⟩
  have hfl : ∀ k, k ≤ ds.length → (foundB ds u done k).length ≤ 256 := fun k hk => Nat.le_trans (found_len k) (hpow k (by omega))
  obtain ⟨ρ', l1, s4, s5, s6, s7, s8, h7, rfl⟩ := for_range (fg := gSet 4) (fb := l_next_beats_1) ds.length (fun k ρ => ∃ s4 s5 s6 s7 s8 : T, Fl s7 ∧ ρ = [.f (.lst (ds.map Deed.d)), .f (uD u), .f (dL done), .f (.lst (fnD (foundB ds u done k))), s4, s5, s6, s7, s8]) (by
    rintro k ρ hk ⟨s4, s5, s6, s7, s8, h7, rfl⟩
    have x1 := dn_at (done := done) (i := k) (by omega)
    have hb := hbok k (by omega)
    have hl := hfl k (by omega)
    rw [found_succ]
    unfold stepB
    generalize foundB ds u done k = f at *
    cases hc : dn done k with
    | true =>
      rw [hc] at x1
      rw [if_pos rfl]
      have h7 := Hid.mk h7
      unfold l_next_beats_1 dL at *
      generalize done.map D.bl = dd at *
      generalize ds.map Deed.d = de at *
      generalize uD u = uu at *
      generalize fnD f = ff at *
      clear h hd hk hbok hfl hb hl hpow h8 hc
      apply Wn_of
      case h =>
        walk_at "W"
        rfl
      case hq => exact ⟨_, _, _, _, _, h7.out, rfl⟩
    | false =>
      rw [hc] at x1
      rw [if_neg (by decide)]
      obtain ⟨a7, a8, h7', l2⟩ := next_inner (s7 := s7) (s8 := s8) h hd hk hb (by omega) h7 (u := u)
      have h7' := Hid.mk h7'
      have z1 : ((f.filter (okB ds u done k)).map fun b => nL (b ++ [k])).length ≤ 1000 := by
        rw [List.length_map]
        have h1 := List.length_filter_le (okB ds u done k) f
        omega
      have z2 : ((f.filter (keepB ds u done k)).map nL).length ≤ 1000 := by
        rw [List.length_map]
        have h1 := List.length_filter_le (keepB ds u done k) f
        omega
      have e : fnD ((f.filter (okB ds u done k)).map (· ++ [k]) ++ f.filter (keepB ds u done k)) = ((f.filter (okB ds u done k)).map fun b => nL (b ++ [k])) ++ (f.filter (keepB ds u done k)).map nL := by
        unfold fnD
        rw [List.map_append, List.map_map]
        rfl
      rw [e]
      unfold l_next_beats_1 dL at *
      generalize done.map D.bl = dd at *
      generalize ds.map Deed.d = de at *
      generalize uD u = uu at *
      generalize fnD f = ff at *
      generalize ((f.filter (okB ds u done k)).map fun b => nL (b ++ [k])) = l1 at *
      generalize (f.filter (keepB ds u done k)).map nL = l2 at *
      clear h hd hk hbok hfl hb hl hpow h8 hc e
      apply Wn_of
      case h =>
        walk_at "W"
        rfl
      case hq => exact ⟨_, _, _, _, _, h7'.out, rfl⟩) (ρ := [.f (.lst (ds.map Deed.d)), .f (uD u), .f (dL done), .f (.lst (fnD (foundB ds u done 0))), .un, .un, .un, .un, .un]) ⟨_, _, _, _, _, .un, rfl⟩
  have lf : lcF (gSet 7) n_next_beats_1 m_next_beats_1 [.f (.lst (ds.map Deed.d)), .f (uD u), .f (dL done), .f (.lst (fnD (foundB ds u done ds.length))), s4, s5, s6, .un, s8] (fnD (foundB ds u done ds.length)) = some (fnD (nextB ds u done)) := by
    unfold fnD nextB
    rw [lcF_of (φ := nL) (G := fun b => if fullB ds u done b = true then [nL b] else []), flat_filter]
    intro b hb
    have f1 := full_ok (u := u) (done := done) h hd (hbok _ (Nat.le_refl _) b hb)
    unfold n_next_beats_1 m_next_beats_1
    generalize fullB ds u done b = c at *
    generalize nL b = bb at *
    generalize dL done = dd at *
    generalize ds.map Deed.d = de at *
    generalize uD u = uu at *
    clear h hd hbok hfl hb l1 h8 hpow
    cases c <;> walk_at "W"
  have hz : (fnD (nextB ds u done)).length ≤ 256 := by
    unfold fnD nextB
    rw [List.length_map]
    exact Nat.le_trans (List.length_filter_le _ _) (hfl _ (Nat.le_refl _))
  have hl : (ds.map Deed.d).length = ds.length := List.length_map _
  have f0 : foundB ds u done 0 = [[]] := rfl
  have f1 : fnD [[]] = [.lst []] := rfl
  rw [f0, f1] at l1
  unfold b_next_beats
  clear h hd hbok hfl hpow f0 f1
  generalize fnD (nextB ds u done) = ans at *
  generalize fnD (foundB ds u done ds.length) = ff at *
  generalize dL done = dd at *
  generalize ds.map Deed.d = de at *
  generalize uD u = uu at *
  generalize ds.length = n at *
  cases h7 <;> walk_at "W"
/-! layings: the mathematics of the next beats -/
def fil (n : Nat) (X : Nat → Bool) : List Nat := (List.range n).filter X
def pls (X : Nat → Bool) (k : Nat) : Nat → Bool := fun j => X j || decide (j = k)
theorem fil_succ {n : Nat} {X : Nat → Bool} : fil (n + 1) X = fil n X ++ if X n = true then [n] else [] := by
  unfold fil
  rw [List.range_succ, List.filter_append, List.filter_cons]
  split <;> rfl
theorem mem_fil {n k : Nat} {X : Nat → Bool} : k ∈ fil n X ↔ k < n ∧ X k = true := by
  unfold fil
  rw [List.mem_filter, List.mem_range]
theorem fil_congr {n : Nat} {X Y : Nat → Bool} (h : ∀ k < n, X k = Y k) : fil n X = fil n Y := by
  unfold fil
  exact List.filter_congr fun k hk => h k (List.mem_range.mp hk)
theorem fil_cut {X : Nat → Bool} {m : Nat} (h : ∀ k, X k = true → k < m) : ∀ r, fil (m + r) X = fil m X
  | 0 => rfl
  | r + 1 => by
    rw [← Nat.add_assoc, fil_succ, fil_cut h r, if_neg]
    · exact List.append_nil _
    · intro z
      have := h _ z
      omega
theorem fil_pre {X : Nat → Bool} {m : Nat} : ∀ r, ∃ l, fil (m + r) X = fil m X ++ l
  | 0 => ⟨[], (List.append_nil _).symm⟩
  | r + 1 => by
    obtain ⟨l, e⟩ := fil_pre (X := X) (m := m) r
    exact ⟨l ++ if X (m + r) = true then [m + r] else [], by rw [← Nat.add_assoc, fil_succ, e, List.append_assoc]⟩
theorem pls_at {X : Nat → Bool} {k : Nat} : pls X k k = true := by unfold pls; rw [decide_eq_true rfl, Bool.or_true]
theorem pls_ne {X : Nat → Bool} {k j : Nat} (h : j ≠ k) : pls X k j = X j := by unfold pls; rw [decide_eq_false h, Bool.or_false]
theorem pls_mono {X : Nat → Bool} {k j : Nat} (h : X j = true) : pls X k j = true := by unfold pls; rw [h]; rfl
theorem pls_inv {X : Nat → Bool} {k j : Nat} (h : pls X k j = true) : X j = true ∨ j = k := by
  by_cases e : j = k
  · exact .inr e
  · rw [pls_ne e] at h; exact .inl h
theorem fil_pls_len {X : Nat → Bool} {k : Nat} (hX : X k = false) : ∀ n, k < n → (fil n (pls X k)).length = (fil n X).length + 1
  | 0, h => absurd h (Nat.not_lt_zero _)
  | n + 1, h => by
    rw [fil_succ, fil_succ, List.length_append, List.length_append]
    by_cases e : n = k
    · subst e
      rw [fil_congr (n := n) (Y := X) fun j hj => pls_ne (by omega), pls_at, hX]
      rfl
    · rw [fil_pls_len hX n (by omega), pls_ne e]
      omega
theorem fil_le {X : Nat → Bool} (n : Nat) : (fil n X).length ≤ n := by
  have := List.length_filter_le X (List.range n)
  rw [List.length_range] at this
  exact this
theorem cnt_fil {ds : List Deed} {t n : Nat} {X : Nat → Bool} : cnt ds t (fil n X) = (fil n fun j => X j && hasS ds t j).length := by
  unfold cnt fil
  rw [List.filter_filter]
  congr 1
  exact List.filter_congr fun k _ => by cases X k <;> cases hasS ds t k <;> rfl
theorem cnt_pls {ds : List Deed} {t n k : Nat} {X : Nat → Bool} (hX : X k = false) (hk : k < n) : cnt ds t (fil n (pls X k)) = cnt ds t (fil n X) + if hasS ds t k = true then 1 else 0 := by
  rw [cnt_fil, cnt_fil]
  cases h : hasS ds t k with
  | true =>
    rw [if_pos rfl, ← fil_pls_len (k := k) (by rw [hX]; rfl) n hk]
    congr 1
    refine fil_congr fun j _ => ?_
    by_cases e : j = k
    · subst e; rw [pls_at, pls_at, h]; rfl
    · rw [pls_ne e, pls_ne e]
  | false =>
    rw [if_neg (by decide), Nat.add_zero]
    congr 1
    refine fil_congr fun j _ => ?_
    by_cases e : j = k
    · subst e; rw [h, Bool.and_false, Bool.and_false]
    · rw [pls_ne e]
theorem cnt_app {ds : List Deed} {t k : Nat} {b : List Nat} : cnt ds t (b ++ [k]) = cnt ds t b + if hasS ds t k = true then 1 else 0 := by
  unfold cnt
  rw [List.filter_append, List.length_append, List.filter_cons]
  split <;> rfl
theorem cnt_le {ds : List Deed} {t : Nat} {a b : List Nat} : cnt ds t a ≤ cnt ds t (a ++ b) := by
  unfold cnt
  rw [List.filter_append, List.length_append]
  omega
theorem fits_iff {ds : List Deed} {u : Nat → Nat} {b : List Nat} : fitsB ds u b = true ↔ ∀ t < 3, cnt ds t b ≤ u t := by
  unfold fitsB
  rw [Bool.and_eq_true, Bool.and_eq_true, decide_eq_true_iff, decide_eq_true_iff, decide_eq_true_iff]
  constructor
  · rintro ⟨h0, h1, h2⟩ t ht
    have : t = 0 ∨ t = 1 ∨ t = 2 := by omega
    rcases this with rfl | rfl | rfl <;> assumption
  · intro h
    exact ⟨h 0 (by decide), h 1 (by decide), h 2 (by decide)⟩
def leanP (ds : List Deed) (s : List Bool) (P : Nat → Prop) (k : Nat) : Prop := ∀ j < k, dn s j = false → gpk ds j k ≠ some 1 ∧ (gpk ds j k = some 0 → P j)
theorem may_iff {ds : List Deed} {s : List Bool} {b : List Nat} {k : Nat} : mayB ds s b k = true ↔ leanP ds s (· ∈ b) k := by
  unfold mayB leanP leanB
  rw [List.all_eq_true]
  constructor
  · intro h j hj hd
    have := h j (List.mem_range.mpr hj)
    rw [hd, Bool.false_or, Bool.and_eq_true, Bool.or_eq_true, Bool.not_eq_true', Bool.not_eq_true', decide_eq_false_iff_not, decide_eq_false_iff_not, decide_eq_true_iff] at this
    exact ⟨this.1, fun z => this.2.resolve_left fun q => q z⟩
  · intro h j hj
    cases hd : dn s j with
    | true => rfl
    | false =>
      have := h j (List.mem_range.mp hj) hd
      rw [Bool.false_or, Bool.and_eq_true, Bool.or_eq_true, Bool.not_eq_true', Bool.not_eq_true', decide_eq_false_iff_not, decide_eq_false_iff_not, decide_eq_true_iff]
      refine ⟨this.1, ?_⟩
      by_cases z : gpk ds j k = some 0
      · exact .inr (this.2 z)
      · exact .inl z
structure Adm (ds : List Deed) (u : Nat → Nat) (s : List Bool) (X : Nat → Bool) : Prop where
  lt : ∀ k, X k = true → k < ds.length
  und : ∀ k, X k = true → dn s k = false
  lean : ∀ k, X k = true → leanP ds s (fun j => X j = true) k
  fits : ∀ t < 3, cnt ds t (fil ds.length X) ≤ u t
theorem leanP.mono {ds : List Deed} {s : List Bool} {P Q : Nat → Prop} {k : Nat} (h : leanP ds s P k) (hpq : ∀ j < k, P j → Q j) : leanP ds s Q k :=
  fun j hj hd => ⟨(h j hj hd).1, fun z => hpq j hj ((h j hj hd).2 z)⟩
theorem adm_pls {ds : List Deed} {u : Nat → Nat} {s : List Bool} {X : Nat → Bool} {k : Nat} (h : Adm ds u s X) (hk : k < ds.length) (hd : dn s k = false) (hX : X k = false) (hl : leanP ds s (fun j => X j = true) k)
    (hf : ∀ t < 3, cnt ds t (fil ds.length X) + (if hasS ds t k = true then 1 else 0) ≤ u t) : Adm ds u s (pls X k) where
  lt := fun j hj => (pls_inv hj).elim (h.lt j) fun e => e ▸ hk
  und := fun j hj => (pls_inv hj).elim (h.und j) fun e => e ▸ hd
  lean := fun j hj => by
    rcases pls_inv hj with z | rfl
    · exact (h.lean j z).mono fun i _ hi => pls_mono hi
    · exact hl.mono fun i _ hi => pls_mono hi
  fits := fun t ht => by
    rw [cnt_pls hX hk]
    exact hf t ht
theorem ok_iff {ds : List Deed} {u : Nat → Nat} {s : List Bool} {k : Nat} {b : List Nat} : okB ds u s k b = true ↔ leanP ds s (· ∈ b) k ∧ ∀ t < 3, cnt ds t b + (if hasS ds t k = true then 1 else 0) ≤ u t := by
  unfold okB
  rw [Bool.and_eq_true, may_iff, fits_iff]
  constructor
  · rintro ⟨h1, h2⟩
    exact ⟨h1, fun t ht => by rw [← cnt_app]; exact h2 t ht⟩
  · rintro ⟨h1, h2⟩
    exact ⟨h1, fun t ht => by rw [cnt_app]; exact h2 t ht⟩
theorem found_adm {ds : List Deed} {u : Nat → Nat} {s : List Bool} : ∀ k, k ≤ ds.length → ∀ b ∈ foundB ds u s k, ∃ X, b = fil k X ∧ Adm ds u s X ∧ ∀ j, X j = true → j < k
  | 0, _, b, h => by
    have : b = [] := by simpa [foundB] using h
    subst this
    exact ⟨fun _ => false, rfl, ⟨fun _ h => (by cases h), fun _ h => (by cases h), fun _ h => (by cases h), fun t _ => by
      have : fil ds.length (fun _ => false) = [] := by unfold fil; simp
      rw [this]
      exact Nat.zero_le _⟩, fun _ h => (by cases h)⟩
  | k + 1, hk, b, h => by
    rw [found_succ] at h
    rcases step_mem h with h | ⟨a, ha, rfl, hd, ho⟩
    · obtain ⟨X, rfl, hX, hl⟩ := found_adm k (by omega) b h
      exact ⟨X, (fil_cut hl 1).symm, hX, fun j hj => Nat.lt_succ_of_lt (hl j hj)⟩
    · obtain ⟨X, rfl, hX, hl⟩ := found_adm k (by omega) a ha
      have hXk : X k = false := by
        cases z : X k with
        | false => rfl
        | true => exact absurd (hl k z) (Nat.lt_irrefl _)
      obtain ⟨o1, o2⟩ := ok_iff.mp ho
      have hcut : fil ds.length X = fil k X := by
        have := fil_cut hl (ds.length - k)
        rwa [Nat.add_sub_cancel' (by omega)] at this
      refine ⟨pls X k, ?_, adm_pls hX (by omega) hd hXk (o1.mono fun j hj hm => (mem_fil.mp hm).2) (fun t ht => by rw [hcut]; exact o2 t ht), fun j hj => (pls_inv hj).elim (fun z => Nat.lt_succ_of_lt (hl j z)) fun e => by omega⟩
      rw [fil_succ, pls_at, if_pos rfl, fil_congr (n := k) (Y := X) fun j hj => pls_ne (by omega)]
theorem adm_max {ds : List Deed} {u : Nat → Nat} {s : List Bool} : ∀ (m : Nat) {X : Nat → Bool}, ds.length - (fil ds.length X).length ≤ m → Adm ds u s X →
    ∃ Y, Adm ds u s Y ∧ (∀ k, X k = true → Y k = true) ∧ ∀ k < ds.length, Y k = false → ¬ Adm ds u s (pls Y k) := by
  intro m
  induction m with
  | zero =>
    intro X hm h
    refine ⟨X, h, fun _ h => h, fun k hk hX hA => ?_⟩
    have h1 := fil_pls_len hX _ hk
    have h2 := fil_le (X := pls X k) ds.length
    omega
  | succ m ih =>
    intro X hm h
    by_cases z : ∃ k, k < ds.length ∧ X k = false ∧ Adm ds u s (pls X k)
    · obtain ⟨k, hk, hX, hA⟩ := z
      have h1 := fil_pls_len hX _ hk
      obtain ⟨Y, hY, hs, hm⟩ := ih (X := pls X k) (by omega) hA
      exact ⟨Y, hY, fun j hj => hs j (pls_mono hj), hm⟩
    · exact ⟨X, h, fun _ h => h, fun k hk hX hA => z ⟨k, hk, hX, hA⟩⟩
theorem max_found {ds : List Deed} {u : Nat → Nat} {s : List Bool} {X : Nat → Bool} (h : Adm ds u s X) (hm : ∀ k < ds.length, X k = false → ¬ Adm ds u s (pls X k)) :
    ∀ k, k ≤ ds.length → fil k X ∈ foundB ds u s k := by
  have hpre : ∀ (t k : Nat), k ≤ ds.length → cnt ds t (fil k X) ≤ cnt ds t (fil ds.length X) := fun t k hk => by
    obtain ⟨l, e⟩ := fil_pre (X := X) (m := k) (ds.length - k)
    rw [Nat.add_sub_cancel' hk] at e
    rw [e]
    exact cnt_le
  intro k
  induction k with
  | zero => intro _; exact List.mem_singleton.mpr rfl
  | succ k ih =>
    intro hk
    have hf := ih (by omega)
    rw [found_succ, fil_succ]
    unfold stepB
    cases hd : dn s k with
    | true =>
      rw [if_pos rfl, if_neg (fun z => by rw [h.und k z] at hd; cases hd), List.append_nil]
      exact hf
    | false =>
      rw [if_neg (by decide), List.mem_append]
      cases hX : X k with
      | true =>
        rw [if_pos rfl]
        left
        refine List.mem_map.mpr ⟨fil k X, List.mem_filter.mpr ⟨hf, ok_iff.mpr ⟨(h.lean k hX).mono fun j hj hx => mem_fil.mpr ⟨hj, hx⟩, fun t ht => ?_⟩⟩, rfl⟩
        have h1 := hpre t (k + 1) hk
        rw [fil_succ, hX, if_pos rfl, cnt_app] at h1
        exact Nat.le_trans h1 (h.fits t ht)
      | false =>
        rw [if_neg (by decide), List.append_nil]
        right
        refine List.mem_filter.mpr ⟨hf, ?_⟩
        unfold keepB
        cases ho : okB ds u s k (fil k X) with
        | false => rfl
        | true =>
          cases hs : kS ds k with
          | some t => rfl
          | none =>
            exfalso
            obtain ⟨o1, o2⟩ := ok_iff.mp ho
            refine hm k (by omega) hX (adm_pls h (by omega) hd hX (o1.mono fun j _ hj => (mem_fil.mp hj).2) fun t ht => ?_)
            rw [if_neg, Nat.add_zero]
            · exact h.fits t ht
            · unfold hasS
              rw [hs]
              intro z
              cases of_decide_eq_true z
theorem max_full {ds : List Deed} {u : Nat → Nat} {s : List Bool} {X : Nat → Bool} (h : Adm ds u s X) (hm : ∀ k < ds.length, X k = false → ¬ Adm ds u s (pls X k)) :
    fullB ds u s (fil ds.length X) = true := by
  unfold fullB fullK
  rw [List.all_eq_true]
  intro k hk
  have hk := List.mem_range.mp hk
  cases hd : dn s k with
  | true => rfl
  | false =>
    cases hX : X k with
    | true =>
      rw [decide_eq_true (mem_fil.mpr ⟨hk, hX⟩)]
      rfl
    | false =>
      cases ho : okB ds u s k (fil ds.length X) with
      | false => rw [Bool.not_false, Bool.or_true, Bool.or_true]
      | true =>
        obtain ⟨o1, o2⟩ := ok_iff.mp ho
        exact absurd (adm_pls h hk hd hX (o1.mono fun j _ hj => (mem_fil.mp hj).2) o2) (hm k hk hX)
/-- each admissible set lies in a beat that is found -/
theorem next_dom {ds : List Deed} {u : Nat → Nat} {s : List Bool} {X : Nat → Bool} (h : Adm ds u s X) : ∃ Y, Adm ds u s Y ∧ (∀ k, X k = true → Y k = true) ∧ fil ds.length Y ∈ nextB ds u s := by
  obtain ⟨Y, hY, hs, hm⟩ := adm_max _ (Nat.le_refl _) h
  exact ⟨Y, hY, hs, List.mem_filter.mpr ⟨max_found hY hm _ (Nat.le_refl _), max_full hY hm⟩⟩
/-- each beat found is admissible, and full -/
theorem next_adm {ds : List Deed} {u : Nat → Nat} {s : List Bool} {b : List Nat} (h : b ∈ nextB ds u s) : ∃ X, b = fil ds.length X ∧ Adm ds u s X := by
  obtain ⟨X, e, hX, _⟩ := found_adm _ (Nat.le_refl _) b (List.mem_filter.mp h).1
  exact ⟨X, e, hX⟩
theorem adm_nil {ds : List Deed} {u : Nat → Nat} {s : List Bool} : Adm ds u s (fun _ => false) :=
  ⟨fun _ h => (by cases h), fun _ h => (by cases h), fun _ h => (by cases h), fun t _ => by
    have : fil ds.length (fun _ => false) = [] := by unfold fil; simp
    rw [this]
    exact Nat.zero_le _⟩
theorem ex_least {p : Nat → Bool} : ∀ n, (∃ k < n, p k = true) → ∃ k < n, p k = true ∧ ∀ j < k, p j = false
  | 0, ⟨k, h, _⟩ => absurd h (Nat.not_lt_zero _)
  | n + 1, ⟨k, h, hp⟩ => by
    by_cases z : ∃ k < n, p k = true
    · obtain ⟨k, h1, h2, h3⟩ := ex_least n z
      exact ⟨k, Nat.lt_succ_of_lt h1, h2, h3⟩
    · refine ⟨k, h, hp, fun j hj => ?_⟩
      cases q : p j with
      | false => rfl
      | true => exact absurd ⟨j, by omega, q⟩ z
/-- where something is undone, a beat found has something -/
theorem next_ne {ds : List Deed} {u : Nat → Nat} {s : List Bool} {b : List Nat} (hu : ∀ t < 3, 1 ≤ u t) (hn : ∃ k < ds.length, dn s k = false) (h : b ∈ nextB ds u s) : b ≠ [] := by
  rintro rfl
  obtain ⟨k, hk, hd, hl⟩ := ex_least (p := fun k => !dn s k) ds.length (by obtain ⟨k, h1, h2⟩ := hn; exact ⟨k, h1, by rw [h2]; rfl⟩)
  have hf := (List.mem_filter.mp h).2
  unfold fullB fullK at hf
  have := List.all_eq_true.mp hf k (List.mem_range.mpr hk)
  have hd : dn s k = false := by simpa using hd
  rw [hd, Bool.false_or, decide_eq_false (List.not_mem_nil), Bool.false_or] at this
  have ho : okB ds u s k [] = true := ok_iff.mpr ⟨fun j hj hd => (by have := hl j hj; rw [hd] at this; cases this), fun t ht => by
    have := hu t ht
    show 0 + _ ≤ u t
    split <;> omega⟩
  rw [ho] at this
  cases this
/-! laid: what it reckons, and the walk -/
def moreB (n : Nat) (d : List Bool) (b : List Nat) : List Bool := (List.range n).map fun k => dn d k || decide (k ∈ b)
abbrev Lv := List Bool × List (List Nat)
abbrev Lst := List (List Bool) × List Lv
def stB (n : Nat) (p : Lv) (st : Lst) (b : List Nat) : Except (List (List Nat)) Lst :=
  if (moreB n p.1 b).all id = true then .error (p.2 ++ [b])
  else if moreB n p.1 b ∈ st.1 then .ok st
  else .ok (st.1 ++ [moreB n p.1 b], st.2 ++ [(moreB n p.1 b, p.2 ++ [b])])
def inB (ds : List Deed) (u : Nat → Nat) (st : Lst) (p : Lv) : Except (List (List Nat)) Lst := (nextB ds u p.1).foldlM (stB ds.length p) st
def roundF (ds : List Deed) (u : Nat → Nat) (seen : List (List Bool)) (level : List Lv) : Except (List (List Nat)) Lst := level.foldlM (inB ds u) (seen, [])
def laidF (ds : List Deed) (u : Nat → Nat) : Nat → List (List Bool) → List Lv → Option (List (List Nat))
  | 0, _, _ => none
  | m + 1, seen, level => match roundF ds u seen level with
    | .error r => some r
    | .ok st => laidF ds u m st.1 st.2
theorem foldM_take {α σ ε : Type} {f : σ → α → Except ε σ} {s s1 : σ} {i : Nat} {a : α} : ∀ {l : List α}, l[i]? = some a → (l.take i).foldlM f s = .ok s1 → (l.take (i + 1)).foldlM f s = f s1 a := by
  intro l h e
  have : l.take (i + 1) = l.take i ++ [a] := by
    rw [List.take_succ, h]
    rfl
  rw [this, List.foldlM_append, e]
  show f s1 a >>= pure = f s1 a
  exact bind_pure _
theorem foldM_err {α σ ε : Type} {f : σ → α → Except ε σ} {s : σ} {i : Nat} {r : ε} {l : List α} (h : (l.take i).foldlM f s = .error r) : l.foldlM f s = .error r := by
  rw [← List.take_append_drop i l, List.foldlM_append, h]
  rfl
theorem foldM_inv {α σ ε : Type} {f : σ → α → Except ε σ} {I : σ → Prop} : ∀ {l : List α} {s s' : σ}, (∀ a ∈ l, ∀ s s', I s → f s a = .ok s' → I s') → l.foldlM f s = .ok s' → I s → I s'
  | [], s, s', _, e, h => by cases e; exact h
  | a :: l, s, s', hst, e, h => by
    rw [List.foldlM_cons] at e
    cases e1 : f s a with
    | error r => rw [e1] at e; cases e
    | ok s1 =>
      rw [e1] at e
      exact foldM_inv (fun b hb => hst b (List.mem_cons_of_mem _ hb)) e (hst a (List.mem_cons_self) _ _ h e1)
theorem more_len {n : Nat} {d : List Bool} {b : List Nat} : (moreB n d b).length = n := by
  unfold moreB
  rw [List.length_map, List.length_range]
theorem dn_more {n k : Nat} {d : List Bool} {b : List Nat} (h : k < n) : dn (moreB n d b) k = (dn d k || decide (k ∈ b)) := by
  unfold moreB
  conv => lhs; unfold dn
  rw [List.getElem?_map, List.getElem?_range h]
  rfl
structure Gd (n i : Nat) (st : Lst) : Prop where
  nd : st.1.Nodup
  ln : ∀ s ∈ st.1, s.length = n
  gl : st.2.length ≤ st.1.length
  lv : ∀ q ∈ st.2, q.1.length = n ∧ q.2.length ≤ i
theorem nodup_snoc {α : Type} {l : List α} {a : α} (h : l.Nodup) (ha : a ∉ l) : (l ++ [a]).Nodup := by
  refine List.nodup_append.mpr ⟨h, List.nodup_cons.mpr ⟨List.not_mem_nil, List.nodup_nil⟩, ?_⟩
  intro x hx y hy e
  rw [List.mem_singleton.mp hy] at e
  exact ha (e ▸ hx)
theorem stB_gd {n i : Nat} {p : Lv} {st st' : Lst} {b : List Nat} (h : Gd n i st) (hp : p.2.length < i) (e : stB n p st b = .ok st') : Gd n i st' := by
  unfold stB at e
  split at e
  · cases e
  · split at e
    · cases e; exact h
    · rename_i hm
      cases e
      refine ⟨nodup_snoc h.nd hm, fun s hs => ?_, ?_, fun q hq => ?_⟩
      · rcases List.mem_append.mp hs with hs | hs
        · exact h.ln s hs
        · rw [List.mem_singleton.mp hs]; exact more_len
      · have := h.gl
        simp only [List.length_append, List.length_singleton]
        omega
      · rcases List.mem_append.mp hq with hq | hq
        · exact h.lv q hq
        · rw [List.mem_singleton.mp hq]
          refine ⟨more_len, ?_⟩
          show (p.2 ++ [b]).length ≤ i
          rw [List.length_append, List.length_singleton]
          omega
theorem inB_gd {ds : List Deed} {u : Nat → Nat} {i : Nat} {p : Lv} {st st' : Lst} (h : Gd ds.length i st) (hp : p.2.length < i) (e : inB ds u st p = .ok st') : Gd ds.length i st' :=
  foldM_inv (I := Gd ds.length i) (fun _ _ _ _ h e => stB_gd h hp e) e h
theorem round_gd {ds : List Deed} {u : Nat → Nat} {i : Nat} {seen : List (List Bool)} {level : List Lv} {st' : Lst} (h1 : seen.Nodup) (h2 : ∀ s ∈ seen, s.length = ds.length) (hl : ∀ p ∈ level, p.2.length < i) (e : roundF ds u seen level = .ok st') : Gd ds.length i st' :=
  foldM_inv (I := Gd ds.length i) (fun p hp _ _ h e => inB_gd h (hl p hp) e) e ⟨h1, h2, Nat.zero_le _, fun _ h => (List.not_mem_nil h).elim⟩
theorem nd_le : ∀ (n : Nat) (l : List (List Bool)), l.Nodup → (∀ x ∈ l, x.length = n) → l.length ≤ 2 ^ n
  | 0, l, hn, hl => by
    cases l with
    | nil => exact Nat.zero_le _
    | cons a l =>
      cases l with
      | nil => exact Nat.le_refl _
      | cons b l =>
        have h1 := List.length_eq_zero_iff.mp (hl a (by simp))
        have h2 := List.length_eq_zero_iff.mp (hl b (by simp))
        have := (List.nodup_cons.mp hn).1
        exact absurd (by rw [h1, h2]; simp) this
  | n + 1, l, hn, hl => by
    have key : ∀ c : Bool, (l.filter fun x => decide (x.head? = some c)).length ≤ 2 ^ n := fun c => by
      have hm : ∀ x ∈ l.filter (fun x => decide (x.head? = some c)), ∃ y, x = c :: y ∧ y.length = n := fun x hx => by
        have h1 := List.mem_filter.mp hx
        have h2 := of_decide_eq_true h1.2
        cases x with
        | nil => cases h2
        | cons a y =>
          have : a = c := Option.some.inj h2
          subst this
          have := hl _ h1.1
          exact ⟨y, rfl, by simpa using this⟩
      rw [← List.length_map (f := List.tail)]
      refine nd_le n _ ?_ ?_
      · refine List.pairwise_map.mpr ?_
        refine (List.Pairwise.filter _ hn).imp_of_mem fun {x y} hx hy hxy => ?_
        obtain ⟨x', rfl, _⟩ := hm x hx
        obtain ⟨y', rfl, _⟩ := hm y hy
        intro e
        exact hxy (congrArg _ e)
      · intro z hz
        obtain ⟨x, hx, rfl⟩ := List.mem_map.mp hz
        obtain ⟨y, rfl, hy⟩ := hm x hx
        exact hy
    have h1 := key true
    have h2 := key false
    have h3 : l.length ≤ (l.filter fun x => decide (x.head? = some true)).length + (l.filter fun x => decide (x.head? = some false)).length := by
      clear h1 h2 key hn
      induction l with
      | nil => exact Nat.le_refl _
      | cons a l ih =>
        have := ih fun x hx => hl x (List.mem_cons_of_mem _ hx)
        have ha := hl a (by simp)
        rw [List.filter_cons, List.filter_cons, List.length_cons]
        cases a with
        | nil => cases ha
        | cons c y =>
          cases c
          · rw [if_neg (show ¬ decide ((false :: y).head? = some true) = true from fun z => by cases of_decide_eq_true z), if_pos (show decide ((false :: y).head? = some false) = true from decide_eq_true rfl), List.length_cons]
            omega
          · rw [if_pos (show decide ((true :: y).head? = some true) = true from decide_eq_true rfl), if_neg (show ¬ decide ((true :: y).head? = some false) = true from fun z => by cases of_decide_eq_true z), List.length_cons]
            omega
    rw [Nat.pow_succ]
    omega
theorem blsOf_map : ∀ l : List Bool, blsOf (l.map D.bl) = some l
  | [] => rfl
  | b :: l => by
    show (blsOf (l.map D.bl)).map _ = _
    rw [blsOf_map l]
    rfl
theorem gAll_b {l : List Bool} : gAll [.f (.lst (l.map D.bl))] = some (.f (.bl (l.all id))) := by
  show (blsOf (l.map D.bl)).map _ = _
  rw [blsOf_map]
  rfl
theorem b2i_inj : ∀ {l m : List Bool}, l.map b2i = m.map b2i → l = m
  | [], [], _ => rfl
  | [], _ :: _, h => by cases h
  | _ :: _, [], h => by cases h
  | a :: l, b :: m, h => by
    rw [List.map_cons, List.map_cons] at h
    have h1 := (List.cons.inj h).1
    rw [b2i_inj (List.cons.inj h).2]
    cases a <;> cases b <;> first | rfl | cases h1
def ksX (seen : List (List Bool)) : List (List Int) := seen.map fun s => s.map b2i
def vsX (seen : List (List Bool)) : List D := seen.map fun _ => .bl true
theorem mem_ksX {s : List Bool} {seen : List (List Bool)} : (s.map b2i ∈ ksX seen) ↔ s ∈ seen := by
  unfold ksX
  rw [List.mem_map]
  constructor
  · rintro ⟨t, h, e⟩
    rw [← b2i_inj e]
    exact h
  · intro h
    exact ⟨s, h, rfl⟩
def bsD (bs : List (List Nat)) : D := .lst (bs.map nL)
def lvD (p : Lv) : D := .tup [dL p.1, bsD p.2]
theorem bsD_app {bs : List (List Nat)} {b : List Nat} (h : bs.length ≤ 1000000) : gAdd (.f (bsD bs)) (.f (.lst [nL b])) = some (.f (bsD (bs ++ [b]))) := by
  unfold bsD
  have e : (bs ++ [b]).map nL = bs.map nL ++ [nL b] := by rw [List.map_append]; rfl
  have hl : (bs.map nL).length ≤ 1000000 := by rw [List.length_map]; exact h
  rw [e]
  generalize bs.map nL = l at *
  show (Option.orElse none fun _ => Option.orElse none fun _ => Option.orElse (if l.length + [nL b].length ≤ sizeLine then some (T.f (.lst (l ++ [nL b]))) else none) fun _ => _) = _
  rw [if_pos (show l.length + [nL b].length ≤ sizeLine by show l.length + 1 ≤ 16777216; omega)]
  rfl
theorem more_lc {ds : List Deed} {done : List Bool} {b : List Nat} {t0 t1 t2 t3 t4 t6 t8 t9 : T} (hd : done.length = ds.length) :
    lcF (gSet 10) tYesF m_laid_1 [t0, t1, t2, t3, t4, .f (dL done), t6, .f (nL b), t8, t9, .un] (rangeD 0 ds.length) = some ((moreB ds.length done b).map D.bl) := by
  unfold rangeD
  rw [lcF_of (G := fun k => [D.bl (dn done k || decide (k ∈ b))])]
  · unfold moreB
    rw [List.map_map]
    congr 1
    induction List.range ds.length with
    | nil => rfl
    | cons a l ih => rw [List.flatMap_cons, List.map_cons, ih]; rfl
  · intro k hk
    have hk := List.mem_range.mp hk
    have x1 := dn_at (done := done) (i := k) (by omega)
    have q : gIn (.f (.int (k : Int))) (.f (nL b)) = some (.f (.bl (decide (k ∈ b)))) := nIn rfl
    have hz : (0 : Int) + (k : Int) = (k : Int) := Int.zero_add _
    rw [hz]
    unfold m_laid_1 dL
    generalize done.map D.bl = dd at *
    generalize nL b = bb at *
    generalize decide (k ∈ b) = c at *
    generalize dn done k = c2 at *
    clear hz hk hd
    cases c <;> cases c2 <;> walk_at "W"
/-! laid walked -/
def lfr (ds : List Deed) (u : Nat → Nat) (lvl : T) (st : Lst) (a5 a6 a7 a8 : T) : List T := [.f (.lst (ds.map Deed.d)), .f (uD u), lvl, .di (ksX st.1) (vsX st.1), .l (st.2.map lvD), a5, a6, a7, a8, .un, .un]
theorem lfr_eq {ds : List Deed} {u : Nat → Nat} {lvl : T} {st : Lst} {a5 a6 a7 a8 : T} : lfr ds u lvl st a5 a6 a7 a8 = [.f (.lst (ds.map Deed.d)), .f (uD u), lvl, .di (ksX st.1) (vsX st.1), .l (st.2.map lvD), a5, a6, a7, a8, .un, .un] := rfl
theorem ksX_snoc {seen : List (List Bool)} {s : List Bool} : ksX (seen ++ [s]) = ksX seen ++ [s.map b2i] := by unfold ksX; rw [List.map_append]; rfl
theorem vsX_snoc {seen : List (List Bool)} {s : List Bool} : vsX (seen ++ [s]) = vsX seen ++ [.bl true] := by unfold vsX; rw [List.map_append]; rfl
theorem laid_inner {ds : List Deed} {u : Nat → Nat} {names : List Str} {w i : Nat} {p : Lv} {st : Lst} {lvl a7 a8 : T} (h : DsOk ds names w) (hp : p.1.length = ds.length) (hpi : p.2.length < i) (hi : i ≤ 1000000) (hg : Gd ds.length i st) :
    ∃ o, forF (gSet 7) l_laid_3 (fnD (nextB ds u p.1)) (lfr ds u lvl st (.f (dL p.1)) (.f (bsD p.2)) a7 a8) = some o ∧
      ((∃ st' b7 b8, inB ds u st p = .ok st' ∧ Gd ds.length i st' ∧ o = .nx (lfr ds u lvl st' (.f (dL p.1)) (.f (bsD p.2)) b7 b8)) ∨ ∃ r ρ', inB ds u st p = .error r ∧ 2 ≤ ρ'.length ∧ o = .rt (.f (bsD r)) ρ') := by
  have h8 := h.len
  have hpow : 2 ^ ds.length ≤ 256 := Nat.le_trans (Nat.pow_le_pow_right (by decide) h8) (by decide)
  obtain ⟨o, l1, hout⟩ := for_mapR (fg := gSet 7) (fb := l_laid_3) (φ := nL) (nextB ds u p.1)
    (fun j ρ => ∃ st' b7 b8, ((nextB ds u p.1).take j).foldlM (stB ds.length p) st = .ok st' ∧ Gd ds.length i st' ∧ ρ = lfr ds u lvl st' (.f (dL p.1)) (.f (bsD p.2)) b7 b8)
    (fun o => ∃ r ρ', (nextB ds u p.1).foldlM (stB ds.length p) st = .error r ∧ 2 ≤ ρ'.length ∧ o = .rt (.f (bsD r)) ρ') (by
    rintro j b ρ hb ⟨s, b7, b8, hs, hgs, rfl⟩
    have hst := foldM_take (f := stB ds.length p) hb hs
    have hgd : ∀ s', stB ds.length p s b = .ok s' → Gd ds.length i s' := fun s' e => stB_gd hgs hpi e
    have lc := more_lc (ds := ds) (done := p.1) (b := b) (t0 := .f (.lst (ds.map Deed.d))) (t1 := .f (uD u)) (t2 := lvl) (t3 := .di (ksX s.1) (vsX s.1)) (t4 := .l (s.2.map lvD)) (t6 := .f (bsD p.2)) (t8 := b8) (t9 := .un) hp
    have ga := gAll_b (l := moreB ds.length p.1 b)
    have a1 := bsD_app (bs := p.2) (b := b) (by omega)
    have hdl : (ds.map Deed.d).length = ds.length := List.length_map _
    have hml : ((moreB ds.length p.1 b).map D.bl).length ≤ 8 := by rw [List.length_map, more_len]; exact h8
    have hsl : s.1.length ≤ 256 := Nat.le_trans (nd_le _ _ hgs.nd hgs.ln) hpow
    have hkl : (ksX s.1).length ≤ 256 := by unfold ksX; rw [List.length_map]; exact hsl
    have hgl : (s.2.map lvD).length ≤ 256 := by rw [List.length_map]; have := hgs.gl; omega
    have gn := gNotInZ_b (l := moreB ds.length p.1 b) (ks := ksX s.1) (ds := vsX s.1)
    rw [show decide ((moreB ds.length p.1 b).map b2i ∈ ksX s.1) = decide (moreB ds.length p.1 b ∈ s.1) from decide_eq_decide.mpr mem_ksX] at gn
    have hmem : (moreB ds.length p.1 b).map b2i ∈ ksX s.1 ↔ moreB ds.length p.1 b ∈ s.1 := mem_ksX
    have e0 : stB ds.length p s b = if (moreB ds.length p.1 b).all id = true then .error (p.2 ++ [b]) else if moreB ds.length p.1 b ∈ s.1 then .ok s else .ok (s.1 ++ [moreB ds.length p.1 b], s.2 ++ [(moreB ds.length p.1 b, p.2 ++ [b])]) := rfl
    rw [e0] at hst hgd
    clear e0
    cases hall : (moreB ds.length p.1 b).all id with
    | true =>
      rw [hall] at ga hst
      rw [if_pos rfl] at hst
      have hR := Hid.mk (foldM_err hst)
      clear hst hgd hall gn hmem hs hb hgs h hp hpi hi hg hsl hpow
      generalize (moreB ds.length p.1 b).map D.bl = ml at *
      rw [lfr_eq (st := s)]
      unfold l_laid_3
      generalize ds.map Deed.d = de at *
      generalize uD u = uu at *
      generalize dL p.1 = d5 at *
      generalize bsD p.2 = d6 at *
      generalize hans : bsD (p.2 ++ [b]) = ans at *
      replace hans := Hid.mk hans
      generalize nL b = bb at *
      generalize s.2.map lvD = sg at *
      generalize ksX s.1 = sk at *
      generalize vsX s.1 = sv at *
      generalize ds.length = n at *
      apply Wn_of_rt
      case h =>
        walk_at "W"
        rfl
      case hq =>
        rw [← hans.out]
        exact ⟨_, _, hR.out, by simp, rfl⟩
    | false =>
      rw [hall] at ga hst hgd
      rw [if_neg (by decide)] at hst hgd
      by_cases hm : moreB ds.length p.1 b ∈ s.1
      · rw [if_pos hm] at hst hgd
        rw [decide_eq_true hm] at gn
        have hR := Hid.mk hst
        have hgs' := Hid.mk hgs
        have hq : ∃ fr, fr = lfr ds u lvl s (.f (dL p.1)) (.f (bsD p.2)) (.f (nL b)) (.f (.lst ((moreB ds.length p.1 b).map D.bl))) := ⟨_, rfl⟩
        obtain ⟨fr, hfr⟩ := hq
        have hfr' := Hid.mk hfr
        rw [lfr_eq] at hfr
        clear hst hgd hall hmem hs hb h hp hpi hi hg hsl hpow hm a1 hgs
        rw [lfr_eq (st := s)]
        unfold l_laid_3
        generalize (moreB ds.length p.1 b).map D.bl = ml at *
        generalize ds.map Deed.d = de at *
        generalize uD u = uu at *
        generalize dL p.1 = d5 at *
        generalize bsD p.2 = d6 at *
        generalize nL b = bb at *
        generalize s.2.map lvD = sg at *
        generalize ksX s.1 = sk at *
        generalize vsX s.1 = sv at *
        generalize ds.length = n at *
        subst hfr
        apply Wn_of
        case h =>
          walk_at "W"
          rfl
        case hq => exact ⟨_, _, _, hR.out, hgs'.out, hfr'.out⟩
      · rw [if_neg hm] at hst hgd
        rw [decide_eq_false hm] at gn
        have hR := Hid.mk hst
        have hgs' := Hid.mk (hgd _ rfl)
        have sx := setX_b (l := moreB ds.length p.1 b) (ks := ksX s.1) (ds := vsX s.1) (d := .bl true) (fun z => hm (hmem.mp z)) (by omega)
        have ek : ksX s.1 ++ [(moreB ds.length p.1 b).map b2i] = ksX (s.1 ++ [moreB ds.length p.1 b]) := ksX_snoc.symm
        have ev : vsX s.1 ++ [.bl true] = vsX (s.1 ++ [moreB ds.length p.1 b]) := vsX_snoc.symm
        have eg : s.2.map lvD ++ [.tup [.lst ((moreB ds.length p.1 b).map D.bl), bsD (p.2 ++ [b])]] = (s.2 ++ [(moreB ds.length p.1 b, p.2 ++ [b])]).map lvD := by rw [List.map_append]; rfl
        rw [ek, ev] at sx
        have hq : ∃ fr, fr = lfr ds u lvl (s.1 ++ [moreB ds.length p.1 b], s.2 ++ [(moreB ds.length p.1 b, p.2 ++ [b])]) (.f (dL p.1)) (.f (bsD p.2)) (.f (nL b)) (.f (.lst ((moreB ds.length p.1 b).map D.bl))) := ⟨_, rfl⟩
        obtain ⟨fr, hfr⟩ := hq
        have hfr' := Hid.mk hfr
        rw [lfr_eq] at hfr
        dsimp only at hfr
        rw [← eg] at hfr
        clear hst hgd hall hmem hs hb h hp hpi hi hg hsl hpow hm ek ev eg hgs
        rw [lfr_eq (st := s)]
        unfold l_laid_3
        generalize (moreB ds.length p.1 b).map D.bl = ml at *
        generalize ksX (s.1 ++ [moreB ds.length p.1 b]) = sk2 at *
        generalize vsX (s.1 ++ [moreB ds.length p.1 b]) = sv2 at *
        generalize bsD (p.2 ++ [b]) = d62 at *
        generalize ds.map Deed.d = de at *
        generalize uD u = uu at *
        generalize dL p.1 = d5 at *
        generalize bsD p.2 = d6 at *
        generalize nL b = bb at *
        generalize s.2.map lvD = sg at *
        generalize ksX s.1 = sk at *
        generalize vsX s.1 = sv at *
        generalize ds.length = n at *
        subst hfr
        apply Wn_of
        case h =>
          walk_at "W"
          rfl
        case hq => exact ⟨_, _, _, hR.out, hgs'.out, hfr'.out⟩) (ρ := lfr ds u lvl st (.f (dL p.1)) (.f (bsD p.2)) a7 a8) ⟨st, a7, a8, rfl, hg, rfl⟩
  refine ⟨o, l1, ?_⟩
  rcases hout with ⟨ρ', rfl, st', b7, b8, e, hg', rfl⟩ | ⟨r, ρ', e, hρ, rfl⟩
  · rw [List.take_length] at e
    exact .inl ⟨st', b7, b8, e, hg', rfl⟩
  · exact .inr ⟨r, ρ', e, hρ, rfl⟩
theorem laid_outer {ds : List Deed} {u : Nat → Nat} {names : List Str} {w i : Nat} {seen : List (List Bool)} {level : List Lv} {lvl a5 a6 a7 a8 : T} (h : DsOk ds names w) (hp : ∀ p ∈ level, p.1.length = ds.length ∧ p.2.length < i) (hi : i ≤ 1000000) (h1 : seen.Nodup) (h2 : ∀ s ∈ seen, s.length = ds.length) :
    ∃ o, forF (gTupT 2 (gsCons (gSet 5) (gsCons (gSet 6) (gsNil)))) l_laid_2 (level.map lvD) (lfr ds u lvl (seen, []) a5 a6 a7 a8) = some o ∧
      ((∃ st' b5 b6 b7 b8, roundF ds u seen level = .ok st' ∧ Gd ds.length i st' ∧ o = .nx (lfr ds u lvl st' b5 b6 b7 b8)) ∨ ∃ r ρ', roundF ds u seen level = .error r ∧ 2 ≤ ρ'.length ∧ o = .rt (.f (bsD r)) ρ') := by
  obtain ⟨o, l1, hout⟩ := for_mapR (fg := gTupT 2 (gsCons (gSet 5) (gsCons (gSet 6) (gsNil)))) (fb := l_laid_2) (φ := lvD) level
    (fun j ρ => ∃ st' b5 b6 b7 b8, (level.take j).foldlM (inB ds u) (seen, []) = .ok st' ∧ Gd ds.length i st' ∧ ρ = lfr ds u lvl st' b5 b6 b7 b8)
    (fun o => ∃ r ρ', roundF ds u seen level = .error r ∧ 2 ≤ ρ'.length ∧ o = .rt (.f (bsD r)) ρ') (by
    rintro j p ρ hpj ⟨s, b5, b6, b7, b8, hs, hgs, rfl⟩
    have hst := foldM_take (f := inB ds u) hpj hs
    have hpp := hp p (List.mem_of_getElem? hpj)
    obtain ⟨o, l2, ho⟩ := laid_inner (u := u) (lvl := lvl) (a7 := b7) (a8 := b8) h hpp.1 hpp.2 hi hgs
    have nk := next_ok (u := u) (done := p.1) h hpp.1
    rw [lfr_eq] at l2
    rw [lfr_eq (st := s)]
    rw [show lvD p = .tup [dL p.1, bsD p.2] from rfl]
    unfold l_laid_2
    rcases ho with ⟨st', c7, c8, e1, hg', rfl⟩ | ⟨r, ρ', e1, hρ, rfl⟩
    · rw [e1] at hst
      have hR := Hid.mk hst
      have hgs' := Hid.mk hg'
      clear hst hg' e1 hpp hpj hs hgs h hp hi h1 h2
      generalize hfr : lfr ds u lvl st' (T.f (dL p.fst)) (T.f (bsD p.snd)) c7 c8 = fr at *
      replace hfr := Hid.mk hfr
      generalize fnD (nextB ds u p.1) = nb at *
      generalize ds.map Deed.d = de at *
      generalize uD u = uu at *
      generalize dL p.1 = d5 at *
      generalize bsD p.2 = d6 at *
      generalize s.2.map lvD = sg at *
      generalize ksX s.1 = sk at *
      generalize vsX s.1 = sv at *
      apply Wn_of
      case h =>
        walk_at "W"
        rfl
      case hq => exact ⟨_, _, _, _, _, hR.out, hgs'.out, hfr.out.symm⟩
    · rw [e1] at hst
      have hR := Hid.mk (foldM_err hst)
      have hρ := Hid.mk hρ
      clear hst e1 hpp hpj hs hgs h hp hi h1 h2
      generalize hans : bsD r = ans at *
      replace hans := Hid.mk hans
      generalize fnD (nextB ds u p.1) = nb at *
      generalize ds.map Deed.d = de at *
      generalize uD u = uu at *
      generalize dL p.1 = d5 at *
      generalize bsD p.2 = d6 at *
      generalize s.2.map lvD = sg at *
      generalize ksX s.1 = sk at *
      generalize vsX s.1 = sv at *
      apply Wn_of_rt
      case h =>
        walk_at "W"
        rfl
      case hq =>
        rw [← hans.out]
        exact ⟨_, _, hR.out, hρ.out, rfl⟩) (ρ := lfr ds u lvl (seen, []) a5 a6 a7 a8) ⟨(seen, []), a5, a6, a7, a8, rfl, ⟨h1, h2, Nat.zero_le _, fun _ h => (List.not_mem_nil h).elim⟩, rfl⟩
  refine ⟨o, l1, ?_⟩
  rcases hout with ⟨ρ', rfl, st', b5, b6, b7, b8, e, hg', rfl⟩ | ⟨r, ρ', e, hρ, rfl⟩
  · rw [List.take_length] at e
    exact .inl ⟨st', b5, b6, b7, b8, e, hg', rfl⟩
  · exact .inr ⟨r, ρ', e, hρ, rfl⟩
theorem laid_while {ds : List Deed} {u : Nat → Nat} {names : List Str} {w : Nat} (h : DsOk ds names w) (hn : 0 < ds.length) {r : List (List Nat)} : ∀ (m fuel i : Nat) (seen : List (List Bool)) (level : List Lv) (a4 a5 a6 a7 a8 : T), m < fuel → m + i ≤ 1000000 → (∀ p ∈ level, p.1.length = ds.length ∧ p.2.length < i) → seen.Nodup → (∀ s ∈ seen, s.length = ds.length) →
    laidF ds u m seen level = some r → ∃ ρ', 2 ≤ ρ'.length ∧ whileF l_laid_1t l_laid_1 fuel [.f (.lst (ds.map Deed.d)), .f (uD u), .f (.lst (level.map lvD)), .di (ksX seen) (vsX seen), a4, a5, a6, a7, a8, .un, .un] = some (.rt (.f (bsD r)) ρ')
  | 0, fuel, i, seen, level, a4, a5, a6, a7, a8, hf, hmi, hp, h1, h2, e => by cases e
  | m + 1, fuel, i, seen, level, a4, a5, a6, a7, a8, hf, hmi, hp, h1, h2, e => by
    obtain ⟨fuel, rfl⟩ : ∃ k, fuel = k + 1 := ⟨fuel - 1, by omega⟩
    rw [while_step]
    obtain ⟨o, l1, ho⟩ := laid_outer (u := u) (lvl := .f (.lst (level.map lvD))) (a5 := a5) (a6 := a6) (a7 := a7) (a8 := a8) h hp (by omega) h1 h2
    have hl : (ds.map Deed.d).length = ds.length := List.length_map _
    have hl2 : (0 : Int) < (ds.length : Int) := by omega
    rw [lfr_eq] at l1
    unfold laidF at e
    rcases ho with ⟨st', c5, c6, c7, c8, e1, hg', rfl⟩ | ⟨r', ρ', e1, hρ, rfl⟩
    · rw [e1] at e
      obtain ⟨ρ', hρ, ih⟩ := laid_while h hn m fuel (i + 1) st'.1 st'.2 (.f (.lst (st'.2.map lvD))) c5 c6 c7 c8 (by omega) (by omega) (fun p hp => ⟨(hg'.lv p hp).1, by have := (hg'.lv p hp).2; omega⟩) hg'.nd hg'.ln e
      refine ⟨ρ', hρ, ?_⟩
      rw [← ih]
      rw [lfr_eq] at l1
      clear ih hρ e e1 hg' h hp h1 h2 hn hf hmi
      generalize ds.map Deed.d = de at *
      generalize uD u = uu at *
      generalize st'.2.map lvD = sg' at *
      generalize ksX st'.1 = sk' at *
      generalize vsX st'.1 = sv' at *
      generalize level.map lvD = lg at *
      generalize ksX seen = sk at *
      generalize vsX seen = sv at *
      generalize ds.length = n at *
      have e0 : ([] : List Lv).map lvD = [] := rfl
      rw [e0] at l1
      clear e0
      unfold l_laid_1t l_laid_1
      walk_at "W"
    · rw [e1] at e
      cases e
      refine ⟨ρ', hρ, ?_⟩
      clear e1 hρ h hp h1 h2 hn hf hmi
      generalize ds.map Deed.d = de at *
      generalize uD u = uu at *
      generalize level.map lvD = lg at *
      generalize ksX seen = sk at *
      generalize vsX seen = sv at *
      generalize ds.length = n at *
      generalize bsD r = ans at *
      have e0 : ([] : List Lv).map lvD = [] := rfl
      rw [e0] at l1
      clear e0
      unfold l_laid_1t l_laid_1
      walk_at "W"
/-! laid: it ends, with a laying -/
def siz (n : Nat) (d : List Bool) : Nat := (fil n (dn d)).length
def blank (n : Nat) : List Bool := List.replicate n false
theorem dn_blank {n k : Nat} : dn (blank n) k = false := by
  unfold dn blank
  rw [List.getElem?_replicate]
  split <;> rfl
inductive Lays (ds : List Deed) (u : Nat → Nat) : List (List Nat) → List Bool → Prop
  | nil : Lays ds u [] (blank ds.length)
  | snoc {bs : List (List Nat)} {d : List Bool} {X : Nat → Bool} : Lays ds u bs d → Adm ds u d X → fil ds.length X ≠ [] → Lays ds u (bs ++ [fil ds.length X]) (moreB ds.length d (fil ds.length X))
structure LvI (ds : List Deed) (u : Nat → Nat) (p : Lv) : Prop where
  lays : Lays ds u p.2 p.1
  some : ∃ k < ds.length, dn p.1 k = false
def Whole (ds : List Deed) (u : Nat → Nat) (r : List (List Nat)) : Prop := ∃ d, Lays ds u r d ∧ ∀ k < ds.length, dn d k = true
theorem all_more {n : Nat} {d : List Bool} {b : List Nat} : (moreB n d b).all id = true ↔ ∀ k < n, dn (moreB n d b) k = true := by
  rw [List.all_eq_true]
  constructor
  · intro h k hk
    have hl : k < (moreB n d b).length := by rw [more_len]; exact hk
    unfold dn
    rw [List.getElem?_eq_getElem hl]
    exact h _ (List.getElem_mem hl)
  · intro h x hx
    obtain ⟨k, hk, rfl⟩ := List.mem_iff_getElem.mp hx
    have := h k (by rw [more_len] at hk; exact hk)
    unfold dn at this
    rw [List.getElem?_eq_getElem hk] at this
    exact this
theorem not_all_more {n : Nat} {d : List Bool} {b : List Nat} (h : ¬ (moreB n d b).all id = true) : ∃ k < n, dn (moreB n d b) k = false := by
  by_cases z : ∃ k < n, dn (moreB n d b) k = false
  · exact z
  · refine absurd (all_more.mpr fun k hk => ?_) h
    cases q : dn (moreB n d b) k with
    | true => rfl
    | false => exact absurd ⟨k, hk, q⟩ z
theorem lays_next {ds : List Deed} {u : Nat → Nat} {p : Lv} {b : List Nat} (hu : ∀ t < 3, 1 ≤ u t) (h : LvI ds u p) (hb : b ∈ nextB ds u p.1) : Lays ds u (p.2 ++ [b]) (moreB ds.length p.1 b) := by
  have hne := next_ne hu h.some hb
  obtain ⟨X, rfl, hX⟩ := next_adm hb
  exact .snoc h.lays hX hne
theorem foldM_errI {α σ ε : Type} {f : σ → α → Except ε σ} {I : σ → Prop} {r : ε} : ∀ {l : List α} {s : σ}, (∀ a ∈ l, ∀ s s', I s → f s a = .ok s' → I s') → l.foldlM f s = .error r → I s → ∃ a ∈ l, ∃ s1, I s1 ∧ f s1 a = .error r
  | [], s, _, e, h => by cases e
  | a :: l, s, hst, e, h => by
    rw [List.foldlM_cons] at e
    cases e1 : f s a with
    | error q => 
      rw [e1] at e
      cases e
      exact ⟨a, List.mem_cons_self, s, h, e1⟩
    | ok s1 =>
      rw [e1] at e
      obtain ⟨b, hb, s2, h2, h3⟩ := foldM_errI (fun b hb => hst b (List.mem_cons_of_mem _ hb)) e (hst a (List.mem_cons_self) _ _ h e1)
      exact ⟨b, List.mem_cons_of_mem _ hb, s2, h2, h3⟩
theorem foldM_cov {α σ ε : Type} {f : σ → α → Except ε σ} {P : α → σ → Prop} (est : ∀ a s s', f s a = .ok s' → P a s') (mono : ∀ a b s s', f s a = .ok s' → P b s → P b s') : ∀ {l : List α} {s s' : σ}, l.foldlM f s = .ok s' → ∀ a ∈ l, P a s'
  | [], _, _, _, _, h => (List.not_mem_nil h).elim
  | a :: l, s, s', e, b, hb => by
    rw [List.foldlM_cons] at e
    cases e1 : f s a with
    | error q => rw [e1] at e; cases e
    | ok s1 =>
      rw [e1] at e
      rcases List.mem_cons.mp hb with rfl | hb
      · exact foldM_inv (I := P b) (fun a _ s s' h e => mono a b s s' e h) e (est b s s1 e1)
      · exact foldM_cov est mono e b hb
theorem stB_sub {n : Nat} {p : Lv} {st st' : Lst} {b : List Nat} (e : stB n p st b = .ok st') : (∀ s ∈ st.1, s ∈ st'.1) ∧ moreB n p.1 b ∈ st'.1 := by
  unfold stB at e
  split at e
  · cases e
  · split at e
    · rename_i h
      cases e
      exact ⟨fun _ h => h, h⟩
    · cases e
      exact ⟨fun s hs => List.mem_append.mpr (.inl hs), List.mem_append.mpr (.inr (List.mem_singleton.mpr rfl))⟩
theorem inB_sub {ds : List Deed} {u : Nat → Nat} {p : Lv} {st st' : Lst} (e : inB ds u st p = .ok st') : (∀ s ∈ st.1, s ∈ st'.1) ∧ ∀ b ∈ nextB ds u p.1, moreB ds.length p.1 b ∈ st'.1 :=
  ⟨fun s hs => foldM_inv (I := fun st : Lst => s ∈ st.1) (fun _ _ _ _ h e => (stB_sub e).1 _ h) e hs,
   foldM_cov (P := fun b st => moreB ds.length p.1 b ∈ st.1) (fun _ _ _ e => (stB_sub e).2) (fun _ _ _ _ e h => (stB_sub e).1 _ h) e⟩
theorem round_sub {ds : List Deed} {u : Nat → Nat} {seen : List (List Bool)} {level : List Lv} {st' : Lst} (e : roundF ds u seen level = .ok st') : (∀ s ∈ seen, s ∈ st'.1) ∧ ∀ p ∈ level, ∀ b ∈ nextB ds u p.1, moreB ds.length p.1 b ∈ st'.1 :=
  ⟨fun s hs => foldM_inv (I := fun st : Lst => s ∈ st.1) (fun _ _ _ _ h e => (inB_sub e).1 _ h) e hs,
   foldM_cov (P := fun (p : Lv) (st : Lst) => ∀ b ∈ nextB ds u p.1, moreB ds.length p.1 b ∈ st.1) (fun _ _ _ e => (inB_sub e).2) (fun _ _ _ _ e h b hb => (inB_sub e).1 _ (h b hb)) e⟩
/-- what is newly seen stands in the new level -/
structure NewI (ds : List Deed) (u : Nat → Nat) (old : List (List Bool)) (st : Lst) : Prop where
  from' : ∀ s ∈ st.1, s ∈ old ∨ ∃ q ∈ st.2, q.1 = s
  lv : ∀ q ∈ st.2, LvI ds u q
theorem stB_new {ds : List Deed} {u : Nat → Nat} {old : List (List Bool)} {p : Lv} {st st' : Lst} {b : List Nat} (hu : ∀ t < 3, 1 ≤ u t) (hp : LvI ds u p) (hb : b ∈ nextB ds u p.1) (h : NewI ds u old st) (e : stB ds.length p st b = .ok st') : NewI ds u old st' := by
  unfold stB at e
  split at e
  · cases e
  · rename_i hall
    split at e
    · cases e; exact h
    · cases e
      refine ⟨fun s hs => ?_, fun q hq => ?_⟩
      · rcases List.mem_append.mp hs with hs | hs
        · exact (h.from' s hs).imp id fun ⟨q, hq, e⟩ => ⟨q, List.mem_append.mpr (.inl hq), e⟩
        · exact .inr ⟨_, List.mem_append.mpr (.inr (List.mem_singleton.mpr rfl)), (List.mem_singleton.mp hs).symm⟩
      · rcases List.mem_append.mp hq with hq | hq
        · exact h.lv q hq
        · rw [List.mem_singleton.mp hq]
          exact ⟨lays_next hu hp hb, not_all_more hall⟩
theorem stB_whole {ds : List Deed} {u : Nat → Nat} {p : Lv} {st : Lst} {b : List Nat} {r : List (List Nat)} (hu : ∀ t < 3, 1 ≤ u t) (hp : LvI ds u p) (hb : b ∈ nextB ds u p.1) (e : stB ds.length p st b = .error r) : Whole ds u r ∧ r.length = p.2.length + 1 := by
  unfold stB at e
  split at e
  · rename_i hall
    cases e
    exact ⟨⟨_, lays_next hu hp hb, all_more.mp hall⟩, by rw [List.length_append]; rfl⟩
  · split at e <;> cases e
theorem inB_new {ds : List Deed} {u : Nat → Nat} {old : List (List Bool)} {p : Lv} {st st' : Lst} (hu : ∀ t < 3, 1 ≤ u t) (hp : LvI ds u p) (h : NewI ds u old st) (e : inB ds u st p = .ok st') : NewI ds u old st' :=
  foldM_inv (I := NewI ds u old) (fun _ hb _ _ h e => stB_new hu hp hb h e) e h
theorem round_new {ds : List Deed} {u : Nat → Nat} {seen : List (List Bool)} {level : List Lv} {st' : Lst} (hu : ∀ t < 3, 1 ≤ u t) (hp : ∀ p ∈ level, LvI ds u p) (e : roundF ds u seen level = .ok st') : NewI ds u seen st' :=
  foldM_inv (I := NewI ds u seen) (fun p hpl _ _ h e => inB_new hu (hp p hpl) h e) e ⟨fun s hs => .inl hs, fun _ h => (List.not_mem_nil h).elim⟩
theorem round_whole {ds : List Deed} {u : Nat → Nat} {seen : List (List Bool)} {level : List Lv} {r : List (List Nat)} (hu : ∀ t < 3, 1 ≤ u t) (hp : ∀ p ∈ level, LvI ds u p) (e : roundF ds u seen level = .error r) : Whole ds u r ∧ ∃ p ∈ level, r.length = p.2.length + 1 := by
  obtain ⟨p, hpl, s1, _, e1⟩ := foldM_errI (I := fun _ => True) (fun _ _ _ _ _ _ => trivial) e trivial
  obtain ⟨b, hb, s2, _, e2⟩ := foldM_errI (I := fun _ => True) (fun _ _ _ _ _ _ => trivial) e1 trivial
  have := stB_whole hu (hp p hpl) hb e2
  exact ⟨this.1, p, hpl, this.2⟩
theorem laid_whole {ds : List Deed} {u : Nat → Nat} {r : List (List Nat)} (hu : ∀ t < 3, 1 ≤ u t) : ∀ (m : Nat) (seen : List (List Bool)) (level : List Lv), (∀ p ∈ level, LvI ds u p) → laidF ds u m seen level = some r → Whole ds u r
  | 0, _, _, _, e => by cases e
  | m + 1, seen, level, hp, e => by
    unfold laidF at e
    cases e1 : roundF ds u seen level with
    | error q =>
      rw [e1] at e
      cases e
      exact (round_whole hu hp e1).1
    | ok st =>
      rw [e1] at e
      exact laid_whole hu m st.1 st.2 (round_new hu hp e1).lv e
theorem ex_max {α : Type} (f : α → Nat) : ∀ {l : List α}, l ≠ [] → ∃ a ∈ l, ∀ b ∈ l, f b ≤ f a
  | [], h => absurd rfl h
  | [a], _ => ⟨a, List.mem_cons_self, fun b hb => by rw [List.mem_singleton.mp hb]; exact Nat.le_refl _⟩
  | a :: b :: l, _ => by
    obtain ⟨c, hc, hm⟩ := ex_max f (l := b :: l) (by simp)
    by_cases z : f a ≤ f c
    · exact ⟨c, List.mem_cons_of_mem _ hc, fun x hx => by
        rcases List.mem_cons.mp hx with rfl | hx
        · exact z
        · exact hm x hx⟩
    · exact ⟨a, List.mem_cons_self, fun x hx => by
        rcases List.mem_cons.mp hx with rfl | hx
        · exact Nat.le_refl _
        · have := hm x hx; omega⟩
theorem fil_sub : ∀ {n : Nat} {X Y : Nat → Bool}, (∀ k < n, X k = true → Y k = true) → (fil n X).length ≤ (fil n Y).length
  | 0, _, _, _ => Nat.le_refl _
  | n + 1, X, Y, h => by
    rw [fil_succ, fil_succ, List.length_append, List.length_append]
    have h1 := fil_sub (n := n) (X := X) (Y := Y) fun k hk => h k (by omega)
    have h2 := h n (by omega)
    cases hx : X n with
    | false => rw [if_neg (by decide)]; simp only [List.length_nil]; omega
    | true => rw [h2 hx, if_pos rfl]; simp only [List.length_singleton]; omega
theorem fil_sub_lt {n k : Nat} {X Y : Nat → Bool} (h : ∀ k < n, X k = true → Y k = true) (hk : k < n) (h1 : X k = false) (h2 : Y k = true) : (fil n X).length + 1 ≤ (fil n Y).length := by
  rw [← fil_pls_len h1 n hk]
  refine fil_sub fun j hj hx => ?_
  rcases pls_inv hx with z | rfl
  · exact h j hj z
  · exact h2
theorem siz_lt {n : Nat} {d : List Bool} (h : ∃ k < n, dn d k = false) : siz n d < n := by
  obtain ⟨k, hk, hd⟩ := h
  have h1 := fil_sub_lt (n := n) (k := k) (X := dn d) (Y := fun _ => true) (fun _ _ _ => rfl) hk hd rfl
  have h2 := fil_le (X := fun _ => true) n
  unfold siz
  omega
theorem siz_more {ds : List Deed} {u : Nat → Nat} {s : List Bool} {b : List Nat} (hb : b ∈ nextB ds u s) (hne : b ≠ []) : siz ds.length s + 1 ≤ siz ds.length (moreB ds.length s b) := by
  obtain ⟨X, rfl, hX⟩ := next_adm hb
  cases hl : fil ds.length X with
  | nil => exact absurd hl hne
  | cons k l =>
    have hm : k ∈ fil ds.length X := by rw [hl]; exact List.mem_cons_self
    have hm' := mem_fil.mp hm
    rw [← hl]
    refine fil_sub_lt (k := k) (fun j hj hd => ?_) hm'.1 (hX.und k hm'.2) ?_
    · rw [dn_more hj, hd]; rfl
    · rw [dn_more hm'.1, decide_eq_true hm, Bool.or_true]
theorem laid_ends {ds : List Deed} {u : Nat → Nat} (hu : ∀ t < 3, 1 ≤ u t) : ∀ (m : Nat) (seen : List (List Bool)) (level : List Lv), (∀ p ∈ level, LvI ds u p) → (∃ p ∈ level, (∀ s ∈ seen, siz ds.length s ≤ siz ds.length p.1) ∧ ds.length ≤ siz ds.length p.1 + m) → ∃ r, laidF ds u m seen level = some r
  | 0, seen, level, hp, ⟨p, hpl, _, hm⟩ => by
    have := siz_lt (hp p hpl).some
    omega
  | m + 1, seen, level, hp, ⟨p, hpl, hs, hm⟩ => by
    unfold laidF
    cases e1 : roundF ds u seen level with
    | error q => exact ⟨q, rfl⟩
    | ok st =>
      have hN := round_new hu hp e1
      obtain ⟨h1, h2⟩ := round_sub e1
      obtain ⟨Y, hY, _, hb⟩ := next_dom (adm_nil (ds := ds) (u := u) (s := p.1))
      have hne := next_ne hu (hp p hpl).some hb
      have hz := siz_more hb hne
      have hin := h2 p hpl _ hb
      have hnew : ∃ q ∈ st.2, q.1 = moreB ds.length p.1 (fil ds.length Y) := by
        rcases hN.from' _ hin with z | z
        · have := hs _ z
          omega
        · exact z
      obtain ⟨q, hq, hqe⟩ := hnew
      obtain ⟨x, hx, hmax⟩ := ex_max (fun q : Lv => siz ds.length q.1) (l := st.2) (fun z => by rw [z] at hq; exact (List.not_mem_nil hq).elim)
      have hqx := hmax q hq
      rw [hqe] at hqx
      refine laid_ends hu m st.1 st.2 hN.lv ⟨x, hx, fun s hs' => ?_, by omega⟩
      rcases hN.from' s hs' with z | ⟨y, hy, rfl⟩
      · have := hs s z
        omega
      · exact hmax y hy
/-- laid ends, with beats that lay all deeds -/
theorem laid_some {ds : List Deed} {u : Nat → Nat} (hu : ∀ t < 3, 1 ≤ u t) (hn : 0 < ds.length) : ∃ r, laidF ds u ds.length [] [(blank ds.length, [])] = some r ∧ Whole ds u r := by
  have hp : ∀ p ∈ [((blank ds.length, []) : Lv)], LvI ds u p := fun p hp => by
    rw [List.mem_singleton.mp hp]
    exact ⟨.nil, 0, hn, dn_blank⟩
  obtain ⟨r, e⟩ := laid_ends hu ds.length [] _ hp ⟨_, List.mem_singleton.mpr rfl, fun _ h => (List.not_mem_nil h).elim, Nat.le_add_left _ _⟩
  exact ⟨r, e, laid_whole hu _ _ _ hp e⟩
theorem laid_ok {ds : List Deed} {u : Nat → Nat} {names : List Str} {w : Nat} (h : DsOk ds names w) (hu : ∀ t < 3, 1 ≤ u t) :
    ∃ r, Whole ds u r ∧ (0 < ds.length → laidF ds u ds.length [] [(blank ds.length, [])] = some r) ∧ val (g_laid [.f (.lst (ds.map Deed.d)), .f (uD u)]) = some (bsD r) := by
  have hv : val (g_laid [.f (.lst (ds.map Deed.d)), .f (uD u)]) = oval (b_laid ([.f (.lst (ds.map Deed.d)), .f (uD u)] ++ List.replicate (11 - 2) .un)) 2 := val_run (m := 2) (n := 11) rfl
  rw [hv]
  clear hv
  have h8 := h.len
  have hl : (ds.map Deed.d).length = ds.length := List.length_map _
  have lc : ∀ t2 t3 t4 t5 t6 t7 t8 : T, lcF (gSet 9) tYesF m_laid_2 [.f (.lst (ds.map Deed.d)), .f (uD u), t2, t3, t4, t5, t6, t7, t8, .un, .un] (ds.map Deed.d) = some ((blank ds.length).map D.bl) := by
    intro t2 t3 t4 t5 t6 t7 t8
    rw [lcF_of (φ := Deed.d) (G := fun _ => [D.bl false])]
    · unfold blank
      congr 1
      clear h h8 hl hu
      induction ds with
      | nil => rfl
      | cons a l ih => rw [List.flatMap_cons, ih, List.length_cons, List.replicate_succ, List.map_cons]; rfl
    · intro d hd
      unfold m_laid_2
      clear h h8 hl hd
      generalize ds.map Deed.d = de
      generalize d.d = dd
      walk_at "W"
  have hbl : ((blank ds.length).map D.bl).length ≤ 8 := by rw [List.length_map]; unfold blank; rw [List.length_replicate]; exact h8
  have lc' := lc .un .un .un .un .un .un .un
  clear lc
  by_cases hn : 0 < ds.length
  · obtain ⟨r, e, hw⟩ := laid_some hu hn
    refine ⟨r, hw, fun _ => e, ?_⟩
    obtain ⟨ρ', hρ, lw⟩ := laid_while (u := u) h hn (r := r) ds.length 1000000 1 [] [(blank ds.length, [])] .un .un .un .un .un (by omega) (by omega) (fun p hp => by
      rw [List.mem_singleton.mp hp]
      exact ⟨List.length_replicate, Nat.zero_lt_one⟩) List.nodup_nil (fun _ h => (List.not_mem_nil h).elim) e
    have e0 : [((blank ds.length, []) : Lv)].map lvD = [.tup [.lst ((blank ds.length).map D.bl), .lst []]] := rfl
    have ek : ksX [] = [] := rfl
    have ev : vsX [] = [] := rfl
    rw [e0, ek, ev] at lw
    clear e0 ek ev e hw h hu
    unfold b_laid
    generalize (blank ds.length).map D.bl = bl at *
    generalize ds.map Deed.d = de at *
    generalize uD u = uu at *
    generalize bsD r = ans at *
    generalize ds.length = n at *
    walk_at "W"
  · have hd : ds = [] := List.length_eq_zero_iff.mp (by omega)
    subst hd
    refine ⟨[], ⟨_, .nil, fun k hk => absurd hk (Nat.not_lt_zero _)⟩, fun z => absurd z hn, ?_⟩
    have e0 : (blank ([] : List Deed).length).map D.bl = [] := rfl
    have e1 : ([] : List Deed).map Deed.d = [] := rfl
    rw [e0, e1] at *
    clear h hu hbl hn h8 hl e0 e1
    have e2 : bsD [] = .lst [] := rfl
    rw [e2]
    clear e2
    unfold b_laid l_laid_1t
    generalize uD u = uu at *
    have ws := @while_step
    have hz : decide ((0 : Int) < ((0 : Nat) : Int)) = false := rfl
    walk_at "W"
/-! layings: none has fewer beats -/
inductive Rch (ds : List Deed) (u : Nat → Nat) : Nat → List Bool → Prop
  | zero : Rch ds u 0 (blank ds.length)
  | succ {i : Nat} {d : List Bool} {X : Nat → Bool} : Rch ds u i d → Adm ds u d X → Rch ds u (i + 1) (moreB ds.length d (fil ds.length X))
def Subd (n : Nat) (s t : List Bool) : Prop := ∀ k < n, dn s k = true → dn t k = true
theorem adm_less {ds : List Deed} {u : Nat → Nat} {S s : List Bool} {X : Nat → Bool} (h : Adm ds u S X) (hs : Subd ds.length S s) : Adm ds u s (fun k => X k && !dn s k) where
  lt := fun k hk => h.lt k (Bool.and_eq_true _ _ ▸ hk).1
  und := fun k hk => by
    have := (Bool.and_eq_true_iff.mp hk).2
    simpa using this
  lean := fun k hk j hj hd => by
    have hX := (Bool.and_eq_true_iff.mp hk).1
    have hkn := h.lt k hX
    have hdS : dn S j = false := by
      cases z : dn S j with
      | false => rfl
      | true => rw [hs j (by omega) z] at hd; cases hd
    have := h.lean k hX j hj hdS
    exact ⟨this.1, fun z => by show (X j && !dn s j) = true; rw [show X j = true from this.2 z, hd]; rfl⟩
  fits := fun t ht => by
    refine Nat.le_trans ?_ (h.fits t ht)
    rw [cnt_fil, cnt_fil]
    exact fil_sub fun k _ hk => by
      cases hx : X k with
      | false => rw [hx] at hk; cases hk
      | true =>
        cases hh : hasS ds t k with
        | false => rw [hh, Bool.and_false] at hk; cases hk
        | true => rfl
theorem dom_step {ds : List Deed} {u : Nat → Nat} {S s : List Bool} {X : Nat → Bool} (h : Adm ds u S X) (hs : Subd ds.length S s) : ∃ b ∈ nextB ds u s, Subd ds.length (moreB ds.length S (fil ds.length X)) (moreB ds.length s b) := by
  obtain ⟨Y, hY, hXY, hb⟩ := next_dom (adm_less h hs)
  refine ⟨_, hb, fun k hk hd => ?_⟩
  rw [dn_more hk, Bool.or_eq_true, decide_eq_true_iff] at hd ⊢
  rcases hd with hd | hd
  · exact .inl (hs k hk hd)
  · cases z : dn s k with
    | true => exact .inl rfl
    | false => exact .inr (mem_fil.mpr ⟨hk, hXY k (by show (X k && !dn s k) = true; rw [(mem_fil.mp hd).2, z]; rfl)⟩)
structure OpI (ds : List Deed) (u : Nat → Nat) (i : Nat) (seen : List (List Bool)) (level : List Lv) : Prop where
  dom : ∀ i' ≤ i, ∀ S, Rch ds u i' S → ∃ s, (s = blank ds.length ∨ s ∈ seen) ∧ Subd ds.length S s
  cl : ∀ s, (s = blank ds.length ∨ s ∈ seen) → (∃ p ∈ level, p.1 = s) ∨ ∀ b ∈ nextB ds u s, moreB ds.length s b ∈ seen
  und : ∀ s, (s = blank ds.length ∨ s ∈ seen) → ∃ k < ds.length, dn s k = false
  len : ∀ p ∈ level, p.2.length = i
  lv : ∀ p ∈ level, LvI ds u p
theorem stB_len {n i : Nat} {p : Lv} {st st' : Lst} {b : List Nat} (hp : p.2.length = i) (h : ∀ q ∈ st.2, q.2.length = i + 1) (e : stB n p st b = .ok st') : ∀ q ∈ st'.2, q.2.length = i + 1 := by
  unfold stB at e
  split at e
  · cases e
  · split at e
    · cases e; exact h
    · cases e
      intro q hq
      rcases List.mem_append.mp hq with hq | hq
      · exact h q hq
      · rw [List.mem_singleton.mp hq]
        show (p.2 ++ [b]).length = i + 1
        rw [List.length_append, hp]
        rfl
theorem round_len {ds : List Deed} {u : Nat → Nat} {i : Nat} {seen : List (List Bool)} {level : List Lv} {st' : Lst} (hp : ∀ p ∈ level, p.2.length = i) (e : roundF ds u seen level = .ok st') : ∀ q ∈ st'.2, q.2.length = i + 1 :=
  foldM_inv (I := fun st : Lst => ∀ q ∈ st.2, q.2.length = i + 1) (fun p hpl _ _ h e => foldM_inv (I := fun st : Lst => ∀ q ∈ st.2, q.2.length = i + 1) (fun _ _ _ _ h e => stB_len (hp p hpl) h e) e h) e fun _ h => (List.not_mem_nil h).elim
theorem subd_und {n : Nat} {S s : List Bool} (h : Subd n S s) (hd : ∃ k < n, dn s k = false) : ∃ k < n, dn S k = false := by
  obtain ⟨k, hk, hd⟩ := hd
  refine ⟨k, hk, ?_⟩
  cases z : dn S k with
  | false => rfl
  | true => rw [h k hk z] at hd; cases hd
theorem laid_opt {ds : List Deed} {u : Nat → Nat} {r : List (List Nat)} (hu : ∀ t < 3, 1 ≤ u t) : ∀ (m i : Nat) (seen : List (List Bool)) (level : List Lv), OpI ds u i seen level → laidF ds u m seen level = some r → ∀ i' < r.length, ∀ S, Rch ds u i' S → ∃ k < ds.length, dn S k = false
  | 0, _, _, _, _, e => by cases e
  | m + 1, i, seen, level, h, e => by
    unfold laidF at e
    cases e1 : roundF ds u seen level with
    | error q =>
      rw [e1] at e
      cases e
      obtain ⟨_, p, hp, hl⟩ := round_whole hu h.lv e1
      rw [hl, h.len p hp]
      intro i' hi' S hS
      obtain ⟨s, hs, hsub⟩ := h.dom i' (by omega) S hS
      exact subd_und hsub (h.und s hs)
    | ok st =>
      rw [e1] at e
      have hN := round_new hu h.lv e1
      obtain ⟨h1, h2⟩ := round_sub e1
      have hold : ∀ s, (s = blank ds.length ∨ s ∈ seen) → ∀ b ∈ nextB ds u s, moreB ds.length s b ∈ st.1 := fun s hs b hb => by
        rcases h.cl s hs with ⟨p, hp, rfl⟩ | hc
        · exact h2 p hp b hb
        · exact h1 _ (hc b hb)
      refine laid_opt hu m (i + 1) st.1 st.2 ⟨fun i' hi' S hS => ?_, fun s hs => ?_, fun s hs => ?_, round_len h.len e1, hN.lv⟩ e
      · by_cases z : i' ≤ i
        · obtain ⟨s, hs, hsub⟩ := h.dom i' z S hS
          exact ⟨s, hs.imp id (h1 s), hsub⟩
        · have : i' = i + 1 := by omega
          subst this
          cases hS with
          | @succ _ d X hd hX =>
            obtain ⟨s, hs, hsub⟩ := h.dom i (Nat.le_refl _) d hd
            obtain ⟨b, hb, hsb⟩ := dom_step hX hsub
            exact ⟨_, .inr (hold s hs b hb), hsb⟩
      · by_cases z : s = blank ds.length ∨ s ∈ seen
        · exact .inr (hold s z)
        · rcases hs with hs | hs
          · exact absurd (.inl hs) z
          · rcases hN.from' s hs with q | q
            · exact absurd (.inr q) z
            · exact .inl q
      · by_cases z : s = blank ds.length ∨ s ∈ seen
        · exact h.und s z
        · rcases hs with hs | hs
          · exact absurd (.inl hs) z
          · rcases hN.from' s hs with q | ⟨q, hq, rfl⟩
            · exact absurd (.inr q) z
            · exact (hN.lv q hq).some
theorem laid_least {ds : List Deed} {u : Nat → Nat} {r : List (List Nat)} (hu : ∀ t < 3, 1 ≤ u t) (hn : 0 < ds.length) (e : laidF ds u ds.length [] [(blank ds.length, [])] = some r) : ∀ i' < r.length, ∀ S, Rch ds u i' S → ∃ k < ds.length, dn S k = false := by
  have hbl : ∃ k < ds.length, dn (blank ds.length) k = false := ⟨0, hn, dn_blank⟩
  refine laid_opt hu _ 0 [] _ ⟨fun i' hi' S hS => ?_, fun s hs => ?_, fun s hs => ?_, fun p hp => ?_, fun p hp => ?_⟩ e
  · have : i' = 0 := by omega
    subst this
    cases hS
    exact ⟨_, .inl rfl, fun _ _ h => h⟩
  · rcases hs with rfl | hs
    · exact .inl ⟨_, List.mem_singleton.mpr rfl, rfl⟩
    · exact (List.not_mem_nil hs).elim
  · rcases hs with rfl | hs
    · exact hbl
    · exact (List.not_mem_nil hs).elim
  · rw [List.mem_singleton.mp hp]
    rfl
  · rw [List.mem_singleton.mp hp]
    exact ⟨.nil, hbl⟩
/-! where the deeds of a laying stand -/
def Inn (r : List (List Nat)) (i k : Nat) : Prop := ∃ b, r[i]? = some b ∧ k ∈ b
theorem inn_snoc {r : List (List Nat)} {b : List Nat} {i k : Nat} : Inn (r ++ [b]) i k ↔ Inn r i k ∨ (i = r.length ∧ k ∈ b) := by
  unfold Inn
  constructor
  · rintro ⟨c, h, hk⟩
    by_cases z : i < r.length
    · rw [List.getElem?_append_left z] at h
      exact .inl ⟨c, h, hk⟩
    · have h3 := (List.getElem?_eq_some_iff.mp h).1
      rw [List.length_append, List.length_singleton] at h3
      have : i = r.length := by omega
      subst this
      rw [List.getElem?_append_right (Nat.le_refl _), Nat.sub_self] at h
      cases h
      exact .inr ⟨rfl, hk⟩
  · rintro (⟨c, h, hk⟩ | ⟨rfl, hk⟩)
    · exact ⟨c, by rw [List.getElem?_append_left (List.getElem?_eq_some_iff.mp h).1]; exact h, hk⟩
    · exact ⟨b, by rw [List.getElem?_append_right (Nat.le_refl _), Nat.sub_self]; rfl, hk⟩
theorem inn_lt {r : List (List Nat)} {i k : Nat} (h : Inn r i k) : i < r.length := by
  obtain ⟨b, h, _⟩ := h
  exact (List.getElem?_eq_some_iff.mp h).1
theorem gpk_or {ds : List Deed} {j k : Nat} : gpk ds j k = none ∨ gpk ds j k = some 0 ∨ gpk ds j k = some 1 := by
  unfold gpk
  cases ds[j]? with
  | none => exact .inl rfl
  | some d =>
    cases ds[k]? with
    | none => exact .inl rfl
    | some e =>
      show gp d e = none ∨ gp d e = some 0 ∨ gp d e = some 1
      unfold gp
      cases d <;> cases e <;> simp only [Deed.wr] <;> repeat' split
      all_goals simp
structure Plc (ds : List Deed) (r : List (List Nat)) (d : List Bool) : Prop where
  lt : ∀ i k, Inn r i k → k < ds.length
  dn : ∀ k < ds.length, dn d k = true ↔ ∃ i, Inn r i k
  one : ∀ i i' k, Inn r i k → Inn r i' k → i = i'
  lean : ∀ i i' j k, Inn r i k → Inn r i' j → j < k → ∀ f, gpk ds j k = some f → (i' : Int) + f ≤ i
  left : ∀ i j k, Inn r i k → j < k → K.dn d j = false → gpk ds j k = none
theorem lays_plc {ds : List Deed} {u : Nat → Nat} {r : List (List Nat)} {d : List Bool} (h : Lays ds u r d) : Plc ds r d := by
  induction h with
  | nil =>
    have no : ∀ i k, ¬ Inn [] i k := by
      rintro i k ⟨b, h, _⟩
      cases h
    exact ⟨fun i k h => absurd h (no i k), fun k _ => ⟨fun h => (by rw [dn_blank] at h; cases h), fun ⟨i, h⟩ => absurd h (no i k)⟩, fun i _ k h => absurd h (no i k), fun i _ _ k h => absurd h (no i k), fun i _ k h => absurd h (no i k)⟩
  | @snoc bs d X hl hX hne ih =>
    have und : ∀ i k, Inn bs i k → K.dn d k = true := fun i k hi => (ih.dn k (ih.lt i k hi)).mpr ⟨i, hi⟩
    have newu : ∀ k, k ∈ fil ds.length X → K.dn d k = false := fun k hk => hX.und k (mem_fil.mp hk).2
    refine ⟨fun i k hi => ?_, fun k hk => ?_, fun i i' k h1 h2 => ?_, fun i i' j k h1 h2 hj f hf => ?_, fun i j k h1 hj hd => ?_⟩
    · rcases inn_snoc.mp hi with hi | ⟨_, hi⟩
      · exact ih.lt i k hi
      · exact (mem_fil.mp hi).1
    · rw [dn_more hk, Bool.or_eq_true, decide_eq_true_iff, ih.dn k hk]
      constructor
      · rintro (⟨i, hi⟩ | hi)
        · exact ⟨i, inn_snoc.mpr (.inl hi)⟩
        · exact ⟨_, inn_snoc.mpr (.inr ⟨rfl, hi⟩)⟩
      · rintro ⟨i, hi⟩
        exact (inn_snoc.mp hi).imp (fun z => ⟨i, z⟩) fun z => z.2
    · rcases inn_snoc.mp h1 with h1 | ⟨e1, h1⟩ <;> rcases inn_snoc.mp h2 with h2 | ⟨e2, h2⟩
      · exact ih.one i i' k h1 h2
      · have := und i k h1
        rw [newu k h2] at this
        cases this
      · have := und i' k h2
        rw [newu k h1] at this
        cases this
      · omega
    · rcases inn_snoc.mp h1 with h1 | ⟨e1, h1⟩ <;> rcases inn_snoc.mp h2 with h2 | ⟨e2, h2⟩
      · exact ih.lean i i' j k h1 h2 hj f hf
      · have := ih.left i j k h1 hj (newu j h2)
        rw [this] at hf
        cases hf
      · have h3 := inn_lt h2
        rcases gpk_or (ds := ds) (j := j) (k := k) with z | z | z <;> rw [z] at hf <;> cases hf <;> omega
      · have h3 := hX.lean k (mem_fil.mp h1).2 j hj (newu j h2)
        rcases gpk_or (ds := ds) (j := j) (k := k) with z | z | z
        · rw [z] at hf; cases hf
        · rw [z] at hf; cases hf; omega
        · exact absurd z h3.1
    · have hkn : k < ds.length := by
        rcases inn_snoc.mp h1 with h1 | ⟨_, h1⟩
        · exact ih.lt i k h1
        · exact (mem_fil.mp h1).1
      rw [dn_more (by omega), Bool.or_eq_false_iff, decide_eq_false_iff_not] at hd
      rcases inn_snoc.mp h1 with h1 | ⟨e1, h1⟩
      · exact ih.left i j k h1 hj hd.1
      · have h3 := hX.lean k (mem_fil.mp h1).2 j hj hd.1
        rcases gpk_or (ds := ds) (j := j) (k := k) with z | z | z
        · exact z
        · exact absurd (mem_fil.mpr ⟨by omega, h3.2 z⟩) hd.2
        · exact absurd z h3.1
structure BtI (ds : List Deed) (u : Nat → Nat) (b : List Nat) : Prop where
  fit : fitsB ds u b = true
  ne : b ≠ []
  inc : ∃ X, b = fil ds.length X
theorem lays_bt {ds : List Deed} {u : Nat → Nat} {r : List (List Nat)} {d : List Bool} (h : Lays ds u r d) : ∀ b ∈ r, BtI ds u b := by
  induction h with
  | nil => intro b hb; exact (List.not_mem_nil hb).elim
  | @snoc bs d X hl hX hne ih =>
    intro b hb
    rcases List.mem_append.mp hb with hb | hb
    · exact ih b hb
    · rw [List.mem_singleton.mp hb]
      exact ⟨fits_iff.mpr hX.fits, hne, X, rfl⟩
theorem lays_len {ds : List Deed} {u : Nat → Nat} {r : List (List Nat)} {d : List Bool} (h : Lays ds u r d) : r.length ≤ siz ds.length d := by
  induction h with
  | nil => exact Nat.zero_le _
  | @snoc bs d X hl hX hne ih =>
    rw [List.length_append, List.length_singleton]
    have : siz ds.length d + 1 ≤ siz ds.length (moreB ds.length d (fil ds.length X)) := by
      cases hl2 : fil ds.length X with
      | nil => exact absurd hl2 hne
      | cons k l =>
        have hm : k ∈ fil ds.length X := by rw [hl2]; exact List.mem_cons_self
        have hm' := mem_fil.mp hm
        rw [← hl2]
        refine fil_sub_lt (k := k) (fun j hj hd => ?_) hm'.1 (hX.und k hm'.2) ?_
        · rw [dn_more hj, hd]; rfl
        · rw [dn_more hm'.1, decide_eq_true hm, Bool.or_true]
    omega
theorem gapk_ok {ds : List Deed} {names : List Str} {w j k : Nat} (h : DsOk ds names w) (hj : j < ds.length) (hk : k < ds.length) : val (g_gap [.f (.lst (ds.map Deed.d)), .f (.int (j : Int)), .f (.int (k : Int))]) = some (gD (gpk ds j k)) := by
  have g1 := gap_ok (j := j) (k := k) (List.getElem?_eq_getElem hj) (List.getElem?_eq_getElem hk) (h.ok _ (List.getElem_mem hj)) (h.ok _ (List.getElem_mem hk))
  have gk : gpk ds j k = gp ds[j] ds[k] := by unfold gpk; rw [List.getElem?_eq_getElem hj, List.getElem?_eq_getElem hk]; rfl
  rw [gk]
  exact g1
theorem law_gapk_ok {ds : List Deed} {names : List Str} {w j k : Nat} (h : DsOk ds names w) (hj : j < ds.length) (hk : k < ds.length) : ∃ dj dk : D, (ds.map Deed.d)[j]? = some dj ∧ (ds.map Deed.d)[k]? = some dk ∧ val (g_law_gap [.f dj, .f dk]) = some (gD (gpk ds j k)) := by
  refine ⟨ds[j].d, ds[k].d, at_map (List.getElem?_eq_getElem hj), at_map (List.getElem?_eq_getElem hk), ?_⟩
  have gk : gpk ds j k = gp ds[j] ds[k] := by unfold gpk; rw [List.getElem?_eq_getElem hj, List.getElem?_eq_getElem hk]; rfl
  rw [gk]
  exact law_gap_ok (h.ok _ (List.getElem_mem hj)) (h.ok _ (List.getElem_mem hk))
theorem nL_len {b : List Nat} : gLen [.f (nL b)] = some (.f (.int (b.length : Int))) := by
  show some (T.f (D.int (((nI b).map D.int).length : Int))) = _
  rw [List.length_map, nI_len]
def sL : Option Nat → D
  | none => .int 3
  | some n => .int (n : Int)
theorem law_sort_ok (d : Deed) {names : List Str} {w : Nat} (h : d.Ok names w) : val (g_law_sort [.f d.d]) = some (sL (srt d)) := by
  have hv : val (g_law_sort [.f d.d]) = oval (b_law_sort ([.f d.d] ++ List.replicate (1 - 1) .un)) 1 := val_run (m := 1) (n := 1) rfl
  rw [hv]
  clear hv
  have i2 : ∀ z a b : Str, gIn (.f (.str z)) (.f (.tup [.str a, .str b])) = some (.f (.bl (decide (z ∈ [a, b])))) := fun z a b => gIn_st (l := [a, b])
  have i3 : ∀ z a b c : Str, gIn (.f (.str z)) (.f (.tup [.str a, .str b, .str c])) = some (.f (.bl (decide (z ∈ [a, b, c])))) := fun z a b c => gIn_st (l := [a, b, c])
  have key : ∀ (p : Str) (tl : List D) (r : D) (c1 c2 c3 : Bool), decide (p ∈ (["plus", "less"] : List Str)) = c1 → decide (p ∈ (["below", "same"] : List Str)) = c2 → decide (p ∈ (["and", "or", "xor"] : List Str)) = c3 →
      r = (if c1 = true then .int 0 else if c2 = true then .int 1 else if c3 = true then .int 2 else .int 3) → oval (b_law_sort [.f (.tup (.str p :: tl))]) 1 = some r := by
    intro p tl r c1 c2 c3 h1 h2 h3 hr
    subst hr
    unfold b_law_sort
    cases c1 <;> cases c2 <;> cases c3 <;> walk_at "W"
  cases d with
  | tell a => exact key "tell" _ _ false false false (by decide) (by decide) (by decide) rfl
  | copy n a => exact key "copy" _ _ false false false (by decide) (by decide) (by decide) rfl
  | op p n a b =>
    have hp := h.1
    simp only [ops, List.mem_cons, List.mem_nil_iff, or_false] at hp
    rcases hp with rfl | rfl | rfl | rfl | rfl | rfl | rfl
    · exact key "plus" _ _ true false false (by decide) (by decide) (by decide) rfl
    · exact key "less" _ _ true false false (by decide) (by decide) (by decide) rfl
    · exact key "and" _ _ false false true (by decide) (by decide) (by decide) rfl
    · exact key "or" _ _ false false true (by decide) (by decide) (by decide) rfl
    · exact key "xor" _ _ false false true (by decide) (by decide) (by decide) rfl
    · exact key "below" _ _ false true false (by decide) (by decide) (by decide) rfl
    · exact key "same" _ _ false true false (by decide) (by decide) (by decide) rfl
theorem gEq_sL {o : Option Nat} {t : Nat} (ht : t < 3) : gEq (.f (sL o)) (.f (.int (t : Int))) = some (.f (.bl (decide (o = some t)))) := by
  cases o with
  | none =>
    show gEq (.f (.int 3)) (.f (.int (t : Int))) = _
    rw [gEq_i]
    congr 3
    exact decide_eq_decide.mpr ⟨fun z => absurd z (by omega), fun z => by cases z⟩
  | some n => exact gEq_sD (o := some n)
theorem two_cast (w : Nat) : (2 : Int) ^ w = ((2 ^ w : Nat) : Int) := by
  rw [Int.natCast_pow]
  rfl
theorem log2_bits {z : Int} (h : Builtin.Int.intBits z ≤ 1048576) : z.natAbs.log2 ≤ 1048576 := by
  unfold Builtin.Int.intBits at h
  split at h
  · rename_i h0
    have : z = 0 := by simpa using h0
    subst this
    simp
  · omega
theorem mixed_ok {c k : Int} (hb : Builtin.Int.intBits c ≤ 1048576) (h0 : 0 ≤ k) (h1 : k < 1000) : ∃ m : Int, 0 ≤ m ∧ m < 2 ^ 100 ∧ val (g_law_mixed [.f (.int c), .f (.int k)]) = some (.int m) := by
  have hv : val (g_law_mixed [.f (.int c), .f (.int k)]) = oval (b_law_mixed ([.f (.int c), .f (.int k)] ++ List.replicate (3 - 2) .un)) 2 := val_run (m := 2) (n := 3) rfl
  rw [hv]
  clear hv
  unfold b_law_mixed
  have e40 : gPow (.f (.int 10)) (.f (.int 40)) = some (.f (.int (10 ^ 40))) := gPow_ok (by decide) (by decide) (by decide)
  have hk60 : 0 ≤ k % 60 ∧ k % 60 < 60 := ⟨Int.emod_nonneg _ (by decide), Int.emod_lt_of_pos _ (by decide)⟩
  by_cases hc : (10 : Int) ^ 40 ≤ c
  · have hp : (0 : Int) < 2 ^ (100 * (k % 60)).toNat := Int.pow_pos (by decide)
    have e5 : gDiv (.f (.int (c - 10 ^ 40))) (.f (.int (2 ^ (100 * (k % 60)).toNat))) = some (.f (.int ((c - 10 ^ 40) / (2 ^ (100 * (k % 60)).toNat)))) := gDiv_ok hp (by
      rw [Int.natAbs_pow]
      exact Nat.pow_lt_pow_right (by decide) (by omega))
    have e6 := gMod_ok (i := (c - 10 ^ 40) / (2 ^ (100 * (k % 60)).toNat)) (j := 2 ^ (100 : Int).toNat) (by decide)
    refine ⟨((c - 10 ^ 40) / (2 ^ (100 * (k % 60)).toNat)) % (2 ^ (100 : Int).toNat), Int.emod_nonneg _ (by decide), Int.emod_lt_of_pos _ (by decide), ?_⟩
    have hcd := decide_eq_true hc
    clear hp hb hk60
    walk_at "W"
  · have hs : (c * c).natAbs = c.natAbs * c.natAbs := Int.natAbs_mul c c
    have hl := log2_bits hb
    have m1 : gMul (.f (.int c)) (.f (.int c)) = some (.f (.int (c * c))) := gMul_ok (by omega)
    have m2 : gMul (.f (.int 3)) (.f (.int c)) = some (.f (.int (3 * c))) := gMul_ok (by
      have a : (3 : Int).natAbs.log2 < 7 := by decide
      omega)
    have bc : c.natAbs < 2 ^ 1048577 := by
      by_cases z : c.natAbs = 0
      · rw [z]; exact Nat.two_pow_pos _
      · exact (Nat.log2_lt z).mp (by omega)
    have bx : (c * c + 3 * c + 7919 * k + 1).natAbs < 2 ^ 2097158 := by
      have q1 : c.natAbs * c.natAbs < 2 ^ 1048577 * 2 ^ 1048577 := Nat.mul_lt_mul'' bc bc
      rw [← Nat.pow_add] at q1
      have q2 : (2 : Nat) ^ 1048577 ≤ 2 ^ (1048577 + 1048577) := Nat.pow_le_pow_right (by decide) (by decide)
      have q3 : (2 : Nat) ^ 24 ≤ 2 ^ (1048577 + 1048577) := Nat.pow_le_pow_right (by decide) (by decide)
      have q4 : (2 : Nat) ^ 2097158 = 2 ^ (1048577 + 1048577) * 2 ^ 4 := by rw [← Nat.pow_add]
      rw [q4]
      generalize (2 : Nat) ^ (1048577 + 1048577) = G at *
      generalize (2 : Nat) ^ 1048577 = G2 at *
      generalize hcc : c * c = cc at *
      omega
    have m4 : gMul (.f (.int (c * c + 3 * c + 7919 * k + 1))) (.f (.int 48271)) = some (.f (.int ((c * c + 3 * c + 7919 * k + 1) * 48271))) := gMul_ok (by
      have a : (48271 : Int).natAbs.log2 < 17 := by decide
      have b : (c * c + 3 * c + 7919 * k + 1).natAbs.log2 < 2097158 := log2_small (k := 2097157) bx
      omega)
    have m5 := gMod_ok (i := (c * c + 3 * c + 7919 * k + 1) * 48271) (j := 2147483629) (by decide)
    generalize hn : (c * c + 3 * c + 7919 * k + 1) * 48271 % 2147483629 = n at m5
    have hn0 : 0 ≤ n := by rw [← hn]; exact Int.emod_nonneg _ (by decide)
    have hn1 : n < 2147483629 := by rw [← hn]; exact Int.emod_lt_of_pos _ (by decide)
    refine ⟨(n * n + 7) % 2147483587, Int.emod_nonneg _ (by decide), Int.lt_trans (Int.emod_lt_of_pos _ (by decide)) (by decide), ?_⟩
    have hcd := decide_eq_false hc
    clear hc hn bx bc hl hs hb hk60
    walk_at "W"
theorem whole_ok (i : Int) : val (g_law_whole [.f (.int i)]) = some (.bl true) := by
  have hv : val (g_law_whole [.f (.int i)]) = oval (b_law_whole ([.f (.int i)] ++ List.replicate (1 - 1) .un)) 1 := val_run (m := 1) (n := 1) rfl
  rw [hv]
  unfold b_law_whole
  walk_at "w"
theorem law_operand_ok {m : Int} {names : List Str} {w : Nat} (hm : 0 ≤ m) (hn : 0 < names.length) (hw : w ≤ 100) :
    ∃ a : Opd, a.Ok names w ∧ val (g_law_operand [.f (.int m), .f (.lst (names.map .str)), .f (.int (w : Int))]) = some a.d := by
  have hv : val (g_law_operand [.f (.int m), .f (.lst (names.map .str)), .f (.int (w : Int))]) = oval (b_law_operand ([.f (.int m), .f (.lst (names.map .str)), .f (.int (w : Int))] ++ List.replicate (3 - 3) .un)) 3 := val_run (m := 3) (n := 3) rfl
  rw [hv]
  clear hv
  unfold b_law_operand
  by_cases h : 0 < m % 3
  · obtain ⟨x, hx, h0, hp⟩ := pick hn (m / 3)
    have hp := hp D.str
    refine ⟨.nm x, hx, ?_⟩
    have ed : (Opd.nm x).d = .str x := rfl
    have hn2 : 0 < (names.length : Int) := by omega
    rw [ed]
    clear ed hx
    walk_at "W"
  · have hp : (0 : Int) < 2 ^ w := Int.pow_pos (by decide)
    refine ⟨.wd (m / 3 % 2 ^ w), ⟨Int.emod_nonneg _ (by omega), Int.emod_lt_of_pos _ hp⟩, ?_⟩
    have ed : (Opd.wd (m / 3 % 2 ^ w)).d = .int (m / 3 % 2 ^ w) := rfl
    rw [ed]
    clear ed
    walk_at "W"
theorem law_deed_ok {m : Int} {names : List Str} {w : Nat} (hm : 0 ≤ m) (hn : 0 < names.length) (hw : w ≤ 100) :
    ∃ d : Deed, d.Ok names w ∧ val (g_law_deed [.f (.int m), .f (.lst (names.map .str)), .f (.int (w : Int))]) = some d.d := by
  have hv : val (g_law_deed [.f (.int m), .f (.lst (names.map .str)), .f (.int (w : Int))]) = oval (b_law_deed ([.f (.int m), .f (.lst (names.map .str)), .f (.int (w : Int))] ++ List.replicate (6 - 3) .un)) 3 := val_run (m := 3) (n := 6) rfl
  rw [hv]
  clear hv
  unfold b_law_deed
  obtain ⟨a, ha, ea⟩ := law_operand_ok (m := m / 16) (names := names) (w := w) (by omega) hn hw
  obtain ⟨b, hb, eb⟩ := law_operand_ok (m := m / 1009) (names := names) (w := w) (by omega) hn hw
  obtain ⟨x, hx, h0, hp⟩ := pick hn (m / 7)
  have hp := hp D.str
  have hn2 : 0 < (names.length : Int) := by omega
  have hn3 : ¬ (names.length : Int) = 0 := by omega
  by_cases h1 : m % 9 = 0
  · refine ⟨.tell a, ha, ?_⟩
    simp only [Deed.d]
    clear ha hb hx
    walk_at "W"
  · by_cases h2 : m % 9 = 1
    · refine ⟨.copy x a, ⟨hx, ha⟩, ?_⟩
      simp only [Deed.d]
      clear ha hb hx
      have h1 := eq_false h1
      have h2 := eq_true h2
      walk_at "W"
    · obtain ⟨op, hop, ho⟩ := seven (m % 9 - 2).toNat (by omega)
      refine ⟨.op op x a b, ⟨hop, hx, ha, hb⟩, ?_⟩
      simp only [Deed.d]
      clear ha hb hx hop
      walk_at "W"
def nm6 : List Str := ["a", "bb", "bc", "dddddd", "x", "y"]
theorem law_deeds_ok {ns : List Int} {most b : Nat} (hb : ∀ z ∈ ns, Builtin.Int.intBits z ≤ 1048576) (hm : most ≤ 900) (h1 : 1 ≤ b) (h6 : b ≤ 6) :
    ∃ ds : List Deed, ds.length ≤ most ∧ (∀ d ∈ ds, d.Ok (nm6.take b) 4) ∧ val (g_law_deeds [.f (.lst (ns.map .int)), .f (.int (most : Int)), .f (.int (b : Int))]) = some (.lst (ds.map Deed.d)) := by
  have hv : val (g_law_deeds [.f (.lst (ns.map .int)), .f (.int (most : Int)), .f (.int (b : Int))]) = oval (b_law_deeds ([.f (.lst (ns.map .int)), .f (.int (most : Int)), .f (.int (b : Int))] ++ List.replicate (6 - 3) .un)) 3 := val_run (m := 3) (n := 6) rfl
  rw [hv]
  clear hv
  unfold b_law_deeds
  have hlen : 0 < (nm6.take b).length := by rw [List.length_take]; show 0 < min b 6; omega
  obtain ⟨ρ', l1, ds, s4, s5, hd1, hd2, rfl⟩ := for_enum (φ := D.int) (fg := gTupT 2 (gsCons (gSet 4) (gsCons (gSet 5) gsNil))) (fb := l_law_deeds_1) (ρ := [.f (.lst (ns.map .int)), .f (.int (most : Int)), .f (.int (b : Int)), .l [], .un, .un]) (ns.take most)
    (fun i ρ => ∃ (ds : List Deed) (s4 s5 : T), ds.length = i ∧ (∀ d ∈ ds, d.Ok (nm6.take b) 4) ∧ ρ = [.f (.lst (ns.map .int)), .f (.int (most : Int)), .f (.int (b : Int)), .l (ds.map Deed.d), s4, s5]) (by
    rintro i c ρ hc ⟨ds, s4, s5, hd1, hd2, rfl⟩
    have hi : i < most := by
      have := (List.getElem?_eq_some_iff.mp hc).1
      rw [List.length_take] at this
      omega
    obtain ⟨m, hm0, hm1, e1⟩ := mixed_ok (c := c) (k := (i : Int)) (hb c (List.mem_of_mem_take (List.mem_of_getElem? hc))) (by omega) (by omega)
    obtain ⟨d, hd, e2⟩ := law_deed_ok (w := 4) hm0 hlen (by omega)
    have hcut : cutD [D.str "a", .str "bb", .str "bc", .str "dddddd", .str "x", .str "y"] none (some (b : Int)) = (nm6.take b).map D.str := by
      rw [cutD_take, List.map_take]
      rfl
    have e2 : val (g_law_deed [.f (.int m), .f (.lst ((nm6.take b).map .str)), .f (.int 4)]) = some d.d := e2
    have hl2 : ds.length < 1000 := by omega
    unfold l_law_deeds_1
    have hnew : ∀ d' ∈ ds ++ [d], d'.Ok (nm6.take b) 4 := fun d' h => by
      rcases List.mem_append.mp h with z | z
      · exact hd2 d' z
      · rw [List.mem_singleton.mp z]; exact hd
    have hll : (ds ++ [d]).length = i + 1 := by simp; omega
    clear hb hd hd2 hc hlen hd1
    apply Wn_of
    case h =>
      walk_at "W"
      rfl
    case hq => exact ⟨ds ++ [d], _, _, hll, hnew, by rw [List.map_append]; rfl⟩) ⟨[], _, _, rfl, (fun d h => by cases h), rfl⟩
  refine ⟨ds, by rw [hd1, List.length_take]; omega, hd2, ?_⟩
  have hcut : cutD (ns.map D.int) none (some (most : Int)) = (ns.take most).map D.int := by rw [cutD_take, List.map_take]
  clear hb hd1 hd2
  walk_at "W"

theorem gp_is (d e : Deed) : gp d e = none ∨ ∃ i, gp d e = some i := by
  cases gp d e with
  | none => exact .inl rfl
  | some i => exact .inr ⟨i, rfl⟩
theorem strs_fine {x : Str} (h : x ∈ nm6) : PyData.canLay0 (.str x) = true := by
  simp only [nm6, List.mem_cons, List.mem_nil_iff, or_false] at h
  rcases h with rfl | rfl | rfl | rfl | rfl | rfl <;> decide +kernel
theorem ops_fine {x : Str} (h : x ∈ ops) : PyData.canLay0 (.str x) = true := by
  simp only [ops, List.mem_cons, List.mem_nil_iff, or_false] at h
  rcases h with rfl | rfl | rfl | rfl | rfl | rfl | rfl <;> decide +kernel
theorem opd_fine {a : Opd} {names : List Str} {w n : Nat} (hn : ∀ x ∈ names, PyData.canLay0 (.str x) = true) (h : a.Ok names w) : a.d.fine n = true := by
  cases a with
  | nm x => exact hn x h
  | wd i => rfl
theorem deed_fine {d : Deed} {names : List Str} {w n : Nat} (hn : ∀ x ∈ names, PyData.canLay0 (.str x) = true) (h : d.Ok names w) : d.d.fine (n + 1) = true := by
  cases d with
  | tell a =>
    show (decide (0 < n + 1) && (PyData.canLay0 (.str "tell") && (a.d.fine n && true))) = true
    rw [opd_fine hn h, decide_eq_true (by omega), show PyData.canLay0 (.str "tell") = true by decide +kernel]
    rfl
  | copy x a =>
    show (decide (0 < n + 1) && (PyData.canLay0 (.str "copy") && (PyData.canLay0 (.str x) && (a.d.fine n && true)))) = true
    rw [opd_fine hn h.2, hn x h.1, decide_eq_true (by omega), show PyData.canLay0 (.str "copy") = true by decide +kernel]
    rfl
  | op p x a b =>
    show (decide (0 < n + 1) && (PyData.canLay0 (.str p) && (PyData.canLay0 (.str x) && (a.d.fine n && (b.d.fine n && true))))) = true
    rw [ops_fine h.1, opd_fine hn h.2.2.1, opd_fine hn h.2.2.2, hn x h.2.1, decide_eq_true (by omega)]
    rfl
theorem bsD_len {r : List (List Nat)} : gLen [.f (bsD r)] = some (.f (.int (r.length : Int))) := by
  show some (T.f (D.int ((r.map nL).length : Int))) = _
  rw [List.length_map]
def unF (a0 a1 a2 : Nat) : Nat → Nat := fun t => if t = 0 then a0 else if t = 1 then a1 else a2
theorem unF_le {a0 a1 a2 m : Nat} (h0 : a0 ≤ m) (h1 : a1 ≤ m) (h2 : a2 ≤ m) (t : Nat) : unF a0 a1 a2 t ≤ m := by
  unfold unF
  split
  · exact h0
  · split
    · exact h1
    · exact h2
theorem unF_ge {a0 a1 a2 m : Nat} (h0 : m ≤ a0) (h1 : m ≤ a1) (h2 : m ≤ a2) (t : Nat) : m ≤ unF a0 a1 a2 t := by
  unfold unF
  split
  · exact h0
  · split
    · exact h1
    · exact h2
/-! the law's look at the units -/
theorem nL_eq {b : List Nat} : nL b = .lst (b.map fun k : Nat => .int (k : Int)) := by
  unfold nL nI
  rw [List.map_map]
  rfl
theorem srt_or (d : Deed) : srt d = none ∨ srt d = some 0 ∨ srt d = some 1 ∨ srt d = some 2 := by
  cases d with
  | tell a => exact .inl rfl
  | copy n a => exact .inl rfl
  | op p n a b =>
    have e : srt (.op p n a b) = if p = "plus" ∨ p = "less" then some 0 else if p = "below" ∨ p = "same" then some 1 else some 2 := rfl
    rw [e]
    by_cases h1 : p = "plus" ∨ p = "less"
    · rw [if_pos h1]; exact .inr (.inl rfl)
    · rw [if_neg h1]
      by_cases h2 : p = "below" ∨ p = "same"
      · rw [if_pos h2]; exact .inr (.inr (.inl rfl))
      · rw [if_neg h2]; exact .inr (.inr (.inr rfl))
theorem take_at {α : Type} {l : List α} {i : Nat} {a : α} (h : l[i]? = some a) : l.take (i + 1) = l.take i ++ [a] := by
  rw [List.take_succ, h]
  rfl
theorem law_load_ok {ds : List Deed} {u : Nat → Nat} {b : List Nat} {names : List Str} {w : Nat} (h : DsOk ds names w) (hb : ∀ k ∈ b, k < ds.length) :
    val (g_law_load [.f (.lst (ds.map Deed.d)), .f (nL b), .f (uD u)]) = some (.bl (fitsB ds u b)) := by
  have hv : val (g_law_load [.f (.lst (ds.map Deed.d)), .f (nL b), .f (uD u)]) = oval (b_law_load ([.f (.lst (ds.map Deed.d)), .f (nL b), .f (uD u)] ++ List.replicate (5 - 3) .un)) 3 := val_run (m := 3) (n := 5) rfl
  rw [hv]
  clear hv
  obtain ⟨ρ', l1, x, s4, rfl⟩ := for_map (φ := fun k : Nat => D.int (k : Int)) (fg := gSet 4) (fb := l_law_load_1) b (fun i ρ => ∃ (x : Int) (s4 : T), ρ = [.f (.lst (ds.map Deed.d)), .f (nL b), .f (uD u), .l [.int (cnt ds 0 (b.take i) : Nat), .int (cnt ds 1 (b.take i) : Nat), .int (cnt ds 2 (b.take i) : Nat), .int x], s4]) (by
    rintro i k ρ hk ⟨x, s4, rfl⟩
    obtain ⟨d, hd, ho, hs⟩ := kS_at h (hb k (List.mem_of_getElem? hk))
    have so := law_sort_ok d ho
    have x1 : (ds.map Deed.d)[k]? = some d.d := at_map hd
    rw [take_at hk, cnt_app, cnt_app, cnt_app]
    have hh : ∀ t, hasS ds t k = decide (srt d = some t) := fun t => by unfold hasS; rw [hs]
    rw [hh, hh, hh]
    clear hh hs hd ho h hb
    generalize cnt ds 0 (b.take i) = c0 at *
    generalize cnt ds 1 (b.take i) = c1 at *
    generalize cnt ds 2 (b.take i) = c2 at *
    clear hk
    generalize nL b = bb at *
    generalize uD u = uu at *
    generalize ds.map Deed.d = de at *
    unfold l_law_load_1
    rcases srt_or d with z | z | z | z
    · rw [z] at so
      have so : val (g_law_sort [.f d.d]) = some (.int 3) := so
      rw [z]
      clear z
      generalize d.d = dd at *
      apply Wn_of
      case h =>
        walk_at "W"
        rfl
      case hq => exact ⟨_, _, rfl⟩
    · rw [z] at so
      have so : val (g_law_sort [.f d.d]) = some (.int 0) := so
      rw [z]
      clear z
      generalize d.d = dd at *
      apply Wn_of
      case h =>
        walk_at "W"
        rfl
      case hq => exact ⟨_, _, rfl⟩
    · rw [z] at so
      have so : val (g_law_sort [.f d.d]) = some (.int 1) := so
      rw [z]
      clear z
      generalize d.d = dd at *
      apply Wn_of
      case h =>
        walk_at "W"
        rfl
      case hq => exact ⟨_, _, rfl⟩
    · rw [z] at so
      have so : val (g_law_sort [.f d.d]) = some (.int 2) := so
      rw [z]
      clear z
      generalize d.d = dd at *
      apply Wn_of
      case h =>
        walk_at "W"
        rfl
      case hq => exact ⟨_, _, rfl⟩) (ρ := [.f (.lst (ds.map Deed.d)), .f (nL b), .f (uD u), .l [.int 0, .int 0, .int 0, .int 0], .un]) ⟨_, _, rfl⟩
  rw [List.take_length] at l1
  rw [nL_eq] at *
  unfold uD fitsB at *
  generalize (b.map fun k : Nat => D.int (k : Int)) = bl at *
  generalize cnt ds 0 b = n0 at *
  generalize cnt ds 1 b = n1 at *
  generalize cnt ds 2 b = n2 at *
  generalize ds.map Deed.d = de at *
  clear h hb
  unfold b_law_load
  have e0 : decide (n0 ≤ u 0) = decide ((n0 : Int) ≤ (u 0 : Int)) := decide_eq_decide.mpr (by omega)
  have e1 : decide (n1 ≤ u 1) = decide ((n1 : Int) ≤ (u 1 : Int)) := decide_eq_decide.mpr (by omega)
  have e2 : decide (n2 ≤ u 2) = decide ((n2 : Int) ≤ (u 2 : Int)) := decide_eq_decide.mpr (by omega)
  rw [e0, e1, e2]
  clear e0 e1 e2
  cases z0 : decide ((n0 : Int) ≤ (u 0 : Int)) <;> cases z1 : decide ((n1 : Int) ≤ (u 1 : Int)) <;> cases z2 : decide ((n2 : Int) ≤ (u 2 : Int)) <;> walk_at "W"
/-! places kept in a dict -/
abbrev PL := List (Nat × Nat)
def pK (a : PL) : List Key := a.map fun p => .inl (p.1 : Int)
def pV (a : PL) : List D := a.map fun p => .int (p.2 : Int)
theorem pK_any {a : PL} {k : Nat} : ((pK a).any fun q => decide (q = .inl (k : Int))) = decide (k ∈ a.map (·.1)) := by
  induction a with
  | nil => rfl
  | cons p a ih =>
    show (decide ((Sum.inl (p.1 : Int) : Key) = .inl (k : Int)) || (pK a).any fun q => decide (q = .inl (k : Int))) = _
    rw [ih]
    by_cases h : p.1 = k
    · subst h
      rw [decide_eq_true rfl, List.map_cons, decide_eq_true (List.mem_cons_self)]
      rfl
    · rw [decide_eq_false (fun z => h (Int.ofNat_inj.mp (Sum.inl.inj z))), Bool.false_or, List.map_cons]
      refine decide_eq_decide.mpr ⟨fun z => List.mem_cons_of_mem _ z, fun z => ?_⟩
      rcases List.mem_cons.mp z with z | z
      · exact absurd z.symm h
      · exact z
theorem gIn_pK {a : PL} {k : Nat} : gIn (.f (.int (k : Int))) (.dk (pK a) (pV a)) = some (.f (.bl (decide (k ∈ a.map (·.1))))) := by
  show some (T.f (.bl (xor false ((pK a).any fun q => decide (q = .inl (k : Int)))))) = _
  rw [pK_any, Bool.false_xor]
theorem pput {a : PL} {k i : Nat} (h : k ∉ a.map (·.1)) : dput (pK a) (pV a) (.inl (k : Int)) (.int (i : Int)) = (pK (a ++ [(k, i)]), pV (a ++ [(k, i)])) := by
  unfold dput
  rw [pK_any, if_neg (by rw [decide_eq_false h]; decide)]
  unfold pK pV
  rw [List.map_append, List.map_append]
  rfl
theorem dAt_p {k i : Nat} : ∀ {a : PL}, (a.map (·.1)).Nodup → (k, i) ∈ a → dAt (pK a) (pV a) (.inl (k : Int)) = some (.int (i : Int))
  | [], _, h => (List.not_mem_nil h).elim
  | p :: a, hn, h => by
    show (if (Sum.inl (p.1 : Int) : Key) = .inl (k : Int) then some (D.int (p.2 : Int)) else dAt (pK a) (pV a) (.inl (k : Int))) = _
    rw [List.map_cons, List.nodup_cons] at hn
    rcases List.mem_cons.mp h with rfl | h
    · rw [if_pos rfl]
    · rw [if_neg, dAt_p hn.2 h]
      intro z
      have e : p.1 = k := Int.ofNat_inj.mp (Sum.inl.inj z)
      exact hn.1 (by rw [e]; exact List.mem_map.mpr ⟨(k, i), h, rfl⟩)
def prs : List (List Nat) → Nat → PL
  | [], _ => []
  | b :: r, i => b.map (fun k => (k, i)) ++ prs r (i + 1)
theorem prs_snoc : ∀ {r : List (List Nat)} {b : List Nat} {i : Nat}, prs (r ++ [b]) i = prs r i ++ b.map fun k => (k, i + r.length)
  | [], b, i => by
    show b.map _ ++ [] = [] ++ _
    rw [List.append_nil, List.nil_append]
    rfl
  | c :: r, b, i => by
    show c.map _ ++ prs (r ++ [b]) (i + 1) = (c.map _ ++ prs r (i + 1)) ++ _
    rw [prs_snoc, List.append_assoc, List.length_cons, show i + 1 + r.length = i + (r.length + 1) by omega]
theorem prs_fst : ∀ {r : List (List Nat)} {i : Nat}, (prs r i).map (·.1) = r.flatten
  | [], _ => rfl
  | b :: r, i => by
    show (b.map _ ++ prs r (i + 1)).map _ = b ++ r.flatten
    rw [List.map_append, prs_fst, List.map_map]
    congr 1
    exact (List.map_congr_left fun _ _ => rfl).trans (List.map_id b)
theorem prs_inn : ∀ {r : List (List Nat)} {o i k : Nat}, Inn r i k → (k, o + i) ∈ prs r o
  | [], _, _, _, ⟨_, h, _⟩ => by cases h
  | b :: r, o, 0, k, ⟨c, h, hk⟩ => by
    cases h
    exact List.mem_append.mpr (.inl (List.mem_map.mpr ⟨k, hk, rfl⟩))
  | b :: r, o, i + 1, k, ⟨c, h, hk⟩ => by
    have := prs_inn (r := r) (o := o + 1) (i := i) (k := k) ⟨c, h, hk⟩
    rw [show o + 1 + i = o + (i + 1) by omega] at this
    exact List.mem_append.mpr (.inr this)
theorem fil_nodup {X : Nat → Bool} : ∀ n, (fil n X).Nodup
  | 0 => List.nodup_nil
  | n + 1 => by
    rw [fil_succ]
    split
    · exact nodup_snoc (fil_nodup n) fun h => absurd (mem_fil.mp h).1 (Nat.lt_irrefl _)
    · rw [List.append_nil]; exact fil_nodup n
theorem fil_inc {X : Nat → Bool} : ∀ n, (fil n X).Pairwise (· < ·)
  | 0 => List.Pairwise.nil
  | n + 1 => by
    rw [fil_succ]
    split
    · refine List.pairwise_append.mpr ⟨fil_inc n, List.pairwise_singleton _ _, fun a ha b hb => ?_⟩
      rw [List.mem_singleton.mp hb]
      exact (mem_fil.mp ha).1
    · rw [List.append_nil]; exact fil_inc n
theorem fil_dis : ∀ {n : Nat} {X Y : Nat → Bool}, (∀ k < n, X k = true → Y k = false) → (fil n fun k => X k || Y k).length = (fil n X).length + (fil n Y).length
  | 0, _, _, _ => rfl
  | n + 1, X, Y, h => by
    have h1 := fil_dis (n := n) (X := X) (Y := Y) fun k hk => h k (by omega)
    have h2 := h n (by omega)
    rw [fil_succ, fil_succ, fil_succ, List.length_append, List.length_append, List.length_append, h1]
    cases hx : X n with
    | true => rw [h2 hx]; simp; omega
    | false => cases Y n <;> simp <;> omega
theorem flat_snoc {r : List (List Nat)} {b : List Nat} : (r ++ [b]).flatten = r.flatten ++ b := by
  rw [List.flatten_append, List.flatten_cons, List.flatten_nil, List.append_nil]
theorem mem_flat_inn {r : List (List Nat)} {k : Nat} : k ∈ r.flatten ↔ ∃ i, Inn r i k := by
  rw [List.mem_flatten]
  constructor
  · rintro ⟨b, hb, hk⟩
    obtain ⟨i, hi, e⟩ := List.mem_iff_getElem.mp hb
    exact ⟨i, b, by rw [List.getElem?_eq_getElem hi, e], hk⟩
  · rintro ⟨i, b, hb, hk⟩
    exact ⟨b, List.mem_of_getElem? hb, hk⟩
theorem lays_flat {ds : List Deed} {u : Nat → Nat} {r : List (List Nat)} {d : List Bool} (h : Lays ds u r d) : r.flatten.Nodup ∧ r.flatten.length = siz ds.length d := by
  induction h with
  | nil =>
    refine ⟨List.nodup_nil, ?_⟩
    unfold siz
    rw [fil_congr (Y := fun _ => false) fun k _ => dn_blank]
    have : fil ds.length (fun _ => false) = [] := by unfold fil; simp
    rw [this]
    rfl
  | @snoc bs d X hl hX hne ih =>
    have hp := lays_plc hl
    rw [flat_snoc]
    have hu : ∀ k ∈ bs.flatten, dn d k = true := fun k hk => by
      obtain ⟨i, hi⟩ := mem_flat_inn.mp hk
      exact (hp.dn k (hp.lt i k hi)).mpr ⟨i, hi⟩
    refine ⟨List.nodup_append.mpr ⟨ih.1, fil_nodup _, fun a ha b hb e => ?_⟩, ?_⟩
    · have h1 := hu a ha
      rw [e, hX.und b (mem_fil.mp hb).2] at h1
      cases h1
    · rw [List.length_append, ih.2]
      unfold siz
      rw [← fil_dis fun k _ hd => ?_]
      · congr 1
        refine fil_congr fun k hk => ?_
        rw [dn_more hk]
        congr 1
        cases z : X k with
        | true => exact (decide_eq_true (mem_fil.mpr ⟨hk, z⟩)).symm
        | false => exact (decide_eq_false fun q => by have := (mem_fil.mp q).2; rw [z] at this; cases this).symm
      · cases z : X k with
        | false => rfl
        | true => rw [hX.und k z] at hd; cases hd
theorem siz_all {n : Nat} {d : List Bool} (h : ∀ k < n, dn d k = true) : siz n d = n := by
  unfold siz
  rw [fil_congr (Y := fun _ => true) h]
  unfold fil
  rw [List.filter_eq_self.mpr fun _ _ => rfl, List.length_range]
/-! the law's look at a laying -/
def kfr (ds : List Deed) (u : Nat → Nat) (r : List (List Nat)) (a : PL) (t4 t5 t6 t7 : T) : List T := [.f (.lst (ds.map Deed.d)), .f (uD u), .f (bsD r), .dk (pK a) (pV a), t4, t5, t6, t7, .un, .un]
theorem kept_inner {ds : List Deed} {u : Nat → Nat} {r : List (List Nat)} {b : List Nat} {i : Nat} {a : PL} {t7 : T} (h8 : ds.length ≤ 8) (hb : BtI ds u b) (ha : a.length ≤ 1000) (hn : (a.map (·.1) ++ b).Nodup) :
    ∃ t6 t7', forF (gSet 7) l_law_kept_4 (b.map fun k : Nat => D.int (k : Int)) (kfr ds u r a (.f (.int (i : Int))) (.f (nL b)) (.f (.int (-1))) t7) = some (.nx (kfr ds u r (a ++ b.map fun k => (k, i)) (.f (.int (i : Int))) (.f (nL b)) t6 t7')) := by
  obtain ⟨X, hX⟩ := hb.inc
  have hlt : ∀ k ∈ b, k < ds.length := fun k hk => by rw [hX] at hk; exact (mem_fil.mp hk).1
  have hinc : b.Pairwise (· < ·) := by rw [hX]; exact fil_inc _
  have hbl : b.length ≤ 8 := by rw [hX]; exact Nat.le_trans (fil_le _) h8
  obtain ⟨ρ', l1, z, t7', hz, rfl⟩ := for_map (φ := fun k : Nat => D.int (k : Int)) (fg := gSet 7) (fb := l_law_kept_4) b (fun p ρ => ∃ (z : Int) (t7 : T), (∀ k ∈ b.drop p, z < (k : Int)) ∧ ρ = kfr ds u r (a ++ (b.take p).map fun k => (k, i)) (.f (.int (i : Int))) (.f (nL b)) (.f (.int z)) t7) (by
    rintro p k ρ hk ⟨z, t7, hz, rfl⟩
    have hpl := (List.getElem?_eq_some_iff.mp hk).1
    have hdrop : b.drop p = k :: b.drop (p + 1) := by
      rw [List.drop_eq_getElem_cons hpl]
      congr 1
      exact (List.getElem?_eq_some_iff.mp hk).2
    have hkm : k ∈ b := List.mem_of_getElem? hk
    have hkn := hlt k hkm
    have hzk := hz k (by rw [hdrop]; exact List.mem_cons_self)
    have hz' : ∀ k' ∈ b.drop (p + 1), (k : Int) < (k' : Int) := by
      have : (b.drop p).Pairwise (· < ·) := hinc.sublist (List.drop_sublist _ _)
      rw [hdrop] at this
      intro k' hk'
      have := (List.pairwise_cons.mp this).1 k' hk'
      omega
    have hnew : k ∉ (a ++ (b.take p).map fun k => (k, i)).map (·.1) := by
      rw [List.map_append, List.map_map]
      have e : (b.take p).map ((·.1) ∘ fun k => (k, i)) = b.take p := (List.map_congr_left fun _ _ => rfl).trans (List.map_id _)
      rw [e]
      have e2 : a.map (·.1) ++ b = (a.map (·.1) ++ b.take p) ++ (k :: b.drop (p + 1)) := by rw [List.append_assoc, ← hdrop, List.take_append_drop]
      rw [e2] at hn
      intro hm
      exact (List.nodup_append.mp hn).2.2 k hm k (List.mem_cons_self) rfl
    have e3 : a ++ (b.take (p + 1)).map (fun k => (k, i)) = (a ++ (b.take p).map fun k => (k, i)) ++ [(k, i)] := by
      rw [take_at hk, List.map_append, List.append_assoc]
      rfl
    rw [e3]
    have gi := gIn_pK (a := a ++ (b.take p).map fun k => (k, i)) (k := k)
    rw [decide_eq_false hnew] at gi
    have pp := pput (i := i) hnew
    have pl : (pK (a ++ (b.take p).map fun k => (k, i))).length ≤ 2000 := by
      unfold pK
      rw [List.length_map, List.length_append, List.length_map, List.length_take]
      omega
    have p1 := congrArg Prod.fst pp
    have p2 := congrArg Prod.snd pp
    dsimp only at p1 p2
    have wh := whole_ok (k : Int)
    have y1 : decide ((k : Int) ≤ z) = false := decide_eq_false (by omega)
    have y2 : decide ((ds.length : Int) ≤ (k : Int)) = false := decide_eq_false (by omega)
    have hdl : (ds.map Deed.d).length = ds.length := List.length_map _
    have hz' := Hid.mk hz'
    clear pp hnew e3 hzk hkn hkm hdrop hz hinc hlt hX hb hpl hk hn ha hbl
    generalize a ++ (b.take p).map (fun k => (k, i)) = A at *
    unfold kfr
    generalize A ++ [(k, i)] = A2 at *
    generalize bsD r = rr at *
    generalize ds.map Deed.d = de at *
    generalize nL b = bb at *
    generalize uD u = uu at *
    unfold l_law_kept_4
    apply Wn_of
    case h =>
      walk_at "W"
      rfl
    case hq => exact ⟨_, _, hz'.out, rfl⟩) (ρ := kfr ds u r a (.f (.int (i : Int))) (.f (nL b)) (.f (.int (-1))) t7) ⟨-1, t7, fun k _ => by omega, by
      show _ = kfr ds u r (a ++ []) _ _ _ _
      rw [List.append_nil]⟩
  rw [List.take_length] at l1
  exact ⟨_, _, l1⟩
theorem law_kept_ok {ds : List Deed} {u : Nat → Nat} {r : List (List Nat)} {names : List Str} {w : Nat} (h : DsOk ds names w) (hw : Whole ds u r) :
    val (g_law_kept [.f (.lst (ds.map Deed.d)), .f (uD u), .f (bsD r)]) = some (.bl true) := by
  have hv : val (g_law_kept [.f (.lst (ds.map Deed.d)), .f (uD u), .f (bsD r)]) = oval (b_law_kept ([.f (.lst (ds.map Deed.d)), .f (uD u), .f (bsD r)] ++ List.replicate (10 - 3) .un)) 3 := val_run (m := 3) (n := 10) rfl
  rw [hv]
  clear hv
  obtain ⟨d, hl, hd⟩ := hw
  obtain ⟨hnod, hflen⟩ := lays_flat hl
  have hbt := lays_bt hl
  have hplc := lays_plc hl
  rw [siz_all hd] at hflen
  have h8 := h.len
  have hrl : r.length ≤ 8 := Nat.le_trans (lays_len hl) (Nat.le_trans (fil_le _) h8)
  obtain ⟨ρ', l1, s4, s5, s6, s7, rfl⟩ := for_enum (φ := nL) (fg := gTupT 2 (gsCons (gSet 4) (gsCons (gSet 5) (gsNil)))) (fb := l_law_kept_3) r (fun i ρ => ∃ s4 s5 s6 s7 : T, ρ = kfr ds u r (prs (r.take i) 0) s4 s5 s6 s7) (by
    rintro i b ρ hb ⟨s4, s5, s6, s7, rfl⟩
    have hbm : b ∈ r := List.mem_of_getElem? hb
    have hbi := hbt b hbm
    have hflat : r.flatten = (r.take i).flatten ++ b ++ (r.drop (i + 1)).flatten := by
      rw [← flat_snoc, ← take_at hb, ← List.flatten_append, List.take_append_drop]
    have hn2 : ((prs (r.take i) 0).map (·.1) ++ b).Nodup := by
      rw [prs_fst]
      rw [hflat] at hnod
      exact (List.nodup_append.mp hnod).1
    have hal : (prs (r.take i) 0).length ≤ 1000 := by
      have e := congrArg List.length (prs_fst (r := r.take i) (i := 0))
      rw [List.length_map] at e
      have e2 := congrArg List.length hflat
      rw [List.length_append, List.length_append] at e2
      omega
    obtain ⟨t6, t7', l2⟩ := kept_inner (r := r) (i := i) (t7 := s7) h8 hbi hal hn2
    have hil : (r.take i).length = i := by rw [List.length_take]; have := (List.getElem?_eq_some_iff.mp hb).1; omega
    have e3 : prs (r.take (i + 1)) 0 = prs (r.take i) 0 ++ b.map fun k => (k, i) := by
      rw [take_at hb, prs_snoc, hil, Nat.zero_add]
    rw [e3]
    have ll := law_load_ok (u := u) (b := b) h (fun k hk => by
      obtain ⟨X, hX⟩ := hbi.inc
      rw [hX] at hk
      exact (mem_fil.mp hk).1)
    rw [hbi.fit] at ll
    have nb := nL_len (b := b)
    have hbne : decide ((b.length : Int) = 0) = false := decide_eq_false (by
      have : b.length ≠ 0 := fun z => hbi.ne (List.length_eq_zero_iff.mp z)
      omega)
    have isl : gIsi "list" (.f (nL b)) = some (.f (.bl true)) := by
      unfold nL
      generalize (nI b).map D.int = l
      walk_at "w"
    unfold kfr at l2 ⊢
    rw [nL_eq] at *
    clear hbi hbm hflat hn2 hal hil e3 hb hbt hplc hnod hflen hl hd h
    generalize (b.map fun k : Nat => D.int (k : Int)) = bb at *
    generalize b.length = bl at *
    generalize bsD r = rr at *
    generalize ds.map Deed.d = de at *
    generalize uD u = uu at *
    generalize prs (r.take i) 0 ++ b.map (fun k => (k, i)) = A2 at *
    generalize prs (r.take i) 0 = A at *
    unfold l_law_kept_3
    apply Wn_of
    case h =>
      walk_at "W"
      rfl
    case hq => exact ⟨_, _, _, _, rfl⟩) (ρ := kfr ds u r [] .un .un .un .un) ⟨_, _, _, _, rfl⟩
  rw [List.take_length] at l1
  have hfst := prs_fst (r := r) (i := 0)
  have hal : (pK (prs r 0)).length = ds.length := by
    have e := congrArg List.length hfst
    rw [List.length_map] at e
    unfold pK
    rw [List.length_map, e, hflen]
  have look : ∀ k, k < ds.length → ∃ i : Nat, Inn r i k ∧ dAt (pK (prs r 0)) (pV (prs r 0)) (.inl (k : Int)) = some (.int (i : Int)) := by
    intro k hk
    obtain ⟨i, hi⟩ := (hplc.dn k hk).mp (hd k hk)
    refine ⟨i, hi, dAt_p (by rw [hfst]; exact hnod) ?_⟩
    have := prs_inn (o := 0) hi
    rw [Nat.zero_add] at this
    exact this
  have lean := hplc.lean
  clear hfst hplc hnod hflen hbt hl hd hrl
  unfold kfr at l1
  generalize pK (prs r 0) = kk at *
  generalize pV (prs r 0) = vv at *
  have hdl : (ds.map Deed.d).length = ds.length := List.length_map _
  obtain ⟨ρ', l2, t7, t8, t9, rfl⟩ := for_range (fg := gSet 7) (fb := l_law_kept_1) ds.length (fun k ρ => ∃ t7 t8 t9 : T, ρ = [.f (.lst (ds.map Deed.d)), .f (uD u), .f (bsD r), .f (.dct kk vv), s4, s5, s6, t7, t8, t9]) (by
    rintro k ρ hk ⟨t7, t8, t9, rfl⟩
    obtain ⟨ik, hik, dk⟩ := look k hk
    obtain ⟨ρ', l3, t8', t9', rfl⟩ := for_range (fg := gSet 8) (fb := l_law_kept_2) k (fun j ρ => ∃ t8 t9 : T, ρ = [.f (.lst (ds.map Deed.d)), .f (uD u), .f (bsD r), .f (.dct kk vv), s4, s5, s6, .f (.int (k : Int)), t8, t9]) (by
      rintro j ρ hj ⟨t8, t9, rfl⟩
      obtain ⟨ij, hij, dj'⟩ := look j (by omega)
      obtain ⟨dj, dd, x1, x2, g1⟩ := law_gapk_ok h (show j < ds.length by omega) hk
      have hle := lean ik ij j k hik hij hj
      generalize gpk ds j k = g at *
      cases g with
      | none =>
        rw [show gD none = .non from rfl] at g1
        clear hle lean look hik hij hj hk h
        generalize bsD r = rr at *
        generalize ds.map Deed.d = de at *
        generalize uD u = uu at *
        unfold l_law_kept_2
        apply Wn_of
        case h =>
          walk_at "W"
          rfl
        case hq => exact ⟨_, _, rfl⟩
      | some f =>
        rw [show gD (some f) = .int f from rfl] at g1
        have hle := hle f rfl
        have y1 : decide ((ik : Int) - (ij : Int) < f) = false := decide_eq_false (by omega)
        clear hle lean look hik hij hj hk h
        generalize bsD r = rr at *
        generalize ds.map Deed.d = de at *
        generalize uD u = uu at *
        unfold l_law_kept_2
        apply Wn_of
        case h =>
          walk_at "W"
          rfl
        case hq => exact ⟨_, _, rfl⟩) (ρ := [.f (.lst (ds.map Deed.d)), .f (uD u), .f (bsD r), .f (.dct kk vv), s4, s5, s6, .f (.int (k : Int)), t8, t9]) ⟨_, _, rfl⟩
    have hk8 : k ≤ 8 := by omega
    clear look lean hik hk h l1 dk
    generalize bsD r = rr at *
    generalize ds.map Deed.d = de at *
    generalize uD u = uu at *
    unfold l_law_kept_1
    apply Wn_of
    case h =>
      walk_at "W"
      rfl
    case hq => exact ⟨_, _, _, rfl⟩) (ρ := [.f (.lst (ds.map Deed.d)), .f (uD u), .f (bsD r), .f (.dct kk vv), s4, s5, s6, s7, .un, .un]) ⟨_, _, _, rfl⟩
  clear look lean h
  have eb : bsD r = .lst (r.map nL) := rfl
  have ek : pK [] = [] := rfl
  have ev : pV [] = [] := rfl
  rw [ek, ev] at l1
  rw [eb] at l1 l2 ⊢
  clear eb ek ev
  generalize r.map nL = rr at *
  generalize ds.map Deed.d = de at *
  generalize uD u = uu at *
  generalize ds.length = n at *
  unfold b_law_kept
  walk_at "W"
/-! the law's leanings -/
def lnG (ds : List Deed) (k j : Nat) : List (Nat × Int) := match gpk ds j k with
  | none => []
  | some f => [(j, f)]
def lnL (ds : List Deed) (k : Nat) : List (Nat × Int) := (List.range k).flatMap (lnG ds k)
def tpD (p : Nat × Int) : D := .tup [.int (p.1 : Int), .int p.2]
def lnD (ds : List Deed) (k : Nat) : D := .lst ((lnL ds k).map tpD)
def leansD (ds : List Deed) : D := .lst ((List.range ds.length).map (lnD ds))
theorem lnL_len {ds : List Deed} {k : Nat} : (lnL ds k).length ≤ k := by
  unfold lnL
  have key : ∀ l : List Nat, (l.flatMap (lnG ds k)).length ≤ l.length := by
    intro l
    induction l with
    | nil => exact Nat.le_refl _
    | cons a l ih =>
      rw [List.flatMap_cons, List.length_append, List.length_cons]
      have : (lnG ds k a).length ≤ 1 := by
        unfold lnG
        cases gpk ds a k <;> simp
      omega
  have := key (List.range k)
  rw [List.length_range] at this
  exact this
theorem law_leans_ok {ds : List Deed} {names : List Str} {w : Nat} (h : DsOk ds names w) : val (g_law_leans [.f (.lst (ds.map Deed.d))]) = some (leansD ds) := by
  have hv : val (g_law_leans [.f (.lst (ds.map Deed.d))]) = oval (b_law_leans ([.f (.lst (ds.map Deed.d))] ++ List.replicate (6 - 1) .un)) 1 := val_run (m := 1) (n := 6) rfl
  rw [hv]
  clear hv
  have h8 := h.len
  have hdl : (ds.map Deed.d).length = ds.length := List.length_map _
  obtain ⟨ρ', l1, s2, s3, rfl⟩ := for_range (fg := gSet 2) (fb := l_law_leans_1) ds.length (fun k ρ => ∃ s2 s3 : T, ρ = [.f (.lst (ds.map Deed.d)), .l ((List.range k).map (lnD ds)), s2, s3, .un, .un]) (by
    rintro k ρ hk ⟨s2, s3, rfl⟩
    have lc1 : lcF (gSet 4) tYesF m_law_leans_2 [.f (.lst (ds.map Deed.d)), .l ((List.range k).map (lnD ds)), .f (.int (k : Int)), s3, .un, .un] (rangeD 0 k) = some ((List.range k).map fun j : Nat => .tup [.int (j : Int), gD (gpk ds j k)]) := by
      unfold rangeD
      rw [lcF_of (G := fun j : Nat => [.tup [.int (j : Int), gD (gpk ds j k)]])]
      · congr 1
        induction List.range k with
        | nil => rfl
        | cons a l ih => rw [List.flatMap_cons, List.map_cons, ih]; rfl
      · intro j hj
        have hj := List.mem_range.mp hj
        have hz : (0 : Int) + (j : Int) = (j : Int) := Int.zero_add _
        rw [hz]
        obtain ⟨dj, dk, x1, x2, g1⟩ := law_gapk_ok h (show j < ds.length by omega) hk
        clear hz hdl h8 h hj hk
        generalize gD (gpk ds j k) = gg at *
        generalize ds.map Deed.d = de at *
        generalize (List.range k).map (lnD ds) = fl at *
        unfold m_law_leans_2
        walk_at "W"
    have lc2 : lcF (gTupT 2 (gsCons (gSet 4) (gsCons (gSet 5) (gsNil)))) n_law_leans_1 m_law_leans_1 [.f (.lst (ds.map Deed.d)), .l ((List.range k).map (lnD ds)), .f (.int (k : Int)), .f (.lst ((List.range k).map fun j : Nat => .tup [.int (j : Int), gD (gpk ds j k)])), .un, .un] ((List.range k).map fun j : Nat => .tup [.int (j : Int), gD (gpk ds j k)]) = some ((lnL ds k).map tpD) := by
      rw [lcF_of (G := fun j => (lnG ds k j).map tpD)]
      · unfold lnL
        rw [List.map_flatMap]
      · intro j hj
        generalize (List.range k).map (fun j : Nat => D.tup [.int (j : Int), gD (gpk ds j k)]) = tl
        generalize (List.range k).map (lnD ds) = fl
        clear hdl h8 h hj hk lc1
        generalize ds.map Deed.d = de
        unfold lnG n_law_leans_1 m_law_leans_1
        cases gpk ds j k with
        | none =>
          rw [show gD none = .non from rfl]
          walk_at "W"
        | some f =>
          rw [show gD (some f) = .int f from rfl]
          show _ = some [D.tup [.int (j : Int), .int f]]
          walk_at "W"
    have z1 : ((List.range k).map fun j : Nat => D.tup [.int (j : Int), gD (gpk ds j k)]).length ≤ 8 := by rw [List.length_map, List.length_range]; omega
    have z2 : ((lnL ds k).map tpD).length ≤ 8 := by rw [List.length_map]; have := lnL_len (ds := ds) (k := k); omega
    have z3 : ((List.range k).map (lnD ds)).length ≤ 8 := by rw [List.length_map, List.length_range]; omega
    have e : (List.range (k + 1)).map (lnD ds) = (List.range k).map (lnD ds) ++ [.lst ((lnL ds k).map tpD)] := by rw [List.range_succ, List.map_append]; rfl
    rw [e]
    have hk8 : k ≤ 8 := by omega
    clear e hk h h8 hdl
    generalize (List.range k).map (fun j : Nat => D.tup [.int (j : Int), gD (gpk ds j k)]) = tl at *
    generalize (List.range k).map (lnD ds) = fl at *
    generalize (lnL ds k).map tpD = ll at *
    generalize ds.map Deed.d = de at *
    unfold l_law_leans_1
    apply Wn_of
    case h =>
      walk_at "W"
      rfl
    case hq => exact ⟨_, _, rfl⟩) (ρ := [.f (.lst (ds.map Deed.d)), .l [], .un, .un, .un, .un]) ⟨_, _, rfl⟩
  have e2 : leansD ds = .lst ((List.range ds.length).map (lnD ds)) := rfl
  rw [e2]
  clear e2 h
  generalize (List.range ds.length).map (lnD ds) = fl at *
  generalize ds.map Deed.d = de at *
  generalize ds.length = n at *
  unfold b_law_leans
  walk_at "W"
/-! masks -/
def dl (n m : Nat) : List Bool := (List.range n).map m.testBit
theorem dn_dl {n m k : Nat} (h : k < n) : dn (dl n m) k = m.testBit k := by
  unfold dn dl
  rw [List.getElem?_map, List.getElem?_range h]
  rfl
theorem bit_and {m k : Nat} : Builtin.bitAnd ((m : Int) / 2 ^ k) 1 = if m.testBit k = true then 1 else 0 := by
  have mk : Builtin.bitAnd ((m : Int) / 2 ^ k) (2 ^ 1 - 1) = ((m : Int) / 2 ^ k) % 2 ^ 1 := PySem.W.kbt_mask _ 1
  have e : (2 : Int) ^ 1 - 1 = 1 := rfl
  rw [e] at mk
  rw [mk, two_cast, two_cast]
  have e2 : ((m : Int) / ((2 ^ k : Nat) : Int)) % ((2 ^ 1 : Nat) : Int) = ((m / 2 ^ k % 2 : Nat) : Int) := by
    rw [← Int.natCast_ediv, ← Int.natCast_emod]
  rw [e2, Nat.testBit_eq_decide_div_mod_eq]
  by_cases h : m / 2 ^ k % 2 = 1
  · rw [h, decide_eq_true rfl, if_pos rfl]
    rfl
  · rw [decide_eq_false h, if_neg (by decide)]
    have : m / 2 ^ k % 2 = 0 := by omega
    rw [this]
    rfl
theorem bit_or {m k : Nat} : Builtin.bitOr (m : Int) (2 ^ k) = ((m ||| 2 ^ k : Nat) : Int) := by
  have : (0 : Int) ≤ ((2 ^ k : Nat) : Int) := Int.natCast_nonneg _
  rw [two_cast, Bits.bitOr_pp (by omega) this]
  rfl
theorem bit_or' {m k : Nat} : Builtin.bitOr (m : Int) (k : Int) = ((m ||| k : Nat) : Int) := by
  rw [Bits.bitOr_pp (by omega) (by omega)]
  rfl
theorem bits_pls {m k : Nat} : (m ||| 2 ^ k).testBit = pls m.testBit k := by
  funext j
  rw [Nat.testBit_or, Nat.testBit_two_pow]
  unfold pls
  congr 1
  exact decide_eq_decide.mpr ⟨fun h => h.symm, fun h => h.symm⟩
/-! the law's beats from a set done -/
def msk (ds : List Deed) (u : Nat → Nat) (D : Nat) (k m : Nat) : Bool := okB ds u (dl ds.length D) k (fil k m.testBit)
def stepM (ds : List Deed) (u : Nat → Nat) (D : Nat) (f : List Nat) (k : Nat) : List Nat :=
  if D.testBit k = true then f else f ++ (f.filter (msk ds u D k)).map (· ||| 2 ^ k)
def moreM (ds : List Deed) (u : Nat → Nat) (D n : Nat) : List Nat := (List.range n).foldl (stepM ds u D) [0]
theorem moreM_succ {ds : List Deed} {u : Nat → Nat} {D k : Nat} : moreM ds u D (k + 1) = stepM ds u D (moreM ds u D k) k := by
  unfold moreM
  rw [List.range_succ, List.foldl_append]
  rfl
theorem moreM_len {ds : List Deed} {u : Nat → Nat} {D : Nat} : ∀ k, (moreM ds u D k).length ≤ 2 ^ k
  | 0 => Nat.le_refl _
  | k + 1 => by
    have ih := moreM_len (ds := ds) (u := u) (D := D) k
    rw [moreM_succ, Nat.pow_succ]
    unfold stepM
    split
    · omega
    · rw [List.length_append, List.length_map]
      have := List.length_filter_le (msk ds u D k) (moreM ds u D k)
      omega
theorem bit_lt {m k j : Nat} (h : m < 2 ^ k) (hj : m.testBit j = true) : j < k := by
  rcases Nat.lt_or_ge j k with z | z
  · exact z
  · rw [Nat.testBit_lt_two_pow (Nat.lt_of_lt_of_le h (Nat.pow_le_pow_right (by decide) z))] at hj
    cases hj
theorem moreM_adm {ds : List Deed} {u : Nat → Nat} {D : Nat} : ∀ k, k ≤ ds.length → ∀ m ∈ moreM ds u D k, m < 2 ^ k ∧ Adm ds u (dl ds.length D) m.testBit
  | 0, _, m, h => by
    have : m = 0 := List.mem_singleton.mp h
    subst this
    refine ⟨by decide, ?_⟩
    have e : (0 : Nat).testBit = fun _ => false := by funext j; exact Nat.zero_testBit j
    rw [e]
    exact adm_nil
  | k + 1, hk, m, h => by
    rw [moreM_succ] at h
    unfold stepM at h
    have hp : (2 : Nat) ^ (k + 1) = 2 ^ k * 2 := Nat.pow_succ _ _
    cases hd : D.testBit k with
    | true =>
      rw [if_pos hd] at h
      have := moreM_adm k (by omega) m h
      exact ⟨by omega, this.2⟩
    | false =>
      rw [if_neg (by rw [hd]; decide)] at h
      rcases List.mem_append.mp h with h | h
      · have := moreM_adm k (by omega) m h
        exact ⟨by omega, this.2⟩
      · obtain ⟨m', h', rfl⟩ := List.mem_map.mp h
        have hf := List.mem_filter.mp h'
        obtain ⟨hm, hA⟩ := moreM_adm k (by omega) m' hf.1
        have hl : ∀ j, m'.testBit j = true → j < k := fun j hj => bit_lt hm hj
        refine ⟨Nat.or_lt_two_pow (by omega) (by omega), ?_⟩
        rw [bits_pls]
        obtain ⟨o1, o2⟩ := ok_iff.mp hf.2
        have hcut : fil ds.length m'.testBit = fil k m'.testBit := by
          have := fil_cut hl (ds.length - k)
          rwa [Nat.add_sub_cancel' (by omega)] at this
        refine adm_pls hA (by omega) (by rw [dn_dl (by omega)]; exact hd) ?_ (o1.mono fun j _ hm => (mem_fil.mp hm).2) (fun t ht => by rw [hcut]; exact o2 t ht)
        cases z : m'.testBit k with
        | false => rfl
        | true => exact absurd (hl k z) (Nat.lt_irrefl _)
theorem free_eq {ds : List Deed} {s : List Bool} {b : List Nat} {k : Nat} : ((lnL ds k).all fun p => dn s p.1 || !(decide (p.2 = 1) || !decide (p.1 ∈ b))) = mayB ds s b k := by
  unfold lnL mayB
  rw [List.all_flatMap]
  congr 1
  funext j
  unfold lnG leanB
  rcases gpk_or (ds := ds) (j := j) (k := k) with z | z | z
  · rw [z]
    simp
  · rw [z]
    simp
  · rw [z]
    simp
theorem all_take {α : Type} {p : α → Bool} {l : List α} {i : Nat} {a : α} (h : l[i]? = some a) : (l.take (i + 1)).all p = if p a = true then (l.take i).all p else false := by
  rw [take_at h, List.all_append]
  cases hp : p a with
  | true => rw [if_pos rfl]; simp [hp]
  | false => rw [if_neg (by decide)]; simp [hp]
theorem free_ok {ds : List Deed} {D k : Nat} {t0 t1 t2 t4 t6 t7 t10 t11 : T} {b : List Nat} (hk : k < ds.length) (h10 : Fl t10) :
    ∃ t10' t11', Fl t10' ∧ forF (gTupT 2 (gsCons (gSet 10) (gsCons (gSet 11) (gsNil)))) l_law_more_3 ((lnL ds k).map tpD) [t0, t1, t2, .f (.int (D : Int)), t4, .f (.int (k : Int)), t6, t7, .f (nL b), .f (.bl true), t10, t11]
      = some (.nx [t0, t1, t2, .f (.int (D : Int)), t4, .f (.int (k : Int)), t6, t7, .f (nL b), .f (.bl (mayB ds (dl ds.length D) b k)), t10', t11']) := by
  obtain ⟨ρ', l1, t10', t11', h10', rfl⟩ := for_map (φ := tpD) (fg := gTupT 2 (gsCons (gSet 10) (gsCons (gSet 11) (gsNil)))) (fb := l_law_more_3) (lnL ds k) (fun i ρ => ∃ t10 t11 : T, Fl t10 ∧ ρ = [t0, t1, t2, .f (.int (D : Int)), t4, .f (.int (k : Int)), t6, t7, .f (nL b), .f (.bl (((lnL ds k).take i).all fun p => dn (dl ds.length D) p.1 || !(decide (p.2 = 1) || !decide (p.1 ∈ b)))), t10, t11]) (by
    rintro i ⟨j, f⟩ ρ hp ⟨t10, t11, h10, rfl⟩
    have hjk : j < k := by
      have hm := List.mem_of_getElem? hp
      unfold lnL at hm
      obtain ⟨j', hj', hm⟩ := List.mem_flatMap.mp hm
      unfold lnG at hm
      cases hg : gpk ds j' k with
      | none => rw [hg] at hm; exact (List.not_mem_nil hm).elim
      | some f' =>
        rw [hg] at hm
        have := List.mem_singleton.mp hm
        have : j = j' := congrArg Prod.fst this
        rw [this]
        exact List.mem_range.mp hj'
    rw [all_take hp]
    dsimp only
    rw [dn_dl (show j < ds.length by omega)]
    have b1 := bit_and (m := D) (k := j)
    have nx : gNotIn (.f (.int (j : Int))) (.f (nL b)) = some (.f (.bl (!decide (j ∈ b)))) := nNot rfl
    generalize (((lnL ds k).take i).all fun p => dn (dl ds.length D) p.1 || !(decide (p.2 = 1) || !decide (p.1 ∈ b))) = fr at *
    generalize decide (j ∈ b) = c2 at *
    generalize nL b = bb at *
    generalize D.testBit j = c at *
    have q1 : gEq (.f (.int f)) (.f (.int 1)) = some (.f (.bl (decide (f = 1)))) := gEq_i
    generalize decide (f = 1) = c1 at *
    have htp : tpD (j, f) = .tup [.int (j : Int), .int f] := rfl
    rw [htp]
    clear htp hp hk hjk h10
    unfold l_law_more_3
    cases c <;> cases c1 <;> cases c2 <;>
      (first | rw [if_pos rfl] at b1 | rw [if_neg (by decide)] at b1
       apply Wn_of
       case h =>
         walk_at "W"
         rfl
       case hq => exact ⟨_, _, .f _, rfl⟩)) (ρ := [t0, t1, t2, .f (.int (D : Int)), t4, .f (.int (k : Int)), t6, t7, .f (nL b), .f (.bl true), t10, t11]) ⟨_, _, h10, rfl⟩
  rw [List.take_length, free_eq] at l1
  exact ⟨_, _, h10', l1⟩
/-! law_more walked -/
theorem inside_lc {dm k m : Nat} {t0 t1 t2 t3 t4 t6 t8 t9 t11 : T} : lcF (gSet 10) n_law_more_1 m_law_more_1 [t0, t1, t2, t3, t4, .f (.int (k : Int)), t6, .f (.int (m : Int)), t8, t9, .un, t11] (rangeD 0 k) = some ((nI (fil k m.testBit)).map .int) := by
  unfold rangeD
  rw [lcF_of (G := fun j => if m.testBit j = true then [D.int (j : Int)] else []), flat_filter m.testBit fun j : Nat => D.int (j : Int)]
  · unfold nI fil
    rw [List.map_map]
    rfl
  · intro j hj
    have hz : (0 : Int) + (j : Int) = (j : Int) := Int.zero_add _
    rw [hz]
    have b1 := bit_and (m := m) (k := j)
    generalize m.testBit j = c at *
    clear hz hj
    unfold n_law_more_1 m_law_more_1
    cases c <;>
      (first | rw [if_pos rfl] at b1 | rw [if_neg (by decide)] at b1
       walk_at "W")
def iN (f : List Nat) : List D := f.map fun m : Nat => .int (m : Int)
theorem leans_at {ds : List Deed} {k : Nat} (hk : k < ds.length) : ((List.range ds.length).map (lnD ds))[k]? = some (.lst ((lnL ds k).map tpD)) := by
  rw [List.getElem?_map, List.getElem?_range hk]
  rfl
theorem more_inner {ds : List Deed} {u : Nat → Nat} {names : List Str} {w k dm : Nat} {f : List Nat} (h : DsOk ds names w) (hk : k < ds.length) (hfl : f.length ≤ 1000) {t8 t9 t10 t11 : T} {t7 : T} (h10 : Fl t10) :
    ∃ t7' t8' t9' t10' t11' : T, Fl t10' ∧ forF (gSet 7) l_law_more_2 (iN f) [.f (.lst (ds.map Deed.d)), .f (uD u), .f (leansD ds), .f (.int (dm : Int)), .f (.lst (iN f)), .f (.int (k : Int)), .l [], t7, t8, t9, t10, t11]
      = some (.nx [.f (.lst (ds.map Deed.d)), .f (uD u), .f (leansD ds), .f (.int (dm : Int)), .f (.lst (iN f)), .f (.int (k : Int)), .l ((f.filter (msk ds u dm k)).map fun m : Nat => .int ((m ||| 2 ^ k : Nat) : Int)), t7', t8', t9', t10', t11']) := by
  have h8 := h.len
  obtain ⟨ρ', l1, t7', t8', t9', t10', t11', h10', rfl⟩ := for_map (fg := gSet 7) (fb := l_law_more_2) (φ := fun m : Nat => D.int (m : Int)) f (fun i ρ => ∃ t7 t8 t9 t10 t11 : T, Fl t10 ∧ ρ = [.f (.lst (ds.map Deed.d)), .f (uD u), .f (leansD ds), .f (.int (dm : Int)), .f (.lst (iN f)), .f (.int (k : Int)), .l (((f.take i).filter (msk ds u dm k)).map fun m : Nat => D.int ((m ||| 2 ^ k : Nat) : Int)), t7, t8, t9, t10, t11]) (by
    rintro i m ρ hm ⟨t7, t8, t9, t10, t11, h10, rfl⟩
    rw [filt_snoc f _ (fun m : Nat => D.int ((m ||| 2 ^ k : Nat) : Int)) i m hm]
    have lc := inside_lc (dm := dm) (k := k) (m := m) (t0 := .f (.lst (ds.map Deed.d))) (t1 := .f (uD u)) (t2 := .f (leansD ds)) (t3 := .f (.int (dm : Int))) (t4 := .f (.lst (iN f))) (t6 := .l (((f.take i).filter (msk ds u dm k)).map fun m : Nat => D.int ((m ||| 2 ^ k : Nat) : Int))) (t8 := t8) (t9 := t9) (t11 := t11)
    obtain ⟨c10, c11, h10', l2⟩ := free_ok (D := dm) (b := fil k m.testBit) (t0 := .f (.lst (ds.map Deed.d))) (t1 := .f (uD u)) (t2 := .f (leansD ds)) (t4 := .f (.lst (iN f))) (t6 := .l (((f.take i).filter (msk ds u dm k)).map fun m : Nat => D.int ((m ||| 2 ^ k : Nat) : Int))) (t7 := .f (.int (m : Int))) (t10 := t10) (t11 := t11) hk h10
    have la := leans_at hk
    have eL : leansD ds = .lst ((List.range ds.length).map (lnD ds)) := rfl
    have hfk : (fil k m.testBit).length ≤ 100 := by have := fil_le (X := m.testBit) k; omega
    have lo := law_load_ok (u := u) (b := fil k m.testBit ++ [k]) h (fun j hj => by
      rcases List.mem_append.mp hj with hj | hj
      · have := (mem_fil.mp hj).1; omega
      · rw [List.mem_singleton.mp hj]; exact hk)
    have a1 := nL_app (i := k) hfk
    have bo := bit_or (m := m) (k := k)
    have z1 : (((f.take i).filter (msk ds u dm k)).map fun m : Nat => D.int ((m ||| 2 ^ k : Nat) : Int)).length ≤ 1000 := by
      rw [List.length_map]
      have h1 := List.length_filter_le (msk ds u dm k) (f.take i)
      have h3 : (f.take i).length ≤ f.length := by rw [List.length_take]; omega
      omega
    have z2 : ((nI (fil k m.testBit)).map D.int).length ≤ 100 := by rw [List.length_map, nI_len]; exact hfk
    have hmk : msk ds u dm k m = (mayB ds (dl ds.length dm) (fil k m.testBit) k && fitsB ds u (fil k m.testBit ++ [k])) := rfl
    rw [hmk]
    have hk8 : k ≤ 8 := by omega
    replace h10' := Hid.mk h10'
    rw [eL] at lc l2 ⊢
    clear hmk hfk h hk h8 hfl hm eL
    unfold nL at *
    generalize mayB ds (dl ds.length dm) (fil k m.testBit) k = c1 at *
    generalize fitsB ds u (fil k m.testBit ++ [k]) = c2 at *
    generalize (nI (fil k m.testBit ++ [k])).map D.int = il2 at *
    generalize (nI (fil k m.testBit)).map D.int = il at *
    generalize ((f.take i).filter (msk ds u dm k)).map (fun m : Nat => D.int ((m ||| 2 ^ k : Nat) : Int)) = gl at *
    generalize (List.range ds.length).map (lnD ds) = ln at *
    generalize (lnL ds k).map tpD = lk at *
    generalize ds.map Deed.d = de at *
    generalize uD u = uu at *
    generalize iN f = ff at *
    generalize ((m ||| 2 ^ k : Nat) : Int) = mm at *
    unfold l_law_more_2
    cases h10 <;> cases c1 <;> cases c2 <;>
      (apply Wn_of
       case h =>
         walk_at "W"
         rfl
       case hq => exact ⟨_, _, _, _, _, h10'.out, rfl⟩)) (ρ := [.f (.lst (ds.map Deed.d)), .f (uD u), .f (leansD ds), .f (.int (dm : Int)), .f (.lst (iN f)), .f (.int (k : Int)), .l [], t7, t8, t9, t10, t11]) ⟨_, _, _, _, _, h10, rfl⟩
  rw [List.take_length] at l1
  exact ⟨_, _, _, _, _, h10', l1⟩
theorem law_more_ok {ds : List Deed} {u : Nat → Nat} {names : List Str} {w dm : Nat} (h : DsOk ds names w) :
    val (g_law_more [.f (.lst (ds.map Deed.d)), .f (uD u), .f (leansD ds), .f (.int (dm : Int))]) = some (.lst (iN (moreM ds u dm ds.length))) := by
  have hv : val (g_law_more [.f (.lst (ds.map Deed.d)), .f (uD u), .f (leansD ds), .f (.int (dm : Int))]) = oval (b_law_more ([.f (.lst (ds.map Deed.d)), .f (uD u), .f (leansD ds), .f (.int (dm : Int))] ++ List.replicate (12 - 4) .un)) 4 := val_run (m := 4) (n := 12) rfl
  rw [hv]
  clear hv
  have h8 := h.len
  have hdl : (ds.map Deed.d).length = ds.length := List.length_map _
  have hpow : ∀ k, k ≤ 8 → 2 ^ k ≤ 256 := fun k hk => Nat.le_trans (Nat.pow_le_pow_right (by decide) hk) (by decide)
  have hfl : ∀ k, k ≤ ds.length → (moreM ds u dm k).length ≤ 256 := fun k hk => Nat.le_trans (moreM_len k) (hpow k (by omega))
  obtain ⟨ρ', l1, t5, t6, t7, t8, t9, t10, t11, h10, rfl⟩ := for_range (fg := gSet 5) (fb := l_law_more_1) ds.length (fun k ρ => ∃ t5 t6 t7 t8 t9 t10 t11 : T, Fl t10 ∧ ρ = [.f (.lst (ds.map Deed.d)), .f (uD u), .f (leansD ds), .f (.int (dm : Int)), .f (.lst (iN (moreM ds u dm k))), t5, t6, t7, t8, t9, t10, t11]) (by
    rintro k ρ hk ⟨t5, t6, t7, t8, t9, t10, t11, h10, rfl⟩
    have hl := hfl k (by omega)
    rw [moreM_succ]
    unfold stepM
    generalize moreM ds u dm k = f at *
    have b1 := bit_and (m := dm) (k := k)
    cases hc : dm.testBit k with
    | true =>
      rw [hc, if_pos rfl] at b1
      rw [if_pos rfl]
      replace h10 := Hid.mk h10
      clear hfl hpow hdl h8 h hk hl hc
      generalize leansD ds = ln at *
      generalize ds.map Deed.d = de at *
      generalize uD u = uu at *
      generalize iN f = ff at *
      unfold l_law_more_1
      apply Wn_of
      case h =>
        walk_at "W"
        rfl
      case hq => exact ⟨_, _, _, _, _, _, _, h10.out, rfl⟩
    | false =>
      rw [hc, if_neg (by decide)] at b1
      rw [if_neg (by decide)]
      obtain ⟨c7, c8, c9, c10, c11, h10', l2⟩ := more_inner (u := u) (dm := dm) (t7 := t7) (t8 := t8) (t9 := t9) (t10 := t10) (t11 := t11) h hk (f := f) (by omega) h10
      replace h10' := Hid.mk h10'
      have e : iN (f ++ (f.filter (msk ds u dm k)).map (· ||| 2 ^ k)) = iN f ++ (f.filter (msk ds u dm k)).map fun m : Nat => D.int ((m ||| 2 ^ k : Nat) : Int) := by
        unfold iN
        rw [List.map_append, List.map_map]
        rfl
      have z1 : (iN f).length ≤ 256 := by unfold iN; rw [List.length_map]; exact hl
      have z2 : ((f.filter (msk ds u dm k)).map fun m : Nat => D.int ((m ||| 2 ^ k : Nat) : Int)).length ≤ 256 := by
        rw [List.length_map]
        exact Nat.le_trans (List.length_filter_le _ _) hl
      rw [e]
      clear hfl hpow hdl h8 h hk hl hc e h10
      generalize leansD ds = ln at *
      generalize (f.filter (msk ds u dm k)).map (fun m : Nat => D.int ((m ||| 2 ^ k : Nat) : Int)) = gl at *
      generalize ds.map Deed.d = de at *
      generalize uD u = uu at *
      generalize iN f = ff at *
      unfold l_law_more_1
      apply Wn_of
      case h =>
        walk_at "W"
        rfl
      case hq => exact ⟨_, _, _, _, _, _, _, h10'.out, rfl⟩) (ρ := [.f (.lst (ds.map Deed.d)), .f (uD u), .f (leansD ds), .f (.int (dm : Int)), .f (.lst [.int 0]), .un, .un, .un, .un, .un, .un, .un]) ⟨_, _, _, _, _, _, _, .un, rfl⟩
  clear hfl hpow h
  generalize iN (moreM ds u dm ds.length) = ans at *
  generalize leansD ds = ln at *
  generalize ds.map Deed.d = de at *
  generalize uD u = uu at *
  generalize ds.length = n at *
  unfold b_law_more
  walk_at "W"
/-! the law's levels -/
def mK (a : List Nat) : List Key := a.map fun m : Nat => .inl (m : Int)
def mV (a : List Nat) : List D := a.map fun _ => .bl true
def mput (a : List Nat) (m : Nat) : List Nat := if m ∈ a then a else a ++ [m]
theorem mK_any {a : List Nat} {k : Nat} : ((mK a).any fun q => decide (q = .inl (k : Int))) = decide (k ∈ a) := by
  induction a with
  | nil => rfl
  | cons p a ih =>
    show (decide ((Sum.inl (p : Int) : Key) = .inl (k : Int)) || (mK a).any fun q => decide (q = .inl (k : Int))) = _
    rw [ih]
    by_cases h : p = k
    · subst h
      rw [decide_eq_true rfl, decide_eq_true (List.mem_cons_self)]
      rfl
    · rw [decide_eq_false (fun z => h (Int.ofNat_inj.mp (Sum.inl.inj z))), Bool.false_or]
      refine decide_eq_decide.mpr ⟨fun z => List.mem_cons_of_mem _ z, fun z => ?_⟩
      rcases List.mem_cons.mp z with z | z
      · exact absurd z.symm h
      · exact z
theorem gIn_mK {a : List Nat} {k : Nat} : gIn (.f (.int (k : Int))) (.f (.dct (mK a) (mV a))) = some (.f (.bl (decide (k ∈ a)))) := by
  show some (T.f (.bl (xor false ((mK a).any fun q => decide (q = .inl (k : Int)))))) = _
  rw [mK_any, Bool.false_xor]
theorem mzip {k : Key} : ∀ a : List Nat, List.zipWith (fun q e => if q = k then D.bl true else e) (mK a) (mV a) = mV a
  | [] => rfl
  | p :: a => by
    show (if (Sum.inl (p : Int) : Key) = k then D.bl true else D.bl true) :: List.zipWith _ (mK a) (mV a) = D.bl true :: mV a
    rw [mzip a]
    split <;> rfl
theorem mmput {a : List Nat} {m : Nat} : dput (mK a) (mV a) (.inl (m : Int)) (.bl true) = (mK (mput a m), mV (mput a m)) := by
  unfold dput mput
  rw [mK_any]
  by_cases q : m ∈ a
  · rw [if_pos (decide_eq_true q), if_pos q, mzip]
  · rw [if_neg (by rw [decide_eq_false q]; decide), if_neg q]
    unfold mK mV
    rw [List.map_append, List.map_append]
    rfl
theorem nd_nat : ∀ (N : Nat) (l : List Nat), l.Nodup → (∀ x ∈ l, x < N) → l.length ≤ N
  | 0, l, _, h => by
    cases l with
    | nil => exact Nat.le_refl _
    | cons a l => exact absurd (h a List.mem_cons_self) (Nat.not_lt_zero _)
  | N + 1, l, hn, h => by
    by_cases z : N ∈ l
    · have h1 := nd_nat N (l.erase N) (hn.erase N) fun x hx => by
        have := (List.Nodup.mem_erase_iff hn).mp hx
        have := h x this.2
        omega
      rw [List.length_erase_of_mem z] at h1
      omega
    · exact Nat.le_succ_of_le (nd_nat N l hn fun x hx => by
        have := h x hx
        have : x ≠ N := fun e => z (e ▸ hx)
        omega)
structure LvM (ds : List Deed) (u : Nat → Nat) (i : Nat) (a : List Nat) : Prop where
  nd : a.Nodup
  at' : ∀ m ∈ a, m < 2 ^ ds.length ∧ Rch ds u i (dl ds.length m)
theorem LvM.len {ds : List Deed} {u : Nat → Nat} {i : Nat} {a : List Nat} (h : LvM ds u i a) (h8 : ds.length ≤ 8) : a.length ≤ 256 :=
  Nat.le_trans (nd_nat _ _ h.nd fun m hm => (h.at' m hm).1) (Nat.le_trans (Nat.pow_le_pow_right (by decide) h8) (by decide))
theorem LvM.put {ds : List Deed} {u : Nat → Nat} {i : Nat} {a : List Nat} {m : Nat} (h : LvM ds u i a) (h1 : m < 2 ^ ds.length) (h2 : Rch ds u i (dl ds.length m)) : LvM ds u i (mput a m) := by
  unfold mput
  by_cases z : m ∈ a
  · rw [if_pos z]; exact h
  · rw [if_neg z]
    refine ⟨nodup_snoc h.nd z, fun x hx => ?_⟩
    rcases List.mem_append.mp hx with hx | hx
    · exact h.at' x hx
    · rw [List.mem_singleton.mp hx]; exact ⟨h1, h2⟩
theorem dl_or {ds : List Deed} {u : Nat → Nat} {i d m : Nat} (h : Rch ds u i (dl ds.length d)) (hm : Adm ds u (dl ds.length d) m.testBit) : Rch ds u (i + 1) (dl ds.length (d ||| m)) := by
  have e : dl ds.length (d ||| m) = moreB ds.length (dl ds.length d) (fil ds.length m.testBit) := by
    unfold moreB
    conv => lhs; unfold dl
    refine List.map_congr_left fun k hk => ?_
    have hk := List.mem_range.mp hk
    rw [dn_dl hk, Nat.testBit_or]
    congr 1
    cases z : m.testBit k with
    | true => exact (decide_eq_true (mem_fil.mpr ⟨hk, z⟩)).symm
    | false => exact (decide_eq_false fun q => by have := (mem_fil.mp q).2; rw [z] at this; cases this).symm
  rw [e]
  exact .succ h hm
theorem dl_zero {n : Nat} : dl n 0 = blank n := by
  unfold dl blank
  refine List.ext_getElem (by rw [List.length_map, List.length_range, List.length_replicate]) fun i h1 h2 => ?_
  rw [List.getElem_map, List.getElem_replicate, Nat.zero_testBit]
def ffr (ds : List Deed) (u : Nat → Nat) (rr : D) (t0 t1 t2 t8 t9 : T) (g : List Nat) (t11 t12 : T) : List T := [t0, t1, t2, .f (.lst (ds.map Deed.d)), .f (uD u), .f (.lst (ds.map Deed.d)), .f rr, .f (leansD ds), t8, t9, .dk (mK g) (mV g), t11, t12]
theorem ffr_eq {ds : List Deed} {u : Nat → Nat} {rr : D} {t0 t1 t2 t8 t9 : T} {g : List Nat} {t11 t12 : T} : ffr ds u rr t0 t1 t2 t8 t9 g t11 t12 = [t0, t1, t2, .f (.lst (ds.map Deed.d)), .f (uD u), .f (.lst (ds.map Deed.d)), .f rr, .f (leansD ds), t8, t9, .dk (mK g) (mV g), t11, t12] := rfl
theorem level_inner {ds : List Deed} {u : Nat → Nat} {rr : D} {t0 t1 t2 t8 t9 t12 : T} {g : List Nat} {i d : Nat} (h8 : ds.length ≤ 8) (hg : LvM ds u (i + 1) g) (hd : d < 2 ^ ds.length) (hR : Rch ds u i (dl ds.length d)) :
    ∃ g' t12', LvM ds u (i + 1) g' ∧ forF (gSet 12) l_law_3 (iN (moreM ds u d ds.length)) (ffr ds u rr t0 t1 t2 t8 t9 g (.f (.int (d : Int))) t12) = some (.nx (ffr ds u rr t0 t1 t2 t8 t9 g' (.f (.int (d : Int))) t12')) := by
  obtain ⟨ρ', l1, g', t12', hg', rfl⟩ := for_map (φ := fun m : Nat => D.int (m : Int)) (fg := gSet 12) (fb := l_law_3) (moreM ds u d ds.length) (fun _ ρ => ∃ g' t12', LvM ds u (i + 1) g' ∧ ρ = ffr ds u rr t0 t1 t2 t8 t9 g' (.f (.int (d : Int))) t12') (by
    rintro j m ρ hm ⟨g', t12', hg', rfl⟩
    obtain ⟨m1, m2⟩ := moreM_adm _ (Nat.le_refl _) m (List.mem_of_getElem? hm)
    have hput := hg'.put (Nat.or_lt_two_pow hd m1) (dl_or hR m2)
    have bo := bit_or' (m := d) (k := m)
    have pp := mmput (a := g') (m := d ||| m)
    have p1 := congrArg Prod.fst pp
    have p2 := congrArg Prod.snd pp
    dsimp only at p1 p2
    have hl : (mK g').length ≤ 256 := by unfold mK; rw [List.length_map]; exact hg'.len h8
    replace hput := Hid.mk hput
    clear pp m1 m2 hm hg' hR hd hg h8
    unfold ffr
    generalize mput g' (d ||| m) = g2 at *
    generalize ((d ||| m : Nat) : Int) = dm at *
    generalize leansD ds = ln at *
    generalize ds.map Deed.d = de at *
    generalize uD u = uu at *
    unfold l_law_3
    apply Wn_of
    case h =>
      walk_at "W"
      rfl
    case hq => exact ⟨_, _, hput.out, rfl⟩) (ρ := ffr ds u rr t0 t1 t2 t8 t9 g (.f (.int (d : Int))) t12) ⟨g, t12, hg, rfl⟩
  exact ⟨_, _, hg', l1⟩
theorem level_outer {ds : List Deed} {u : Nat → Nat} {rr : D} {names : List Str} {w : Nat} {t0 t1 t2 t8 t9 t11 t12 : T} {a : List Nat} {i : Nat} (h : DsOk ds names w) (ha : LvM ds u i a) :
    ∃ g' t11' t12', LvM ds u (i + 1) g' ∧ forF (gSet 11) l_law_2 (iN a) (ffr ds u rr t0 t1 t2 t8 t9 [] t11 t12) = some (.nx (ffr ds u rr t0 t1 t2 t8 t9 g' t11' t12')) := by
  obtain ⟨ρ', l1, g', t11', t12', hg', rfl⟩ := for_map (φ := fun m : Nat => D.int (m : Int)) (fg := gSet 11) (fb := l_law_2) a (fun _ ρ => ∃ g' t11' t12', LvM ds u (i + 1) g' ∧ ρ = ffr ds u rr t0 t1 t2 t8 t9 g' t11' t12') (by
    rintro j d ρ hd ⟨g', t11', t12', hg', rfl⟩
    obtain ⟨m1, m2⟩ := ha.at' d (List.mem_of_getElem? hd)
    obtain ⟨g2, c12, hg2, l2⟩ := level_inner (rr := rr) (t0 := t0) (t1 := t1) (t2 := t2) (t8 := t8) (t9 := t9) (t12 := t12') h.len hg' m1 m2
    have lm := law_more_ok (u := u) (dm := d) h
    replace hg2 := Hid.mk hg2
    clear m1 m2 hd hg' ha h
    generalize hfr : ffr ds u rr t0 t1 t2 t8 t9 g2 (.f (.int (d : Int))) c12 = fr at *
    replace hfr := Hid.mk hfr
    rw [ffr_eq] at l2
    rw [ffr_eq (g := g')]
    generalize iN (moreM ds u d ds.length) = mo at *
    generalize leansD ds = ln at *
    generalize ds.map Deed.d = de at *
    generalize uD u = uu at *
    generalize mK g' = k2 at *
    generalize mV g' = v2 at *
    unfold l_law_2
    apply Wn_of
    case h =>
      walk_at "W"
      rfl
    case hq => exact ⟨g2, _, _, hg2.out, hfr.out.symm⟩) (ρ := ffr ds u rr t0 t1 t2 t8 t9 [] t11 t12) ⟨[], t11, t12, ⟨List.nodup_nil, fun _ h => (List.not_mem_nil h).elim⟩, rfl⟩
  exact ⟨_, _, _, hg', l1⟩
theorem law_true (ns : List Int) (hl : ns.length ≤ 63) (hb : ∀ z ∈ ns, Builtin.Int.intBits z ≤ 1048576) : ∃ us, g_law [.f (.lst (ns.map .int))] = some (.ok (.f (.bl true)) us) := by
  refine val_ex ?_
  have hv : val (g_law [.f (.lst (ns.map .int))]) = oval (b_law ([.f (.lst (ns.map .int))] ++ List.replicate (13 - 1) .un)) 1 := val_run (m := 1) (n := 13) rfl
  rw [hv]
  clear hv
  have hcut : cutD (ns.map D.int) none (some 63) = ns.map D.int := by
    rw [show (63 : Int) = ((63 : Nat) : Int) from rfl, cutD_take, List.take_of_length_le (by rw [List.length_map]; exact hl)]
  generalize hs : ns.sum = s
  obtain ⟨b, hbx⟩ := Int.eq_ofNat_of_zero_le (show 0 ≤ 1 + s / 7 % 6 by omega)
  obtain ⟨a0, ha0⟩ := Int.eq_ofNat_of_zero_le (show 0 ≤ 1 + s / 54 % 3 by omega)
  obtain ⟨a1, ha1⟩ := Int.eq_ofNat_of_zero_le (show 0 ≤ 1 + s / 162 % 3 by omega)
  obtain ⟨a2, ha2⟩ := Int.eq_ofNat_of_zero_le (show 0 ≤ 1 + s / 486 % 3 by omega)
  obtain ⟨most, hm8, hm⟩ : ∃ most : Nat, most ≤ 8 ∧ ((s / 63 % 3 = 1 → 7 + s % 2 = (most : Int)) ∧ (¬ s / 63 % 3 = 1 → s % 7 = (most : Int))) := by
    by_cases z : s / 63 % 3 = 1
    · obtain ⟨m, hm⟩ := Int.eq_ofNat_of_zero_le (show 0 ≤ 7 + s % 2 by omega)
      exact ⟨m, by omega, fun _ => hm, fun q => absurd z q⟩
    · obtain ⟨m, hm⟩ := Int.eq_ofNat_of_zero_le (show 0 ≤ s % 7 by omega)
      exact ⟨m, by omega, fun q => absurd q z, fun _ => hm⟩
  obtain ⟨ds, hd1, hd2, e1⟩ := law_deeds_ok (ns := ns) (most := most) (b := b) hb (by omega) (by omega) (by omega)
  have hfine : D.fines (ds.map Deed.d) 63 = true := fines_of fun d hd => deed_fine (names := nm6.take b) (w := 4) (n := 62) (fun x hx => strs_fine (List.mem_of_mem_take hx)) (hd2 d hd)
  have hOk : DsOk ds (nm6.take b) 4 := ⟨hd2, by omega⟩
  have eu : uD (unF a0 a1 a2) = .tup [.int (a0 : Int), .int (a1 : Int), .int (a2 : Int)] := rfl
  have hu : ∀ t < 3, 1 ≤ unF a0 a1 a2 t := fun t _ => unF_ge (by omega) (by omega) (by omega) t
  generalize unF a0 a1 a2 = u at *
  obtain ⟨r, hw, hlf, el⟩ := laid_ok hOk hu
  have ek := law_kept_ok hOk hw
  have en := law_leans_ok hOk
  have nl := bsD_len (r := r)
  have eq := gNe_refl_l hfine
  have hN : ((r.length : Int) - 1).toNat = r.length - 1 := by omega
  have hr8 : r.length ≤ 8 := by
    obtain ⟨d, hd, _⟩ := hw
    exact Nat.le_trans (lays_len hd) (Nat.le_trans (fil_le _) hOk.len)
  obtain ⟨ρ', l1, a, t9, t10, t11, t12, ha, rfl⟩ := for_range (fg := gSet 9) (fb := l_law_1) (r.length - 1) (fun i ρ => ∃ (a : List Nat) (t9 t10 t11 t12 : T), LvM ds u i a ∧ ρ = [.f (.lst (ns.map .int)), .f (.int s), .f (.int (most : Int)), .f (.lst (ds.map Deed.d)), .f (uD u), .f (.lst (ds.map Deed.d)), .f (bsD r), .f (leansD ds), .f (.dct (mK a) (mV a)), t9, t10, t11, t12]) (by
    rintro i ρ hi ⟨a, t9, t10, t11, t12, ha, rfl⟩
    obtain ⟨g, c11, c12, hg, l2⟩ := level_outer (rr := bsD r) (t0 := .f (.lst (ns.map .int))) (t1 := .f (.int s)) (t2 := .f (.int (most : Int))) (t8 := .f (.dct (mK a) (mV a))) (t9 := .f (.int (i : Int))) (t11 := t11) (t12 := t12) hOk ha
    have hn : 0 < ds.length := by
      obtain ⟨d, hd, _⟩ := hw
      have := lays_len hd
      have := fil_le (X := dn d) ds.length
      unfold siz at *
      omega
    have hno : ¬ (2 ^ ds.length - 1) ∈ g := fun hm => by
      obtain ⟨k, hk, hd⟩ := laid_least hu hn (hlf hn) (i + 1) (by omega) _ (hg.at' _ hm).2
      rw [dn_dl hk, Nat.testBit_two_pow_sub_one, decide_eq_true hk] at hd
      cases hd
    have gi := gIn_mK (a := g) (k := 2 ^ ds.length - 1)
    rw [decide_eq_false hno] at gi
    have ez : (2 : Int) ^ ds.length - 1 = ((2 ^ ds.length - 1 : Nat) : Int) := by
      rw [two_cast]
      have : 0 < 2 ^ ds.length := Nat.two_pow_pos _
      omega
    rw [← ez] at gi
    have hdl : (ds.map Deed.d).length = ds.length := List.length_map _
    have h8 := hOk.len
    have e0 : mK [] = [] := rfl
    have e00 : mV [] = [] := rfl
    have ekk : (mK a).map kD = iN a := by
      unfold mK iN
      rw [List.map_map]
      rfl
    rw [ffr_eq, ffr_eq, e0, e00] at l2
    replace hg := Hid.mk hg
    clear ez hno hn hi ha hN hr8 nl ek en eq el hlf hw hu eu hOk hfine hd2 hd1 e1 hm8 hm ha0 ha1 ha2 hbx hs hcut hb hl e0 e00
    generalize iN a = ai at *
    generalize mK a = ak at *
    generalize mV a = av at *
    generalize hgk : mK g = gk at *
    generalize hgv : mV g = gv at *
    replace hgk := Hid.mk hgk
    replace hgv := Hid.mk hgv
    generalize leansD ds = ln at *
    generalize ds.map Deed.d = de at *
    generalize uD u = uu at *
    generalize bsD r = rr at *
    generalize ds.length = n at *
    generalize ns.map D.int = nn at *
    unfold l_law_1
    apply Wn_of
    case h =>
      walk_at "W"
      rfl
    case hq => exact ⟨g, _, _, _, _, hg.out, by rw [hgk.out, hgv.out]⟩) (ρ := [.f (.lst (ns.map .int)), .f (.int s), .f (.int (most : Int)), .f (.lst (ds.map Deed.d)), .f (uD u), .f (.lst (ds.map Deed.d)), .f (bsD r), .f (leansD ds), .f (.dct [.inl 0] [.bl true]), .un, .un, .un, .un]) ⟨[0], .un, .un, .un, .un, ⟨List.nodup_cons.mpr ⟨List.not_mem_nil, List.nodup_nil⟩, fun m hm => by
      rw [List.mem_singleton.mp hm]
      exact ⟨Nat.two_pow_pos _, by rw [dl_zero]; exact .zero⟩⟩, rfl⟩
  rw [eu] at ek el l1
  have isl : gIsi "list" (.f (bsD r)) = some (.f (.bl true)) := by
    unfold bsD
    generalize r.map nL = l
    walk_at "w"
  clear ha hlf hw hu eu hOk hfine hd2 hd1 hb hl
  generalize r.length - 1 = N at *
  generalize leansD ds = ln at *
  generalize ds.map Deed.d = de at *
  generalize bsD r = rr at *
  generalize r.length = rl at *
  generalize mK a = ak at *
  generalize mV a = av at *
  have dm1 : (dmerge [] [] [((Sum.inl 0 : Key), D.bl true)]).1 = [.inl 0] := rfl
  have dm2 : (dmerge [] [] [((Sum.inl 0 : Key), D.bl true)]).2 = [.bl true] := rfl
  unfold b_law
  by_cases z : s / 63 % 3 = 1
  · have hm := hm.1 z
    have z := eq_true z
    walk_at "W"
  · have hm := hm.2 z
    have z := eq_false z
    walk_at "W"
end K
open PySem PySem.W PyProof.Rows
set_option maxRecDepth 100000 in
set_option maxHeartbeats 0 in
theorem PySem.Challenge.cw_deedloom_k32_whole_least_layings_holds : PySem.Challenge.rw_deedloom_k32_whole_least_layings.Holds := by
  w_on; o_law; k_head; (case hw => w_witness2)
  k_fill
  refine K.walk (l := PySem.Challenge.rw_deedloom_k32_whole_least_layings) rfl rfl (fun w h Y => PySem.W.kIn_of Y) K.law_true ?F
  case F =>
    intro w mg fa h KX G hmg
    refine' K.all_mk KX G hmg ?a1 ?l1 ?c1 ?k1 ?a2 ?l2 ?c2 ?k2 ?a3 ?l3 ?c3 ?k3 ?a4 ?l4 ?c4 ?k4 ?a5 ?l5 ?c5 ?k5 ?a6 ?l6 ?c6 ?k6 ?a7 ?l7 ?c7 ?k7 ?a8 ?l8 ?c8 ?k8 ?a9 ?l9 ?c9 ?k9 ?a10 ?l10 ?c10 ?k10 ?a11 ?l11 ?c11 ?k11 ?a12 ?l12 ?c12 ?k12 ?a13 ?l13 ?c13 ?k13 ?a14 ?l14 ?c14 ?k14 ?a15 ?l15 ?c15 ?k15 ?a16 ?l16 ?c16 ?k16 ?a17 ?l17 ?c17 ?k17 ?a18 ?l18 ?c18 ?k18 ?a19 ?l19 ?c19 ?k19 ?a20 ?l20 ?c20 ?k20 ?a21 ?l21 ?c21 ?k21 ?a22 ?l22 ?c22 ?k22 ?z_isinstance ?z_str ?z_range ?z_len ?z_tuple ?z_all ?z_int ?z_bool ?z_enumerate ?z_list ?z_sum
    (case a1 => k_is)
    (case l1 => k_is)
    (case c1 => k_is)
    (case k1 => k_is)
    (case a2 => k_is)
    (case l2 => k_is)
    (case c2 => k_is)
    (case k2 => k_is)
    (case a3 => k_is)
    (case l3 => k_is)
    (case c3 => k_is)
    (case k3 => k_is)
    (case a4 => k_is)
    (case l4 => k_is)
    (case c4 => k_is)
    (case k4 => k_is)
    (case a5 => k_is)
    (case l5 => k_is)
    (case c5 => k_is)
    (case k5 => k_is)
    (case a6 => k_is)
    (case l6 => k_is)
    (case c6 => k_is)
    (case k6 => k_is)
    (case a7 => k_is)
    (case l7 => k_is)
    (case c7 => k_is)
    (case k7 => k_is)
    (case a8 => k_is)
    (case l8 => k_is)
    (case c8 => k_is)
    (case k8 => k_is)
    (case a9 => k_is)
    (case l9 => k_is)
    (case c9 => k_is)
    (case k9 => k_is)
    (case a10 => k_is)
    (case l10 => k_is)
    (case c10 => k_is)
    (case k10 => k_is)
    (case a11 => k_is)
    (case l11 => k_is)
    (case c11 => k_is)
    (case k11 => k_is)
    (case a12 => k_is)
    (case l12 => k_is)
    (case c12 => k_is)
    (case k12 => k_is)
    (case a13 => k_is)
    (case l13 => k_is)
    (case c13 => k_is)
    (case k13 => k_is)
    (case a14 => k_is)
    (case l14 => k_is)
    (case c14 => k_is)
    (case k14 => k_is)
    (case a15 => k_is)
    (case l15 => k_is)
    (case c15 => k_is)
    (case k15 => k_is)
    (case a16 => k_is)
    (case l16 => k_is)
    (case c16 => k_is)
    (case k16 => k_is)
    (case a17 => k_is)
    (case l17 => k_is)
    (case c17 => k_is)
    (case k17 => k_is)
    (case a18 => k_is)
    (case l18 => k_is)
    (case c18 => k_is)
    (case k18 => k_is)
    (case a19 => k_is)
    (case l19 => k_is)
    (case c19 => k_is)
    (case k19 => k_is)
    (case a20 => k_is)
    (case l20 => k_is)
    (case c20 => k_is)
    (case k20 => k_is)
    (case a21 => k_is)
    (case l21 => k_is)
    (case c21 => k_is)
    (case k21 => k_is)
    (case a22 => k_is)
    (case l22 => k_is)
    (case c22 => k_is)
    (case k22 => k_is)
    (case z_isinstance => k_is)
    (case z_str => k_is)
    (case z_range => k_is)
    (case z_len => k_is)
    (case z_tuple => k_is)
    (case z_all => k_is)
    (case z_int => k_is)
    (case z_bool => k_is)
    (case z_enumerate => k_is)
    (case z_list => k_is)
    (case z_sum => k_is)
