import PyProof.Rows.All
import Wide.All
import OpenK.AllK
import Wide.FinOn
import HandS.ForMost
import HandS.Wide
import HandS.IsInst
import HandS.RaiseMore
import HandS.EndBits
import HandS.Small
import HandS.Finally
import PyProof.DictCopy
import HandS.Style
import HandS.More
import HandS.Sort
import KE.KDictList
import HandS.SortInts
import HandS.Text
import KE.KDictCopyH
import PySem.Challenge.RW_deedloom_k77_idle_deeds
set_option Elab.async false
set_option linter.all false
set_option maxRecDepth 100000
namespace Z
open PySem L2

/-- deep data, never changed -/
inductive D where
  | non | bl (b : Bool) | int (i : Int) | str (x : Str)
  | tup (l : List D) | lst (l : List D) | dct (ks : List Key) (vs : List D) | obj (C : Nat) (ns : List Str) (vs : List D)

/-- what a slot holds: forgotten, deep data, or a thing of its own that may be changed -/
inductive T where
  | un | f (d : D) | l (ds : List D) | dk (ks : List Key) (ds : List D) | di (ks : List (List Int)) (ds : List D)
  | ll (ts : List T) | tu (ts : List T) | o (C : Nat) (ns : List Str) (ts : List T)

/-- the written part, and where the classes of the program stand, by their numbers -/
structure Wd where
  K : PySem.W.Frag
  cl : Nat → Addr

mutual
def Rep (W : Wd) (F : Hp) : D → V → Prop
  | .non, v => v = .non
  | .bl b, v => v = .bl b
  | .int i, v => v = .int i
  | .str x, v => v = .str x
  | .tup l, v => ∃ p vs, v = .ref p ∧ SqT W.K F p vs ∧ Reps W F l vs
  | .lst l, v => ∃ p vs, v = .ref p ∧ SqL W.K F p vs ∧ Reps W F l vs
  | .dct ks ds, v => ∃ p kvs, v = .ref p ∧ Rd F p (.dK kvs) ∧ kvs.map (·.1) = ks ∧ Reps W F ds (kvs.map (·.2))
  | .obj C ns ds, v => ∃ p dx kvs, v = .ref p ∧ F p = some (.ins (W.cl C) dx kvs) ∧ kvs.map (·.1) = ns ∧ Reps W F ds (kvs.map (·.2))
def Reps (W : Wd) (F : Hp) : List D → List V → Prop
  | [], vs => vs = []
  | d :: ds, vs => ∃ v r, vs = v :: r ∧ Rep W F d v ∧ Reps W F ds r
end

/-- a flat number: a whole number or a bool -/
def D.num : D → Option Int
  | .int i => some i
  | .bl b => some (if b = true then 1 else 0)
  | _ => none
def numsOf : List D → Option (List Int)
  | [] => some []
  | d :: ds => d.num.bind fun i => (numsOf ds).map fun is => i :: is
/-- what a tuple of numbers hashes to -/
def kH (ks : List Int) : Int := reduceHash (Builtin.Tuple.tupleHashOf (ks.map hashInt))
/-- a dict whose keys are tuples of numbers: each key, where its tuple stands, its value -/
def dxO (p : Addr) (xs : List (List Int × Addr × V)) : HO := .ext fun h => xs.length ≤ sizeLine ∧ (p == sysModules) = false ∧ ∃ ys : List (List Int × Addr × Value),
  Paired (fun (x : List Int × Addr × V) (y : List Int × Addr × Value) => x.1 = y.1 ∧ x.2.1 = y.2.1 ∧ L2.RelV x.2.2 y.2.2) xs ys ∧
  ∃ o es ep, h.get? p = some o ∧ o.ExactDict ∧ o.data = .dict es ep ∧ es.toList = ys.map (fun y => (⟨kH y.1, .ref y.2.1, y.2.2⟩ : DictEntry)) ∧ (ys.map (·.1)).Nodup

mutual
def RelT (W : Wd) (F H : Hp) : T → V → List Addr → Prop
  | .un, _, fp => fp = []
  | .f d, v, fp => fp = [] ∧ Rep W F d v
  | .l ds, v, fp => ∃ p vs, v = .ref p ∧ fp = [p] ∧ H p = some (.lst vs) ∧ Reps W F ds vs
  | .dk ks ds, v, fp => ∃ p kvs, v = .ref p ∧ fp = [p] ∧ H p = some (.dK kvs) ∧ kvs.map (·.1) = ks ∧ Reps W F ds (kvs.map (·.2))
  | .di ks ds, v, fp => ∃ p xs, v = .ref p ∧ fp = [p] ∧ H p = some (dxO p xs) ∧ xs.map (·.1) = ks ∧ (∀ x ∈ xs, ∃ l, numsOf l = some x.1 ∧ Rep W F (.tup l) (.ref x.2.1)) ∧ Reps W F ds (xs.map (·.2.2))
  | .ll ts, v, fp => ∃ p vs fps, v = .ref p ∧ fp = p :: fps.flatten ∧ H p = some (.lst vs) ∧ RelTs W F H ts vs fps
  | .tu ts, v, fp => ∃ p vs fps, v = .ref p ∧ fp = p :: fps.flatten ∧ H p = some (.tup vs) ∧ RelTs W F H ts vs fps
  | .o C ns ts, v, fp => ∃ p dx kvs fps, v = .ref p ∧ fp = p :: fps.flatten ∧ H p = some (.ins (W.cl C) dx kvs) ∧ kvs.map (·.1) = ns ∧ RelTs W F H ts (kvs.map (·.2)) fps
def RelTs (W : Wd) (F H : Hp) : List T → List V → List (List Addr) → Prop
  | [], vs, fps => vs = [] ∧ fps = []
  | t :: ts, vs, fps => ∃ v vr f fr, vs = v :: vr ∧ fps = f :: fr ∧ RelT W F H t v f ∧ RelTs W F H ts vr fr
end

/-- all that F has -/
def Inc (F F' : Hp) : Prop := ∀ a o, F a = some o → F' a = some o
theorem Inc.refl (F : Hp) : Inc F F := fun _ _ h => h
theorem Inc.trans {F G J : Hp} (a : Inc F G) (b : Inc G J) : Inc F J := fun p o h => b p o (a p o h)
/-- .. but that a dict may be locked -/
def Le (F H : Hp) : Prop := ∀ a o, F a = some o → H a = some o ∨ ∃ u kvs, o = .dK kvs ∧ H a = some (.frz u o)
theorem Le.refl (F : Hp) : Le F F := fun _ _ h => .inl h
theorem Le.of {F H : Hp} (h : Inc F H) : Le F H := fun a o e => .inl (h a o e)
theorem Le.some {F H : Hp} (h : Le F H) {a : Addr} {o : HO} (e : F a = some o) : ∃ u, H a = some u := by
  rcases h a o e with z | ⟨u, kvs, _, z⟩
  · exact ⟨_, z⟩
  · exact ⟨_, z⟩
theorem Le.none {F H : Hp} (h : Le F H) {a : Addr} (e : H a = Option.none) : F a = Option.none := by
  cases q : F a with
  | none => rfl
  | some o =>
    obtain ⟨u, z⟩ := h.some q
    rw [e] at z
    cases z
theorem Inc.le {F G H : Hp} (a : Inc F G) (b : Le G H) : Le F H := fun p o e => b p o (a p o e)
theorem Le.inc {F G H : Hp} (a : Le F G) (b : Inc G H) : Le F H := fun p o e => by
  rcases a p o e with z | ⟨u, kvs, e1, z⟩
  · exact .inl (b _ _ z)
  · exact .inr ⟨u, kvs, e1, b _ _ z⟩
theorem Rd.le {F H : Hp} (h : Le F H) {a : Addr} {u : HO} (r : Rd F a u) : Rd H a u := by
  rcases r with e | ⟨o, e⟩
  · rcases h a u e with z | ⟨o, kvs, e1, z⟩
    · exact .inl z
    · exact .inr ⟨o, z⟩
  · rcases h a _ e with z | ⟨_, kvs, e1, z⟩
    · exact .inr ⟨o, z⟩
    · cases e1
theorem SqL.le {K : PySem.W.Frag} {F H : Hp} (h : Le F H) {a : Addr} {vs : List V} (r : SqL K F a vs) : SqL K H a vs := by
  rcases r with r | r
  · exact .inl (Rd.le h r)
  · exact .inr r
theorem SqT.le {K : PySem.W.Frag} {F H : Hp} (h : Le F H) {a : Addr} {vs : List V} (r : SqT K F a vs) : SqT K H a vs := by
  rcases r with r | r
  · exact .inl (Rd.le h r)
  · exact .inr r
theorem ins_le {F H : Hp} (h : Le F H) {a C dx : Addr} {kvs : List (Str × V)} (e : F a = some (.ins C dx kvs)) : H a = some (.ins C dx kvs) := by
  rcases h a _ e with z | ⟨_, _, e1, _⟩
  · exact z
  · cases e1
mutual
theorem Rep.le {W : Wd} {F H : Hp} (h : Le F H) : ∀ (d : D) (v : V), Rep W F d v → Rep W H d v
  | .non, _, r => r
  | .bl _, _, r => r
  | .int _, _, r => r
  | .str _, _, r => r
  | .tup l, _, r => by
    obtain ⟨p, vs, e, s, q⟩ := r
    exact ⟨p, vs, e, SqT.le h s, Reps.le h l vs q⟩
  | .lst l, _, r => by
    obtain ⟨p, vs, e, s, q⟩ := r
    exact ⟨p, vs, e, SqL.le h s, Reps.le h l vs q⟩
  | .dct ks ds, _, r => by
    obtain ⟨p, kvs, e, s, k, q⟩ := r
    exact ⟨p, kvs, e, Rd.le h s, k, Reps.le h ds _ q⟩
  | .obj C ns ds, _, r => by
    obtain ⟨p, dx, kvs, e, s, k, q⟩ := r
    exact ⟨p, dx, kvs, e, ins_le h s, k, Reps.le h ds _ q⟩
theorem Reps.le {W : Wd} {F H : Hp} (h : Le F H) : ∀ (ds : List D) (vs : List V), Reps W F ds vs → Reps W H ds vs
  | [], _, r => r
  | d :: ds, _, r => by
    obtain ⟨v, vr, e, a, b⟩ := r
    exact ⟨v, vr, e, Rep.le h d v a, Reps.le h ds vr b⟩
end
theorem Rep.inc {W : Wd} {F H : Hp} (h : Inc F H) {d : D} {v : V} (r : Rep W F d v) : Rep W H d v := Rep.le (Le.of h) d v r
theorem Reps.inc {W : Wd} {F H : Hp} (h : Inc F H) {d : List D} {v : List V} (r : Reps W F d v) : Reps W H d v := Reps.le (Le.of h) d v r

mutual
theorem RelT.mono {W : Wd} {F F' H H' : Hp} (hF : Inc F F') : ∀ (t : T) (v : V) (fp : List Addr), (∀ a ∈ fp, H' a = H a) → RelT W F H t v fp → RelT W F' H' t v fp
  | .un, _, _, _, r => r
  | .f d, _, _, _, r => ⟨r.1, Rep.inc hF r.2⟩
  | .l ds, _, _, h, r => by
    obtain ⟨p, vs, e1, e2, e3, q⟩ := r
    exact ⟨p, vs, e1, e2, by rw [h p (by rw [e2]; exact List.mem_singleton.mpr rfl)]; exact e3, q.inc hF⟩
  | .dk ks ds, _, _, h, r => by
    obtain ⟨p, kvs, e1, e2, e3, k, q⟩ := r
    exact ⟨p, kvs, e1, e2, by rw [h p (by rw [e2]; exact List.mem_singleton.mpr rfl)]; exact e3, k, q.inc hF⟩
  | .di ks ds, _, _, h, r => by
    obtain ⟨p, xs, e1, e2, e3, k, kk, q⟩ := r
    exact ⟨p, xs, e1, e2, by rw [h p (by rw [e2]; exact List.mem_singleton.mpr rfl)]; exact e3, k, fun x hx => let ⟨l, a, b⟩ := kk x hx; ⟨l, a, b.inc hF⟩, q.inc hF⟩
  | .ll ts, _, _, h, r => by
    obtain ⟨p, vs, fps, e1, e2, e3, q⟩ := r
    exact ⟨p, vs, fps, e1, e2, by rw [h p (by rw [e2]; exact List.mem_cons_self)]; exact e3, RelTs.mono hF ts vs fps (fun a ha => h a (by rw [e2]; exact List.mem_cons_of_mem _ ha)) q⟩
  | .tu ts, _, _, h, r => by
    obtain ⟨p, vs, fps, e1, e2, e3, q⟩ := r
    exact ⟨p, vs, fps, e1, e2, by rw [h p (by rw [e2]; exact List.mem_cons_self)]; exact e3, RelTs.mono hF ts vs fps (fun a ha => h a (by rw [e2]; exact List.mem_cons_of_mem _ ha)) q⟩
  | .o C ns ts, _, _, h, r => by
    obtain ⟨p, dx, kvs, fps, e1, e2, e3, k, q⟩ := r
    exact ⟨p, dx, kvs, fps, e1, e2, by rw [h p (by rw [e2]; exact List.mem_cons_self)]; exact e3, k, RelTs.mono hF ts _ fps (fun a ha => h a (by rw [e2]; exact List.mem_cons_of_mem _ ha)) q⟩
theorem RelTs.mono {W : Wd} {F F' H H' : Hp} (hF : Inc F F') : ∀ (ts : List T) (vs : List V) (fps : List (List Addr)), (∀ a ∈ fps.flatten, H' a = H a) → RelTs W F H ts vs fps → RelTs W F' H' ts vs fps
  | [], _, _, _, r => r
  | t :: ts, _, _, h, r => by
    obtain ⟨v, vr, f, fr, e1, e2, a, b⟩ := r
    subst e2
    rw [List.flatten_cons] at h
    exact ⟨v, vr, f, fr, e1, rfl, RelT.mono hF t v f (fun x hx => h x (List.mem_append_left _ hx)) a, RelTs.mono hF ts vr fr (fun x hx => h x (List.mem_append_right _ hx)) b⟩
end
mutual
theorem RelT.there {W : Wd} {F H : Hp} : ∀ (t : T) (v : V) (fp : List Addr), RelT W F H t v fp → ∀ a ∈ fp, ∃ o, H a = some o
  | .un, _, fp, r, a, ha => by
    have r' : fp = [] := r
    subst r'
    cases ha
  | .f d, _, fp, r, a, ha => by
    have r' : fp = [] := r.1
    subst r'
    cases ha
  | .l ds, _, _, r, a, ha => by
    obtain ⟨p, vs, e1, e2, e3, q⟩ := r
    subst e2
    cases List.mem_singleton.mp ha
    exact ⟨_, e3⟩
  | .dk ks ds, _, _, r, a, ha => by
    obtain ⟨p, kvs, e1, e2, e3, k, q⟩ := r
    subst e2
    cases List.mem_singleton.mp ha
    exact ⟨_, e3⟩
  | .di ks ds, _, _, r, a, ha => by
    obtain ⟨p, xs, e1, e2, e3, k, kk, q⟩ := r
    subst e2
    cases List.mem_singleton.mp ha
    exact ⟨_, e3⟩
  | .ll ts, _, _, r, a, ha => by
    obtain ⟨p, vs, fps, e1, e2, e3, q⟩ := r
    subst e2
    rcases List.mem_cons.mp ha with z | z
    · subst z; exact ⟨_, e3⟩
    · exact RelTs.there ts vs fps q a z
  | .tu ts, _, _, r, a, ha => by
    obtain ⟨p, vs, fps, e1, e2, e3, q⟩ := r
    subst e2
    rcases List.mem_cons.mp ha with z | z
    · subst z; exact ⟨_, e3⟩
    · exact RelTs.there ts vs fps q a z
  | .o C ns ts, _, _, r, a, ha => by
    obtain ⟨p, dx, kvs, fps, e1, e2, e3, k, q⟩ := r
    subst e2
    rcases List.mem_cons.mp ha with z | z
    · subst z; exact ⟨_, e3⟩
    · exact RelTs.there ts _ fps q a z
theorem RelTs.there {W : Wd} {F H : Hp} : ∀ (ts : List T) (vs : List V) (fps : List (List Addr)), RelTs W F H ts vs fps → ∀ a ∈ fps.flatten, ∃ o, H a = some o
  | [], _, fps, r, a, ha => by
    have r' : fps = [] := r.2
    subst r'
    cases ha
  | t :: ts, _, _, r, a, ha => by
    obtain ⟨v, vr, f, fr, e1, e2, q1, q2⟩ := r
    subst e2
    rw [List.flatten_cons] at ha
    rcases List.mem_append.mp ha with z | z
    · exact RelT.there t v f q1 a z
    · exact RelTs.there ts vr fr q2 a z
end

/-! ### the slots -/
def Slot (W : Wd) (F H : Hp) (t : T) (s : Option V) (fp : List Addr) : Prop := match s with
  | none => t = .un ∧ fp = []
  | some v => RelT W F H t v fp
def Slots (W : Wd) (F H : Hp) : List T → St → List (List Addr) → Prop
  | [], σ, fps => σ = [] ∧ fps = []
  | t :: ts, σ, fps => ∃ s sr f fr, σ = s :: sr ∧ fps = f :: fr ∧ Slot W F H t s f ∧ Slots W F H ts sr fr
theorem Slot.mono {W : Wd} {F F' H H' : Hp} (hF : Inc F F') {t : T} {s : Option V} {fp : List Addr} (h : ∀ a ∈ fp, H' a = H a) (r : Slot W F H t s fp) : Slot W F' H' t s fp := by
  cases s with
  | none => exact r
  | some v => exact RelT.mono hF t v fp h r
theorem Slots.mono {W : Wd} {F F' H H' : Hp} (hF : Inc F F') : ∀ {ts : List T} {σ : St} {fps : List (List Addr)}, (∀ a ∈ fps.flatten, H' a = H a) → Slots W F H ts σ fps → Slots W F' H' ts σ fps
  | [], _, _, _, r => r
  | t :: ts, _, _, h, r => by
    obtain ⟨v, vr, f, fr, e1, e2, a, b⟩ := r
    subst e2
    rw [List.flatten_cons] at h
    exact ⟨v, vr, f, fr, e1, rfl, a.mono hF (fun x hx => h x (List.mem_append_left _ hx)), Slots.mono hF (fun x hx => h x (List.mem_append_right _ hx)) b⟩
theorem Slots.there {W : Wd} {F H : Hp} : ∀ {ts : List T} {σ : St} {fps : List (List Addr)}, Slots W F H ts σ fps → ∀ a ∈ fps.flatten, ∃ o, H a = some o
  | [], _, fps, r, a, ha => by
    have r' : fps = [] := r.2
    subst r'
    cases ha
  | t :: ts, _, _, r, a, ha => by
    obtain ⟨s, sr, f, fr, e1, e2, q1, q2⟩ := r
    subst e2
    rw [List.flatten_cons] at ha
    rcases List.mem_append.mp ha with z | z
    · cases s with
      | none => rw [q1.2] at z; cases z
      | some v => exact RelT.there t v f q1 a z
    · exact Slots.there q2 a z
theorem Slots.len {W : Wd} {F H : Hp} : ∀ {ts : List T} {σ : St} {fps : List (List Addr)}, Slots W F H ts σ fps → ts.length = σ.length ∧ ts.length = fps.length
  | [], _, _, r => by rw [r.1, r.2]; exact ⟨rfl, rfl⟩
  | t :: ts, _, _, r => by
    obtain ⟨s, sr, f, fr, e1, e2, q1, q2⟩ := r
    have q := Slots.len q2
    rw [e1, e2]
    simp [q.1, q.2]
    omega
theorem Slots.get {W : Wd} {F H : Hp} : ∀ {ts : List T} {σ : St} {fps : List (List Addr)} {i : Nat} {t : T}, Slots W F H ts σ fps → ts[i]? = some t → ∃ s f, σ[i]? = some s ∧ fps[i]? = some f ∧ Slot W F H t s f
  | [], _, _, _, _, _, e => by simp at e
  | t :: ts, _, _, 0, u, r, e => by
    obtain ⟨s, sr, f, fr, e1, e2, q1, q2⟩ := r
    simp at e
    subst e e1 e2
    exact ⟨s, f, rfl, rfl, q1⟩
  | t :: ts, _, _, i + 1, u, r, e => by
    obtain ⟨s, sr, f, fr, e1, e2, q1, q2⟩ := r
    subst e1 e2
    obtain ⟨s', f', a, b, c⟩ := Slots.get (i := i) (t := u) q2 (by simpa using e)
    exact ⟨s', f', by simpa using a, by simpa using b, c⟩
theorem Slots.set {W : Wd} {F H : Hp} {u : T} {s' : Option V} {f' : List Addr} (h : Slot W F H u s' f') : ∀ {ts : List T} {σ : St} {fps : List (List Addr)} (i : Nat), Slots W F H ts σ fps → Slots W F H (ts.set i u) (σ.set i s') (fps.set i f')
  | [], _, _, _, r => by rw [r.1, r.2]; exact ⟨rfl, rfl⟩
  | t :: ts, _, _, 0, r => by
    obtain ⟨s, sr, f, fr, e1, e2, q1, q2⟩ := r
    subst e1 e2
    exact ⟨s', sr, f', fr, rfl, rfl, h, q2⟩
  | t :: ts, _, _, i + 1, r => by
    obtain ⟨s, sr, f, fr, e1, e2, q1, q2⟩ := r
    subst e1 e2
    exact ⟨s, sr.set i s', f, fr.set i f', rfl, rfl, q1, Slots.set h i q2⟩

/-! ### lists of addresses -/
theorem mem_set_flat {l : List (List Addr)} {i : Nat} {f : List Addr} {a : Addr} (h : a ∈ (l.set i f).flatten) : a ∈ l.flatten ∨ a ∈ f := by
  obtain ⟨g, hg, ha⟩ := List.mem_flatten.mp h
  rcases List.mem_or_eq_of_mem_set hg with z | z
  · exact .inl (List.mem_flatten.mpr ⟨g, z, ha⟩)
  · subst z; exact .inr ha
/-- one part exchanged by one of old and new places -/
theorem nodup_set : ∀ {l : List (List Addr)} {i : Nat} {f g : List Addr}, l.flatten.Nodup → l[i]? = some g → f.Nodup → (∀ a ∈ f, a ∈ g ∨ a ∉ l.flatten) → (l.set i f).flatten.Nodup
  | [], _, _, _, _, e, _, _ => by simp at e
  | x :: l, 0, f, g, n, e, nf, h => by
    simp at e
    subst e
    rw [List.flatten_cons] at n h
    rw [List.set_cons_zero, List.flatten_cons]
    have n' := List.nodup_append.mp n
    refine List.nodup_append.mpr ⟨nf, n'.2.1, fun a ha b hb e => ?_⟩
    subst e
    rcases h a ha with z | z
    · exact n'.2.2 a z a hb rfl
    · exact z (List.mem_append_right _ hb)
  | x :: l, i + 1, f, g, n, e, nf, h => by
    rw [List.flatten_cons] at n h
    rw [List.set_cons_succ, List.flatten_cons]
    have n' := List.nodup_append.mp n
    have e' : l[i]? = some g := by simpa using e
    refine List.nodup_append.mpr ⟨n'.1, nodup_set n'.2.1 e' nf (fun a ha => (h a ha).imp id fun z m => z (List.mem_append_right _ m)), fun a ha b hb e => ?_⟩
    subst e
    rcases mem_set_flat hb with z | z
    · exact n'.2.2 a ha a z rfl
    · rcases h a z with q | q
      · exact n'.2.2 a ha a (List.mem_flatten.mpr ⟨g, List.mem_of_getElem? e', q⟩) rfl
      · exact q (List.mem_append_left _ ha)

/-! ### the state -/
/-- an entry: the heap, what was deep, of each parameter what it may hold, the parameters that are handed back -/
structure Bs where
  H0 : Hp
  F0 : Hp
  As : List (List Addr)
  io : List (Nat × V)
abbrev Bs.A (b : Bs) : List Addr := b.As.flatten
/-- a thing on the way: the slot that it was taken from (none: it is new), the thing, the value -/
structure Tm where
  og : Option Nat
  t : T
  v : V
/-- an instance's class and dict stay, and what it holds by the name that stays -/
def Stb (_ : Addr → Prop) : HO → HO → Prop := fun o o' => ∀ C dx kvs, o = .ins C dx kvs → ∃ kvs', o' = .ins C dx kvs' ∧ ∀ v, kvs.lookup (Str.ofString "endings") = some v → kvs'.lookup (Str.ofString "endings") = some v
theorem Stb.refl {G : Addr → Prop} : ∀ o, Stb G o o := fun _ _ _ kvs e => ⟨kvs, e, fun _ h => h⟩
theorem Stb.trans {G G' G'' : Addr → Prop} {o o1 o2 : HO} (h1 : Stb G o o1) (h2 : Stb G' o1 o2) : Stb G'' o o2 := fun C dx kvs e =>
  let ⟨_, e1, q1⟩ := h1 C dx kvs e
  let ⟨kvs2, e2, q2⟩ := h2 C dx _ e1
  ⟨kvs2, e2, fun v h => q2 v (q1 v h)⟩
theorem Stb.lst {G : Addr → Prop} {vs : List V} {o : HO} : Stb G (.lst vs) o := fun _ _ _ e => nomatch e
theorem Stb.dk {G : Addr → Prop} {kvs : List (Key × V)} {o : HO} : Stb G (.dK kvs) o := fun _ _ _ e => nomatch e
theorem Stb.frz {G : Addr → Prop} {x : Obj} {u o : HO} : Stb G (.frz x u) o := fun _ _ _ e => nomatch e
def GB (W : Wd) (b : Bs) (a : Addr) : Prop := b.F0 a = none ∧ W.K.lookup a = none ∧ ∃ u, b.H0 a = some u
def GF (W : Wd) (F : Hp) (a : Addr) : Prop := F a = none ∧ W.K.lookup a = none
def Own (F : Hp) (l : List Addr) : Prop := l.Nodup ∧ ∀ a ∈ l, F a = none
/-- younger than the entry, or the parameter's own -/
def Frm (b : Bs) (_ : Nat) (a : Addr) : Prop := b.H0 a = none ∨ a ∈ b.A
def Og (b : Bs) (_ : Option Nat) (a : Addr) : Prop := b.H0 a = none ∨ a ∈ b.A
def LocS (b : Bs) (fps : List (List Addr)) : Prop := ∀ i f, fps[i]? = some f → ∀ a ∈ f, Frm b i a
def LocX (b : Bs) : List Tm → List (List Addr) → Prop
  | [], _ => True
  | _ :: _, [] => True
  | x :: X, f :: fs => (∀ a ∈ f, Og b x.og a) ∧ LocX b X fs
/-- slots ρ are what σ holds in H; X: what is held besides (on the way) -/
structure SR (W : Wd) (b : Bs) (F : Hp) (ρ : List T) (σ : St) (X : List Tm) (H : Hp) : Prop where
  le : Le F H
  f0 : Inc b.F0 F
  fn : ∀ a o, F a = some o → b.F0 a = some o ∨ b.H0 a = none ∨ a ∈ b.A
  kept : ∀ a o, b.H0 a = some o → a ∉ b.A → H a = some o
  stab : ∀ a o, b.H0 a = some o → a ∈ b.A → ∃ u, H a = some u ∧ Stb (GB W b) o u
  pin : ∀ p ∈ b.io, σ[p.1]? = some (some p.2)
  ow : ∃ fps xps, Slots W F H ρ σ fps ∧ RelTs W F H (X.map (·.t)) (X.map (·.v)) xps ∧ Own F (fps.flatten ++ xps.flatten) ∧ LocS b fps ∧ LocX b X xps
theorem Frm.old {b : Bs} {i : Nat} {a : Addr} (h : Frm b i a) : b.H0 a = none ∨ a ∈ b.A := h
theorem Og.old {b : Bs} {i : Option Nat} {a : Addr} (h : Og b i a) : b.H0 a = none ∨ a ∈ b.A := h
theorem LocS.old {b : Bs} {fps : List (List Addr)} (h : LocS b fps) {a : Addr} (ha : a ∈ fps.flatten) : b.H0 a = none ∨ a ∈ b.A := by
  obtain ⟨f, hf, ha⟩ := List.mem_flatten.mp ha
  obtain ⟨i, hi⟩ := List.mem_iff_getElem?.mp hf
  exact (h i f hi a ha).old
theorem LocX.old {b : Bs} : ∀ {X : List Tm} {xps : List (List Addr)}, X.length = xps.length → LocX b X xps → ∀ {a : Addr}, a ∈ xps.flatten → b.H0 a = none ∨ a ∈ b.A
  | [], [], _, _, _, ha => by cases ha
  | [], _ :: _, e, _, _, _ => by cases e
  | x :: X, [], e, _, _, _ => by cases e
  | x :: X, f :: fs, e, h, a, ha => by
    rw [List.flatten_cons] at ha
    rcases List.mem_append.mp ha with z | z
    · exact (h.1 a z).old
    · exact LocX.old (by simpa using e) h.2 z
theorem RelTs.lenA {W : Wd} {F H : Hp} : ∀ {ts : List T} {vs : List V} {fps : List (List Addr)}, RelTs W F H ts vs fps → ts.length = vs.length ∧ ts.length = fps.length
  | [], _, _, r => by
    rw [r.1, r.2]
    exact ⟨rfl, rfl⟩
  | t :: ts, _, _, r => by
    obtain ⟨v, vr, f, fr, e1, e2, a, b⟩ := r
    have q := RelTs.lenA b
    rw [e1, e2]
    simp only [List.length_cons]
    omega
section
variable {W : Wd} {b : Bs} {F F' : Hp} {ρ : List T} {σ : St} {X : List Tm} {H H' : Hp}
/-- a free place was free at the entry -/
theorem SR.new0 {p : Addr} (S : SR W b F ρ σ X H) (hp : H p = none) : b.H0 p = none := by
  cases q : b.H0 p with
  | none => rfl
  | some u =>
    by_cases hA : p ∈ b.A
    · obtain ⟨u', z', _⟩ := S.stab p u q hA
      rw [z'] at hp
      cases hp
    · rw [S.kept p u q hA] at hp
      cases hp
theorem SR.len (S : SR W b F ρ σ X H) : ρ.length = σ.length := by
  obtain ⟨fps, xps, s1, _⟩ := S.ow
  exact s1.len.1
theorem SR.slot {i : Nat} {t : T} (S : SR W b F ρ σ X H) (h : ρ[i]? = some t) : ∃ s fp, σ[i]? = some s ∧ Slot W F H t s fp := by
  obtain ⟨fps, xps, s1, s2, _⟩ := S.ow
  obtain ⟨s, f, e1, _, r⟩ := s1.get h
  exact ⟨s, f, e1, r⟩
/-- nothing is changed, new things may stand -/
theorem SR.ext (S : SR W b F ρ σ X H) (hH : Same H H') (hF : Inc F F') (hL : Le F' H') (hn : ∀ a o, F' a = some o → F a = some o ∨ H a = none) : SR W b F' ρ σ X H' := by
  have S0 := S
  obtain ⟨le, f0, fn, kept, stab, pin, fps, xps, s1, s2, ⟨nd, ow⟩, lc⟩ := S
  have there : ∀ a ∈ fps.flatten ++ xps.flatten, ∃ o, H a = some o := fun a ha => by
    rcases List.mem_append.mp ha with z | z
    · exact Slots.there s1 a z
    · exact RelTs.there _ _ _ s2 a z
  have stay : ∀ a ∈ fps.flatten ++ xps.flatten, H' a = H a := fun a ha => by
    obtain ⟨o, e⟩ := there a ha
    rw [e]
    exact hH _ _ e
  refine ⟨hL, f0.trans hF, fun a o e => ?_, fun a o e na => hH _ _ (kept a o e na), fun a o e ha => (stab a o e ha).elim fun u q => ⟨u, hH _ _ q.1, q.2⟩, pin, fps, xps, s1.mono hF (fun a ha => stay a (List.mem_append_left _ ha)), RelTs.mono hF _ _ _ (fun a ha => stay a (List.mem_append_right _ ha)) s2, ⟨nd, fun a ha => ?_⟩, lc⟩
  · rcases hn a o e with z | z
    · exact fn a o z
    · exact .inr (.inl (S0.new0 z))
  · cases q : F' a with
    | none => rfl
    | some u =>
      obtain ⟨o, e⟩ := there a ha
      rcases hn a u q with z | z
      · rw [ow a ha] at z; cases z
      · rw [e] at z; cases z
/-- a new thing is laid, for ever -/
theorem SR.laid (S : SR W b F ρ σ X H) {p : Addr} {o : HO} (hp : H p = none) : SR W b (upd F p o) ρ σ X (upd H p o) ∧ Inc F (upd F p o) ∧ Same H (upd H p o) := by
  have hF : F p = none := S.le.none hp
  have i1 : Inc F (upd F p o) := fun a u e => by rw [upd_ne (ne_of_none e hF)]; exact e
  have i2 : Same H (upd H p o) := fun a u e => by rw [upd_ne (ne_of_none e hp)]; exact e
  refine ⟨S.ext i2 i1 (fun a u e => ?_) (fun a u e => ?_), i1, i2⟩
  · by_cases h : a = p
    · subst h
      rw [upd_same] at e ⊢
      exact .inl e
    · rw [upd_ne h] at e ⊢
      exact S.le a u e
  · by_cases h : a = p
    · subst h; exact .inr hp
    · rw [upd_ne h] at e
      exact .inl e
/-- a new thing is laid that may be changed -/
theorem SR.own (S : SR W b F ρ σ X H) {p : Addr} {o : HO} {t : T} (hp : H p = none) (ht : RelT W F (upd H p o) t (.ref p) [p]) : SR W b F ρ σ (⟨none, t, .ref p⟩ :: X) (upd H p o) := by
  have hF : F p = none := S.le.none hp
  have hnew := S.new0 hp
  have i2 : Same H (upd H p o) := fun a u e => by rw [upd_ne (ne_of_none e hp)]; exact e
  obtain ⟨fps0, xps0, t1, t2, _⟩ := S.ow
  have S' := S.ext (F' := F) i2 (Inc.refl F) (S.le.inc i2) (fun a u e => .inl e)
  obtain ⟨le, f0, fn, kept, stab, pin, _⟩ := S'
  obtain ⟨_, _, _, _, _, _, fps0, xps0, t1, t2, ⟨nd0, ow0⟩, lc1, lc2⟩ := S
  have there : ∀ a ∈ fps0.flatten ++ xps0.flatten, a ≠ p := fun a ha e => by
    subst e
    have : ∃ o, H a = some o := by
      rcases List.mem_append.mp ha with z | z
      · exact Slots.there t1 a z
      · exact RelTs.there _ _ _ t2 a z
    obtain ⟨o, q⟩ := this
    rw [q] at hp
    cases hp
  have stay : ∀ a ∈ fps0.flatten ++ xps0.flatten, (upd H p o) a = H a := fun a ha => upd_ne (there a ha)
  refine ⟨le, f0, fn, kept, stab, pin, fps0, [p] :: xps0, t1.mono (Inc.refl F) (fun a ha => stay a (List.mem_append_left _ ha)), ⟨_, _, _, _, rfl, rfl, ht, RelTs.mono (Inc.refl F) _ _ _ (fun a ha => stay a (List.mem_append_right _ ha)) t2⟩, ⟨?_, fun a ha => ?_⟩, lc1, fun a ha => .inl (by rw [List.mem_singleton.mp ha]; exact hnew), lc2⟩
  · rw [List.flatten_cons]
    have n := List.nodup_append.mp nd0
    refine List.nodup_append.mpr ⟨n.1, List.nodup_append.mpr ⟨by simp, n.2.1, fun a ha c hc e => ?_⟩, fun a ha c hc e => ?_⟩
    · have z := List.mem_singleton.mp ha
      rw [← e, z] at hc
      exact there p (List.mem_append_right _ hc) rfl
    · subst e
      rcases List.mem_append.mp hc with z | z
      · have z := List.mem_singleton.mp z
        rw [z] at ha
        exact there p (List.mem_append_left _ ha) rfl
      · exact n.2.2 a ha a z rfl
  · rw [List.flatten_cons] at ha
    rcases List.mem_append.mp ha with z | z
    · exact ow0 a (List.mem_append_left _ z)
    · rcases List.mem_append.mp z with z | z
      · rw [List.mem_singleton.mp z]; exact hF
      · exact ow0 a (List.mem_append_right _ z)
/-- what is held besides is dropped -/
theorem SR.drop {x : Tm} (S : SR W b F ρ σ (x :: X) H) : SR W b F ρ σ X H := by
  obtain ⟨le, f0, fn, kept, stab, pin, fps, xps, s1, s2, ⟨nd, ow⟩, lc1, lc2⟩ := S
  obtain ⟨v, vr, f, fr, e1, e2, r1, r2⟩ := s2
  subst e2
  have e3 : X.map (·.v) = vr := (List.cons.inj e1).2
  subst e3
  have sub : List.Sublist (fps.flatten ++ fr.flatten) (fps.flatten ++ (f :: fr).flatten) := by
    rw [List.flatten_cons]
    exact List.Sublist.append (List.Sublist.refl _) (List.sublist_append_right _ _)
  exact ⟨le, f0, fn, kept, stab, pin, fps, fr, s1, r2, ⟨nd.sublist sub, fun a ha => ow a (sub.subset ha)⟩, lc1, lc2.2⟩
/-- the last thing held, as deep data -/
theorem SR.top {d : D} {v : V} {o : Option Nat} (S : SR W b F ρ σ (⟨o, .f d, v⟩ :: X) H) : Rep W F d v := by
  obtain ⟨fps, xps, s1, s2, _⟩ := S.ow
  obtain ⟨v', vr, f, fr, e1, e2, r1, r2⟩ := s2
  have e3 : v = v' := (List.cons.inj e1).1
  subst e3
  exact r1.2
theorem SR.push {d : D} {v : V} {o : Option Nat} (S : SR W b F ρ σ X H) (r : Rep W F d v) : SR W b F ρ σ (⟨o, .f d, v⟩ :: X) H := by
  obtain ⟨le, f0, fn, kept, stab, pin, fps, xps, s1, s2, ⟨nd, ow⟩, lc1, lc2⟩ := S
  exact ⟨le, f0, fn, kept, stab, pin, fps, [] :: xps, s1, ⟨_, _, _, _, rfl, rfl, ⟨rfl, r⟩, s2⟩, ⟨by rw [List.flatten_cons]; exact nd, fun a ha => ow a (by rw [List.flatten_cons] at ha; exact ha)⟩, lc1, ⟨fun a ha => (by cases ha), lc2⟩⟩
/-- the last thing held is stored in a slot -/
theorem SR.store {t : T} {v : V} {i : Nat} {o : Option Nat} (S : SR W b F ρ σ (⟨o, t, v⟩ :: X) H) (ho : o = none ∨ o = some i) (hio : (∀ p ∈ b.io, p.1 ≠ i) ∨ σ[i]? = some (some v)) : SR W b F (ρ.set i t) (σ.set i (some v)) X H := by
  by_cases hi : i < ρ.length
  · obtain ⟨le, f0, fn, kept, stab, pin, fps, xps, s1, s2, ⟨nd, ow⟩, lc1, lc2⟩ := S
    obtain ⟨v', vr, f, fr, e1, e2, r1, r2⟩ := s2
    subst e2
    have e3 : v = v' := (List.cons.inj e1).1
    have e4 : X.map (·.v) = vr := (List.cons.inj e1).2
    subst e3 e4
    have hl := s1.len
    obtain ⟨g, hg⟩ : ∃ g, fps[i]? = some g := ⟨fps[i]'(by omega), List.getElem?_eq_getElem _⟩
    rw [List.flatten_cons] at nd ow
    have n := List.nodup_append.mp nd
    have n2 := List.nodup_append.mp n.2.1
    refine ⟨le, f0, fn, kept, stab, fun p hp => ?_, fps.set i f, fr, Slots.set (s' := some v) r1 i s1, r2, ⟨?_, fun a ha => ?_⟩, fun j g hj a ha => ?_, lc2.2⟩
    · by_cases e : p.1 = i
      · rcases hio with z | z
        · exact absurd e (z p hp)
        · have := pin p hp
          rw [e, z] at this
          rw [e, List.getElem?_set_self (by omega)]
          exact this
      · rw [List.getElem?_set_ne (fun q => e q.symm)]
        exact pin p hp
    · refine List.nodup_append.mpr ⟨nodup_set n.1 hg n2.1 (fun a ha => .inr fun m => n.2.2 a m a (List.mem_append_left _ ha) rfl), n2.2.1, fun a ha c hc e => ?_⟩
      subst e
      rcases mem_set_flat ha with z | z
      · exact n.2.2 a z a (List.mem_append_right _ hc) rfl
      · exact n2.2.2 a z a hc rfl
    · rcases List.mem_append.mp ha with z | z
      · rcases mem_set_flat z with z | z
        · exact ow a (List.mem_append_left _ z)
        · exact ow a (List.mem_append_right _ (List.mem_append_left _ z))
      · exact ow a (List.mem_append_right _ (List.mem_append_right _ z))
    · by_cases hij : j = i
      · subst hij
        rw [List.getElem?_set_self (by omega)] at hj
        cases hj
        exact lc2.1 a ha
      · rw [List.getElem?_set_ne (fun e => hij e.symm)] at hj
        exact lc1 j g hj a ha
  · have S' := S.drop
    rw [List.set_eq_of_length_le (by omega), List.set_eq_of_length_le (by have := S.len; omega)]
    exact S'
/-- a slot's thing is taken out -/
theorem SR.take {t : T} {v : V} {i : Nat} (S : SR W b F ρ σ X H) (hi : ρ[i]? = some t) (hv : σ[i]? = some (some v)) : SR W b F (ρ.set i .un) σ (⟨some i, t, v⟩ :: X) H := by
  obtain ⟨le, f0, fn, kept, stab, pin, fps, xps, s1, s2, ⟨nd, ow⟩, lc1, lc2⟩ := S
  obtain ⟨s, f, e1, e2, r⟩ := s1.get hi
  rw [hv] at e1
  cases e1
  have hl := s1.len
  have hlt : i < fps.length := (List.getElem?_eq_some_iff.mp e2).1
  have s1' : Slots W F H (ρ.set i .un) (σ.set i (some v)) (fps.set i []) := Slots.set (s' := some v) (u := .un) (f' := []) rfl i s1
  have eσ : σ.set i (some v) = σ := by
    apply List.ext_getElem?
    intro j
    by_cases h : j = i
    · subst h
      rw [List.getElem?_set_self (by omega), hv]
    · rw [List.getElem?_set_ne (fun e => h e.symm)]
  rw [eσ] at s1'
  have n := List.nodup_append.mp nd
  have hf : ∀ a ∈ f, a ∈ fps.flatten := fun a ha => List.mem_flatten.mpr ⟨f, List.mem_of_getElem? e2, ha⟩
  have nset : (fps.set i []).flatten.Nodup := nodup_set n.1 e2 List.nodup_nil (fun a ha => nomatch ha)
  have mset : ∀ a ∈ (fps.set i []).flatten, a ∈ fps.flatten := fun a ha => (mem_set_flat ha).elim id fun z => nomatch z
  have nf : f.Nodup := (List.sublist_flatten_of_mem (List.mem_of_getElem? e2)).nodup n.1
  have dj : ∀ a ∈ (fps.set i []).flatten, a ∉ f := by
    have key : ∀ {l : List (List Addr)} {i : Nat} {f : List Addr}, l.flatten.Nodup → l[i]? = some f → ∀ a ∈ (l.set i []).flatten, a ∉ f := by
      intro l
      induction l with
      | nil => intro i f _ e; simp at e
      | cons x l ih =>
        intro i f nd e a ha hf
        rw [List.flatten_cons] at nd
        have n := List.nodup_append.mp nd
        cases i with
        | zero =>
          simp at e
          subst e
          rw [List.set_cons_zero, List.flatten_cons, List.nil_append] at ha
          exact n.2.2 a hf a ha rfl
        | succ i =>
          rw [List.set_cons_succ, List.flatten_cons] at ha
          have e' : l[i]? = some f := by simpa using e
          rcases List.mem_append.mp ha with z | z
          · exact n.2.2 a z a (List.mem_flatten.mpr ⟨f, List.mem_of_getElem? e', hf⟩) rfl
          · exact ih n.2.1 e' a z hf
    exact key n.1 e2
  refine ⟨le, f0, fn, kept, stab, pin, fps.set i [], f :: xps, s1', ⟨_, _, _, _, rfl, rfl, r, s2⟩, ⟨?_, fun a ha => ?_⟩, fun j g hj a ha => ?_, fun a ha => lc1 i f e2 a ha, lc2⟩
  · rw [List.flatten_cons]
    refine List.nodup_append.mpr ⟨nset, List.nodup_append.mpr ⟨nf, n.2.1, fun a ha c hc e => ?_⟩, fun a ha c hc e => ?_⟩
    · exact n.2.2 a (hf a ha) c hc e
    · subst e
      rcases List.mem_append.mp hc with z | z
      · exact dj a ha z
      · exact n.2.2 a (mset a ha) a z rfl
  · rw [List.flatten_cons] at ha
    rcases List.mem_append.mp ha with z | z
    · exact ow a (List.mem_append_left _ (mset a z))
    · rcases List.mem_append.mp z with z | z
      · exact ow a (List.mem_append_left _ (hf a z))
      · exact ow a (List.mem_append_right _ z)
  · by_cases hij : j = i
    · subst hij
      rw [List.getElem?_set_self hlt] at hj
      cases hj
      cases ha
    · rw [List.getElem?_set_ne (fun e => hij e.symm)] at hj
      exact lc1 j g hj a ha
/-- .. and put back -/
theorem SR.back {t : T} {v : V} {i : Nat} (S : SR W b F ρ σ (⟨some i, t, v⟩ :: X) H) (hv : σ[i]? = some (some v)) : SR W b F (ρ.set i t) σ X H := by
  have S' := S.store (.inr rfl) (.inr hv)
  have eσ : σ.set i (some v) = σ := by
    apply List.ext_getElem?
    intro j
    by_cases h : j = i
    · subst h
      have hlt : j < σ.length := (List.getElem?_eq_some_iff.mp hv).1
      rw [List.getElem?_set_self hlt, hv]
    · rw [List.getElem?_set_ne (fun e => h e.symm)]
  rw [eσ] at S'
  exact S'
end
end Z

namespace Z
open PySem L2

/-! ### what is seen of a thing -/
def RelV (W : Wd) (F H : Hp) (t : T) (v : V) : Prop := ∃ fp, RelT W F H t v fp
theorem RelV.f {W : Wd} {F H : Hp} {d : D} {v : V} (r : Rep W F d v) : RelV W F H (.f d) v := ⟨[], rfl, r⟩
theorem RelV.rep {W : Wd} {F H : Hp} {d : D} {v : V} (r : RelV W F H (.f d) v) : Rep W F d v := r.elim fun _ q => q.2
theorem RelV.ext {W : Wd} {F F' H H' : Hp} {t : T} {v : V} (r : RelV W F H t v) (hF : Inc F F') (hH : Same H H') : RelV W F' H' t v := by
  obtain ⟨fp, r⟩ := r
  refine ⟨fp, RelT.mono hF t v fp (fun a ha => ?_) r⟩
  obtain ⟨o, e⟩ := RelT.there t v fp r a ha
  rw [e]
  exact hH _ _ e

def T.i? : T → Option Int | .f (.int i) => some i | _ => none
def T.s? : T → Option Str | .f (.str x) => some x | _ => none
def T.b? : T → Option Bool | .f (.bl b) => some b | _ => none
def T.d? : T → Option D | .f d => some d | _ => none
def T.ls? : T → Option (List D) | .f (.lst xs) => some xs | .l xs => some xs | _ => none
def T.ts? : T → Option (List D) | .f (.tup xs) => some xs | _ => none
def T.sq? : T → Option (List D) | .f (.lst xs) => some xs | .l xs => some xs | .f (.tup xs) => some xs | _ => none
def T.dk? : T → Option (List Key × List D) | .f (.dct ks ds) => some (ks, ds) | .dk ks ds => some (ks, ds) | _ => none
/-- int keys, text keys -/
def T.key? : T → Option Key | .f (.int i) => some (.inl i) | .f (.str x) => some (.inr x) | _ => none

section
variable {W : Wd} {F H : Hp} {t : T} {v : V}
theorem RelV.int {i : Int} (r : RelV W F H t v) (h : t.i? = some i) : v = .int i := by
  cases t with
  | f d => cases d with
    | int j => cases h; exact r.rep
    | _ => cases h
  | _ => cases h
theorem RelV.str {x : Str} (r : RelV W F H t v) (h : t.s? = some x) : v = .str x := by
  cases t with
  | f d => cases d with
    | str j => cases h; exact r.rep
    | _ => cases h
  | _ => cases h
theorem RelV.bl {x : Bool} (r : RelV W F H t v) (h : t.b? = some x) : v = .bl x := by
  cases t with
  | f d => cases d with
    | bl j => cases h; exact r.rep
    | _ => cases h
  | _ => cases h
theorem RelV.key {k : Key} (r : RelV W F H t v) (h : t.key? = some k) : v = kV k := by
  cases t with
  | f d => cases d with
    | int j => cases h; exact r.rep
    | str j => cases h; exact r.rep
    | _ => cases h
  | _ => cases h
theorem RelV.ls {ds : List D} (r : RelV W F H t v) (h : t.ls? = some ds) (le : Le F H) : ∃ p vs, v = .ref p ∧ SqL W.K H p vs ∧ Reps W F ds vs := by
  cases t with
  | f d => cases d with
    | lst l =>
      cases h
      obtain ⟨p, vs, e, s, q⟩ := r.rep
      exact ⟨p, vs, e, SqL.le le s, q⟩
    | _ => cases h
  | l l =>
    cases h
    obtain ⟨fp, p, vs, e, _, s, q⟩ := r
    exact ⟨p, vs, e, .inl (.inl s), q⟩
  | _ => cases h
theorem RelV.ts {ds : List D} (r : RelV W F H t v) (h : t.ts? = some ds) (le : Le F H) : ∃ p vs, v = .ref p ∧ SqT W.K H p vs ∧ Reps W F ds vs := by
  cases t with
  | f d => cases d with
    | tup l =>
      cases h
      obtain ⟨p, vs, e, s, q⟩ := r.rep
      exact ⟨p, vs, e, SqT.le le s, q⟩
    | _ => cases h
  | _ => cases h
theorem RelV.sq {ds : List D} (r : RelV W F H t v) (h : t.sq? = some ds) (le : Le F H) : ∃ p vs, v = .ref p ∧ (SqL W.K H p vs ∨ SqT W.K H p vs) ∧ Reps W F ds vs := by
  cases t with
  | f d => cases d with
    | tup l =>
      cases h
      obtain ⟨p, vs, e, s, q⟩ := r.rep
      exact ⟨p, vs, e, .inr (SqT.le le s), q⟩
    | lst l =>
      cases h
      obtain ⟨p, vs, e, s, q⟩ := r.rep
      exact ⟨p, vs, e, .inl (SqL.le le s), q⟩
    | _ => cases h
  | l l =>
    cases h
    obtain ⟨fp, p, vs, e, _, s, q⟩ := r
    exact ⟨p, vs, e, .inl (.inl (.inl s)), q⟩
  | _ => cases h
theorem RelV.dk {ks : List Key} {ds : List D} (r : RelV W F H t v) (h : t.dk? = some (ks, ds)) (le : Le F H) : ∃ p kvs, v = .ref p ∧ Rd H p (.dK kvs) ∧ kvs.map (·.1) = ks ∧ Reps W F ds (kvs.map (·.2)) := by
  cases t with
  | f d => cases d with
    | dct a b =>
      cases h
      obtain ⟨p, kvs, e, s, k, q⟩ := r.rep
      exact ⟨p, kvs, e, Rd.le le s, k, q⟩
    | _ => cases h
  | dk a b =>
    cases h
    obtain ⟨fp, p, kvs, e, _, s, k, q⟩ := r
    exact ⟨p, kvs, e, .inl s, k, q⟩
  | _ => cases h
end

theorem Reps.len {W : Wd} {F : Hp} : ∀ {ds : List D} {vs : List V}, Reps W F ds vs → ds.length = vs.length
  | [], _, r => by
    have r' : _ = [] := r
    rw [r']
    rfl
  | d :: ds, _, r => by
    obtain ⟨v, vr, e, a, b⟩ := r
    rw [e, List.length_cons, List.length_cons, Reps.len b]
theorem Reps.get {W : Wd} {F : Hp} : ∀ {ds : List D} {vs : List V} {i : Nat} {d : D}, Reps W F ds vs → ds[i]? = some d → ∃ v, vs[i]? = some v ∧ Rep W F d v
  | [], _, _, _, _, e => by simp at e
  | d :: ds, _, 0, _, r, e => by
    obtain ⟨v, vr, e1, a, b⟩ := r
    simp at e
    subst e e1
    exact ⟨v, rfl, a⟩
  | d :: ds, _, i + 1, _, r, e => by
    obtain ⟨v, vr, e1, a, b⟩ := r
    subst e1
    obtain ⟨u, h1, h2⟩ := Reps.get b (by simpa using e)
    exact ⟨u, by simpa using h1, h2⟩
theorem Reps.append {W : Wd} {F : Hp} : ∀ {ds es : List D} {vs us : List V}, Reps W F ds vs → Reps W F es us → Reps W F (ds ++ es) (vs ++ us)
  | [], _, _, _, r, q => by
    have r' : _ = [] := r
    subst r'
    exact q
  | d :: ds, _, _, _, r, q => by
    obtain ⟨v, vr, e, a, b⟩ := r
    subst e
    exact ⟨v, _, rfl, a, Reps.append b q⟩
theorem Reps.take {W : Wd} {F : Hp} : ∀ {ds : List D} {vs : List V} (n : Nat), Reps W F ds vs → Reps W F (ds.take n) (vs.take n)
  | _, _, 0, _ => rfl
  | [], _, n + 1, r => by
    have r' : _ = [] := r
    subst r'
    exact rfl
  | d :: ds, _, n + 1, r => by
    obtain ⟨v, vr, e, a, b⟩ := r
    subst e
    exact ⟨v, _, rfl, a, Reps.take n b⟩
theorem Reps.drop {W : Wd} {F : Hp} : ∀ {ds : List D} {vs : List V} (n : Nat), Reps W F ds vs → Reps W F (ds.drop n) (vs.drop n)
  | _, _, 0, r => r
  | [], _, n + 1, r => by
    have r' : _ = [] := r
    subst r'
    exact rfl
  | d :: ds, _, n + 1, r => by
    obtain ⟨v, vr, e, a, b⟩ := r
    subst e
    exact Reps.drop n b
theorem Reps.set {W : Wd} {F : Hp} {d' : D} {v' : V} (h : Rep W F d' v') : ∀ {ds : List D} {vs : List V} (n : Nat), Reps W F ds vs → Reps W F (ds.set n d') (vs.set n v')
  | [], _, n, r => by
    have r' : _ = [] := r
    subst r'
    exact rfl
  | d :: ds, _, 0, r => by
    obtain ⟨v, vr, e, a, b⟩ := r
    subst e
    exact ⟨v', _, rfl, h, b⟩
  | d :: ds, _, n + 1, r => by
    obtain ⟨v, vr, e, a, b⟩ := r
    subst e
    exact ⟨v, _, rfl, a, Reps.set h n b⟩
theorem Reps.ints {W : Wd} {F : Hp} : ∀ {ns : List Int} {vs : List V}, Reps W F (ns.map D.int) vs → vs = ns.map V.int
  | [], _, r => r
  | n :: ns, _, r => by
    obtain ⟨v, vr, e, a, b⟩ := r
    have a' : v = .int n := a
    rw [e, a', Reps.ints b]
    rfl
theorem Reps.strs {W : Wd} {F : Hp} : ∀ {ns : List Str} {vs : List V}, Reps W F (ns.map D.str) vs → vs = ns.map V.str
  | [], _, r => r
  | n :: ns, _, r => by
    obtain ⟨v, vr, e, a, b⟩ := r
    have a' : v = .str n := a
    rw [e, a', Reps.strs b]
    rfl
theorem Reps.bls {W : Wd} {F : Hp} : ∀ {ns : List Bool} {vs : List V}, Reps W F (ns.map D.bl) vs → vs = ns.map V.bl
  | [], _, r => r
  | n :: ns, _, r => by
    obtain ⟨v, vr, e, a, b⟩ := r
    have a' : v = .bl n := a
    rw [e, a', Reps.bls b]
    rfl
theorem Reps.of_ints {W : Wd} {F : Hp} : ∀ (ns : List Int), Reps W F (ns.map D.int) (ns.map V.int)
  | [] => rfl
  | n :: ns => ⟨_, _, rfl, rfl, Reps.of_ints ns⟩
theorem Reps.of_strs {W : Wd} {F : Hp} : ∀ (ns : List Str), Reps W F (ns.map D.str) (ns.map V.str)
  | [] => rfl
  | n :: ns => ⟨_, _, rfl, rfl, Reps.of_strs ns⟩

/-! ### judgements -/
/-- what is wanted of a pure thing's value -/
def Kp (W : Wd) (b : Bs) (F : Hp) (ρ : List T) (σ : St) (X : List Tm) (H : Hp) (t : T) (Q : VK) : Prop :=
  ∀ v F' H', SR W b F' ρ σ X H' → Inc F F' → Same H H' → RelV W F' H' t v → Q v H'
def Sv (W : Wd) (t : TE) (f : List T → Option T) : Prop :=
  ∀ b F ρ σ X H τ Q, SR W b F ρ σ X H → f ρ = some τ → Kp W b F ρ σ X H τ Q → t σ H Q
def Stv (W : Wd) (t : TT) (f : List T → Option Bool) : Prop :=
  ∀ b F ρ σ X H c Q, SR W b F ρ σ X H → f ρ = some c → (∀ F' H', SR W b F' ρ σ X H' → Inc F F' → Same H H' → Q c H') → t σ H Q
/-- arguments -/
def RelVs (W : Wd) (F H : Hp) (ts : List T) (vs : List V) : Prop := ∃ fps, RelTs W F H ts vs fps
def Sav (W : Wd) (t : TA) (f : List T → Option (List T)) : Prop :=
  ∀ b F ρ σ X H τs Q, SR W b F ρ σ X H → f ρ = some τs → (∀ vs F' H', SR W b F' ρ σ X H' → Inc F F' → Same H H' → RelVs W F' H' τs vs → Q vs H') → t σ H Q

theorem RelVs.ext {W : Wd} {F F' H H' : Hp} {ts : List T} {vs : List V} (r : RelVs W F H ts vs) (hF : Inc F F') (hH : Same H H') : RelVs W F' H' ts vs := by
  obtain ⟨fp, r⟩ := r
  refine ⟨fp, RelTs.mono hF ts vs fp (fun a ha => ?_) r⟩
  obtain ⟨o, e⟩ := RelTs.there ts vs fp r a ha
  rw [e]
  exact hH _ _ e
theorem RelVs.nil {W : Wd} {F H : Hp} : RelVs W F H [] [] := ⟨[], rfl, rfl⟩
theorem RelVs.cons {W : Wd} {F H : Hp} {t : T} {v : V} {ts : List T} {vs : List V} (a : RelV W F H t v) (b : RelVs W F H ts vs) : RelVs W F H (t :: ts) (v :: vs) := by
  obtain ⟨f, a⟩ := a
  obtain ⟨fs, b⟩ := b
  exact ⟨f :: fs, _, _, _, _, rfl, rfl, a, b⟩
theorem RelVs.inv {W : Wd} {F H : Hp} {t : T} {ts : List T} {vs : List V} (r : RelVs W F H (t :: ts) vs) : ∃ v vr, vs = v :: vr ∧ RelV W F H t v ∧ RelVs W F H ts vr := by
  obtain ⟨fs, v, vr, f, fr, e1, e2, a, b⟩ := r
  exact ⟨v, vr, e1, ⟨f, a⟩, ⟨fr, b⟩⟩
theorem RelVs.inv0 {W : Wd} {F H : Hp} {vs : List V} (r : RelVs W F H [] vs) : vs = [] := r.elim fun _ q => q.1

section
variable {W : Wd} {b : Bs} {F : Hp} {ρ : List T} {σ : St} {X : List Tm} {H : Hp} {Q : VK}
/-- the value is there -/
theorem Kp.here {t : T} {v : V} (k : Kp W b F ρ σ X H t Q) (S : SR W b F ρ σ X H) (r : RelV W F H t v) : Q v H := k v F H S (Inc.refl F) (Same.refl H) r
theorem Kp.d {d : D} {v : V} (k : Kp W b F ρ σ X H (.f d) Q) (S : SR W b F ρ σ X H) (r : Rep W F d v) : Q v H := k.here S (.f r)
/-- the value is new -/
theorem Kp.new {d : D} {o : HO} (k : Kp W b F ρ σ X H (.f d) Q) (S : SR W b F ρ σ X H) (r : ∀ p, H p = none → Inc F (upd F p o) → Rep W (upd F p o) d (.ref p)) : ∀ p, H p = none → Q (.ref p) (upd H p o) := fun p hp => by
  obtain ⟨S', i, s⟩ := S.laid (o := o) hp
  exact k _ _ _ S' i s (.f (r p hp i))
theorem Kp.lst {ds : List D} {vs : List V} (k : Kp W b F ρ σ X H (.f (.lst ds)) Q) (S : SR W b F ρ σ X H) (r : Reps W F ds vs) : ∀ p, H p = none → Q (.ref p) (upd H p (.lst vs)) :=
  k.new S fun p hp i => ⟨p, vs, rfl, .inl (.inl upd_same), r.inc i⟩
theorem Kp.tup {ds : List D} {vs : List V} (k : Kp W b F ρ σ X H (.f (.tup ds)) Q) (S : SR W b F ρ σ X H) (r : Reps W F ds vs) : ∀ p, H p = none → Q (.ref p) (upd H p (.tup vs)) :=
  k.new S fun p hp i => ⟨p, vs, rfl, .inl (.inl upd_same), r.inc i⟩
theorem Kp.mono {F1 H1 : Hp} {t : T} (k : Kp W b F ρ σ X H t Q) (i : Inc F F1) (s : Same H H1) : Kp W b F1 ρ σ X H1 t Q := fun v F' H' S' i' s' r => k v F' H' S' (i.trans i') (s.trans s') r
end

/-- rules by values -/
def S2 (W : Wd) (r : R2) (g : T → T → Option T) : Prop :=
  ∀ b F ρ σ X H t1 t2 τ x y Q, SR W b F ρ σ X H → RelV W F H t1 x → RelV W F H t2 y → g t1 t2 = some τ → Kp W b F ρ σ X H τ Q → r x y H Q
def S1 (W : Wd) (r : V → Hp → VK → Prop) (g : T → Option T) : Prop :=
  ∀ b F ρ σ X H t1 τ x Q, SR W b F ρ σ X H → RelV W F H t1 x → g t1 = some τ → Kp W b F ρ σ X H τ Q → r x H Q
def Sn (W : Wd) (r : List V → Hp → VK → Prop) (g : List T → Option T) : Prop :=
  ∀ b F ρ σ X H ts τ xs Q, SR W b F ρ σ X H → RelVs W F H ts xs → g ts = some τ → Kp W b F ρ σ X H τ Q → r xs H Q
def or2 (g h : T → T → Option T) : T → T → Option T := fun a b => (g a b).orElse fun _ => h a b
def orn (g h : List T → Option T) : List T → Option T := fun a => (g a).orElse fun _ => h a
theorem S2.or {W : Wd} {r r' : R2} {g h : T → T → Option T} (a : S2 W r g) (b : S2 W r' h) : S2 W (fun x y H Q => r x y H Q ∨ r' x y H Q) (or2 g h) := by
  intro bs F ρ σ X H t1 t2 τ x y Q S r1 r2 e k
  unfold or2 at e
  cases q : g t1 t2 with
  | some z =>
    rw [q] at e
    exact .inl (a bs F ρ σ X H t1 t2 τ x y Q S r1 r2 (q.trans e) k)
  | none =>
    rw [q] at e
    exact .inr (b bs F ρ σ X H t1 t2 τ x y Q S r1 r2 e k)
theorem Sn.or {W : Wd} {r r' : List V → Hp → VK → Prop} {g h : List T → Option T} (a : Sn W r g) (b : Sn W r' h) : Sn W (fun x H Q => r x H Q ∨ r' x H Q) (orn g h) := by
  intro bs F ρ σ X H t1 τ x Q S r1 e k
  unfold orn at e
  cases q : g t1 with
  | some z =>
    rw [q] at e
    exact .inl (a bs F ρ σ X H t1 τ x Q S r1 (q.trans e) k)
  | none =>
    rw [q] at e
    exact .inr (b bs F ρ σ X H t1 τ x Q S r1 e k)
theorem OpR_or {X : Cx} {f : Value → Value → Sem Value} {r r' : R2} (h : OpR X f r) (h' : OpR X f r') : OpR X f (fun x y H Q => r x y H Q ∨ r' x y H Q) := by
  intro pins s σ H x y v u Q I rx ry q
  rcases q with q | q
  · exact h pins s σ H x y v u Q I rx ry q
  · exact h' pins s σ H x y v u Q I rx ry q
theorem CallR_or {X : Cx} {f : Value} {r r' : List V → Hp → VK → Prop} (h : CallR X f r) (h' : CallR X f r') : CallR X f (fun x H Q => r x H Q ∨ r' x H Q) := by
  intro pins s σ H x v Q I rx q
  rcases q with q | q
  · exact h pins s σ H x v Q I rx q
  · exact h' pins s σ H x v Q I rx q

/-! ### the whole: a thing of syntax, in a family of contexts -/
/-- how many parameters, which are handed back -/
structure Sg where
  m : Nat
  io : List Nat
  al : List (Nat × Nat)
structure Ctx where
  J : Type
  X : J → Cx
  W : Wd
  P : Sg
  E : St → XK
  N : List Str
  k : Nat
  hK : ∀ j, (X j).K = W.K
  hN : ∀ j, (X j).N = N
  nd : N.Nodup
  calm : ∀ j, (X j).calm = true
  room : ∀ j, Room k (X j).A
theorem Ctx.hu (c : Ctx) (j : c.J) : (c.X j).A.units + 64 < cLine := by have := (c.room j).un; omega
theorem Ctx.hu1 (c : Ctx) (j : c.J) : (c.X j).A.units + 1 < cLine := by have := (c.room j).un; omega
theorem Ctx.hNd (c : Ctx) (j : c.J) : (c.X j).N.Nodup := by rw [c.hN j]; exact c.nd

def Ev (c : Ctx) (e : Expr) (f : List T → Option T) : Prop := ∃ t, (∀ j, PE (c.X j) e t) ∧ Sv c.W t f
def Tv (c : Ctx) (e : Expr) (f : List T → Option Bool) : Prop := ∃ t, (∀ j, PT (c.X j) e t) ∧ Stv c.W t f
def Av (c : Ctx) (es : List Expr) (f : List T → Option (List T)) : Prop := ∃ t, (∀ j, PA (c.X j) es t) ∧ Sav c.W t f

/-! ### pure expressions -/
def fVar (i : Nat) : List T → Option T := fun ρ => match ρ[i]? with
  | some .un => none
  | r => r
def fC (d : D) : List T → Option T := fun _ => some (.f d)
def f1 (g : T → Option T) (a : List T → Option T) : List T → Option T := fun ρ => (a ρ).bind g
def f2 (g : T → T → Option T) (a b : List T → Option T) : List T → Option T := fun ρ => (a ρ).bind fun x => (b ρ).bind fun y => g x y
def fN (g : List T → Option T) (a : List T → Option (List T)) : List T → Option T := fun ρ => (a ρ).bind g

section
variable {c : Ctx} {a e' : Expr} {fa fb fc : List T → Option T} {pos : Pos}
theorem sv_var {W : Wd} {i : Nat} : Sv W (tVar i) (fVar i) := by
  intro b F ρ σ X H τ Q S e k
  unfold fVar at e
  cases q : ρ[i]? with
  | none => rw [q] at e; cases e
  | some t =>
    have ht : t ≠ .un := by
      rintro rfl
      rw [q] at e
      cases e
    have e2 : t = τ := by
      rw [q] at e
      cases t with
      | un => exact absurd rfl ht
      | _ => exact Option.some.inj e
    subst e2
    obtain ⟨s, fp, e1, r⟩ := S.slot q
    cases s with
    | none => exact absurd r.1 ht
    | some v => exact ⟨v, e1, k.here S ⟨fp, r⟩⟩
theorem ev_var {i : Nat} {x : Str} (hi : c.N[i]? = some x) (hv : ∀ j, Vis (c.X j).env.scope x) (hd : (x == ("__debug__" : Str)) = false := by decide) (hcd : (x == ("__classdict__" : Str)) = false := by decide) : Ev c (.Name x pos) (fVar i) :=
  ⟨_, fun j => pe_var (i := i) (by rw [c.hN j]; exact hi) (hv j) hd hcd, sv_var⟩
theorem sv_C {W : Wd} {d : D} {v : V} (h : ∀ F, Rep W F d v) : Sv W (tC v) (fC d) := by
  intro b F ρ σ X H τ Q S e k
  cases e
  exact k.d S (h F)
theorem ev_int {i : Int} {m : Nat} : Ev c (.Constant (.int i) m pos) (fC (.int i)) := ⟨_, fun _ => pe_int, sv_C fun _ => rfl⟩
theorem ev_str {x : Str} {m : Nat} : Ev c (.Constant (.str x) m pos) (fC (.str x)) := ⟨_, fun _ => pe_str, sv_C fun _ => rfl⟩
theorem ev_bl {x : Bool} {m : Nat} : Ev c (.Constant (.bool x) m pos) (fC (.bl x)) := ⟨_, fun _ => pe_bl, sv_C fun _ => rfl⟩
theorem ev_non {m : Nat} : Ev c (.Constant .none m pos) (fC .non) := ⟨_, fun _ => pe_non, sv_C fun _ => rfl⟩
/-- a constant of the module's top -/
theorem ev_glob {x : Str} {d : D} {v : V} {u : Value} (hg : ∀ j, Gl (c.X j) x) (hm : ∀ j, (c.X j).mg x = some u) (r : L2.RelV v u) (h : ∀ F, Rep c.W F d v) (hd : (x == ("__debug__" : Str)) = false := by decide) : Ev c (.Name x pos) (fC d) :=
  ⟨_, fun j => pe_glob (hg j) (hm j) r hd, sv_C h⟩

theorem sv_2 {W : Wd} {ta tb : TE} {r : R2} {g : T → T → Option T} (ha : Sv W ta fa) (hb : Sv W tb fb) (hr : S2 W r g) : Sv W (tOp r ta tb) (f2 g fa fb) := by
  intro b F ρ σ X H τ Q S e k
  unfold f2 at e
  obtain ⟨t1, e1, e⟩ := Option.bind_eq_some_iff.mp e
  obtain ⟨t2, e2, e⟩ := Option.bind_eq_some_iff.mp e
  refine ha b F ρ σ X H t1 _ S e1 fun x F1 H1 S1 i1 s1 r1 => ?_
  refine hb b F1 ρ σ X H1 t2 _ S1 e2 fun y F2 H2 S2 i2 s2 r2 => ?_
  exact hr b F2 ρ σ X H2 t1 t2 τ x y Q S2 (r1.ext i2 s2) r2 e (k.mono (i1.trans i2) (s1.trans s2))
theorem sv_1 {W : Wd} {ta : TE} {r : V → Hp → VK → Prop} {g : T → Option T} (ha : Sv W ta fa) (hr : S1 W r g) : Sv W (tUn r ta) (f1 g fa) := by
  intro b F ρ σ X H τ Q S e k
  unfold f1 at e
  obtain ⟨t1, e1, e⟩ := Option.bind_eq_some_iff.mp e
  refine ha b F ρ σ X H t1 _ S e1 fun x F1 H1 S1 i1 s1 r1 => ?_
  exact hr b F1 ρ σ X H1 t1 τ x Q S1 r1 e (k.mono i1 s1)
theorem ev_op {op : Operator} {r : R2} {g : T → T → Option T} (ho : ∀ j, OpR (c.X j) (binaryOp op) r) (hr : S2 c.W r g) (ha : Ev c a fa) (hb : Ev c e' fb) : Ev c (.BinOp a op e' pos) (f2 g fa fb) := by
  obtain ⟨ta, pa, sa⟩ := ha
  obtain ⟨tb, pb, sb⟩ := hb
  exact ⟨_, fun j => pe_op (ho j) (pa j) (pb j), sv_2 sa sb hr⟩
theorem ev_cmp {op : CmpOp} {r : R2} {g : T → T → Option T} (ho : ∀ j, OpR (c.X j) (compareOp op) r) (hr : S2 c.W r g) (ha : Ev c a fa) (hb : Ev c e' fb) (hm : behindInMarks op e' = false) : Ev c (.Compare a [op] [e'] pos) (f2 g fa fb) := by
  obtain ⟨ta, pa, sa⟩ := ha
  obtain ⟨tb, pb, sb⟩ := hb
  exact ⟨_, fun j => pe_cmpR (ho j) (pa j) (pb j) hm, sv_2 sa sb hr⟩
/-- a value that is True or False, as a test -/
def fT (fa : List T → Option T) : List T → Option Bool := fun ρ => (fa ρ).bind T.b?
theorem stv_test {W : Wd} {t : TE} (h : Sv W t fa) : Stv W (tTest t) (fT fa) := by
  intro b F ρ σ X H cc Q S e k
  unfold fT at e
  obtain ⟨t1, e1, e⟩ := Option.bind_eq_some_iff.mp e
  refine h b F ρ σ X H t1 _ S e1 fun x F1 H1 S1 i1 s1 r1 => ?_
  exact ⟨cc, r1.bl e, k F1 H1 S1 i1 s1⟩
theorem tv_cmp {op : CmpOp} {r : R2} {g : T → T → Option T} (ho : ∀ j, OpR (c.X j) (compareOp op) r) (hr : S2 c.W r g) (ha : Ev c a fa) (hb : Ev c e' fb) (hm : behindInMarks op e' = false) : Tv c (.Compare a [op] [e'] pos) (fT (f2 g fa fb)) := by
  obtain ⟨ta, pa, sa⟩ := ha
  obtain ⟨tb, pb, sb⟩ := hb
  exact ⟨_, fun j => pt_cmpR (ho j) (pa j) (pb j) hm, stv_test (sv_2 sa sb hr)⟩
theorem tv_val (ha : Ev c a fa) (he : ∀ j whole, isTrue a (c.X j).env whole = (do let v ← whole; standAt a.pos; holding [v] (truthy v))) : Tv c a (fT fa) := by
  obtain ⟨ta, pa, sa⟩ := ha
  exact ⟨_, fun j => pt_val (pa j) (he j), stv_test sa⟩
theorem ev_un {op : UnaryOp} {r : V → Hp → VK → Prop} {g : T → Option T} (ho : ∀ j, UnR (c.X j) (unaryOp op) r) (hr : S1 c.W r g) (ha : Ev c a fa) : Ev c (.UnaryOp op a pos) (f1 g fa) := by
  obtain ⟨ta, pa, sa⟩ := ha
  exact ⟨_, fun j => pe_un (ho j) (pa j), sv_1 sa hr⟩
end

/-! ### and, or, not, if-else -/
section
variable {c : Ctx} {a b e' : Expr} {fa fb : List T → Option T} {ga gb gc : List T → Option Bool} {pos : Pos} {rest : List Expr}
def tAndF (ga gb : List T → Option Bool) : List T → Option Bool := fun ρ => (ga ρ).bind fun x => if x = true then gb ρ else some false
def tOrF (ga gb : List T → Option Bool) : List T → Option Bool := fun ρ => (ga ρ).bind fun x => if x = true then some true else gb ρ
def tNotF (ga : List T → Option Bool) : List T → Option Bool := fun ρ => (ga ρ).map (!·)
def Wv (c : Ctx) (e : Expr) (f : List T → Option Bool) : Prop := ∃ t, (∀ j, PW (c.X j) e t) ∧ Stv c.W t f
theorem Wv.tv (h : Wv c a ga) : Tv c a ga := by
  obtain ⟨t, p, s⟩ := h
  exact ⟨t, fun j => (p j).pt, s⟩
theorem wv_and1 (ha : Tv c a ga) : Wv c (.BoolOp .And [a] pos) ga := by
  obtain ⟨t, p, s⟩ := ha
  exact ⟨t, fun j => pw_and1 (p j), s⟩
theorem wv_or1 (ha : Tv c a ga) : Wv c (.BoolOp .Or [a] pos) ga := by
  obtain ⟨t, p, s⟩ := ha
  exact ⟨t, fun j => pw_or1 (p j), s⟩
theorem wv_and (ha : Tv c a ga) (hb : Wv c (.BoolOp .And (b :: rest) pos) gb) : Wv c (.BoolOp .And (a :: b :: rest) pos) (tAndF ga gb) := by
  obtain ⟨t, p, s⟩ := ha
  obtain ⟨u, q, s'⟩ := hb
  refine ⟨_, fun j => pw_and (p j) (q j), ?_⟩
  intro b F ρ σ X H cc Q S e k
  unfold tAndF at e
  obtain ⟨x, e1, e⟩ := Option.bind_eq_some_iff.mp e
  refine s b F ρ σ X H x _ S e1 fun F1 H1 S1 i1 s1 => ?_
  cases x with
  | true => exact iteT (s' b F1 ρ σ X H1 cc Q S1 e fun F2 H2 S2 i2 s2 => k F2 H2 S2 (i1.trans i2) (s1.trans s2))
  | false =>
    cases e
    exact iteF (k F1 H1 S1 i1 s1)
theorem wv_or (ha : Tv c a ga) (hb : Wv c (.BoolOp .Or (b :: rest) pos) gb) : Wv c (.BoolOp .Or (a :: b :: rest) pos) (tOrF ga gb) := by
  obtain ⟨t, p, s⟩ := ha
  obtain ⟨u, q, s'⟩ := hb
  refine ⟨_, fun j => pw_or (p j) (q j), ?_⟩
  intro b F ρ σ X H cc Q S e k
  unfold tOrF at e
  obtain ⟨x, e1, e⟩ := Option.bind_eq_some_iff.mp e
  refine s b F ρ σ X H x _ S e1 fun F1 H1 S1 i1 s1 => ?_
  cases x with
  | false => exact iteF (s' b F1 ρ σ X H1 cc Q S1 e fun F2 H2 S2 i2 s2 => k F2 H2 S2 (i1.trans i2) (s1.trans s2))
  | true =>
    cases e
    exact iteT (k F1 H1 S1 i1 s1)
theorem tv_not (ha : Tv c a ga) : Tv c (.UnaryOp .Not a pos) (tNotF ga) := by
  obtain ⟨t, p, s⟩ := ha
  refine ⟨_, fun j => pt_not (p j), ?_⟩
  intro b F ρ σ X H cc Q S e k
  unfold tNotF at e
  obtain ⟨x, e1, e⟩ := Option.map_eq_some_iff.mp e
  subst e
  exact s b F ρ σ X H x _ S e1 fun F1 H1 S1 i1 s1 => k F1 H1 S1 i1 s1
/-- as values -/
def fAnd (fa fb : List T → Option T) : List T → Option T := fun ρ => (fT fa ρ).bind fun x => if x = true then fb ρ else some (.f (.bl false))
def fOr (fa fb : List T → Option T) : List T → Option T := fun ρ => (fT fa ρ).bind fun x => if x = true then some (.f (.bl true)) else fb ρ
def fNot (fa : List T → Option T) : List T → Option T := fun ρ => (fT fa ρ).map fun x => .f (.bl (!x))
theorem ev_one {op : BoolOp} (ha : Ev c a fa) : Ev c (.BoolOp op [a] pos) fa := by
  obtain ⟨t, p, s⟩ := ha
  exact ⟨t, fun j => pe_one (p j), s⟩
theorem ev_and (ha : Ev c a fa) (hb : Ev c (.BoolOp .And (b :: rest) pos) fb) : Ev c (.BoolOp .And (a :: b :: rest) pos) (fAnd fa fb) := by
  obtain ⟨t, p, s⟩ := ha
  obtain ⟨u, q, s'⟩ := hb
  refine ⟨_, fun j => pe_and (p j) (q j), ?_⟩
  intro b F ρ σ X H τ Q S e k
  unfold fAnd fT at e
  obtain ⟨x, e1, e⟩ := Option.bind_eq_some_iff.mp e
  obtain ⟨t1, e0, e1⟩ := Option.bind_eq_some_iff.mp e1
  refine s b F ρ σ X H t1 _ S e0 fun v F1 H1 S1 i1 s1 r1 => ⟨x, r1.bl e1, ?_⟩
  cases x with
  | true => exact iteT (s' b F1 ρ σ X H1 τ Q S1 e (k.mono i1 s1))
  | false =>
    cases e
    exact iteF ((k.mono i1 s1).d S1 rfl)
theorem ev_or (ha : Ev c a fa) (hb : Ev c (.BoolOp .Or (b :: rest) pos) fb) : Ev c (.BoolOp .Or (a :: b :: rest) pos) (fOr fa fb) := by
  obtain ⟨t, p, s⟩ := ha
  obtain ⟨u, q, s'⟩ := hb
  refine ⟨_, fun j => pe_or (p j) (q j), ?_⟩
  intro b F ρ σ X H τ Q S e k
  unfold fOr fT at e
  obtain ⟨x, e1, e⟩ := Option.bind_eq_some_iff.mp e
  obtain ⟨t1, e0, e1⟩ := Option.bind_eq_some_iff.mp e1
  refine s b F ρ σ X H t1 _ S e0 fun v F1 H1 S1 i1 s1 r1 => ⟨x, r1.bl e1, ?_⟩
  cases x with
  | false => exact iteF (s' b F1 ρ σ X H1 τ Q S1 e (k.mono i1 s1))
  | true =>
    cases e
    exact iteT ((k.mono i1 s1).d S1 rfl)
theorem ev_not (ha : Ev c a fa) : Ev c (.UnaryOp .Not a pos) (fNot fa) := by
  obtain ⟨t, p, s⟩ := ha
  refine ⟨_, fun j => pe_not (p j), ?_⟩
  intro b F ρ σ X H τ Q S e k
  unfold fNot fT at e
  obtain ⟨x, e1, e⟩ := Option.map_eq_some_iff.mp e
  obtain ⟨t1, e0, e1⟩ := Option.bind_eq_some_iff.mp e1
  subst e
  exact s b F ρ σ X H t1 _ S e0 fun v F1 H1 S1 i1 s1 r1 => ⟨x, r1.bl e1, (k.mono i1 s1).d S1 rfl⟩
def fIf (g : List T → Option Bool) (fa fb : List T → Option T) : List T → Option T := fun ρ => (g ρ).bind fun x => if x = true then fa ρ else fb ρ
theorem ev_if {t : Expr} (ht : Tv c t ga) (ha : Ev c a fa) (hb : Ev c b fb) : Ev c (.IfExp t a b pos) (fIf ga fa fb) := by
  obtain ⟨t0, p0, s0⟩ := ht
  obtain ⟨t, p, s⟩ := ha
  obtain ⟨u, q, s'⟩ := hb
  refine ⟨_, fun j => pe_ifExp (p0 j) (p j) (q j), ?_⟩
  intro b F ρ σ X H τ Q S e k
  unfold fIf at e
  obtain ⟨x, e1, e⟩ := Option.bind_eq_some_iff.mp e
  refine s0 b F ρ σ X H x _ S e1 fun F1 H1 S1 i1 s1 => ?_
  cases x with
  | true => exact iteT (s b F1 ρ σ X H1 τ Q S1 e (k.mono i1 s1))
  | false => exact iteF (s' b F1 ρ σ X H1 τ Q S1 e (k.mono i1 s1))
end

/-! ### arguments, tuples, lists -/
section
variable {c : Ctx} {a : Expr} {es : List Expr} {fa : List T → Option T} {fs : List T → Option (List T)} {pos : Pos}
def aNil : List T → Option (List T) := fun _ => some []
def aCons (fa : List T → Option T) (fs : List T → Option (List T)) : List T → Option (List T) := fun ρ => (fa ρ).bind fun x => (fs ρ).map fun xs => x :: xs
theorem av_nil : Av c [] aNil := by
  refine ⟨_, fun _ => pa_nil, ?_⟩
  intro b F ρ σ X H τs Q S e k
  cases e
  exact k [] F H S (Inc.refl F) (Same.refl H) RelVs.nil
theorem av_cons (ha : Ev c a fa) (hr : Av c es fs) (hs : ∀ j, starEach (a :: es) (c.X j).env = (false, eval a (c.X j).env) :: starEach es (c.X j).env := by intro _; rfl) : Av c (a :: es) (aCons fa fs) := by
  obtain ⟨t, p, s⟩ := ha
  obtain ⟨u, q, s'⟩ := hr
  refine ⟨_, fun j => pa_cons (p j) (q j) (hs j), ?_⟩
  intro b F ρ σ X H τs Q S e k
  unfold aCons at e
  obtain ⟨x, e1, e⟩ := Option.bind_eq_some_iff.mp e
  obtain ⟨xs, e2, e⟩ := Option.map_eq_some_iff.mp e
  subst e
  refine s b F ρ σ X H x _ S e1 fun v F1 H1 S1 i1 s1 r1 => ?_
  exact s' b F1 ρ σ X H1 xs _ S1 e2 fun vs F2 H2 S2 i2 s2 r2 => k (v :: vs) F2 H2 S2 (i1.trans i2) (s1.trans s2) (.cons (r1.ext i2 s2) r2)
/-- deep data alone -/
def deep : List T → Option (List D)
  | [] => some []
  | t :: ts => (T.d? t).bind fun d => (deep ts).map fun ds => d :: ds
theorem RelVs.deep {W : Wd} {F H : Hp} : ∀ {ts : List T} {ds : List D} {vs : List V}, RelVs W F H ts vs → deep ts = some ds → Reps W F ds vs
  | [], _, _, r, e => by
    cases e
    exact r.inv0
  | t :: ts, _, _, r, e => by
    obtain ⟨v, vr, e1, a, b⟩ := r.inv
    obtain ⟨d, e2, e⟩ := Option.bind_eq_some_iff.mp (show (T.d? t).bind _ = _ from e)
    obtain ⟨ds, e3, e⟩ := Option.map_eq_some_iff.mp e
    subst e
    refine ⟨v, vr, e1, ?_, RelVs.deep b e3⟩
    cases t with
    | f d' =>
      cases e2
      exact a.rep
    | _ => cases e2
def gTup (ts : List T) : Option T := (deep ts).bind fun ds => if ds.length ≤ sizeLine then some (.f (.tup ds)) else none
def gLst (ts : List T) : Option T := (deep ts).bind fun ds => if ds.length ≤ sizeLine then some (.f (.lst ds)) else none
theorem ev_tup {m : Nat} (h : Av c es fs) : Ev c (.Tuple es m pos) (fN gTup fs) := by
  obtain ⟨t, p, s⟩ := h
  refine ⟨_, fun j => pe_tup (p j), ?_⟩
  intro b F ρ σ X H τ Q S e k
  unfold fN gTup at e
  obtain ⟨xs, e1, e⟩ := Option.bind_eq_some_iff.mp e
  obtain ⟨ds, e2, e⟩ := Option.bind_eq_some_iff.mp e
  split at e
  · rename_i hl
    cases e
    refine s b F ρ σ X H xs _ S e1 fun vs F1 H1 S1 i1 s1 r1 => ?_
    have r2 := r1.deep e2
    exact ⟨by rw [← r2.len]; exact hl, (k.mono i1 s1).tup S1 r2⟩
  · cases e
theorem ev_lst (h : Av c es fs) : Ev c (.List es pos) (fN gLst fs) := by
  obtain ⟨t, p, s⟩ := h
  refine ⟨_, fun j => pe_lst (p j), ?_⟩
  intro b F ρ σ X H τ Q S e k
  unfold fN gLst at e
  obtain ⟨xs, e1, e⟩ := Option.bind_eq_some_iff.mp e
  obtain ⟨ds, e2, e⟩ := Option.bind_eq_some_iff.mp e
  split at e
  · rename_i hl
    cases e
    refine s b F ρ σ X H xs _ S e1 fun vs F1 H1 S1 i1 s1 r1 => ?_
    have r2 := r1.deep e2
    exact ⟨by rw [← r2.len]; exact hl, (k.mono i1 s1).lst S1 r2⟩
  · cases e
/-- a builtin's call -/
theorem sv_cb {W : Wd} {r : List V → Hp → VK → Prop} {t : TA} {g : List T → Option T} (hr : Sn W r g) (h : Sav W t fs) : Sv W (tCB r t) (fN g fs) := by
  intro b F ρ σ X H τ Q S e k
  unfold fN at e
  obtain ⟨xs, e1, e⟩ := Option.bind_eq_some_iff.mp e
  exact h b F ρ σ X H xs _ S e1 fun vs F1 H1 S1 i1 s1 r1 => hr b F1 ρ σ X H1 xs τ vs Q S1 r1 e (k.mono i1 s1)
theorem ev_callB {id : String} {r : List V → Hp → VK → Prop} {g : List T → Option T} {x : Str} {p : Pos} (hc : ∀ j, CallR (c.X j) (.builtin id) r) (hr : Sn c.W r g) (hg : ∀ j, Gl (c.X j) x) (hm : ∀ j, (c.X j).mg x = none) (hv : bootBuiltins x = some (.builtin id))
    (ha : Av c (a :: es) fs) (hn : x ≠ "__name__" := by decide) (hdb : (x == ("__debug__" : Str)) = false := by decide)
    (he : ∀ j, starEach (a :: es) (c.X j).env = (false, eval a (c.X j).env) :: starEach es (c.X j).env := by intro _; rfl) (hpl : ∀ j, (backTo pos (starEach es (c.X j).env)).any (·.1) = false := by intro _; rfl) : Ev c (.Call (.Name x p) (a :: es) [] pos) (fN g fs) := by
  obtain ⟨t, q, s⟩ := ha
  exact ⟨_, fun j => pe_callB (hc j) (hg j) (hm j) hv (q j) hn hdb (he j) (hpl j), sv_cb hr s⟩
theorem ev_callTy {id : String} {r : List V → Hp → VK → Prop} {g : List T → Option T} {x : Str} {p : Pos} (hc : ∀ j, CallR (c.X j) (.type id) r) (hr : Sn c.W r g) (hg : ∀ j, Gl (c.X j) x) (hm : ∀ j, (c.X j).mg x = none) (hv : bootBuiltins x = some (.type id))
    (ha : Av c (a :: es) fs) (hn : x ≠ "__name__" := by decide) (hdb : (x == ("__debug__" : Str)) = false := by decide)
    (he : ∀ j, starEach (a :: es) (c.X j).env = (false, eval a (c.X j).env) :: starEach es (c.X j).env := by intro _; rfl) (hpl : ∀ j, (backTo pos (starEach es (c.X j).env)).any (·.1) = false := by intro _; rfl) : Ev c (.Call (.Name x p) (a :: es) [] pos) (fN g fs) := by
  obtain ⟨t, q, s⟩ := ha
  exact ⟨_, fun j => pe_callTy (hc j) (hg j) (hm j) hv (q j) hn hdb (he j) (hpl j), sv_cb hr s⟩
end
end Z

namespace Z
open PySem PySem.Spec PyProof.Rows L2
section
variable {W : Wd} {X : Cx}

/-! ### ints -/
def gI (C : Int → Int → Bool) (g : Int → Int → D) : T → T → Option T := fun a b => a.i?.bind fun i => b.i?.bind fun j => if C i j = true then some (.f (g i j)) else none
theorem s2_i {r : R2} {C : Int → Int → Bool} {g : Int → Int → D} {u : Int → Int → V} (hu : ∀ F i j, Rep W F (g i j) (u i j)) (hr : ∀ i j H Q, C i j = true → Q (u i j) H → r (.int i) (.int j) H Q) : S2 W r (gI C g) := by
  intro b F ρ σ X H t1 t2 τ x y Q S r1 r2 e k
  unfold gI at e
  obtain ⟨i, e1, e⟩ := Option.bind_eq_some_iff.mp e
  obtain ⟨j, e2, e⟩ := Option.bind_eq_some_iff.mp e
  split at e
  · rename_i hC
    cases e
    rw [r1.int e1, r2.int e2]
    exact hr i j H Q hC (k.d S (hu _ _ _))
  · cases e
def always : Int → Int → Bool := fun _ _ => true
abbrev gIa (g : Int → Int → D) := gI always g
theorem s2_i0 {g : Int → Int → D} {u : Int → Int → V} (hu : ∀ F i j, Rep W F (g i j) (u i j)) : S2 W (rI0 u) (gIa g) := s2_i hu fun i j H Q _ q => ⟨i, j, rfl, rfl, q⟩
theorem s2_iC {P : Int → Int → Prop} {C : Int → Int → Bool} {g : Int → Int → D} {u : Int → Int → V} (hu : ∀ F i j, Rep W F (g i j) (u i j)) (hC : ∀ i j, C i j = true → P i j) : S2 W (rI P u) (gI C g) := s2_i hu fun i j H Q h q => ⟨i, j, rfl, rfl, hC i j h, q⟩
theorem rep_int {W : Wd} {F : Hp} {i : Int} : Rep W F (.int i) (.int i) := rfl
theorem rep_bl {W : Wd} {F : Hp} {i : Bool} : Rep W F (.bl i) (.bl i) := rfl
theorem rep_str {W : Wd} {F : Hp} {i : Str} : Rep W F (.str i) (.str i) := rfl
theorem rep_non {W : Wd} {F : Hp} : Rep W F .non .non := rfl

def gSub := gIa fun i j => .int (i - j)
theorem s2_sub : S2 W (rI0 fun i j => .int (i - j)) gSub := s2_i0 fun _ _ _ => rfl
def mulC (i j : Int) : Bool := decide (i.natAbs.log2 + j.natAbs.log2 < 130000000)
def gMul := gI mulC fun i j => .int (i * j)
def CMulX (i j : Int) : Prop := i.natAbs.log2 + j.natAbs.log2 < 130000000
theorem CMulX.ok {i j : Int} (h : CMulX i j) : IntMulOk i j := by
  have b : ∀ x : Int, Builtin.Int.intBits x ≤ x.natAbs.log2 + 1 := fun x => by
    unfold Builtin.Int.intBits
    split <;> omega
  have h1 := b i
  have h2 := b j
  have h3 : i.natAbs.log2 + j.natAbs.log2 < 130000000 := h
  have e : bitsLine = 134217728 := by decide
  unfold IntMulOk
  intro z
  rw [Bool.and_eq_true] at z
  have z2 := z.2
  unfold Builtin.Int.intTooBig at z2
  have z3 := of_decide_eq_true z2
  rw [e] at z3
  omega
theorem op_mulX : OpR X (binaryOp .Mult) (rI CMulX fun i j => .int (i * j)) := opI fun _ _ _ _ _ _ _ hc q => PyProof.Rows.mul_int q hc.ok
theorem s2_mul : S2 W (rI CMulX fun i j => .int (i * j)) gMul := s2_iC (fun _ _ _ => rfl) fun i j h => (show i.natAbs.log2 + j.natAbs.log2 < 130000000 from of_decide_eq_true h)
def divC (_ j : Int) : Bool := decide (0 < j) && decide (j.natAbs.log2 < 9000)
def gDiv := gI divC fun i j => .int (i / j)
theorem s2_div : S2 W (rI CDivW fun i j => .int (i / j)) gDiv := s2_iC (fun _ _ _ => rfl) fun _ _ h => by
  unfold divC at h
  rw [Bool.and_eq_true] at h
  exact ⟨of_decide_eq_true h.1, of_decide_eq_true h.2⟩
def modC (_ j : Int) : Bool := decide (0 < j)
def gMod := gI modC fun i j => .int (i % j)
theorem s2_mod : S2 W (rI (fun _ j => 0 < j) fun i j => .int (i % j)) gMod := s2_iC (fun _ _ _ => rfl) fun _ _ h => of_decide_eq_true h
def powC (i j : Int) : Bool := decide (0 ≤ j) && decide (j ≤ 1000000) && decide (i.natAbs < 2 ^ 64)
theorem powC_ok {i j : Int} (h : powC i j = true) : CPow i j := by
  unfold powC at h
  rw [Bool.and_eq_true, Bool.and_eq_true] at h
  exact ⟨of_decide_eq_true h.1.1, of_decide_eq_true h.1.2, of_decide_eq_true h.2⟩
def gPow := gI powC fun i j => .int (i ^ j.toNat)
theorem s2_pow : S2 W (rI CPow fun i j => .int (i ^ j.toNat)) gPow := s2_iC (fun _ _ _ => rfl) fun _ _ h => powC_ok h
def gShl := gI powC fun i j => .int (i * 2 ^ j.toNat)
theorem s2_shl : S2 W (rI CPow fun i j => .int (i * 2 ^ j.toNat)) gShl := s2_iC (fun _ _ _ => rfl) fun _ _ h => powC_ok h
def shrC (_ j : Int) : Bool := decide (0 ≤ j)
def gShr := gI shrC fun i j => .int (i / 2 ^ j.toNat)
theorem s2_shr : S2 W (rI (fun _ j => 0 ≤ j) fun i j => .int (i / 2 ^ j.toNat)) gShr := s2_iC (fun _ _ _ => rfl) fun _ _ h => of_decide_eq_true h
def gBAnd := gIa fun i j => .int (Builtin.bitAnd i j)
theorem s2_band : S2 W (rI0 fun i j => .int (Builtin.bitAnd i j)) gBAnd := s2_i0 fun _ _ _ => rfl
def gBOr := gIa fun i j => .int (Builtin.bitOr i j)
theorem s2_bor : S2 W (rI0 fun i j => .int (Builtin.bitOr i j)) gBOr := s2_i0 fun _ _ _ => rfl
def gBXor := gIa fun i j => .int (Builtin.bitXor i j)
theorem s2_bxor : S2 W (rI0 fun i j => .int (Builtin.bitXor i j)) gBXor := s2_i0 fun _ _ _ => rfl
def gLt := gIa fun i j => .bl (decide (i < j))
theorem s2_lt : S2 W (rI0 fun i j => .bl (decide (i < j))) gLt := s2_i0 fun _ _ _ => rfl
def gLe := gIa fun i j => .bl (decide (i ≤ j))
theorem s2_le : S2 W (rI0 fun i j => .bl (decide (i ≤ j))) gLe := s2_i0 fun _ _ _ => rfl
def gGt := gIa fun i j => .bl (decide (j < i))
theorem s2_gt : S2 W (rI0 fun i j => .bl (decide (j < i))) gGt := s2_i0 fun _ _ _ => rfl
def gGe := gIa fun i j => .bl (decide (j ≤ i))
theorem s2_ge : S2 W (rI0 fun i j => .bl (decide (j ≤ i))) gGe := s2_i0 fun _ _ _ => rfl
def gNeg : T → Option T := fun t => t.i?.map fun i => .f (.int (-i))
theorem s1_neg : S1 W (rU fun i => .int (-i)) gNeg := by
  intro b F ρ σ X H t1 τ x Q S r1 e k
  unfold gNeg at e
  obtain ⟨i, e1, e⟩ := Option.map_eq_some_iff.mp e
  subst e
  exact ⟨i, r1.int e1, k.d S rfl⟩

/-! ### + -/
def gCatS : T → T → Option T := fun a b => a.s?.bind fun x => b.s?.bind fun y => if x.length + y.length ≤ sizeLine then some (.f (.str (x ++ y))) else none
def gCatL : T → T → Option T := fun a b => a.ls?.bind fun x => b.ls?.bind fun y => if x.length + y.length ≤ sizeLine then some (.f (.lst (x ++ y))) else none
def gCatT : T → T → Option T := fun a b => a.ts?.bind fun x => b.ts?.bind fun y => if x ≠ [] ∧ x.length + y.length ≤ sizeLine then some (.f (.tup (x ++ y))) else none
def rCatS : R2 := fun x y H Q => ∃ i j, x = .str i ∧ y = .str j ∧ i.length + j.length ≤ sizeLine ∧ Q (.str (i ++ j)) H
def rCatL (K : PySem.W.Frag) : R2 := fun x y H Q => ∃ l b xs zs, x = .ref l ∧ y = .ref b ∧ SqL K H l xs ∧ SqL K H b zs ∧ xs.length + zs.length ≤ sizeLine ∧ ∀ p, H p = none → Q (.ref p) (upd H p (.lst (xs ++ zs)))
theorem op_catL : OpR X (binaryOp .Add) (rCatL X.K) := by
  intro pins s σ H x y v u Q I rx ry h
  obtain ⟨l, b, xs, zs, rfl, rfl, hH, hB, hz, q⟩ := h
  cases rx
  cases ry
  obtain ⟨its, r, pl, hl⟩ := I.list hH
  obtain ⟨its2, r2, pl2, hl2⟩ := I.list hB
  obtain ⟨⟨cls, dd, data, sl⟩, ho, hc, n, hd⟩ := id pl.isList
  obtain ⟨⟨cls2, dd2, data2, sl2⟩, ho2, hc2, n2, hd2⟩ := id pl2.isList
  simp only at hc hd hc2 hd2
  subst hc hd hc2 hd2
  have e1 := r.length
  have e2 := r2.length
  have ea : its.toArray ++ its2.toArray = (its ++ its2).toArray := by simp
  refine concat_meets ⟨_, ho, rfl⟩ ⟨_, ho2, rfl⟩ noFill_list_add seq_list_add PySem.F.slot_list_add PySem.F.entry_list_add (PySem.F.args_list_add_2 _ _) (PyProof.Rows.list_addW l b its.toArray its2.toArray n n2 dd dd2 sl sl2 (by rw [List.size_toArray, List.size_toArray, ← e1, ← e2]; exact hz)) ⟨ho, ho2, ?_⟩
  rw [ea]
  exact ⟨.ref _, _, I.lnew (t' := s.toks) (r.append r2) (by rw [List.length_append]; omega), rfl, q _ I.fresh⟩
theorem s2_catS : S2 W rCatS gCatS := by
  intro b F ρ σ X H t1 t2 τ x y Q S r1 r2 e k
  unfold gCatS at e
  obtain ⟨i, e1, e⟩ := Option.bind_eq_some_iff.mp e
  obtain ⟨j, e2, e⟩ := Option.bind_eq_some_iff.mp e
  split at e
  · rename_i hz
    cases e
    exact ⟨i, j, r1.str e1, r2.str e2, hz, k.d S rfl⟩
  · cases e
theorem s2_catL : S2 W (rCatL W.K) gCatL := by
  intro b F ρ σ X H t1 t2 τ x y Q S r1 r2 e k
  unfold gCatL at e
  obtain ⟨i, e1, e⟩ := Option.bind_eq_some_iff.mp e
  obtain ⟨j, e2, e⟩ := Option.bind_eq_some_iff.mp e
  split at e
  · rename_i hz
    cases e
    obtain ⟨p, vs, ex, hs, q⟩ := r1.ls e1 S.le
    obtain ⟨p2, vs2, ex2, hs2, q2⟩ := r2.ls e2 S.le
    exact ⟨p, p2, vs, vs2, ex, ex2, hs, hs2, by rw [← q.len, ← q2.len]; exact hz, k.lst S (q.append q2)⟩
  · cases e
theorem s2_catT : S2 W (rCatT W.K) gCatT := by
  intro b F ρ σ X H t1 t2 τ x y Q S r1 r2 e k
  unfold gCatT at e
  obtain ⟨i, e1, e⟩ := Option.bind_eq_some_iff.mp e
  obtain ⟨j, e2, e⟩ := Option.bind_eq_some_iff.mp e
  split at e
  · rename_i hz
    cases e
    obtain ⟨p, vs, ex, hs, q⟩ := r1.ts e1 S.le
    obtain ⟨p2, vs2, ex2, hs2, q2⟩ := r2.ts e2 S.le
    refine ⟨p, p2, vs, vs2, ex, ex2, hs, hs2, fun z => ?_, by rw [← q.len, ← q2.len]; exact hz.2, fun z => ?_, fun z => k.tup S (q.append q2)⟩
    · have := q.len
      rw [z] at this
      exact hz.1 (List.length_eq_zero_iff.mp this)
    · have hj : j = [] := by
        have := q2.len
        rw [z] at this
        exact List.length_eq_zero_iff.mp this
      subst hj
      subst ex
      rw [List.append_nil] at k
      refine k.here S ?_
      cases t1 with
      | f d => cases d with
        | tup l => cases e1; exact r1
        | _ => cases e1
      | _ => cases e1
  · cases e
def gAddI := gIa fun i j => .int (i + j)
def gAdd : T → T → Option T := or2 gAddI (or2 gCatS (or2 gCatL gCatT))
def rAddU (K : PySem.W.Frag) : R2 := fun x y H Q => rI0 (fun i j => .int (i + j)) x y H Q ∨ rCatS x y H Q ∨ rCatL K x y H Q ∨ rCatT K x y H Q
theorem op_addU : OpR X (binaryOp .Add) (rAddU X.K) := OpR_or op_add (OpR_or op_add_str (OpR_or op_catL op_catT))
theorem s2_add : S2 W (rAddU W.K) gAdd := S2.or (s2_i0 fun _ _ _ => rfl) (S2.or s2_catS (S2.or s2_catL s2_catT))

/-! ### == -/
/-- scalars -/
def T.v? : T → Option V | .f .non => some .non | .f (.bl b) => some (.bl b) | .f (.int i) => some (.int i) | .f (.str x) => some (.str x) | _ => none
theorem RelV.v {F H : Hp} {t : T} {v x : V} (r : RelV W F H t v) (h : t.v? = some x) : v = x := by
  cases t with
  | f d => cases d with
    | non => cases h; exact r.rep
    | bl j => cases h; exact r.rep
    | int j => cases h; exact r.rep
    | str j => cases h; exact r.rep
    | _ => cases h
  | _ => cases h
def T.vd : T → Option D | .f d => some d | .l ds => some (.lst ds) | .dk ks ds => some (.dct ks ds) | _ => none
theorem RelV.vd {F H : Hp} {t : T} {v : V} {d : D} (r : RelV W F H t v) (h : t.vd = some d) (le : Le F H) : Rep W H d v := by
  cases t with
  | f d' => cases h; exact Rep.le le _ _ r.rep
  | l ds =>
    cases h
    obtain ⟨fp, p, vs, e, _, s, q⟩ := r
    exact ⟨p, vs, e, .inl (.inl s), Reps.le le _ _ q⟩
  | dk ks ds =>
    cases h
    obtain ⟨fp, p, kvs, e, _, s, k, q⟩ := r
    exact ⟨p, kvs, e, .inl s, k, Reps.le le _ _ q⟩
  | _ => cases h
mutual
def D.py : D → Option PyData
  | .non => some .none
  | .bl b => some (.bool b)
  | .int i => some (.int i)
  | .str x => some (.str x)
  | .tup l => (D.pys l).map .tuple
  | .lst l => (D.pys l).map .list
  | .dct _ _ => none
  | .obj _ _ _ => none
def D.pys : List D → Option (List PyData)
  | [] => some []
  | d :: ds => (D.py d).bind fun x => (D.pys ds).map fun xs => x :: xs
end
mutual
theorem Rep.dp {H : Hp} : ∀ (d : D) (v : V) (p : PyData), Rep W H d v → d.py = some p → Dp W.K H v p
  | .non, _, _, r, e => by
    unfold D.py at e
    cases e
    have r' : _ = V.non := r
    subst r'
    exact .non
  | .bl b, _, _, r, e => by
    unfold D.py at e
    cases e
    have r' : _ = V.bl b := r
    subst r'
    exact .bl b
  | .int b, _, _, r, e => by
    unfold D.py at e
    cases e
    have r' : _ = V.int b := r
    subst r'
    exact .int b
  | .str b, _, _, r, e => by
    unfold D.py at e
    cases e
    have r' : _ = V.str b := r
    subst r'
    exact .str b
  | .tup l, _, _, r, e => by
    unfold D.py at e
    obtain ⟨ps, e1, e⟩ := Option.map_eq_some_iff.mp e
    subst e
    obtain ⟨p, vs, e, s, q⟩ := r
    subst e
    exact .tup s (Reps.dp l vs ps q e1)
  | .lst l, _, _, r, e => by
    unfold D.py at e
    obtain ⟨ps, e1, e⟩ := Option.map_eq_some_iff.mp e
    subst e
    obtain ⟨p, vs, e, s, q⟩ := r
    subst e
    exact .lst s (Reps.dp l vs ps q e1)
  | .dct _ _, _, _, _, e => by
    unfold D.py at e
    cases e
  | .obj _ _ _, _, _, _, e => by
    unfold D.py at e
    cases e
theorem Reps.dp {H : Hp} : ∀ (ds : List D) (vs : List V) (ps : List PyData), Reps W H ds vs → D.pys ds = some ps → DpAll W.K H vs ps
  | [], _, _, r, e => by
    unfold D.pys at e
    cases e
    have r' : _ = [] := r
    subst r'
    exact .nil
  | d :: ds, _, _, r, e => by
    unfold D.pys at e
    obtain ⟨x, e1, e⟩ := Option.bind_eq_some_iff.mp e
    obtain ⟨xs, e2, e⟩ := Option.map_eq_some_iff.mp e
    subst e
    obtain ⟨v, vr, e, a, b⟩ := r
    subst e
    exact .cons (Rep.dp d v x a e1) (Reps.dp ds vr xs b e2)
end
def gEqS (neg : Bool) : T → T → Option T := fun a b => a.v?.bind fun x => b.v?.bind fun y => if scal x y = true then some (.f (.bl (xor neg (decide (x = y))))) else none
def gEqD (neg : Bool) : T → T → Option T := fun a b => a.vd.bind fun x => b.vd.bind fun y => x.py.bind fun p => y.py.bind fun q => if SeqAt.shaped p = true ∧ SeqAt.shaped q = true then some (.f (.bl (xor neg (PyData.eqv p q)))) else none
def gEq := or2 (gEqS false) (gEqD false)
def gNe := or2 (gEqS true) (gEqD true)
theorem s2_eqS : S2 W rEq (gEqS false) := by
  intro b F ρ σ X H t1 t2 τ x y Q S r1 r2 e k
  unfold gEqS at e
  obtain ⟨i, e1, e⟩ := Option.bind_eq_some_iff.mp e
  obtain ⟨j, e2, e⟩ := Option.bind_eq_some_iff.mp e
  rw [r1.v e1, r2.v e2]
  split at e
  · rename_i hz
    cases e
    rw [Bool.false_xor] at k
    exact ⟨hz, k.d S rfl⟩
  · cases e
theorem s2_neS : S2 W rNe (gEqS true) := by
  intro b F ρ σ X H t1 t2 τ x y Q S r1 r2 e k
  unfold gEqS at e
  obtain ⟨i, e1, e⟩ := Option.bind_eq_some_iff.mp e
  obtain ⟨j, e2, e⟩ := Option.bind_eq_some_iff.mp e
  rw [r1.v e1, r2.v e2]
  split at e
  · rename_i hz
    cases e
    rw [Bool.true_xor] at k
    exact ⟨hz, k.d S rfl⟩
  · cases e
theorem s2_eqD : S2 W (rEqD W.K) (gEqD false) := by
  intro b F ρ σ X H t1 t2 τ x y Q S r1 r2 e k
  unfold gEqD at e
  obtain ⟨i, e1, e⟩ := Option.bind_eq_some_iff.mp e
  obtain ⟨j, e2, e⟩ := Option.bind_eq_some_iff.mp e
  obtain ⟨p, e3, e⟩ := Option.bind_eq_some_iff.mp e
  obtain ⟨q, e4, e⟩ := Option.bind_eq_some_iff.mp e
  split at e
  · rename_i hz
    cases e
    rw [Bool.false_xor] at k
    exact ⟨p, q, Rep.dp i x p (r1.vd e1 S.le) e3, Rep.dp j y q (r2.vd e2 S.le) e4, hz.1, hz.2, k.d S rfl⟩
  · cases e
theorem s2_neD : S2 W (rNeD W.K) (gEqD true) := by
  intro b F ρ σ X H t1 t2 τ x y Q S r1 r2 e k
  unfold gEqD at e
  obtain ⟨i, e1, e⟩ := Option.bind_eq_some_iff.mp e
  obtain ⟨j, e2, e⟩ := Option.bind_eq_some_iff.mp e
  obtain ⟨p, e3, e⟩ := Option.bind_eq_some_iff.mp e
  obtain ⟨q, e4, e⟩ := Option.bind_eq_some_iff.mp e
  split at e
  · rename_i hz
    cases e
    rw [Bool.true_xor] at k
    exact ⟨p, q, Rep.dp i x p (r1.vd e1 S.le) e3, Rep.dp j y q (r2.vd e2 S.le) e4, hz.1, hz.2, k.d S rfl⟩
  · cases e
def rEqU (K : PySem.W.Frag) : R2 := fun x y H Q => rEq x y H Q ∨ rEqD K x y H Q
def rNeU (K : PySem.W.Frag) : R2 := fun x y H Q => rNe x y H Q ∨ rNeD K x y H Q
theorem op_eqU (hu : X.A.units + 64 < cLine) : OpR X (compareOp .Eq) (rEqU X.K) := OpR_or op_eq (op_eqD hu)
theorem op_neU (hu : X.A.units + 64 < cLine) : OpR X (compareOp .NotEq) (rNeU X.K) := OpR_or op_ne (op_neD hu)
theorem s2_eq : S2 W (rEqU W.K) gEq := S2.or s2_eqS s2_eqD
theorem s2_ne : S2 W (rNeU W.K) gNe := S2.or s2_neS s2_neD
def gIsN : T → Option T := fun t => match t with
  | .f d => some (.f (.bl (match d with | .non => true | _ => false)))
  | _ => some (.f (.bl false))
theorem RelV.non {F H : Hp} {t : T} {v : V} {c : Bool} (r : RelV W F H t v) (h : gIsN t = some (.f (.bl c))) (hu : t ≠ .un) : decide (v = .non) = c := by
  cases t with
  | un => exact absurd rfl hu
  | f d => cases d with
    | non => cases h; rw [show v = V.non from r.rep]; rfl
    | bl j => cases h; rw [show v = V.bl j from r.rep]; rfl
    | int j => cases h; rw [show v = V.int j from r.rep]; rfl
    | str j => cases h; rw [show v = V.str j from r.rep]; rfl
    | tup j => cases h; obtain ⟨p, vs, e, _⟩ := r.rep; rw [e]; rfl
    | lst j => cases h; obtain ⟨p, vs, e, _⟩ := r.rep; rw [e]; rfl
    | dct j => cases h; obtain ⟨p, vs, e, _⟩ := r.rep; rw [e]; rfl
    | obj j => cases h; obtain ⟨p, _, vs, e, _⟩ := r.rep; rw [e]; rfl
  | l ds => cases h; obtain ⟨fp, p, vs, e, _⟩ := r; rw [e]; rfl
  | dk ds => cases h; obtain ⟨fp, p, vs, e, _⟩ := r; rw [e]; rfl
  | di ks ds => cases h; obtain ⟨fp, p, vs, e, _⟩ := r; rw [e]; rfl
  | ll ds => cases h; obtain ⟨fp, p, vs, _, e, _⟩ := r; rw [e]; rfl
  | tu ds => cases h; obtain ⟨fp, p, vs, _, e, _⟩ := r; rw [e]; rfl
  | o ds => cases h; obtain ⟨fp, p, _, vs, _, e, _⟩ := r; rw [e]; rfl

/-! ### in -/
def flatD : D → Bool | .non => true | .bl _ => true | .int _ => true | .str _ => true | _ => false
def D.v : D → V | .bl b => .bl b | .int i => .int i | .str x => .str x | _ => .non
theorem Rep.flat {F : Hp} {d : D} {v : V} (r : Rep W F d v) (h : flatD d = true) : v = d.v ∧ flatV v = true := by
  cases d with
  | non => have r' : v = _ := r; subst r'; exact ⟨rfl, rfl⟩
  | bl b => have r' : v = _ := r; subst r'; exact ⟨rfl, rfl⟩
  | int b => have r' : v = _ := r; subst r'; exact ⟨rfl, rfl⟩
  | str b => have r' : v = _ := r; subst r'; exact ⟨rfl, rfl⟩
  | _ => cases h
theorem Reps.flat {F : Hp} : ∀ {ds : List D} {vs : List V}, Reps W F ds vs → ds.all flatD = true → vs = ds.map D.v ∧ vs.all flatV = true
  | [], _, r, _ => by
    have r' : _ = [] := r
    subst r'
    exact ⟨rfl, rfl⟩
  | d :: ds, _, r, h => by
    obtain ⟨v, vr, e, a, b⟩ := r
    rw [List.all_cons, Bool.and_eq_true] at h
    obtain ⟨h1, h2⟩ := a.flat h.1
    obtain ⟨h3, h4⟩ := Reps.flat b h.2
    subst e
    rw [List.all_cons, h2, h4, h3, List.map_cons, ← h1]
    exact ⟨rfl, rfl⟩
def gInQ (neg : Bool) : T → T → Option T := fun a b => a.v?.bind fun x => b.sq?.bind fun ds => if ds.all flatD = true then some (.f (.bl (xor neg (inV x (ds.map D.v))))) else none
def gInS (neg : Bool) : T → T → Option T := fun a b => a.s?.bind fun x => b.s?.bind fun y => some (.f (.bl (xor neg (!(Builtin.Str.occurrences y x 0 y.length 1).isEmpty))))
def gInD (neg : Bool) : T → T → Option T := fun a b => a.key?.bind fun k => b.dk?.bind fun ds => some (.f (.bl (xor neg (ds.1.any fun q => decide (q = k)))))
theorem v_flat {t : T} {x : V} (h : t.v? = some x) : flatV x = true := by
  cases t with
  | f d => cases d with
    | non => cases h; rfl
    | bl j => cases h; rfl
    | int j => cases h; rfl
    | str j => cases h; rfl
    | _ => cases h
  | _ => cases h
theorem s2_inQ (neg : Bool) : S2 W (rIn W.K neg) (gInQ neg) := by
  intro b F ρ σ X H t1 t2 τ x y Q S r1 r2 e k
  unfold gInQ at e
  obtain ⟨i, e1, e⟩ := Option.bind_eq_some_iff.mp e
  obtain ⟨ds, e2, e⟩ := Option.bind_eq_some_iff.mp e
  rw [r1.v e1]
  split at e
  · rename_i hz
    cases e
    obtain ⟨p, vs, ex, hs, q⟩ := r2.sq e2 S.le
    obtain ⟨h1, h2⟩ := q.flat hz
    subst h1
    refine ⟨p, _, ex, hs, v_flat e1, h2, ?_⟩
    cases neg with
    | true => rw [Bool.true_xor] at k; exact k.d S rfl
    | false => rw [Bool.false_xor] at k; exact k.d S rfl
  · cases e
def rInS (neg : Bool) : R2 := fun x y H Q => ∃ i j, x = .str i ∧ y = .str j ∧ Q (.bl (xor neg (!(Builtin.Str.occurrences j i 0 j.length 1).isEmpty))) H
theorem s2_inS (neg : Bool) : S2 W (rInS neg) (gInS neg) := by
  intro b F ρ σ X H t1 t2 τ x y Q S r1 r2 e k
  unfold gInS at e
  obtain ⟨i, e1, e⟩ := Option.bind_eq_some_iff.mp e
  obtain ⟨j, e2, e⟩ := Option.bind_eq_some_iff.mp e
  cases e
  exact ⟨i, j, r1.str e1, r2.str e2, k.d S rfl⟩
def rInD (neg : Bool) : R2 := fun y x H Q => ∃ a o, x = .ref a ∧ DGet H a y o ∧ Q (.bl (xor neg o.isSome)) H
theorem mem_valV {kvs : List (Key × V)} {k : Key} : (valV kvs k).isSome = (kvs.map (·.1)).any fun q => decide (q = k) := by
  rw [← valV_any, List.any_map]
  rfl
theorem s2_inD (neg : Bool) : S2 W (rInD neg) (gInD neg) := by
  intro b F ρ σ X H t1 t2 τ x y Q S r1 r2 e k
  unfold gInD at e
  obtain ⟨i, e1, e⟩ := Option.bind_eq_some_iff.mp e
  obtain ⟨⟨ks, ds⟩, e2, e⟩ := Option.bind_eq_some_iff.mp e
  cases e
  obtain ⟨p, kvs, ex, hs, hk, q⟩ := r2.dk e2 S.le
  rw [r1.key e1]
  refine ⟨p, _, ex, .inl ⟨kvs, i, hs, rfl, rfl⟩, ?_⟩
  rw [mem_valV, hk]
  exact k.d S rfl
theorem op_inD (hu : X.A.units + 1 < cLine) : OpR X (compareOp .In) (rInD false) := by
  intro pins s σ H x y v u Q I rx ry h
  obtain ⟨a, o, rfl, g, q⟩ := h
  cases ry
  rw [Bool.false_xor] at q
  exact d_in hu I g rx fun s' I' => ⟨.bl _, H, I', rfl, q⟩
theorem op_notInD (hu : X.A.units + 1 < cLine) : OpR X (compareOp .NotIn) (rInD true) := by
  intro pins s σ H x y v u Q I rx ry h
  obtain ⟨a, o, rfl, g, q⟩ := h
  cases ry
  rw [Bool.true_xor] at q
  exact d_notIn hu I g rx fun s' I' => ⟨.bl _, H, I', rfl, q⟩
theorem op_inS : OpR X (compareOp .In) (rInS false) := by
  intro pins s σ H x y v u Q I rx ry h
  obtain ⟨i, j, e1, e2, q⟩ := h
  rw [Bool.false_xor] at q
  exact op_in_str pins s σ H x y v u Q I rx ry ⟨i, j, e1, e2, q⟩
theorem op_notInS : OpR X (compareOp .NotIn) (rInS true) := by
  intro pins s σ H x y v u Q I rx ry h
  obtain ⟨i, j, e1, e2, q⟩ := h
  rw [Bool.true_xor] at q
  exact op_notin_str pins s σ H x y v u Q I rx ry ⟨i, j, e1, e2, q⟩
def rInU (K : PySem.W.Frag) (neg : Bool) : R2 := fun x y H Q => rIn K neg x y H Q ∨ rInS neg x y H Q ∨ rInD neg x y H Q
def gIn := or2 (gInQ false) (or2 (gInS false) (gInD false))
def gNotIn := or2 (gInQ true) (or2 (gInS true) (gInD true))
theorem op_inU (hu : X.A.units + 1 < cLine) : OpR X (compareOp .In) (rInU X.K false) := OpR_or op_in_seq (OpR_or op_inS (op_inD hu))
theorem op_notInU (hu : X.A.units + 1 < cLine) : OpR X (compareOp .NotIn) (rInU X.K true) := OpR_or op_notIn_seq (OpR_or op_notInS (op_notInD hu))
theorem s2_in : S2 W (rInU W.K false) gIn := S2.or (s2_inQ false) (S2.or (s2_inS false) (s2_inD false))
theorem s2_notIn : S2 W (rInU W.K true) gNotIn := S2.or (s2_inQ true) (S2.or (s2_inS true) (s2_inD true))

/-! ### [ ] -/
/-- what stands in a dict at a key -/
def dAt : List Key → List D → Key → Option D
  | k :: ks, d :: ds, q => if k = q then some d else dAt ks ds q
  | _, _, _ => none
theorem dAt_val {F : Hp} : ∀ {kvs : List (Key × V)} {ds : List D} {k : Key} {d : D}, Reps W F ds (kvs.map (·.2)) → dAt (kvs.map (·.1)) ds k = some d → ∃ v, valV kvs k = some v ∧ Rep W F d v
  | [], _, _, _, _, e => by simp [dAt] at e
  | p :: r, [], _, _, q, _ => by
    have q' : _ = [] := q
    cases q'
  | p :: r, d :: ds, k, d', q, e => by
    obtain ⟨v, vr, e1, a, b⟩ := q
    rw [List.map_cons] at e1 e
    have e2 : p.2 = v := (List.cons.inj e1).1
    have e3 : r.map (·.2) = vr := (List.cons.inj e1).2
    subst e2 e3
    unfold dAt at e
    split at e
    · rename_i hk
      cases e
      exact ⟨_, valV_pos hk, a⟩
    · rename_i hk
      rw [valV_neg hk]
      exact dAt_val b e
def gIxQ : T → T → Option T := fun a b => a.sq?.bind fun ds => b.i?.bind fun i => (atI ds i).map .f
def gIxS : T → T → Option T := fun a b => a.s?.bind fun z => b.i?.bind fun i => if z.length ≤ sizeLine then (atI z.cps.toList i).map fun c => .f (.str ⟨#[c]⟩) else none
def gIxD : T → T → Option T := fun a b => a.dk?.bind fun ds => b.key?.bind fun k => (dAt ds.1 ds.2 k).map .f
/-- a part of one's own -/
def T.tsq? : T → Option (List T) | .ll ts => some ts | .tu ts => some ts | _ => none
def gIxO : T → T → Option T := fun a b => a.tsq?.bind fun ds => b.i?.bind fun i => (atI ds i).bind fun t => match t with | .un => none | t => some t
theorem RelTs.at {F H : Hp} : ∀ {ts : List T} {vs : List V} {fps : List (List Addr)} {i : Nat} {t : T}, RelTs W F H ts vs fps → ts[i]? = some t → ∃ v f, vs[i]? = some v ∧ fps[i]? = some f ∧ RelT W F H t v f
  | [], _, _, _, _, _, e => by simp at e
  | t :: ts, _, _, 0, _, r, e => by
    obtain ⟨v, vr, f, fr, e1, e2, a, b⟩ := r
    simp at e
    subst e e1 e2
    exact ⟨v, f, rfl, rfl, a⟩
  | t :: ts, _, _, i + 1, _, r, e => by
    obtain ⟨v, vr, f, fr, e1, e2, a, b⟩ := r
    subst e1 e2
    obtain ⟨u, g, h1, h2, h3⟩ := RelTs.at (i := i) b (by simpa using e)
    exact ⟨u, g, by simpa using h1, by simpa using h2, h3⟩
theorem RelTs.len {F H : Hp} : ∀ {ts : List T} {vs : List V} {fps : List (List Addr)}, RelTs W F H ts vs fps → ts.length = vs.length ∧ ts.length = fps.length
  | [], _, _, r => by
    rw [r.1, r.2]
    exact ⟨rfl, rfl⟩
  | t :: ts, _, _, r => by
    obtain ⟨v, vr, f, fr, e1, e2, a, b⟩ := r
    have q := RelTs.len b
    rw [e1, e2]
    simp only [List.length_cons]
    omega
theorem atI_map {α β : Type} {xs : List α} {ys : List β} {i : Int} {a : α} (hl : xs.length = ys.length) (h : atI xs i = some a) : ∃ j : Nat, xs[j]? = some a ∧ ∀ c, ys[j]? = some c → atI ys i = some c := by
  unfold atI at h ⊢
  obtain ⟨j, e1, e2⟩ := Option.bind_eq_some_iff.mp h
  refine ⟨j, e2, fun c e => ?_⟩
  rw [← hl, e1]
  exact e
theorem s2_ixQ : S2 W (fun x y H Q => rIxL W.K x y H Q ∨ rIxT W.K x y H Q) gIxQ := by
  intro b F ρ σ X H t1 t2 τ x y Q S r1 r2 e k
  unfold gIxQ at e
  obtain ⟨ds, e1, e⟩ := Option.bind_eq_some_iff.mp e
  obtain ⟨i, e2, e⟩ := Option.bind_eq_some_iff.mp e
  obtain ⟨d, e3, e⟩ := Option.map_eq_some_iff.mp e
  subst e
  obtain ⟨p, vs, ex, hs, q⟩ := r1.sq e1 S.le
  obtain ⟨j, h1, h2⟩ := atI_map q.len e3
  obtain ⟨v, h3, h4⟩ := q.get h1
  rcases hs with hs | hs
  · exact .inl ⟨p, vs, i, v, ex, r2.int e2, hs, h2 v h3, k.d S h4⟩
  · exact .inr ⟨p, vs, i, v, ex, r2.int e2, hs, h2 v h3, k.d S h4⟩
theorem s2_ixO : S2 W (fun x y H Q => rIxL W.K x y H Q ∨ rIxT W.K x y H Q) gIxO := by
  intro b F ρ σ X H t1 t2 τ x y Q S r1 r2 e k
  unfold gIxO at e
  obtain ⟨ds, e1, e⟩ := Option.bind_eq_some_iff.mp e
  obtain ⟨i, e2, e⟩ := Option.bind_eq_some_iff.mp e
  obtain ⟨d, e3, e⟩ := Option.bind_eq_some_iff.mp e
  have e4 : d = τ := by
    cases d <;> first | exact Option.some.inj e | cases e
  subst e4
  cases t1 with
  | ll ts =>
    cases e1
    obtain ⟨fp, p, vs, fps, ex, _, hs, q⟩ := r1
    obtain ⟨j, h1, h2⟩ := atI_map q.len.1 e3
    obtain ⟨v, f, h3, _, h4⟩ := q.at h1
    exact .inl ⟨p, vs, i, v, ex, r2.int e2, .inl (.inl hs), h2 v h3, k.here S ⟨f, h4⟩⟩
  | tu ts =>
    cases e1
    obtain ⟨fp, p, vs, fps, ex, _, hs, q⟩ := r1
    obtain ⟨j, h1, h2⟩ := atI_map q.len.1 e3
    obtain ⟨v, f, h3, _, h4⟩ := q.at h1
    exact .inr ⟨p, vs, i, v, ex, r2.int e2, .inl (.inl hs), h2 v h3, k.here S ⟨f, h4⟩⟩
  | _ => cases e1
theorem s2_ixS : S2 W rIxS gIxS := by
  intro b F ρ σ X H t1 t2 τ x y Q S r1 r2 e k
  unfold gIxS at e
  obtain ⟨z, e1, e⟩ := Option.bind_eq_some_iff.mp e
  obtain ⟨i, e2, e⟩ := Option.bind_eq_some_iff.mp e
  split at e
  · rename_i hz
    obtain ⟨c, e3, e⟩ := Option.map_eq_some_iff.mp e
    subst e
    exact ⟨z, i, c, r1.str e1, r2.int e2, hz, e3, k.d S rfl⟩
  · cases e
def rIxDk : R2 := fun x y H Q => ∃ a v, x = .ref a ∧ DGet H a y (some v) ∧ Q v H
theorem s2_ixD : S2 W rIxDk gIxD := by
  intro b F ρ σ X H t1 t2 τ x y Q S r1 r2 e k
  unfold gIxD at e
  obtain ⟨⟨ks, ds⟩, e1, e⟩ := Option.bind_eq_some_iff.mp e
  obtain ⟨i, e2, e⟩ := Option.bind_eq_some_iff.mp e
  obtain ⟨d, e3, e⟩ := Option.map_eq_some_iff.mp e
  subst e
  obtain ⟨p, kvs, ex, hs, hk, q⟩ := r1.dk e1 S.le
  subst hk
  obtain ⟨v, h1, h2⟩ := dAt_val q e3
  rw [r2.key e2]
  exact ⟨p, v, ex, .inl ⟨kvs, i, hs, rfl, h1.symm⟩, k.d S h2⟩
theorem subT {prog : Program} {w : World} {A : Around} {E : Value → Shared → Prop} {s : Shared} {value slice : Expr} {o i : Value} {T id : String} {Q : Value → Shared → Prop} (hT : s.TypeIs o T)
    (hl : typeLookup (.type T) "__getitem__" = pure (some (.builtin id))) (h : wpAny (model prog w) A (getItem o i) Q E s)
    (hs : subscripted slice false o i = operate [o, i] (getItem o i)) :
    wpAny (model prog w) A (subscriptTail value slice o i) Q E s := by
  unfold subscriptTail
  refine wpAny_bind ?_
  rw [getitemInPython_of_ne hT.not_modules]
  refine wpAny_bind (wpAny_specialOf hT hl ?_)
  have fin : wpAny (model prog w) A (subscripted slice false o i) (fun r s₃ => wpAny (model prog w) A (letTemporaryGo value o r >>= fun _ => pure r) Q E s₃) E s := by
    rw [hs]
    exact wpAny_operating (wpAny_mono h (fun r s₃ h₃ => wpAny_bind (wpAny_letTemporaryGo (wpAny_pure h₃))) fun _ _ x => x)
  first
    | exact wpAny_pure (wpAny_bind fin)
    | exact wpAny_bind (wpAny_pure (wpAny_bind fin))
    | exact wpAny_bind fin
theorem ix_dict (hu : X.A.units + 1 < cLine) : IxR X rIxDk := by
  intro value slice pins s σ H x y v u Q I rx ry h hs
  obtain ⟨a, z, rfl, g, q⟩ := h
  cases rx
  exact subT (dict_typeIs I g) PySem.F.slot_dict_getitem.lookup (d_getItem hu I g ry fun w' s' I' rw' => ⟨z, H, I', rw', q⟩) hs
def rIxU (K : PySem.W.Frag) : R2 := fun x y H Q => ((rIxL K x y H Q ∨ rIxT K x y H Q) ∨ (rIxL K x y H Q ∨ rIxT K x y H Q)) ∨ rIxS x y H Q ∨ rIxDk x y H Q
def gIx := or2 (or2 gIxQ gIxO) (or2 gIxS gIxD)
theorem ix_U (hu : X.A.units + 1 < cLine) : IxR X (rIxU X.K) := ((ix_list.or ix_tup).or (ix_list.or ix_tup)).or (ix_str.or (ix_dict hu))
theorem s2_ix : S2 W (rIxU W.K) gIx := S2.or (S2.or s2_ixQ s2_ixO) (S2.or s2_ixS s2_ixD)
end
end Z

namespace Z
open PySem L2

/-! ### things on the way, in another order -/
theorem perm_lift {W : Wd} {b : Bs} {F H : Hp} {X Y : List Tm} (p : X.Perm Y) : ∀ xps, RelTs W F H (X.map (·.t)) (X.map (·.v)) xps → LocX b X xps → ∃ yps, RelTs W F H (Y.map (·.t)) (Y.map (·.v)) yps ∧ LocX b Y yps ∧ xps.flatten.Perm yps.flatten := by
  induction p with
  | nil => exact fun xps r l => ⟨xps, r, l, .refl _⟩
  | cons x p ih =>
    rintro xps ⟨v, vr, f, fr, e1, e2, a, r⟩ l
    have e3 := (List.cons.inj e1).1
    have e4 := (List.cons.inj e1).2
    subst e2 e3 e4
    obtain ⟨yps, r', l', q⟩ := ih fr r l.2
    exact ⟨f :: yps, ⟨_, _, _, _, rfl, rfl, a, r'⟩, ⟨l.1, l'⟩, by rw [List.flatten_cons, List.flatten_cons]; exact q.append_left f⟩
  | swap x y l =>
    rintro xps ⟨v, vr, f, fr, e1, e2, a, r⟩ lx
    have e3 := (List.cons.inj e1).1
    have e4 := (List.cons.inj e1).2
    subst e2 e3
    obtain ⟨v', vr', f', fr', e5, e6, a', r'⟩ := r
    rw [← e4] at e5
    have e7 := (List.cons.inj e5).1
    have e8 := (List.cons.inj e5).2
    subst e6 e7 e8
    refine ⟨f' :: f :: fr', ⟨_, _, _, _, rfl, rfl, a', _, _, _, _, rfl, rfl, a, r'⟩, ⟨lx.2.1, lx.1, lx.2.2⟩, ?_⟩
    rw [List.flatten_cons, List.flatten_cons, List.flatten_cons, List.flatten_cons, ← List.append_assoc, ← List.append_assoc]
    exact List.perm_append_comm.append_right _
  | trans p q ih1 ih2 =>
    intro xps r l
    obtain ⟨yps, r1, l1, q1⟩ := ih1 xps r l
    obtain ⟨zps, r2, l2, q2⟩ := ih2 yps r1 l1
    exact ⟨zps, r2, l2, q1.trans q2⟩
section
variable {W : Wd} {b : Bs} {F F' : Hp} {ρ : List T} {σ : St} {X Y : List Tm} {H H' : Hp}
theorem SR.perm (S : SR W b F ρ σ X H) (p : X.Perm Y) : SR W b F ρ σ Y H := by
  obtain ⟨le, f0, fn, kept, stab, pin, fps, xps, s1, s2, ⟨nd, ow⟩, lc1, lc2⟩ := S
  obtain ⟨yps, r, l, q⟩ := perm_lift p xps s2 lc2
  have q' := q.append_left fps.flatten
  exact ⟨le, f0, fn, kept, stab, pin, fps, yps, s1, r, ⟨q'.nodup_iff.mp nd, fun a ha => ow a (q'.mem_iff.mpr ha)⟩, lc1, l⟩
theorem SR.there (S : SR W b F ρ σ X H) : ∀ {fps xps : List (List Addr)}, Slots W F H ρ σ fps → RelTs W F H (X.map (·.t)) (X.map (·.v)) xps → ∀ a ∈ fps.flatten ++ xps.flatten, ∃ o, H a = some o := fun {fps xps} s1 s2 a ha => by
  rcases List.mem_append.mp ha with z | z
  · exact Slots.there s1 a z
  · exact RelTs.there _ _ _ s2 a z
/-- the thing held last is changed at one of its places -/
theorem SR.wrX {x : Tm} {t' : T} {p : Addr} {o o' : HO} (S : SR W b F ρ σ (x :: X) H)
    (h : ∀ fp, RelT W F H x.t x.v fp → fp.Nodup → (∀ a ∈ fp, F a = none) → H p = some o ∧ Stb (GF W F) o o' ∧ p ∈ fp ∧ ∃ fp', RelT W F (upd H p o') t' x.v fp' ∧ fp'.Nodup ∧ ∀ a ∈ fp', a ∈ fp) :
    SR W b F ρ σ (⟨x.og, t', x.v⟩ :: X) (upd H p o') := by
  obtain ⟨le, f0, fn, kept, stab, pin, fps, xps, s1, s2, ⟨nd, ow⟩, lc1, lc2⟩ := S
  obtain ⟨v, vr, f, fr, e1, e2, r, r2⟩ := s2
  have e3 : x.v = v := (List.cons.inj e1).1
  have e4 : X.map (·.v) = vr := (List.cons.inj e1).2
  subst e2 e3 e4
  rw [List.flatten_cons] at nd ow
  have n := List.nodup_append.mp nd
  have n2 := List.nodup_append.mp n.2.1
  obtain ⟨hp, hst, hpf, fp', r', nd', sub⟩ := h f r n2.1 fun a ha => ow a (List.mem_append_right _ (List.mem_append_left _ ha))
  have old : b.H0 p = none ∨ p ∈ b.A := Og.old (lc2.1 p hpf)
  have st1 : ∀ a ∈ fps.flatten, upd H p o' a = H a := fun a ha => upd_ne fun e => n.2.2 a ha p (List.mem_append_left _ hpf) e
  have st2 : ∀ a ∈ fr.flatten, upd H p o' a = H a := fun a ha => upd_ne fun e => n2.2.2 p hpf a ha e.symm
  have Fp : F p = none := ow p (List.mem_append_right _ (List.mem_append_left _ hpf))
  refine ⟨fun a u e => ?_, f0, fn, fun a u e na => ?_, fun a u e ha => ?_, pin, fps, fp' :: fr, s1.mono (Inc.refl F) st1, ⟨_, _, _, _, rfl, rfl, r', RelTs.mono (Inc.refl F) _ _ _ st2 r2⟩, ⟨?_, fun a ha => ?_⟩, lc1, fun a ha => lc2.1 a (sub a ha), lc2.2⟩
  · rw [upd_ne (ne_of_none e Fp)]
    exact le a u e
  · have ne : a ≠ p := fun q => by
      subst q
      rcases old with z | z
      · rw [z] at e; cases e
      · exact na z
    rw [upd_ne ne]
    exact kept a u e na
  · obtain ⟨u1, h1, h2⟩ := stab a u e ha
    by_cases q : a = p
    · subst q
      rw [hp] at h1
      cases h1
      exact ⟨o', upd_same, h2.trans hst⟩
    · exact ⟨u1, by rw [upd_ne q]; exact h1, h2⟩
  · rw [List.flatten_cons]
    exact List.nodup_append.mpr ⟨n.1, List.nodup_append.mpr ⟨nd', n2.2.1, fun a ha c hc e => n2.2.2 a (sub a ha) c hc e⟩, fun a ha c hc e => n.2.2 a ha c ((List.mem_append.mp hc).elim (fun z => List.mem_append_left _ (sub c z)) fun z => List.mem_append_right _ z) e⟩
  · rw [List.flatten_cons] at ha
    rcases List.mem_append.mp ha with z | z
    · exact ow a (List.mem_append_left _ z)
    · rcases List.mem_append.mp z with z | z
      · exact ow a (List.mem_append_right _ (List.mem_append_left _ (sub a z)))
      · exact ow a (List.mem_append_right _ (List.mem_append_right _ z))

/-! ### a thing of one's own becomes deep data -/
mutual
def T.fz : T → Option D
  | .un => none
  | .f d => some d
  | .l ds => some (.lst ds)
  | .dk ks ds => some (.dct ks ds)
  | .di _ _ => none
  | .ll ts => (T.fzs ts).map .lst
  | .tu ts => (T.fzs ts).map .tup
  | .o C ns ts => (T.fzs ts).map (.obj C ns)
def T.fzs : List T → Option (List D)
  | [] => some []
  | t :: ts => (T.fz t).bind fun d => (T.fzs ts).map fun ds => d :: ds
end
mutual
theorem RelT.fz {F F' H : Hp} (hF : Inc F F') : ∀ (t : T) (v : V) (fp : List Addr) (d : D), RelT W F H t v fp → (∀ a ∈ fp, F' a = H a) → t.fz = some d → Rep W F' d v
  | .un, _, _, _, _, _, e => by unfold T.fz at e; cases e
  | .f d, _, _, _, r, _, e => by
    unfold T.fz at e
    cases e
    exact r.2.inc hF
  | .l ds, _, _, _, r, h, e => by
    unfold T.fz at e
    cases e
    obtain ⟨p, vs, e1, e2, e3, q⟩ := r
    exact ⟨p, vs, e1, .inl (.inl (by rw [h p (by rw [e2]; exact List.mem_singleton.mpr rfl)]; exact e3)), q.inc hF⟩
  | .dk ks ds, _, _, _, r, h, e => by
    unfold T.fz at e
    cases e
    obtain ⟨p, kvs, e1, e2, e3, k, q⟩ := r
    exact ⟨p, kvs, e1, .inl (by rw [h p (by rw [e2]; exact List.mem_singleton.mpr rfl)]; exact e3), k, q.inc hF⟩
  | .di _ _, _, _, _, _, _, e => by unfold T.fz at e; cases e
  | .ll ts, _, _, _, r, h, e => by
    unfold T.fz at e
    obtain ⟨ds, e0, e⟩ := Option.map_eq_some_iff.mp e
    subst e
    obtain ⟨p, vs, fps, e1, e2, e3, q⟩ := r
    exact ⟨p, vs, e1, .inl (.inl (by rw [h p (by rw [e2]; exact List.mem_cons_self)]; exact e3)), RelTs.fz hF ts vs fps ds q (fun a ha => h a (by rw [e2]; exact List.mem_cons_of_mem _ ha)) e0⟩
  | .tu ts, _, _, _, r, h, e => by
    unfold T.fz at e
    obtain ⟨ds, e0, e⟩ := Option.map_eq_some_iff.mp e
    subst e
    obtain ⟨p, vs, fps, e1, e2, e3, q⟩ := r
    exact ⟨p, vs, e1, .inl (.inl (by rw [h p (by rw [e2]; exact List.mem_cons_self)]; exact e3)), RelTs.fz hF ts vs fps ds q (fun a ha => h a (by rw [e2]; exact List.mem_cons_of_mem _ ha)) e0⟩
  | .o C ns ts, _, _, _, r, h, e => by
    unfold T.fz at e
    obtain ⟨ds, e0, e⟩ := Option.map_eq_some_iff.mp e
    subst e
    obtain ⟨p, dx, kvs, fps, e1, e2, e3, k, q⟩ := r
    exact ⟨p, dx, kvs, e1, by rw [h p (by rw [e2]; exact List.mem_cons_self)]; exact e3, k, RelTs.fz hF ts _ fps ds q (fun a ha => h a (by rw [e2]; exact List.mem_cons_of_mem _ ha)) e0⟩
theorem RelTs.fz {F F' H : Hp} (hF : Inc F F') : ∀ (ts : List T) (vs : List V) (fps : List (List Addr)) (ds : List D), RelTs W F H ts vs fps → (∀ a ∈ fps.flatten, F' a = H a) → T.fzs ts = some ds → Reps W F' ds vs
  | [], _, _, _, r, _, e => by
    unfold T.fzs at e
    cases e
    exact r.1
  | t :: ts, _, _, _, r, h, e => by
    unfold T.fzs at e
    obtain ⟨d, e1, e⟩ := Option.bind_eq_some_iff.mp e
    obtain ⟨ds, e2, e⟩ := Option.map_eq_some_iff.mp e
    subst e
    obtain ⟨v, vr, f, fr, e3, e4, a, b⟩ := r
    subst e4
    rw [List.flatten_cons] at h
    exact ⟨v, vr, e3, RelT.fz hF t v f d a (fun x hx => h x (List.mem_append_left _ hx)) e1, RelTs.fz hF ts vr fr ds b (fun x hx => h x (List.mem_append_right _ hx)) e2⟩
end
theorem SR.frz {x : Tm} {d : D} (S : SR W b F ρ σ (x :: X) H) (ho : x.og = none) (hd : x.t.fz = some d) : ∃ F', SR W b F' ρ σ (⟨none, .f d, x.v⟩ :: X) H ∧ Inc F F' := by
  obtain ⟨le, f0, fn, kept, stab, pin, fps, xps, s1, s2, ⟨nd, ow⟩, lc1, lc2⟩ := S
  obtain ⟨v, vr, f, fr, e1, e2, r, r2⟩ := s2
  have e3 : x.v = v := (List.cons.inj e1).1
  have e4 : X.map (·.v) = vr := (List.cons.inj e1).2
  subst e2 e3 e4
  rw [List.flatten_cons] at nd ow
  have n := List.nodup_append.mp nd
  have n2 := List.nodup_append.mp n.2.1
  have there := RelT.there _ _ _ r
  have new : ∀ a ∈ f, b.H0 a = none ∨ a ∈ b.A := fun a ha => lc2.1 a ha
  refine ⟨fun a => if a ∈ f then H a else F a, ⟨?_, ?_, ?_, kept, stab, pin, fps, [] :: fr, s1.mono ?_ fun _ _ => rfl, ⟨_, _, _, _, rfl, rfl, ⟨rfl, RelT.fz ?_ _ _ f d r (fun a ha => if_pos ha) hd⟩, RelTs.mono ?_ _ _ _ (fun _ _ => rfl) r2⟩, ⟨?_, fun a ha => ?_⟩, lc1, fun a ha => (by cases ha), lc2.2⟩, ?_⟩
  case refine_1 =>
    intro a o e
    by_cases h : a ∈ f
    · simp only [if_pos h] at e; exact .inl e
    · simp only [if_neg h] at e; exact le a o e
  case refine_3 =>
    intro a o e
    by_cases h : a ∈ f
    · exact .inr (new a h)
    · simp only [if_neg h] at e; exact fn a o e
  case refine_7 =>
    rw [List.flatten_cons, List.nil_append]
    exact List.nodup_append.mpr ⟨n.1, n2.2.1, fun a ha c hc e => n.2.2 a ha c (List.mem_append_right _ hc) e⟩
  case refine_8 =>
    rw [List.flatten_cons, List.nil_append] at ha
    have nf : a ∉ f := fun z => by
      rcases List.mem_append.mp ha with y | y
      · exact n.2.2 a y a (List.mem_append_left _ z) rfl
      · exact n2.2.2 a z a y rfl
    simp only [if_neg nf]
    rcases List.mem_append.mp ha with y | y
    · exact ow a (List.mem_append_left _ y)
    · exact ow a (List.mem_append_right _ (List.mem_append_right _ y))
  all_goals
    have i : Inc F (fun a => if a ∈ f then H a else F a) := fun a o e => by
      by_cases h : a ∈ f
      · rw [ow a (List.mem_append_right _ (List.mem_append_left _ h))] at e; cases e
      · show (if a ∈ f then H a else F a) = some o
        rw [if_neg h]; exact e
    first
      | exact i
      | exact f0.trans i
end

/-! ### a call: the things held first are handed to it -/
/-- the things Xa on the way, behind a call that left ts' of them -/
def setTs : List Tm → List T → List Tm
  | x :: X, t :: ts => ⟨x.og, t, x.v⟩ :: setTs X ts
  | X, _ => X
theorem setTs_v : ∀ (X : List Tm) (ts : List T), (setTs X ts).map (·.v) = X.map (·.v)
  | [], _ => by unfold setTs; rfl
  | x :: X, [] => rfl
  | x :: X, t :: ts => by
    show x.v :: (setTs X ts).map (·.v) = _
    rw [setTs_v X ts]
    rfl
theorem setTs_t : ∀ (X : List Tm) (ts : List T), X.length = ts.length → (setTs X ts).map (·.t) = ts
  | [], [], _ => rfl
  | [], _ :: _, h => by cases h
  | x :: X, [], h => by cases h
  | x :: X, t :: ts, h => by
    show t :: (setTs X ts).map (·.t) = _
    rw [setTs_t X ts (by simpa using h)]
theorem LocX.any {b : Bs} : ∀ {X : List Tm} {yps : List (List Addr)}, (∀ a ∈ yps.flatten, b.H0 a = none ∨ a ∈ b.A) → LocX b X yps
  | [], _, _ => trivial
  | _ :: _, [], _ => trivial
  | x :: X, f :: fs, h => ⟨fun a ha => h a (List.mem_flatten.mpr ⟨f, List.mem_cons_self, ha⟩), LocX.any fun a ha => h a (by rw [List.flatten_cons]; exact List.mem_append_right _ ha)⟩
theorem LocX.append {b : Bs} : ∀ {X Y : List Tm} {xps yps : List (List Addr)}, X.length = xps.length → (LocX b (X ++ Y) (xps ++ yps) ↔ LocX b X xps ∧ LocX b Y yps)
  | [], _, [], _, _ => ⟨fun h => ⟨trivial, h⟩, fun h => h.2⟩
  | [], _, _ :: _, _, h => by cases h
  | x :: X, _, [], _, h => by cases h
  | x :: X, Y, f :: fs, yps, h => by
    have ih := LocX.append (b := b) (X := X) (Y := Y) (xps := fs) (yps := yps) (by simpa using h)
    exact ⟨fun q => ⟨⟨q.1, (ih.mp q.2).1⟩, (ih.mp q.2).2⟩, fun q => ⟨q.1.1, ih.mpr ⟨q.1.2, q.2⟩⟩⟩
theorem RelTs.split {W : Wd} {F H : Hp} : ∀ {ts us : List T} {vs ws : List V} {fps : List (List Addr)}, ts.length = vs.length → RelTs W F H (ts ++ us) (vs ++ ws) fps → ∃ f1 f2, fps = f1 ++ f2 ∧ RelTs W F H ts vs f1 ∧ RelTs W F H us ws f2
  | [], _, [], _, fps, _, r => ⟨[], fps, rfl, ⟨rfl, rfl⟩, r⟩
  | [], _, _ :: _, _, _, h, _ => by cases h
  | _ :: _, _, [], _, _, h, _ => by cases h
  | t :: ts, us, v :: vs, ws, _, h, r => by
    obtain ⟨v', vr, f, fr, e1, e2, a, b⟩ := r
    have e3 := (List.cons.inj e1).1
    have e4 := (List.cons.inj e1).2
    subst e2 e3 e4
    obtain ⟨f1, f2, e, q1, q2⟩ := RelTs.split (by simpa using h) b
    subst e
    exact ⟨f :: f1, f2, rfl, ⟨_, _, _, _, rfl, rfl, a, q1⟩, q2⟩
theorem RelTs.join {W : Wd} {F H : Hp} : ∀ {ts us : List T} {vs ws : List V} {f1 f2 : List (List Addr)}, RelTs W F H ts vs f1 → RelTs W F H us ws f2 → RelTs W F H (ts ++ us) (vs ++ ws) (f1 ++ f2)
  | [], _, _, _, _, _, r, q => by
    rw [r.1, r.2]
    exact q
  | t :: ts, _, _, _, _, _, r, q => by
    obtain ⟨v', vr, f, fr, e1, e2, a, b⟩ := r
    rw [e1, e2]
    exact ⟨_, _, _, _, rfl, rfl, a, RelTs.join b q⟩

/-- a def's entry: its arguments, each at its place -/
def bsOf (H F : Hp) (fps : List (List Addr)) (io : List Nat) (vs : List V) : Bs := ⟨H, F, fps, io.filterMap fun i => vs[i]?.map fun v => (i, v)⟩
section
variable {W : Wd} {b : Bs} {F F' : Hp} {ρ : List T} {σ : St} {X Xa : List Tm} {H H' : Hp}
theorem SR.callX {ts' : List T} {io : List Nat} {xa : List (List Addr)} {τs : List Tm} (S : SR W b F ρ σ (Xa ++ X) H) {fps xps : List (List Addr)}
    (s1 : Slots W F H ρ σ fps) (sa : RelTs W F H (Xa.map (·.t)) (Xa.map (·.v)) xa) (s2 : RelTs W F H (X.map (·.t)) (X.map (·.v)) xps) (own : Own F (fps.flatten ++ (xa ++ xps).flatten)) (lc1 : LocS b fps) (lc2 : LocX b (Xa ++ X) (xa ++ xps))
    (hτ : ∀ x ∈ τs, x.og = none)
    (R : SR W (bsOf H F xa io (Xa.map (·.v))) F' ts' ((Xa.map (·.v)).map some) τs H') : SR W b F' ρ σ (τs ++ (setTs Xa ts' ++ X)) H' := by
  have la := RelTs.lenA sa
  have lxa : Xa.length = xa.length := by have := la.2; simpa using this
  obtain ⟨le, f0, fn, kept, stab, pin, _⟩ := id S
  obtain ⟨le', f0', fn', kept', stab', _, qps, tps, r1, r2, ⟨nd', ow'⟩, lr1, lr2⟩ := R
  have lts : ts'.length = xa.length := by
    have := r1.len.1
    simp only [List.length_map] at this
    omega
  -- the callee's places
  have hA : (bsOf H F xa io (Xa.map (·.v))).A = xa.flatten := rfl
  have hflat : (xa ++ xps).flatten = xa.flatten ++ xps.flatten := List.flatten_append
  rw [hflat] at own
  obtain ⟨nd, ow⟩ := own
  have n := List.nodup_append.mp nd
  have n2 := List.nodup_append.mp n.2.1
  have lcs := (LocX.append (b := b) lxa).mp lc2
  have thereF : ∀ a ∈ fps.flatten, ∃ o, H a = some o := Slots.there s1
  have thereX : ∀ a ∈ xps.flatten, ∃ o, H a = some o := RelTs.there _ _ _ s2
  have st1 : ∀ a ∈ fps.flatten, H' a = H a := fun a ha => by
    obtain ⟨o, e⟩ := thereF a ha
    rw [e]
    exact kept' a o e fun z => n.2.2 a ha a (List.mem_append_left _ z) rfl
  have st2 : ∀ a ∈ xps.flatten, H' a = H a := fun a ha => by
    obtain ⟨o, e⟩ := thereX a ha
    rw [e]
    exact kept' a o e fun z => n2.2.2 a z a ha rfl
  -- the result's places: new, or the arguments'
  have old : ∀ a ∈ qps.flatten ++ tps.flatten, H a = none ∨ a ∈ xa.flatten := fun a ha => by
    rcases List.mem_append.mp ha with z | z
    · exact LocS.old lr1 z
    · refine LocX.old ?_ lr2 z
      have := RelTs.lenA r2
      simpa using this.2
  have mine : ∀ a, H a = none ∨ a ∈ xa.flatten → b.H0 a = none ∨ a ∈ b.A := fun a h => by
    rcases h with z | z
    · exact .inl (S.new0 z)
    · exact LocX.old lxa lcs.1 z
  have slotsT : RelTs W F' H' ts' (Xa.map (·.v)) qps := by
    have key : ∀ {ts : List T} {vs : List V} {fs : List (List Addr)}, Slots W F' H' ts (vs.map some) fs → RelTs W F' H' ts vs fs := by
      intro ts
      induction ts with
      | nil =>
        intro vs fs r
        cases vs with
        | nil => exact ⟨rfl, r.2⟩
        | cons _ _ => cases r.1
      | cons t ts ih =>
        intro vs fs r
        obtain ⟨s, sr, f, fr, e1, e2, a, r⟩ := r
        cases vs with
        | nil => cases e1
        | cons v vs =>
          have e3 : some v = s := (List.cons.inj e1).1
          have e4 : vs.map some = sr := (List.cons.inj e1).2
          subst e3 e4
          exact ⟨v, vs, f, fr, rfl, e2, a, ih r⟩
    exact key r1
  have n' := List.nodup_append.mp nd'
  have tvs : ∀ {Y : List Tm}, True := trivial
  refine ⟨le', f0.trans f0', fun a o e => ?_, fun a o e na => ?_, fun a o e ha => ?_, pin, fps, tps ++ (qps ++ xps), s1.mono f0' st1, ?_, ⟨?_, fun a ha => ?_⟩, lc1, ?_⟩
  · rcases fn' a o e with z | z | z
    · exact fn a o z
    · exact .inr (.inl (S.new0 z))
    · exact .inr (LocX.old lxa lcs.1 z)
  · refine kept' a o (kept a o e na) fun z => ?_
    rcases LocX.old lxa lcs.1 z with q | q
    · rw [q] at e; cases e
    · exact na q
  · obtain ⟨u, h1, h2⟩ := stab a o e ha
    by_cases z : a ∈ xa.flatten
    · obtain ⟨u', h3, h4⟩ := stab' a u h1 z
      exact ⟨u', h3, h2.trans h4⟩
    · exact ⟨u, kept' a u h1 z, h2⟩
  · rw [List.map_append, List.map_append, List.map_append, List.map_append, setTs_v, setTs_t _ _ (by omega)]
    exact RelTs.join r2 (RelTs.join slotsT (RelTs.mono f0' _ _ _ st2 s2))
  · rw [List.flatten_append, List.flatten_append]
    have dj1 : ∀ a ∈ fps.flatten, a ∉ qps.flatten ++ tps.flatten := fun a ha z => by
      obtain ⟨o, e⟩ := thereF a ha
      rcases old a z with q | q
      · rw [q] at e; cases e
      · exact n.2.2 a ha a (List.mem_append_left _ q) rfl
    have dj2 : ∀ a ∈ xps.flatten, a ∉ qps.flatten ++ tps.flatten := fun a ha z => by
      obtain ⟨o, e⟩ := thereX a ha
      rcases old a z with q | q
      · rw [q] at e; cases e
      · exact n2.2.2 a q a ha rfl
    refine List.nodup_append.mpr ⟨n.1, List.nodup_append.mpr ⟨n'.2.1, List.nodup_append.mpr ⟨n'.1, n2.2.1, fun a ha c hc e => ?_⟩, fun a ha c hc e => ?_⟩, fun a ha c hc e => ?_⟩
    · subst e
      exact dj2 a hc (List.mem_append_left _ ha)
    · subst e
      rcases List.mem_append.mp hc with z | z
      · exact n'.2.2 a z a ha rfl
      · exact dj2 a z (List.mem_append_right _ ha)
    · subst e
      rcases List.mem_append.mp hc with z | z
      · exact dj1 a ha (List.mem_append_right _ z)
      · rcases List.mem_append.mp z with z | z
        · exact dj1 a ha (List.mem_append_left _ z)
        · exact n.2.2 a ha a (List.mem_append_right _ z) rfl
  · have unF : ∀ a, F a = none → (∃ o, H a = some o) → a ∉ xa.flatten → F' a = none := fun a h1 ⟨o, h2⟩ h3 => by
      cases y : F' a with
      | none => rfl
      | some w =>
        rcases fn' a w y with q | q | q
        · have q' : F a = some w := q
          rw [h1] at q'; cases q'
        · have q' : H a = none := q
          rw [h2] at q'; cases q'
        · exact absurd q h3
    rw [List.flatten_append, List.flatten_append] at ha
    rcases List.mem_append.mp ha with z | z
    · exact unF a (ow a (List.mem_append_left _ z)) (thereF a z) fun y => n.2.2 a z a (List.mem_append_left _ y) rfl
    · rcases List.mem_append.mp z with z | z
      · exact ow' a (List.mem_append_right _ z)
      · rcases List.mem_append.mp z with z | z
        · exact ow' a (List.mem_append_left _ z)
        · exact unF a (ow a (List.mem_append_right _ (List.mem_append_right _ z))) (thereX a z) fun y => n2.2.2 a y a z rfl
  · have l3 : τs.length = tps.length := by have := RelTs.lenA r2; simpa using this.2
    refine (LocX.append l3).mpr ⟨LocX.any fun a ha => mine a (old a (List.mem_append_right _ ha)), (LocX.append ?_).mpr ⟨LocX.any fun a ha => mine a (old a (List.mem_append_left _ ha)), lcs.2⟩⟩
    have h1 : (setTs Xa ts').length = Xa.length := by have := congrArg List.length (setTs_v Xa ts'); simpa using this
    rw [h1, lxa]
    have := r1.len.2
    omega
end
end Z

namespace Z
open PySem L2

/-- what an expression comes to: a value, or an exception of a class of the program; the slots behind it -/
inductive Re where
  | ok (t : T) (ρ : List T)
  | xc (C : Nat) (ρ : List T)
def Bok (P : Sg) (b : Bs) : Prop := b.As.length = P.m ∧ b.io.map (·.1) = P.io ∧ ∀ p ∈ P.al, ∃ v, (p.1, v) ∈ b.io ∧ (p.2, v) ∈ b.io
def Post (W : Wd) (b : Bs) (F : Hp) (σ : St) (X : List Tm) (Q : VK) (E : St → XK) : Re → Prop
  | .ok τ ρ => ∀ v F' H', SR W b F' ρ σ (⟨none, τ, v⟩ :: X) H' → Inc F F' → Q v H'
  | .xc C ρ => ∀ d F' H', SR W b F' ρ σ X H' → Inc F F' → E σ (.ref (W.cl C)) d H'
def So (W : Wd) (P : Sg) (E : St → XK) (t : TE) (f : List T → Option Re) : Prop :=
  ∀ b F ρ σ X H r Q, Bok P b → SR W b F ρ σ X H → f ρ = some r → Post W b F σ X Q E r → t σ H Q
def Eo (c : Ctx) (e : Expr) (f : List T → Option Re) : Prop := ∃ t, (∀ j, PE (c.X j) e t) ∧ So c.W c.P c.E t f
theorem Post.mono {W : Wd} {b : Bs} {F F1 : Hp} {σ : St} {X : List Tm} {Q : VK} {E : St → XK} {r : Re} (h : Post W b F σ X Q E r) (i : Inc F F1) : Post W b F1 σ X Q E r := by
  cases r with
  | ok τ ρ => exact fun v F' H' S i' => h v F' H' S (i.trans i')
  | xc C ρ => exact fun d F' H' S i' => h d F' H' S (i.trans i')

/-! ### pure things as such -/
def lift (f : List T → Option T) : List T → Option Re := fun ρ => (f ρ).bind fun t => t.d?.map fun d => .ok (.f d) ρ
theorem d_some {t : T} {d : D} (h : t.d? = some d) : t = .f d := by
  cases t with
  | f d' => cases h; rfl
  | _ => cases h
section
variable {c : Ctx} {e : Expr} {f : List T → Option T} {fo : List T → Option Re}
theorem so_lift {W : Wd} {P : Sg} {E : St → XK} {t : TE} (h : Sv W t f) : So W P E t (lift f) := by
  intro b F ρ σ X H r Q _ S e p
  unfold lift at e
  obtain ⟨τ, e1, e⟩ := Option.bind_eq_some_iff.mp e
  obtain ⟨d, e2, e⟩ := Option.map_eq_some_iff.mp e
  subst e
  rw [d_some e2] at e1
  exact h b F ρ σ X H _ Q S e1 fun v F' H' S' i s r => p v F' H' (S'.push r.rep) i
theorem Ev.o (h : Ev c e f) : Eo c e (lift f) := by
  obtain ⟨t, p, s⟩ := h
  exact ⟨t, p, so_lift s⟩
/-- a name's thing of its own is moved away (a name that is no parameter) -/
def fMv (i : Nat) : List T → Option Re := fun ρ => match ρ[i]? with
  | some .un => none
  | some t => some (.ok t (ρ.set i .un))
  | none => none
theorem eo_mv {i : Nat} {x : Str} {pos : Pos} (hi : c.N[i]? = some x) (hv : ∀ j, Vis (c.X j).env.scope x) (hm : c.P.m ≤ i) (hd : (x == ("__debug__" : Str)) = false := by decide) (hcd : (x == ("__classdict__" : Str)) = false := by decide) : Eo c (.Name x pos) (fMv i) := by
  refine ⟨_, fun j => pe_var (i := i) (by rw [c.hN j]; exact hi) (hv j) hd hcd, ?_⟩
  intro b F ρ σ X H r Q hb S e p
  unfold fMv at e
  cases q : ρ[i]? with
  | none => rw [q] at e; cases e
  | some t =>
    have ht : t ≠ .un := by
      rintro rfl
      rw [q] at e
      cases e
    have e2 : r = .ok t (ρ.set i .un) := by
      rw [q] at e
      cases t with
      | un => exact absurd rfl ht
      | _ => exact (Option.some.inj e).symm
    subst e2
    obtain ⟨s, fp, e1, r⟩ := S.slot q
    cases s with
    | none => exact absurd r.1 ht
    | some v =>
      have S' := S.take q e1
      refine ⟨v, e1, p v F H ?_ (Inc.refl F)⟩
      -- it is new
      obtain ⟨le, f0, fn, kept, stab, pin, fps, xps, s1, s2, ow, lc1, lc2⟩ := S'
      refine ⟨le, f0, fn, kept, stab, pin, fps, xps, s1, s2, ow, lc1, ?_⟩
      cases xps with
      | nil => exact trivial
      | cons f fs => exact lc2
/-- a thing of one's own becomes deep data -/
def fFz (f : List T → Option Re) : List T → Option Re := fun ρ => (f ρ).bind fun r => match r with
  | .ok t ρ' => t.fz.map fun d => .ok (.f d) ρ'
  | r => some r
theorem eo_fz (h : Eo c e fo) : Eo c e (fFz fo) := by
  obtain ⟨t, p, s⟩ := h
  refine ⟨t, p, ?_⟩
  intro b F ρ σ X H r Q hb S e k
  unfold fFz at e
  obtain ⟨r', e1, e⟩ := Option.bind_eq_some_iff.mp e
  refine s b F ρ σ X H r' Q hb S e1 ?_
  cases r' with
  | ok t ρ' =>
    obtain ⟨d, e2, e⟩ := Option.map_eq_some_iff.mp e
    subst e
    intro v F' H' S' i
    obtain ⟨F2, S2, i2⟩ := S'.frz rfl e2
    exact k v F2 H' S2 (i.trans i2)
  | xc C ρ' =>
    cases e
    exact k
end

/-! ### arguments -/
/-- a value, or what a slot holds (handed over for the call) -/
inductive Ar where
  | v (t : T)
  | s (j : Nat)
  | a (j : Nat)
inductive Rs where
  | ok (as : List Ar) (ρ : List T)
  | xc (C : Nat) (ρ : List T)
def Xv : List Ar → List V → List Tm
  | .v t :: r, v :: vs => ⟨none, t, v⟩ :: Xv r vs
  | .s _ :: r, _ :: vs => Xv r vs
  | .a _ :: r, _ :: vs => Xv r vs
  | _, _ => []
def Args (σ : St) : List Ar → List V → Prop
  | [], vs => vs = []
  | .v _ :: r, vs => ∃ v vr, vs = v :: vr ∧ Args σ r vr
  | .s j :: r, vs => ∃ v vr, vs = v :: vr ∧ σ[j]? = some (some v) ∧ Args σ r vr
  | .a j :: r, vs => ∃ v vr, vs = v :: vr ∧ σ[j]? = some (some v) ∧ Args σ r vr
def PostA (W : Wd) (b : Bs) (F : Hp) (σ : St) (X : List Tm) (Q : List V → Hp → Prop) (E : St → XK) : Rs → Prop
  | .ok as ρ => ∀ vs F' H', SR W b F' ρ σ (Xv as vs ++ X) H' → Args σ as vs → Inc F F' → Q vs H'
  | .xc C ρ => ∀ d F' H', SR W b F' ρ σ X H' → Inc F F' → E σ (.ref (W.cl C)) d H'
def Sa (W : Wd) (P : Sg) (E : St → XK) (t : TA) (f : List T → Option Rs) : Prop :=
  ∀ b F ρ σ X H r Q, Bok P b → SR W b F ρ σ X H → f ρ = some r → PostA W b F σ X Q E r → t σ H Q
def Ao (c : Ctx) (es : List Expr) (f : List T → Option Rs) : Prop := ∃ t, (∀ j, PA (c.X j) es t) ∧ Sa c.W c.P c.E t f
def bNil : List T → Option Rs := fun ρ => some (.ok [] ρ)
def bCons (f : List T → Option Re) (g : List T → Option Rs) : List T → Option Rs := fun ρ => (f ρ).bind fun r => match r with
  | .ok t ρ1 => (g ρ1).map fun r => match r with
    | .ok as ρ2 => .ok (.v t :: as) ρ2
    | r => r
  | .xc C ρ1 => some (.xc C ρ1)
def bSlot0 (i : Nat) (g : List T → Option Rs) : List T → Option Rs := fun ρ => (g ρ).map fun r => match r with
    | .ok as ρ2 => .ok (.s i :: as) ρ2
    | r => r
def bSlot (i : Nat) (g : List T → Option Rs) : List T → Option Rs := fun ρ => match ρ[i]? with
  | none => none
  | some .un => none
  | some _ => bSlot0 i g ρ
section
variable {c : Ctx} {a : Expr} {es : List Expr} {fo : List T → Option Re} {fs : List T → Option Rs}
theorem ao_nil : Ao c [] bNil := by
  refine ⟨_, fun _ => pa_nil, ?_⟩
  intro b F ρ σ X H r Q hb S e p
  cases e
  exact p [] F H S rfl (Inc.refl F)
theorem xc_drop {W : Wd} {b : Bs} {F : Hp} {ρ : List T} {σ : St} {Y X : List Tm} {H : Hp} (S : SR W b F ρ σ (Y ++ X) H) : SR W b F ρ σ X H := by
  induction Y with
  | nil => exact S
  | cons y Y ih => exact ih S.drop
theorem ao_cons (ha : Eo c a fo) (hr : Ao c es fs) (hs : ∀ j, starEach (a :: es) (c.X j).env = (false, eval a (c.X j).env) :: starEach es (c.X j).env := by intro _; rfl) : Ao c (a :: es) (bCons fo fs) := by
  obtain ⟨t, p, s⟩ := ha
  obtain ⟨u, q, s'⟩ := hr
  refine ⟨_, fun j => pa_cons (p j) (q j) (hs j), ?_⟩
  intro b F ρ σ X H r Q hb S e k
  unfold bCons at e
  obtain ⟨r1, e1, e⟩ := Option.bind_eq_some_iff.mp e
  refine s b F ρ σ X H r1 _ hb S e1 ?_
  cases r1 with
  | ok τ ρ1 =>
    obtain ⟨r2, e2, e⟩ := Option.map_eq_some_iff.mp e
    intro v F1 H1 S1 i1
    refine s' b F1 ρ1 σ (⟨none, τ, v⟩ :: X) H1 r2 _ hb S1 e2 ?_
    cases r2 with
    | ok as ρ2 =>
      subst e
      intro vs F2 H2 S2 g2 i2
      exact k (v :: vs) F2 H2 (S2.perm (List.perm_middle)) ⟨v, vs, rfl, g2⟩ (i1.trans i2)
    | xc C ρ2 =>
      subst e
      intro d F2 H2 S2 i2
      exact k d F2 H2 S2.drop (i1.trans i2)
  | xc C ρ1 =>
    cases e
    exact k
/-- a name's thing, handed over for the call -/
theorem ao_slot {i : Nat} {x : Str} {pos : Pos} (hi : c.N[i]? = some x) (hv : ∀ j, Vis (c.X j).env.scope x) (hr : Ao c es fs) (hs : ∀ j, starEach (.Name x pos :: es) (c.X j).env = (false, eval (.Name x pos) (c.X j).env) :: starEach es (c.X j).env := by intro _; rfl)
    (hd : (x == ("__debug__" : Str)) = false := by decide) (hcd : (x == ("__classdict__" : Str)) = false := by decide) : Ao c (.Name x pos :: es) (bSlot i fs) := by
  obtain ⟨u, q, s'⟩ := hr
  refine ⟨_, fun j => pa_cons (pe_var (i := i) (by rw [c.hN j]; exact hi) (hv j) hd hcd) (q j) (hs j), ?_⟩
  intro b F ρ σ X H r Q hb S e k
  unfold bSlot at e
  cases z : ρ[i]? with
  | none => rw [z] at e; cases e
  | some t =>
    have ht : t ≠ .un := by
      rintro rfl
      rw [z] at e
      cases e
    have e2 : bSlot0 i fs ρ = some r := by
      rw [z] at e
      cases t with
      | un => exact absurd rfl ht
      | _ => exact e
    unfold bSlot0 at e2
    obtain ⟨r2, e3, e4⟩ := Option.map_eq_some_iff.mp e2
    obtain ⟨s, fp, e1, rr⟩ := S.slot z
    cases s with
    | none => exact absurd rr.1 ht
    | some v =>
      refine ⟨v, e1, s' b F ρ σ X H r2 _ hb S e3 ?_⟩
      cases r2 with
      | ok as ρ2 =>
        subst e4
        intro vs F2 H2 S2 g2 i2
        exact k (v :: vs) F2 H2 S2 ⟨v, vs, rfl, e1, g2⟩ i2
      | xc C ρ2 =>
        subst e4
        exact k
/-- what the slots hold is taken out, the arguments lie in order -/
def takeF : List Ar → List T → Option (List T × List T)
  | [], ρ => some ([], ρ)
  | .v t :: r, ρ => (takeF r ρ).map fun p => (t :: p.1, p.2)
  | .s j :: r, ρ => match ρ[j]? with
    | none => none
    | some .un => none
    | some t => (takeF r (ρ.set j .un)).map fun p => (t :: p.1, p.2)
  | .a _ :: r, ρ => (takeF r ρ).map fun p => (.un :: p.1, p.2)
def Xo : List Ar → List T → List V → List Tm
  | .v _ :: r, t :: ts, v :: vs => ⟨none, t, v⟩ :: Xo r ts vs
  | .s j :: r, t :: ts, v :: vs => ⟨some j, t, v⟩ :: Xo r ts vs
  | .a _ :: r, t :: ts, v :: vs => ⟨none, t, v⟩ :: Xo r ts vs
  | _, _, _ => []
/-- .. and put back -/
def putF : List Ar → List T → List T → List T
  | .v _ :: r, _ :: ts, ρ => putF r ts ρ
  | .s j :: r, t :: ts, ρ => putF r ts (ρ.set j t)
  | .a _ :: r, _ :: ts, ρ => putF r ts ρ
  | _, _, ρ => ρ
theorem SR.pushUn {W : Wd} {b : Bs} {F : Hp} {ρ : List T} {σ : St} {X : List Tm} {H : Hp} (v : V) (S : SR W b F ρ σ X H) : SR W b F ρ σ (⟨none, .un, v⟩ :: X) H := by
  obtain ⟨le, f0, fn, kept, stab, pin, fps, xps, s1, s2, ⟨nd, ow⟩, lc1, lc2⟩ := S
  exact ⟨le, f0, fn, kept, stab, pin, fps, [] :: xps, s1, ⟨_, _, _, _, rfl, rfl, rfl, s2⟩, ⟨by rw [List.flatten_cons]; exact nd, fun a ha => ow a (by rw [List.flatten_cons] at ha; exact ha)⟩, lc1, ⟨fun a ha => (nomatch ha), lc2⟩⟩
theorem take_ok {W : Wd} {b : Bs} {F : Hp} {σ : St} {H : Hp} : ∀ {as : List Ar} {vs : List V} {ρ ρ' : List T} {ts : List T} {Y : List Tm}, SR W b F ρ σ (Xv as vs ++ Y) H → Args σ as vs → takeF as ρ = some (ts, ρ') →
    SR W b F ρ' σ (Xo as ts vs ++ Y) H ∧ (Xo as ts vs).map (·.t) = ts ∧ (Xo as ts vs).map (·.v) = vs
  | [], _, _, _, _, _, S, g, e => by
    cases e
    have g' : _ = [] := g
    subst g'
    exact ⟨S, rfl, rfl⟩
  | .v t :: r, _, ρ, _, _, Y, S, g, e => by
    obtain ⟨v, vr, e1, g⟩ := g
    subst e1
    obtain ⟨p, e2, e⟩ := Option.map_eq_some_iff.mp (show (takeF r ρ).map _ = _ from e)
    cases e
    obtain ⟨S', h1, h2⟩ := take_ok (Y := ⟨none, t, v⟩ :: Y) (S.perm List.perm_middle.symm) g e2
    exact ⟨S'.perm List.perm_middle, by show t :: _ = _; rw [h1], by show v :: _ = _; rw [h2]⟩
  | .s j :: r, _, ρ, ρz, tsz, Y, S, g, e => by
    obtain ⟨v, vr, e1, hv, g⟩ := g
    subst e1
    unfold takeF at e
    cases z : ρ[j]? with
    | none => rw [z] at e; cases e
    | some t =>
      have ht : t ≠ .un := by
        rintro rfl
        rw [z] at e
        cases e
      have e3 : (takeF r (ρ.set j .un)).map (fun p => (t :: p.1, p.2)) = some (tsz, ρz) := by
        rw [z] at e
        cases t with
        | un => exact absurd rfl ht
        | _ => exact e
      obtain ⟨p, e2, e⟩ := Option.map_eq_some_iff.mp e3
      cases e
      have S1 := S.take z hv
      obtain ⟨S', h1, h2⟩ := take_ok (as := r) (vs := vr) (Y := ⟨some j, t, v⟩ :: Y) (S1.perm List.perm_middle.symm) g e2
      exact ⟨S'.perm List.perm_middle, by show t :: _ = _; rw [h1], by show v :: _ = _; rw [h2]⟩
  | .a j :: r, _, ρ, _, _, Y, S, g, e => by
    obtain ⟨v, vr, e1, hv, g⟩ := g
    subst e1
    obtain ⟨p, e2, e⟩ := Option.map_eq_some_iff.mp (show (takeF r ρ).map _ = _ from e)
    cases e
    obtain ⟨S', h1, h2⟩ := take_ok (as := r) (vs := vr) (Y := ⟨none, .un, v⟩ :: Y) ((SR.pushUn v S).perm List.perm_middle.symm) g e2
    exact ⟨S'.perm List.perm_middle, by show T.un :: _ = _; rw [h1], by show v :: _ = _; rw [h2]⟩
theorem put_ok {W : Wd} {b : Bs} {F : Hp} {σ : St} {H : Hp} : ∀ {as : List Ar} {vs : List V} {ρ : List T} {ts us : List T} {Z Y : List Tm}, SR W b F ρ σ (Z ++ (setTs (Xo as ts vs) us ++ Y)) H → Args σ as vs → ts.length = as.length → us.length = as.length → SR W b F (putF as us ρ) σ (Z ++ Y) H
  | [], _, _, [], [], _, _, S, _, _, _ => S
  | [], _, _, _ :: _, _, _, _, _, _, h, _ => by cases h
  | [], _, _, [], _ :: _, _, _, _, _, _, h => by cases h
  | _ :: _, _, _, [], _, _, _, _, _, h, _ => by cases h
  | _ :: _, _, _, _ :: _, [], _, _, _, _, _, h => by cases h
  | .v t :: r, _, ρ, t1 :: ts, u :: us, Z, Y, S, g, h1, h2 => by
    obtain ⟨v, vr, e1, g⟩ := g
    subst e1
    have S' : SR W b F ρ σ (Z ++ (⟨none, u, v⟩ :: (setTs (Xo r ts vr) us ++ Y))) H := S
    exact put_ok (as := r) (S'.perm List.perm_middle).drop g (by simpa using h1) (by simpa using h2)
  | .s j :: r, _, ρ, t1 :: ts, u :: us, Z, Y, S, g, h1, h2 => by
    obtain ⟨v, vr, e1, hv, g⟩ := g
    subst e1
    have S' : SR W b F ρ σ (Z ++ (⟨some j, u, v⟩ :: (setTs (Xo r ts vr) us ++ Y))) H := S
    exact put_ok (as := r) ((S'.perm List.perm_middle).back hv) g (by simpa using h1) (by simpa using h2)
  | .a j :: r, _, ρ, t1 :: ts, u :: us, Z, Y, S, g, h1, h2 => by
    obtain ⟨v, vr, e1, hv, g⟩ := g
    subst e1
    have S' : SR W b F ρ σ (Z ++ (⟨none, u, v⟩ :: (setTs (Xo r ts vr) us ++ Y))) H := S
    exact put_ok (as := r) (S'.perm List.perm_middle).drop g (by simpa using h1) (by simpa using h2)
theorem take_len : ∀ {as : List Ar} {ρ ρ' ts : List T}, takeF as ρ = some (ts, ρ') → ts.length = as.length
  | [], _, _, _, e => by cases e; rfl
  | .v t :: r, ρ, _, _, e => by
    obtain ⟨p, e2, e⟩ := Option.map_eq_some_iff.mp (show (takeF r ρ).map _ = _ from e)
    cases e
    simp [take_len e2]
  | .s j :: r, ρ, _, _, e => by
    unfold takeF at e
    split at e
    · cases e
    · cases e
    · obtain ⟨p, e2, e⟩ := Option.map_eq_some_iff.mp e
      cases e
      simp [take_len e2]
  | .a j :: r, ρ, _, _, e => by
    obtain ⟨p, e2, e⟩ := Option.map_eq_some_iff.mp (show (takeF r ρ).map _ = _ from e)
    cases e
    simp [take_len e2]
end

/-! ### the promise of a def -/
def isF : T → Bool | .f _ => true | _ => false
/-- parameters that are not handed back are deep -/
def ioOk (io : List Nat) : Nat → List T → Bool
  | _, [] => true
  | i, t :: ts => (io.contains i || isF t) && ioOk io (i + 1) ts
def spF (W : Wd) (io : List Nat) (G : List T → Option Re) : Sp := fun vs H Q E => ∃ F ts fps r, Le F H ∧ RelTs W F H ts vs fps ∧ Own F fps.flatten ∧ ioOk io 0 ts = true ∧ G ts = some r ∧
  match r with
  | .ok τ us => ∀ v F' H', SR W (bsOf H F fps io vs) F' us (vs.map some) [⟨none, τ, v⟩] H' → Inc F F' → Q v H'
  | .xc C us => ∀ d F' H', SR W (bsOf H F fps io vs) F' us (vs.map some) [] H' → Inc F F' → E (.ref (W.cl C)) d H'

theorem SR.call {W : Wd} {b : Bs} {F : Hp} {ρ : List T} {σ : St} {Xa X : List Tm} {H : Hp} (S : SR W b F ρ σ (Xa ++ X) H) : ∃ xa, RelTs W F H (Xa.map (·.t)) (Xa.map (·.v)) xa ∧ Own F xa.flatten ∧
    ∀ io us F' τs H', (∀ x ∈ τs, x.og = none) → SR W (bsOf H F xa io (Xa.map (·.v))) F' us ((Xa.map (·.v)).map some) τs H' → SR W b F' ρ σ (τs ++ (setTs Xa us ++ X)) H' := by
  have S0 := S
  obtain ⟨le, f0, fn, kept, stab, pin, fps, xps, s1, s2, ⟨nd, ow⟩, lc1, lc2⟩ := S
  rw [List.map_append, List.map_append] at s2
  obtain ⟨xa, xr, e, q1, q2⟩ := RelTs.split (by simp) s2
  subst e
  rw [List.flatten_append] at nd ow
  have n := List.nodup_append.mp nd
  have n2 := List.nodup_append.mp n.2.1
  refine ⟨xa, q1, ⟨n2.1, fun a ha => ow a (List.mem_append_right _ (List.mem_append_left _ ha))⟩, fun io us F' τs H' hτ R => ?_⟩
  exact SR.callX S0 s1 q1 q2 ⟨by rw [List.flatten_append]; exact nd, fun a ha => ow a (by rw [List.flatten_append] at ha; exact ha)⟩ lc1 lc2 hτ R

def fCall (io : List Nat) (G : List T → Option Re) (fs : List T → Option Rs) : List T → Option Re := fun ρ => (fs ρ).bind fun r => match r with
  | .xc C ρ1 => some (.xc C ρ1)
  | .ok as ρ1 => (takeF as ρ1).bind fun p => if ioOk io 0 p.1 = true then (G p.1).bind fun r => match r with
    | .ok τ us => if us.length = as.length then some (.ok τ (putF as us p.2)) else none
    | .xc C us => if us.length = as.length then some (.xc C (putF as us p.2)) else none
    else none
theorem so_call {W : Wd} {P : Sg} {E : St → XK} {E' : XK} {t : TA} {io : List Nat} {G : List T → Option Re} {fs : List T → Option Rs} (hE : ∀ σ, E σ = E') (h : Sa W P E t fs) : So W P E (tCall (spF W io G) [] E' t) (fCall io G fs) := by
  intro b F ρ σ X H r Q hb S e k
  unfold fCall at e
  obtain ⟨r1, e1, e⟩ := Option.bind_eq_some_iff.mp e
  refine h b F ρ σ X H r1 _ hb S e1 ?_
  cases r1 with
  | xc C ρ1 =>
    cases e
    exact k
  | ok as ρ1 =>
    intro vs F1 H1 S1 g1 i1
    obtain ⟨⟨ts, ρ2⟩, e2, e⟩ := Option.bind_eq_some_iff.mp e
    obtain ⟨S2, h1, h2⟩ := take_ok S1 g1 e2
    split at e
    · rename_i hio
      obtain ⟨r2, e3, e⟩ := Option.bind_eq_some_iff.mp e
      obtain ⟨xa, q1, q2, q3⟩ := S2.call
      rw [h1, h2] at q1
      rw [h2] at q3
      rw [List.append_nil]
      refine ⟨F1, ts, xa, r2, S2.le, q1, q2, hio, e3, ?_⟩
      cases r2 with
      | ok τ us =>
        intro v F' H' R i2
        simp only at e
        split at e
        · rename_i hl
          cases e
          have S3 := q3 io us F' _ H' (fun x hx => by rw [List.mem_singleton.mp hx]) R
          exact k v F' H' (put_ok S3 g1 (take_len e2) hl) (i1.trans i2)
        · cases e
      | xc C us =>
        intro d F' H' R i2
        simp only at e
        split at e
        · rename_i hl
          cases e
          have S3 := q3 io us F' _ H' (fun x hx => by cases hx) R
          have S4 := put_ok (Z := []) S3 g1 (take_len e2) hl
          have := k d F' H' S4 (i1.trans i2)
          rw [hE σ] at this
          exact this
        · cases e
    · cases e
end Z

namespace Z
open PySem L2

inductive Out where
  | nx (ρ : List T)
  | rt (t : T) (ρ : List T)
  | bk (ρ : List T)
  | ct (ρ : List T)
  | xc (C : Nat) (ρ : List T)
def PostS (W : Wd) (b : Bs) (F : Hp) (X : List Tm) (D : Ends) (E : St → XK) : Out → Prop
  | .nx ρ => ∀ σ F' H, SR W b F' ρ σ X H → Inc F F' → D.nx σ H
  | .rt t ρ => ∀ v σ F' H, SR W b F' ρ σ (⟨none, t, v⟩ :: X) H → Inc F F' → D.rt v H
  | .bk ρ => ∀ σ F' H, SR W b F' ρ σ X H → Inc F F' → D.bk σ H
  | .ct ρ => ∀ σ F' H, SR W b F' ρ σ X H → Inc F F' → D.ct σ H
  | .xc C ρ => ∀ d σ F' H, SR W b F' ρ σ X H → Inc F F' → E σ (.ref (W.cl C)) d H
theorem PostS.mono {W : Wd} {b : Bs} {F F1 : Hp} {X : List Tm} {D : Ends} {E : St → XK} {o : Out} (h : PostS W b F X D E o) (i : Inc F F1) : PostS W b F1 X D E o := by
  cases o with
  | nx ρ => exact fun σ F' H S i' => h σ F' H S (i.trans i')
  | rt t ρ => exact fun v σ F' H S i' => h v σ F' H S (i.trans i')
  | bk ρ => exact fun σ F' H S i' => h σ F' H S (i.trans i')
  | ct ρ => exact fun σ F' H S i' => h σ F' H S (i.trans i')
  | xc C ρ => exact fun d σ F' H S i' => h d σ F' H S (i.trans i')
abbrev FS := List T → Option Out
def Ss (W : Wd) (P : Sg) (E : St → XK) (t : TS) (f : FS) : Prop :=
  ∀ b F ρ σ X H o D, Bok P b → SR W b F ρ σ X H → f ρ = some o → PostS W b F X D E o → t D σ H
def Sm (c : Ctx) (s : Stmt) (f : FS) : Prop := ∃ t, (∀ j, PS (c.X j) s t) ∧ Ss c.W c.P c.E t f
def Sms (c : Ctx) (s : List Stmt) (f : FS) : Prop := ∃ t, (∀ j, PSs (c.X j) s t) ∧ Ss c.W c.P c.E t f

section
variable {c : Ctx} {s : Stmt} {ss : List Stmt} {f g : FS} {e : Expr} {fo : List T → Option Re} {pos pos' : Pos}
def sNil : FS := fun ρ => some (.nx ρ)
def sSeq (f g : FS) : FS := fun ρ => (f ρ).bind fun o => match o with
  | .nx ρ1 => g ρ1
  | o => some o
theorem sms_nil : Sms c [] sNil := by
  refine ⟨_, fun _ => pss_nil, ?_⟩
  intro b F ρ σ X H o D hb S e p
  cases e
  exact p σ F H S (Inc.refl F)
theorem sms_one (h : Sm c s f) : Sms c [s] f := by
  obtain ⟨t, p, q⟩ := h
  exact ⟨t, fun j => pss_one (p j), q⟩
theorem sms_cons (h : Sm c s f) (k : Sms c ss g) : Sms c (s :: ss) (sSeq f g) := by
  obtain ⟨t, p, q⟩ := h
  obtain ⟨u, p', q'⟩ := k
  refine ⟨_, fun j => pss_cons (p j) (p' j), ?_⟩
  intro b F ρ σ X H o D hb S e k
  unfold sSeq at e
  obtain ⟨o1, e1, e⟩ := Option.bind_eq_some_iff.mp e
  refine q b F ρ σ X H o1 _ hb S e1 ?_
  cases o1 with
  | nx ρ1 => exact fun σ' F' H' S' i => q' b F' ρ1 σ' X H' o D hb S' e (k.mono i)
  | rt t ρ1 => cases e; exact k
  | bk ρ1 => cases e; exact k
  | ct ρ1 => cases e; exact k
  | xc C ρ1 => cases e; exact k
theorem sm_pass : Sm c (.Pass pos) sNil := by
  refine ⟨_, fun _ => ps_pass, ?_⟩
  intro b F ρ σ X H o D hb S e p
  cases e
  exact p σ F H S (Inc.refl F)
def sBk : FS := fun ρ => some (.bk ρ)
def sCt : FS := fun ρ => some (.ct ρ)
theorem sm_break : Sm c (.Break pos) sBk := by
  refine ⟨_, fun _ => ps_break, ?_⟩
  intro b F ρ σ X H o D hb S e p
  cases e
  exact p σ F H S (Inc.refl F)
theorem sm_cont : Sm c (.Continue pos) sCt := by
  refine ⟨_, fun _ => ps_continue, ?_⟩
  intro b F ρ σ X H o D hb S e p
  cases e
  exact p σ F H S (Inc.refl F)
/-- name = value -/
def sSet (i : Nat) (f : List T → Option Re) : FS := fun ρ => (f ρ).map fun r => match r with
  | .ok t ρ1 => .nx (ρ1.set i t)
  | .xc C ρ1 => .xc C ρ1
theorem notio {P : Sg} {b : Bs} {i : Nat} (hb : Bok P b) (h : i ∉ P.io) : ∀ p ∈ b.io, p.1 ≠ i := fun p hp e => h (by rw [← hb.2.1, ← e]; exact List.mem_map_of_mem hp)
theorem sm_set {i : Nat} {x : Str} (he : Eo c e fo) (hi : c.N[i]? = some x) (hx : ∀ j, L2.Loc (c.X j).env.scope x) (hio : i ∉ c.P.io) (hs : ∀ j, swapsWith e (some (.Name x pos')) pos.line (c.X j).env = pure false)
    (hf : ∀ j, (c.X j).fn x = true ∨ (c.X j).env.scope.names.lookup x = some .local) : Sm c (.Assign [.Name x pos'] e pos) (sSet i fo) := by
  obtain ⟨t, p, q⟩ := he
  refine ⟨_, fun j => ps_set (i := i) (c.hNd j) (by rw [c.hN j]; exact hi) (hx j) (p j) (hs j) (hf j), ?_⟩
  intro b F ρ σ X H o D hb S e k
  unfold sSet at e
  obtain ⟨r, e1, e⟩ := Option.map_eq_some_iff.mp e
  refine q b F ρ σ X H r _ hb S e1 ?_
  cases r with
  | ok τ ρ1 =>
    subst e
    exact fun v F' H' S' i' => k _ _ _ (S'.store (.inl rfl) (.inl (notio hb hio))) i'
  | xc C ρ1 =>
    subst e
    exact fun d F' H' S' i' => k d σ F' H' S' i'
/-- an expression whose value is dropped -/
def sExpr (f : List T → Option Re) : FS := fun ρ => (f ρ).map fun r => match r with
  | .ok t ρ1 => .nx ρ1
  | .xc C ρ1 => .xc C ρ1
theorem sm_expr (he : Eo c e fo) (hs : ∀ j, swapsWith e none pos.line (c.X j).env = pure false := by intro _; rfl) : Sm c (.Expr e pos) (sExpr fo) := by
  obtain ⟨t, p, q⟩ := he
  refine ⟨_, fun j => ps_expr (p j) (hs j), ?_⟩
  intro b F ρ σ X H o D hb S e k
  unfold sExpr at e
  obtain ⟨r, e1, e⟩ := Option.map_eq_some_iff.mp e
  refine q b F ρ σ X H r _ hb S e1 ?_
  cases r with
  | ok τ ρ1 =>
    subst e
    exact fun v F' H' S' i' => k _ _ _ S'.drop i'
  | xc C ρ1 =>
    subst e
    exact fun d F' H' S' i' => k d σ F' H' S' i'
def sRet (f : List T → Option Re) : FS := fun ρ => (f ρ).map fun r => match r with
  | .ok t ρ1 => .rt t ρ1
  | .xc C ρ1 => .xc C ρ1
theorem sm_ret (he : Eo c e fo) : Sm c (.Return (some e) pos) (sRet fo) := by
  obtain ⟨t, p, q⟩ := he
  refine ⟨_, fun j => ps_ret (p j), ?_⟩
  intro b F ρ σ X H o D hb S e k
  unfold sRet at e
  obtain ⟨r, e1, e⟩ := Option.map_eq_some_iff.mp e
  refine q b F ρ σ X H r _ hb S e1 ?_
  cases r with
  | ok τ ρ1 =>
    subst e
    exact fun v F' H' S' i' => k v σ F' H' S' i'
  | xc C ρ1 =>
    subst e
    exact fun d F' H' S' i' => k d σ F' H' S' i'
def sRetN : FS := fun ρ => some (.rt (.f .non) ρ)
theorem sm_retN : Sm c (.Return none pos) sRetN := by
  refine ⟨_, fun _ => ps_retN, ?_⟩
  intro b F ρ σ X H o D hb S e p
  cases e
  exact p .non σ F H (S.push rfl) (Inc.refl F)
/-- tests -/
inductive Rb where
  | ok (b : Bool) (ρ : List T)
  | xc (C : Nat) (ρ : List T)
def PostB (W : Wd) (b : Bs) (F : Hp) (σ : St) (X : List Tm) (Q : Bool → Hp → Prop) (E : St → XK) : Rb → Prop
  | .ok x ρ => ∀ F' H', SR W b F' ρ σ X H' → Inc F F' → Q x H'
  | .xc C ρ => ∀ d F' H', SR W b F' ρ σ X H' → Inc F F' → E σ (.ref (W.cl C)) d H'
def Sto (W : Wd) (P : Sg) (E : St → XK) (t : TT) (f : List T → Option Rb) : Prop :=
  ∀ b F ρ σ X H r Q, Bok P b → SR W b F ρ σ X H → f ρ = some r → PostB W b F σ X Q E r → t σ H Q
def To (c : Ctx) (e : Expr) (f : List T → Option Rb) : Prop := ∃ t, (∀ j, PT (c.X j) e t) ∧ Sto c.W c.P c.E t f
def liftB (f : List T → Option Bool) : List T → Option Rb := fun ρ => (f ρ).map fun x => .ok x ρ
theorem Tv.o {fb : List T → Option Bool} (h : Tv c e fb) : To c e (liftB fb) := by
  obtain ⟨t, p, q⟩ := h
  refine ⟨t, p, ?_⟩
  intro b F ρ σ X H r Q hb S e k
  unfold liftB at e
  obtain ⟨x, e1, e⟩ := Option.map_eq_some_iff.mp e
  subst e
  exact q b F ρ σ X H x Q S e1 fun F' H' S' i s => k F' H' S' i
def oTest (f : List T → Option Re) : List T → Option Rb := fun ρ => (f ρ).bind fun r => match r with
  | .ok t ρ1 => t.b?.map fun x => .ok x ρ1
  | .xc C ρ1 => some (.xc C ρ1)
theorem to_val (ha : Eo c e fo) (he : ∀ j whole, isTrue e (c.X j).env whole = (do let v ← whole; standAt e.pos; holding [v] (truthy v))) : To c e (oTest fo) := by
  obtain ⟨ta, pa, sa⟩ := ha
  refine ⟨_, fun j => pt_val (pa j) (he j), ?_⟩
  intro b F ρ σ X H r Q hb S e k
  unfold oTest at e
  obtain ⟨r1, e1, e⟩ := Option.bind_eq_some_iff.mp e
  refine sa b F ρ σ X H r1 _ hb S e1 ?_
  cases r1 with
  | ok τ ρ1 =>
    obtain ⟨x, e2, e⟩ := Option.map_eq_some_iff.mp e
    subst e
    intro v F' H' S' i'
    have hx : τ = .f (.bl x) := by
      cases τ with
      | f d => cases d with
        | bl y => cases e2; rfl
        | _ => cases e2
      | _ => cases e2
    subst hx
    exact ⟨x, S'.top, k F' H' S'.drop i'⟩
  | xc C ρ1 =>
    cases e
    exact k
def oNot (f : List T → Option Rb) : List T → Option Rb := fun ρ => (f ρ).map fun r => match r with
  | .ok x ρ1 => .ok (!x) ρ1
  | r => r
theorem to_not {ga : List T → Option Rb} (ha : To c e ga) : To c (.UnaryOp .Not e pos) (oNot ga) := by
  obtain ⟨t, p, s⟩ := ha
  refine ⟨_, fun j => pt_not (p j), ?_⟩
  intro b F ρ σ X H r Q hb S e k
  unfold oNot at e
  obtain ⟨r1, e1, e⟩ := Option.map_eq_some_iff.mp e
  subst e
  refine s b F ρ σ X H r1 _ hb S e1 ?_
  cases r1 with
  | ok x ρ1 => exact fun F' H' S' i => k F' H' S' i
  | xc C ρ1 => exact k
def Wo (c : Ctx) (e : Expr) (f : List T → Option Rb) : Prop := ∃ t, (∀ j, PW (c.X j) e t) ∧ Sto c.W c.P c.E t f
theorem Wo.to {ga : List T → Option Rb} (h : Wo c e ga) : To c e ga := by
  obtain ⟨t, p, s⟩ := h
  exact ⟨t, fun j => (p j).pt, s⟩
theorem wo_and1 {ga : List T → Option Rb} (ha : To c e ga) : Wo c (.BoolOp .And [e] pos) ga := by
  obtain ⟨t, p, s⟩ := ha
  exact ⟨t, fun j => pw_and1 (p j), s⟩
theorem wo_or1 {ga : List T → Option Rb} (ha : To c e ga) : Wo c (.BoolOp .Or [e] pos) ga := by
  obtain ⟨t, p, s⟩ := ha
  exact ⟨t, fun j => pw_or1 (p j), s⟩
def oAnd (ga gb : List T → Option Rb) : List T → Option Rb := fun ρ => (ga ρ).bind fun r => match r with
  | .ok true ρ1 => gb ρ1
  | r => some r
def oOr (ga gb : List T → Option Rb) : List T → Option Rb := fun ρ => (ga ρ).bind fun r => match r with
  | .ok false ρ1 => gb ρ1
  | r => some r
theorem wo_and {ga gb : List T → Option Rb} {b : Expr} {rest : List Expr} (ha : To c e ga) (hb : Wo c (.BoolOp .And (b :: rest) pos) gb) : Wo c (.BoolOp .And (e :: b :: rest) pos) (oAnd ga gb) := by
  obtain ⟨t, p, s⟩ := ha
  obtain ⟨u, q, s'⟩ := hb
  refine ⟨_, fun j => pw_and (p j) (q j), ?_⟩
  intro b F ρ σ X H r Q hb S e k
  unfold oAnd at e
  obtain ⟨x, e1, e⟩ := Option.bind_eq_some_iff.mp e
  refine s b F ρ σ X H x _ hb S e1 ?_
  cases x with
  | ok x ρ1 =>
    cases x with
    | true => exact fun F1 H1 S1 i1 => iteT (s' b F1 ρ1 σ X H1 r Q hb S1 e (by
        cases r with
        | ok y ρ2 => exact fun F2 H2 S2 i2 => k F2 H2 S2 (i1.trans i2)
        | xc C ρ2 => exact fun d F2 H2 S2 i2 => k d F2 H2 S2 (i1.trans i2)))
    | false =>
      cases e
      exact fun F1 H1 S1 i1 => iteF (k F1 H1 S1 i1)
  | xc C ρ1 =>
    cases e
    exact k
theorem wo_or {ga gb : List T → Option Rb} {b : Expr} {rest : List Expr} (ha : To c e ga) (hb : Wo c (.BoolOp .Or (b :: rest) pos) gb) : Wo c (.BoolOp .Or (e :: b :: rest) pos) (oOr ga gb) := by
  obtain ⟨t, p, s⟩ := ha
  obtain ⟨u, q, s'⟩ := hb
  refine ⟨_, fun j => pw_or (p j) (q j), ?_⟩
  intro b F ρ σ X H r Q hb S e k
  unfold oOr at e
  obtain ⟨x, e1, e⟩ := Option.bind_eq_some_iff.mp e
  refine s b F ρ σ X H x _ hb S e1 ?_
  cases x with
  | ok x ρ1 =>
    cases x with
    | false => exact fun F1 H1 S1 i1 => iteF (s' b F1 ρ1 σ X H1 r Q hb S1 e (by
        cases r with
        | ok y ρ2 => exact fun F2 H2 S2 i2 => k F2 H2 S2 (i1.trans i2)
        | xc C ρ2 => exact fun d F2 H2 S2 i2 => k d F2 H2 S2 (i1.trans i2)))
    | true =>
      cases e
      exact fun F1 H1 S1 i1 => iteT (k F1 H1 S1 i1)
  | xc C ρ1 =>
    cases e
    exact k
def sIf (t : List T → Option Rb) (f g : FS) : FS := fun ρ => (t ρ).bind fun r => match r with
  | .ok x ρ1 => if x = true then f ρ1 else g ρ1
  | .xc C ρ1 => some (.xc C ρ1)
theorem sm_if {ft : List T → Option Rb} {as bs : List Stmt} (ht : To c e ft) (hf : Sms c as f) (hg : Sms c bs g) : Sm c (.If e as bs pos) (sIf ft f g) := by
  obtain ⟨t0, p0, q0⟩ := ht
  obtain ⟨t, p, q⟩ := hf
  obtain ⟨u, p', q'⟩ := hg
  refine ⟨_, fun j => ps_if (p0 j) (p j) (p' j), ?_⟩
  intro b F ρ σ X H o D hb S e k
  unfold sIf at e
  obtain ⟨r, e1, e⟩ := Option.bind_eq_some_iff.mp e
  refine q0 b F ρ σ X H r _ hb S e1 ?_
  cases r with
  | ok x ρ1 =>
    intro F' H' S' i'
    cases x with
    | true => exact iteT (q b F' ρ1 σ X H' o D hb S' e (k.mono i'))
    | false => exact iteF (q' b F' ρ1 σ X H' o D hb S' e (k.mono i'))
  | xc C ρ1 =>
    cases e
    exact fun d F' H' S' i' => k d σ F' H' S' i'

/-! ### while -/
def whileF (ft : List T → Option Rb) (fb : FS) : Nat → FS
  | 0, _ => none
  | n + 1, ρ => (ft ρ).bind fun r => match r with
    | .xc C ρ1 => some (.xc C ρ1)
    | .ok false ρ1 => some (.nx ρ1)
    | .ok true ρ1 => (fb ρ1).bind fun o => match o with
      | .nx ρ2 => whileF ft fb n ρ2
      | .ct ρ2 => whileF ft fb n ρ2
      | .bk ρ2 => some (.nx ρ2)
      | o => some o
/-- μ: how many looks are enough -/
def sWhile (μ : List T → Nat) (ft : List T → Option Rb) (fb : FS) : FS := fun ρ => whileF ft fb (μ ρ) ρ
theorem ss_while {W : Wd} {P : Sg} {E : St → XK} {tc : TT} {tb : TS} {ft : List T → Option Rb} {fb : FS} (μ : List T → Nat) (q0 : Sto W P E tc ft) (q : Ss W P E tb fb) : Ss W P E (tWhile tc tb) (sWhile μ ft fb) := by
  intro b F ρ σ X H o D hb S e k
  refine ⟨fun m σ' H' => ∃ F' ρ', SR W b F' ρ' σ' X H' ∧ Inc F F' ∧ whileF ft fb m ρ' = some o, ⟨μ ρ, F, ρ, S, Inc.refl F, e⟩, ?_⟩
  rintro m σ1 H1 ⟨F1, ρ1, S1, i1, e1⟩
  cases m with
  | zero => cases e1
  | succ m =>
    unfold whileF at e1
    obtain ⟨r, e2, e1⟩ := Option.bind_eq_some_iff.mp e1
    refine q0 b F1 ρ1 σ1 X H1 r _ hb S1 e2 ?_
    cases r with
    | xc C ρ2 =>
      cases e1
      exact fun d F' H' S' i' => k d σ1 F' H' S' (i1.trans i')
    | ok x ρ2 =>
      intro F2 H2 S2 i2
      cases x with
      | false =>
        cases e1
        exact iteF (k σ1 F2 H2 S2 (i1.trans i2))
      | true =>
        refine iteT ⟨fun σ' H' => ∃ F' ρ', SR W b F' ρ' σ' X H' ∧ Inc F F' ∧ whileF ft fb m ρ' = some o, fun σ' H' h => ⟨m, Nat.lt_succ_self m, h⟩, ?_⟩
        obtain ⟨o1, e3, e4⟩ := Option.bind_eq_some_iff.mp e1
        refine q b F2 ρ2 σ1 X H2 o1 _ hb S2 e3 ?_
        cases o1 with
        | nx ρ3 => exact fun σ' F' H' S' i' => ⟨F', ρ3, S', (i1.trans i2).trans i', e4⟩
        | ct ρ3 => exact fun σ' F' H' S' i' => ⟨F', ρ3, S', (i1.trans i2).trans i', e4⟩
        | bk ρ3 =>
          cases e4
          exact fun σ' F' H' S' i' => k σ' F' H' S' ((i1.trans i2).trans i')
        | rt t ρ3 =>
          cases e4
          exact fun v σ' F' H' S' i' => k v σ' F' H' S' ((i1.trans i2).trans i')
        | xc C ρ3 =>
          cases e4
          exact fun d σ' F' H' S' i' => k d σ' F' H' S' ((i1.trans i2).trans i')
theorem sm_while {ft : List T → Option Rb} {as : List Stmt} (μ : List T → Nat) (hp : ∀ j, PassesOwn (model (c.X j).prog (c.X j).w) (c.X j).A (c.X j).env (c.X j).xe) (ht : To c e ft) (hf : Sms c as f) : Sm c (.While e as [] pos) (sWhile μ ft f) := by
  obtain ⟨t0, p0, q0⟩ := ht
  obtain ⟨t, p, q⟩ := hf
  exact ⟨_, fun j => ps_while (hp j) (p0 j) (p j), ss_while μ q0 q⟩
end

/-! ### targets -/
def Sgt (W : Wd) (P : Sg) (g : TG) (f : T → List T → Option (List T)) : Prop :=
  ∀ b F ρ ρ' σ X H t v Q, Bok P b → SR W b F ρ σ (⟨none, t, v⟩ :: X) H → f t ρ = some ρ' → (∀ σ' F' H', SR W b F' ρ' σ' X H' → Inc F F' → Q σ' H') → g v σ H Q
def Gt (c : Ctx) (e : Expr) (f : T → List T → Option (List T)) : Prop := ∃ g, (∀ j, PG (c.X j) e g) ∧ Sgt c.W c.P g f
def gSet (i : Nat) : T → List T → Option (List T) := fun t ρ => some (ρ.set i t)
/-- several things on the way -/
def Xn : List T → List V → List Tm
  | t :: ts, v :: vs => ⟨none, t, v⟩ :: Xn ts vs
  | _, _ => []
def Sgts (W : Wd) (P : Sg) (g : TGs) (f : List T → List T → Option (List T)) : Prop :=
  ∀ b F ρ ρ' σ X H ts vs Q, Bok P b → ts.length = vs.length → SR W b F ρ σ (Xn ts vs ++ X) H → f ts ρ = some ρ' → (∀ σ' F' H', SR W b F' ρ' σ' X H' → Inc F F' → Q σ' H') → g vs σ H Q
def Gts (c : Ctx) (es : List Expr) (f : List T → List T → Option (List T)) : Prop := ∃ g, (∀ j, PGs (c.X j) es g) ∧ Sgts c.W c.P g f
section
variable {c : Ctx} {e : Expr} {es : List Expr} {pos : Pos} {f : T → List T → Option (List T)} {fs : List T → List T → Option (List T)}
theorem gt_name {i : Nat} {x : Str} (hi : c.N[i]? = some x) (hx : ∀ j, L2.Loc (c.X j).env.scope x) (hio : i ∉ c.P.io) (hf : ∀ j, (c.X j).fn x = true ∨ (c.X j).env.scope.names.lookup x = some .local) : Gt c (.Name x pos) (gSet i) := by
  refine ⟨_, fun j => pg_name (i := i) (c.hNd j) (by rw [c.hN j]; exact hi) (hx j) (hf j), ?_⟩
  intro b F ρ ρ' σ X H t v Q hb S e k
  cases e
  exact k _ _ _ (S.store (.inl rfl) (.inl (notio hb hio))) (Inc.refl F)
def gsNil : List T → List T → Option (List T) := fun ts ρ => match ts with | [] => some ρ | _ => none
def gsCons (f : T → List T → Option (List T)) (g : List T → List T → Option (List T)) : List T → List T → Option (List T) := fun ts ρ => match ts with
  | t :: ts => (f t ρ).bind fun ρ1 => g ts ρ1
  | [] => none
theorem gts_nil : Gts c [] gsNil := by
  refine ⟨_, fun _ => pgs_nil, ?_⟩
  intro b F ρ ρ' σ X H ts vs Q hb hl S e k
  cases ts with
  | nil =>
    cases vs with
    | nil =>
      cases e
      exact ⟨rfl, k _ _ _ S (Inc.refl F)⟩
    | cons _ _ => cases hl
  | cons _ _ => cases e
theorem gts_cons (h : Gt c e f) (k : Gts c es fs) (hs : ∀ j, (assignEach (e :: es) (c.X j).env).map (·.2) = assign e (c.X j).env :: (assignEach es (c.X j).env).map (·.2) := by intro _; rfl) : Gts c (e :: es) (gsCons f fs) := by
  obtain ⟨g, p, q⟩ := h
  obtain ⟨g', p', q'⟩ := k
  refine ⟨_, fun j => pgs_cons (p j) (p' j) (hs j), ?_⟩
  intro b F ρ ρ' σ X H ts vs Q hb hl S e k
  cases ts with
  | nil => cases e
  | cons t ts =>
    cases vs with
    | nil => cases hl
    | cons v vs =>
      obtain ⟨ρ1, e1, e⟩ := Option.bind_eq_some_iff.mp (show (f t ρ).bind _ = _ from e)
      refine ⟨v, vs, rfl, q b F ρ ρ1 σ (Xn ts vs ++ X) H t v _ hb S e1 fun σ' F' H' S' i => ?_⟩
      exact q' b F' ρ1 ρ' σ' X H' ts vs Q hb (by simpa using hl) S' e fun σ2 F2 H2 S2 i2 => k σ2 F2 H2 S2 (i.trans i2)
theorem SR.pushes {W : Wd} {b : Bs} {F : Hp} {ρ : List T} {σ : St} {H : Hp} : ∀ {ds : List D} {vs : List V} {X : List Tm}, SR W b F ρ σ X H → Reps W F ds vs → SR W b F ρ σ (Xn (ds.map .f) vs ++ X) H
  | [], _, _, S, r => by
    have r' : _ = [] := r
    subst r'
    exact S
  | d :: ds, _, _, S, r => by
    obtain ⟨v, vr, e, a, q⟩ := r
    subst e
    exact (SR.pushes S q).push a
/-- (a, b, ..) = a deep tuple -/
def gTupT (n : Nat) (f : List T → List T → Option (List T)) : T → List T → Option (List T) := fun t ρ => match t with
  | .f (.tup ds) => if ds.length = n then f (ds.map .f) ρ else none
  | _ => none
theorem gt_tup {n m : Nat} (h : Gts c es fs) (hn : ∀ j, (assignEach es (c.X j).env).length = n := by intro _; rfl) (hst : ∀ j, (assignEach es (c.X j).env).findIdx? (·.1) = none := by intro _; rfl) : Gt c (.Tuple es m pos) (gTupT n fs) := by
  obtain ⟨g, p, q⟩ := h
  refine ⟨L2.gTup c.W.K n g, fun j => ?_, ?_⟩
  · have := pg_tup (pos := pos) (k := m) (c.calm j) (p j) (hn j) (hst j)
    rw [c.hK j] at this
    exact this
  intro b F ρ ρ' σ X H t v Q hb S e k
  unfold gTupT at e
  cases t with
  | f d => cases d with
    | tup ds =>
      simp only at e
      split at e
      · rename_i hl
        obtain ⟨p, vs, ex, hs, r⟩ := S.top
        refine ⟨p, vs, ex, SqT.le S.le hs, by rw [← r.len]; exact hl, ?_⟩
        exact q b F ρ ρ' σ X H (ds.map .f) vs Q hb (by rw [List.length_map]; exact r.len) (S.drop.pushes r) e k
      · cases e
    | _ => cases e
  | _ => cases e
end

/-! ### what is walked -/
structure Wk (W : Wd) (F0 : Hp) (J : It) (ds : List D) : Prop where
  go : ∀ i F H, Inc F0 F → Le F H → i < ds.length → J.go i H
  stop : ∀ F H, Inc F0 F → Le F H → J.stop ds.length H
  yld : ∀ i F H x H' d, Inc F0 F → Le F H → ds[i]? = some d → J.yld i H x H' → (H' = H ∧ Rep W F d x) ∨ ∃ p o, H p = none ∧ H' = upd H p o ∧ x = .ref p ∧ (Inc F (upd F p o) → Rep W (upd F p o) d (.ref p))
inductive Ri where
  | ok (ds : List D) (ρ : List T)
  | xc (C : Nat) (ρ : List T)
def PostI (W : Wd) (b : Bs) (F : Hp) (σ : St) (X : List Tm) (R : It → Hp → Prop) (E : St → XK) : Ri → Prop
  | .ok ds ρ => ∀ J F' H', SR W b F' ρ σ X H' → Inc F F' → Wk W F' J ds → R J H'
  | .xc C ρ => ∀ d F' H', SR W b F' ρ σ X H' → Inc F F' → E σ (.ref (W.cl C)) d H'
def Si (W : Wd) (P : Sg) (E : St → XK) (wi : TI) (f : List T → Option Ri) : Prop :=
  ∀ b F ρ σ X H r R, Bok P b → SR W b F ρ σ X H → f ρ = some r → PostI W b F σ X R E r → wi σ H R
def Iw (c : Ctx) (tg e : Expr) (f : List T → Option Ri) : Prop := ∃ wi, (∀ j, PI (c.X j) tg e wi) ∧ Si c.W c.P c.E wi f

def forF (fg : T → List T → Option (List T)) (fb : FS) : List D → FS
  | [], ρ => some (.nx ρ)
  | d :: ds, ρ => (fg (.f d) ρ).bind fun ρ1 => (fb ρ1).bind fun o => match o with
    | .nx ρ2 => forF fg fb ds ρ2
    | .ct ρ2 => forF fg fb ds ρ2
    | .bk ρ2 => some (.nx ρ2)
    | o => some o
def sFor (fi : List T → Option Ri) (fg : T → List T → Option (List T)) (fb : FS) : FS := fun ρ => (fi ρ).bind fun r => match r with
  | .ok ds ρ1 => forF fg fb ds ρ1
  | .xc C ρ1 => some (.xc C ρ1)
section
variable {c : Ctx} {tg e : Expr} {ss : List Stmt} {pos : Pos} {fi : List T → Option Ri} {fg : T → List T → Option (List T)} {fb : FS}
theorem Wk.item {W : Wd} {b : Bs} {F0 F : Hp} {ρ : List T} {σ : St} {X : List Tm} {H H' : Hp} {J : It} {ds : List D} {i : Nat} {d : D} {x : V} (w : Wk W F0 J ds) (S : SR W b F ρ σ X H) (hi : Inc F0 F) (hd : ds[i]? = some d) (y : J.yld i H x H') :
    ∃ F', SR W b F' ρ σ (⟨none, .f d, x⟩ :: X) H' ∧ Inc F F' := by
  rcases w.yld i F H x H' d hi S.le hd y with ⟨e, r⟩ | ⟨p, o, hp, e, ex, r⟩
  · subst e
    exact ⟨F, S.push r, Inc.refl F⟩
  · subst e ex
    obtain ⟨S', i', s'⟩ := S.laid (o := o) hp
    exact ⟨_, S'.push (r i'), i'⟩
theorem ss_for {W : Wd} {P : Sg} {E : St → XK} {wi : TI} {g : TG} {tb : TS} (hi : Si W P E wi fi) (hg : Sgt W P g fg) (hb : Ss W P E tb fb) : Ss W P E (tFor wi g tb) (sFor fi fg fb) := by
  intro b F ρ σ X H o D bok S e k
  unfold sFor at e
  obtain ⟨r, e1, e⟩ := Option.bind_eq_some_iff.mp e
  refine hi b F ρ σ X H r _ bok S e1 ?_
  cases r with
  | xc C ρ1 =>
    cases e
    exact fun d F' H' S' i' => k d σ F' H' S' i'
  | ok ds ρ1 =>
    intro J F1 H1 S1 i1 wk
    refine ⟨fun i m σ' H' => m = ds.length - i ∧ i ≤ ds.length ∧ ∃ F' ρ', SR W b F' ρ' σ' X H' ∧ Inc F1 F' ∧ forF fg fb (ds.drop i) ρ' = some o, ⟨ds.length, by simp, Nat.zero_le _, F1, ρ1, S1, Inc.refl F1, e⟩, ?_⟩
    rintro i m σ2 H2 ⟨rfl, hi2, F2, ρ2, S2, i2, e2⟩
    by_cases hlt : i < ds.length
    · refine .inr ⟨wk.go i F2 H2 i2 S2.le hlt, fun σ' H' => i + 1 ≤ ds.length ∧ ∃ F' ρ', SR W b F' ρ' σ' X H' ∧ Inc F1 F' ∧ forF fg fb (ds.drop (i + 1)) ρ' = some o, fun σ' H' h => ⟨ds.length - (i + 1), by omega, rfl, h⟩, fun x H3 y => ?_⟩
      have hd : ds[i]? = some ds[i] := List.getElem?_eq_getElem hlt
      rw [List.drop_eq_getElem_cons hlt] at e2
      unfold forF at e2
      obtain ⟨ρ3, e3, e2⟩ := Option.bind_eq_some_iff.mp e2
      obtain ⟨o1, e4, e2⟩ := Option.bind_eq_some_iff.mp e2
      obtain ⟨F3, S3, i3⟩ := wk.item S2 i2 hd y
      refine hg b F3 ρ2 ρ3 σ2 X H3 _ x _ bok S3 e3 fun σ4 F4 H4 S4 i4 => ?_
      have i14 := i2.trans (i3.trans i4)
      refine hb b F4 ρ3 σ4 X H4 o1 _ bok S4 e4 ?_
      cases o1 with
      | nx ρ5 => exact fun σ' F' H' S' i' => ⟨hlt, F', ρ5, S', i14.trans i', e2⟩
      | ct ρ5 => exact fun σ' F' H' S' i' => ⟨hlt, F', ρ5, S', i14.trans i', e2⟩
      | bk ρ5 =>
        cases e2
        exact fun σ' F' H' S' i' => k σ' F' H' S' ((i1.trans i14).trans i')
      | rt t ρ5 =>
        cases e2
        exact fun v σ' F' H' S' i' => k v σ' F' H' S' ((i1.trans i14).trans i')
      | xc C ρ5 =>
        cases e2
        exact fun d σ' F' H' S' i' => k d σ' F' H' S' ((i1.trans i14).trans i')
    · have hi3 : i = ds.length := by omega
      subst hi3
      rw [List.drop_length] at e2
      cases e2
      exact .inl ⟨wk.stop F2 H2 i2 S2.le, k σ2 F2 H2 S2 (i1.trans i2)⟩
theorem sm_for (hp : ∀ j, PassesOwn (model (c.X j).prog (c.X j).w) (c.X j).A (c.X j).env (c.X j).xe) (hi : Iw c tg e fi) (hg : Gt c tg fg) (hb : Sms c ss fb) (hs : ∀ j x, foldedSetIterable e (c.X j).env x = pure x := by intro _ _; rfl) : Sm c (.For tg e ss [] pos) (sFor fi fg fb) := by
  obtain ⟨wi, p1, q1⟩ := hi
  obtain ⟨g, p2, q2⟩ := hg
  obtain ⟨t, p3, q3⟩ := hb
  exact ⟨_, fun j => ps_for (hp j) (c.calm j) (p1 j) (p2 j) (p3 j) (hs j), ss_for q1 q2 q3⟩
end
end Z

namespace Z
open PySem L2

/-! ### ready expressions -/
section
variable {c : Ctx} {a e' : Expr} {es : List Expr} {fa fb : List T → Option T} {fs : List T → Option (List T)} {pos : Pos}
theorem ev_add (ha : Ev c a fa) (hb : Ev c e' fb) : Ev c (.BinOp a .Add e' pos) (f2 gAdd fa fb) := ev_op (fun j => by have h := op_addU (X := c.X j); rw [c.hK j] at h; exact h) s2_add ha hb
theorem ev_sub (ha : Ev c a fa) (hb : Ev c e' fb) : Ev c (.BinOp a .Sub e' pos) (f2 gSub fa fb) := ev_op (fun _ => op_sub) s2_sub ha hb
theorem ev_mul (ha : Ev c a fa) (hb : Ev c e' fb) : Ev c (.BinOp a .Mult e' pos) (f2 gMul fa fb) := ev_op (fun _ => op_mulX) s2_mul ha hb
theorem ev_div (ha : Ev c a fa) (hb : Ev c e' fb) : Ev c (.BinOp a .FloorDiv e' pos) (f2 gDiv fa fb) := ev_op (fun _ => op_fdivW) s2_div ha hb
theorem ev_mod (ha : Ev c a fa) (hb : Ev c e' fb) : Ev c (.BinOp a .Mod e' pos) (f2 gMod fa fb) := ev_op (fun _ => op_mod) s2_mod ha hb
theorem ev_pow (ha : Ev c a fa) (hb : Ev c e' fb) : Ev c (.BinOp a .Pow e' pos) (f2 gPow fa fb) := ev_op (fun _ => op_pow) s2_pow ha hb
theorem ev_shl (ha : Ev c a fa) (hb : Ev c e' fb) : Ev c (.BinOp a .LShift e' pos) (f2 gShl fa fb) := ev_op (fun _ => op_shl) s2_shl ha hb
theorem ev_shr (ha : Ev c a fa) (hb : Ev c e' fb) : Ev c (.BinOp a .RShift e' pos) (f2 gShr fa fb) := ev_op (fun _ => op_shr) s2_shr ha hb
theorem ev_band (ha : Ev c a fa) (hb : Ev c e' fb) : Ev c (.BinOp a .BitAnd e' pos) (f2 gBAnd fa fb) := ev_op (fun _ => op_and) s2_band ha hb
theorem ev_bor (ha : Ev c a fa) (hb : Ev c e' fb) : Ev c (.BinOp a .BitOr e' pos) (f2 gBOr fa fb) := ev_op (fun _ => op_or) s2_bor ha hb
theorem ev_bxor (ha : Ev c a fa) (hb : Ev c e' fb) : Ev c (.BinOp a .BitXor e' pos) (f2 gBXor fa fb) := ev_op (fun _ => op_xor) s2_bxor ha hb
theorem ev_neg (ha : Ev c a fa) : Ev c (.UnaryOp .USub a pos) (f1 gNeg fa) := ev_un (fun _ => un_neg) s1_neg ha
/-- comparisons: the rule and its function -/
structure CmpR (c : Ctx) (op : CmpOp) (g : T → T → Option T) : Prop where
  ex : ∃ r, (∀ j, OpR (c.X j) (compareOp op) r) ∧ S2 c.W r g
theorem c_lt : CmpR c .Lt gLt := ⟨_, fun _ => op_lt, s2_lt⟩
theorem c_le : CmpR c .LtE gLe := ⟨_, fun _ => op_le, s2_le⟩
theorem c_gt : CmpR c .Gt gGt := ⟨_, fun _ => op_gt, s2_gt⟩
theorem c_ge : CmpR c .GtE gGe := ⟨_, fun _ => op_ge, s2_ge⟩
theorem c_eq : CmpR c .Eq gEq := ⟨_, fun j => by have h := op_eqU (X := c.X j) (c.hu j); rw [c.hK j] at h; exact h, s2_eq⟩
theorem c_ne : CmpR c .NotEq gNe := ⟨_, fun j => by have h := op_neU (X := c.X j) (c.hu j); rw [c.hK j] at h; exact h, s2_ne⟩
theorem c_in : CmpR c .In gIn := ⟨_, fun j => by have h := op_inU (X := c.X j) (c.hu1 j); rw [c.hK j] at h; exact h, s2_in⟩
theorem c_notIn : CmpR c .NotIn gNotIn := ⟨_, fun j => by have h := op_notInU (X := c.X j) (c.hu1 j); rw [c.hK j] at h; exact h, s2_notIn⟩
theorem ev_c {op : CmpOp} {g : T → T → Option T} (r : CmpR c op g) (ha : Ev c a fa) (hb : Ev c e' fb) (hm : behindInMarks op e' = false := by first | exact nomark _ | with_unfolding_all rfl) : Ev c (.Compare a [op] [e'] pos) (f2 g fa fb) := by
  obtain ⟨_, h1, h2⟩ := r.ex
  exact ev_cmp h1 h2 ha hb hm
theorem tv_c {op : CmpOp} {g : T → T → Option T} (r : CmpR c op g) (ha : Ev c a fa) (hb : Ev c e' fb) (hm : behindInMarks op e' = false := by first | exact nomark _ | with_unfolding_all rfl) : Tv c (.Compare a [op] [e'] pos) (fT (f2 g fa fb)) := by
  obtain ⟨_, h1, h2⟩ := r.ex
  exact tv_cmp h1 h2 ha hb hm
/-- a < b < d -/
def fChain (g h : T → T → Option T) (fa fb fd : List T → Option T) : List T → Option T := fun ρ => (fa ρ).bind fun x => (fb ρ).bind fun y => (g x y).bind fun z => z.b?.bind fun k => if k = true then (fd ρ).bind fun w => h y w else some (.f (.bl false))
theorem sv_chain {W : Wd} {fd : List T → Option T} {ta tb td : TE} {r r' : R2} {g h : T → T → Option T} (hr : S2 W r g) (hr' : S2 W r' h) (ha : Sv W ta fa) (hb : Sv W tb fb) (hd : Sv W td fd) : Sv W (tChain r r' ta tb td) (fChain g h fa fb fd) := by
  intro b F ρ σ X H τ Q S e k
  unfold fChain at e
  obtain ⟨x, e1, e⟩ := Option.bind_eq_some_iff.mp e
  obtain ⟨y, e2, e⟩ := Option.bind_eq_some_iff.mp e
  obtain ⟨z, e3, e⟩ := Option.bind_eq_some_iff.mp e
  obtain ⟨m, e4, e⟩ := Option.bind_eq_some_iff.mp e
  refine ha b F ρ σ X H x _ S e1 fun v1 F1 H1 S1 i1 s1 r1 => ?_
  refine hb b F1 ρ σ X H1 y _ S1 e2 fun v2 F2 H2 S2 i2 s2 r2 => ?_
  refine hr b F2 ρ σ X H2 x y z v1 v2 _ S2 (r1.ext i2 s2) r2 e3 fun v3 F3 H3 S3 i3 s3 r3 => ?_
  refine ⟨m, r3.bl e4, ?_⟩
  have i13 := i1.trans (i2.trans i3)
  have s13 := s1.trans (s2.trans s3)
  cases m with
  | true =>
    refine iteT ?_
    obtain ⟨w, e5, e6⟩ := Option.bind_eq_some_iff.mp e
    refine hd b F3 ρ σ X H3 w _ S3 e5 fun v4 F4 H4 S4 i4 s4 r4 => ?_
    exact hr' b F4 ρ σ X H4 y w τ v2 v4 _ S4 ((r2.ext i3 s3).ext i4 s4) r4 e6 (k.mono (i13.trans i4) (s13.trans s4))
  | false =>
    cases e
    exact iteF ((k.mono i13 s13).d S3 rfl)
theorem ev_chain {op op' : CmpOp} {d : Expr} {fd : List T → Option T} {g h : T → T → Option T} (r : CmpR c op g) (r' : CmpR c op' h) (ha : Ev c a fa) (hb : Ev c e' fb) (hd : Ev c d fd) (hm : lastMarks [op, op'] [e', d] = false := by with_unfolding_all rfl) : Ev c (.Compare a [op, op'] [e', d] pos) (fChain g h fa fb fd) := by
  obtain ⟨_, h1, h2⟩ := r.ex
  obtain ⟨_, h3, h4⟩ := r'.ex
  obtain ⟨ta, pa, sa⟩ := ha
  obtain ⟨tb, pb, sb⟩ := hb
  obtain ⟨td, pd, sd⟩ := hd
  exact ⟨_, fun j => pe_chain (h1 j) (h3 j) (pa j) (pb j) (pd j) hm, sv_chain h2 h4 sa sb sd⟩
theorem tv_chain {op op' : CmpOp} {d : Expr} {fd : List T → Option T} {g h : T → T → Option T} (r : CmpR c op g) (r' : CmpR c op' h) (ha : Ev c a fa) (hb : Ev c e' fb) (hd : Ev c d fd) (hm : lastMarks [op, op'] [e', d] = false := by with_unfolding_all rfl) : Tv c (.Compare a [op, op'] [e', d] pos) (fT (fChain g h fa fb fd)) := by
  obtain ⟨_, h1, h2⟩ := r.ex
  obtain ⟨_, h3, h4⟩ := r'.ex
  obtain ⟨ta, pa, sa⟩ := ha
  obtain ⟨tb, pb, sb⟩ := hb
  obtain ⟨td, pd, sd⟩ := hd
  exact ⟨_, fun j => pt_chain (h1 j) (h3 j) (pa j) (pb j) (pd j) hm, stv_test (sv_chain h2 h4 sa sb sd)⟩
/-- is None -/
def gIsNn (neg : Bool) (t : T) : Option T := match t with
  | .un => none
  | t => match gIsN t with
    | some (.f (.bl b)) => some (.f (.bl (xor neg b)))
    | _ => none
def fIsN (neg : Bool) (fa : List T → Option T) : List T → Option T := f1 (gIsNn neg) fa
theorem isN_out {W : Wd} {F H : Hp} {t τ : T} {v : V} {neg : Bool} (r : RelV W F H t v) (e : gIsNn neg t = some τ) : τ = .f (.bl (xor neg (decide (v = .non)))) := by
  unfold gIsNn at e
  have ht : t ≠ .un := by
    rintro rfl
    cases e
  have e2 : (match gIsN t with | some (.f (.bl b)) => some (T.f (.bl (xor neg b))) | _ => none) = some τ := by
    cases t with
    | un => exact absurd rfl ht
    | _ => exact e
  split at e2
  · rename_i b hb
    cases e2
    rw [r.non hb ht]
  · cases e2
theorem ev_isN {m : Nat} {p2 : Pos} (ha : Ev c a fa) : Ev c (.Compare a [.Is] [.Constant .none m p2] pos) (fIsN false fa) := by
  obtain ⟨ta, pa, sa⟩ := ha
  refine ⟨_, fun j => pe_cmp (pc_isN (pa j)) rfl, ?_⟩
  intro b F ρ σ X H τ Q S e k
  obtain ⟨t, e1, e⟩ := Option.bind_eq_some_iff.mp e
  refine sa b F ρ σ X H t _ S e1 fun v F1 H1 S1 i1 s1 r1 => ?_
  have := isN_out r1 e
  subst this
  rw [Bool.false_xor] at k
  exact (k.mono i1 s1).d S1 rfl
theorem ev_notN {m : Nat} {p2 : Pos} (ha : Ev c a fa) : Ev c (.Compare a [.IsNot] [.Constant .none m p2] pos) (fIsN true fa) := by
  obtain ⟨ta, pa, sa⟩ := ha
  refine ⟨_, fun j => pe_cmp (pc_notN (pa j)) rfl, ?_⟩
  intro b F ρ σ X H τ Q S e k
  obtain ⟨t, e1, e⟩ := Option.bind_eq_some_iff.mp e
  refine sa b F ρ σ X H t _ S e1 fun v F1 H1 S1 i1 s1 r1 => ?_
  have := isN_out r1 e
  subst this
  rw [Bool.true_xor] at k
  exact (k.mono i1 s1).d S1 rfl

/-- [ ] -/
theorem ev_ix (ha : Ev c a fa) (hb : Ev c e' fb) (hs : PlainIx e' := by exact fun _ _ => rfl) : Ev c (.Subscript a e' pos) (f2 gIx fa fb) := by
  obtain ⟨ta, pa, sa⟩ := ha
  obtain ⟨tb, pb, sb⟩ := hb
  refine ⟨_, fun j => pe_ix (by have h := ix_U (X := c.X j) (c.hu1 j); rw [c.hK j] at h; exact h) (pa j) (pb j) hs, sv_2 sa sb s2_ix⟩
/-- slices -/
def cutD {α : Type} (xs : List α) (lo hi : Option Int) : List α := (xs.drop (HT.sIx xs.length 0 lo)).take (HT.sIx xs.length xs.length hi - HT.sIx xs.length 0 lo)
def gSl (t : T) (lo hi : Option Int) : Option T := match t.ls? with
  | some ds => some (.f (.lst (cutD ds lo hi)))
  | none => match t.s? with
    | some z => if z.length ≤ sizeLine then some (.f (.str (cutS z lo hi))) else none
    | none => match t.ts? with
      | some ds => if HT.sIx ds.length 0 lo = 0 ∧ HT.sIx ds.length ds.length hi = ds.length then none else some (.f (.tup (cutD ds lo hi)))
      | none => none
def rSlU (K : PySem.W.Frag) : V → Option Int → Option Int → Hp → VK → Prop := fun x lo hi H Q => rSlL K x lo hi H Q ∨ rSlS x lo hi H Q ∨ rSlT K x lo hi H Q
theorem sl_U {X : Cx} : SlR X (rSlU X.K) := sl_list.or (sl_str.or sl_tup)
theorem Reps.cut {W : Wd} {F : Hp} {ds : List D} {vs : List V} {lo hi : Option Int} (r : Reps W F ds vs) : Reps W F (cutD ds lo hi) (cutV vs lo hi) := by
  unfold cutD cutV
  rw [r.len]
  exact (r.drop _).take _
theorem gSl_ok {W : Wd} {b : Bs} {F : Hp} {ρ : List T} {σ : St} {X : List Tm} {H : Hp} {t τ : T} {x : V} {lo hi : Option Int} {Q : VK} (S : SR W b F ρ σ X H) (r : RelV W F H t x) (e : gSl t lo hi = some τ) (k : Kp W b F ρ σ X H τ Q) : rSlU W.K x lo hi H Q := by
  unfold gSl at e
  split at e
  · rename_i ds h
    cases e
    obtain ⟨p, vs, ex, hs, q⟩ := r.ls h S.le
    exact .inl ⟨p, vs, ex, hs, k.lst S q.cut⟩
  · split at e
    · rename_i z h
      split at e
      · rename_i hz
        cases e
        exact .inr (.inl ⟨z, r.str h, hz, k.d S rfl⟩)
      · cases e
    · split at e
      · rename_i ds h
        split at e
        · cases e
        · rename_i hw
          cases e
          obtain ⟨p, vs, ex, hs, q⟩ := r.ts h S.le
          exact .inr (.inr ⟨p, vs, ex, hs, by rw [← q.len]; exact hw, k.tup S q.cut⟩)
      · cases e
def fSl (fa : List T → Option T) (fl fh : Option (List T → Option T)) : List T → Option T := fun ρ => (fa ρ).bind fun t => match fl, fh with
  | none, none => gSl t none none
  | some l, none => (l ρ).bind fun x => x.i?.bind fun i => gSl t (some i) none
  | none, some h => (h ρ).bind fun x => x.i?.bind fun i => gSl t none (some i)
  | some l, some h => (l ρ).bind fun x => x.i?.bind fun i => (h ρ).bind fun y => y.i?.bind fun j => gSl t (some i) (some j)
theorem slj {c : Ctx} (j : c.J) : SlR (c.X j) (rSlU c.W.K) := by have h := sl_U (X := c.X j); rw [c.hK j] at h; exact h
theorem ev_sl00 {p2 : Pos} (ha : Ev c a fa) : Ev c (.Subscript a (.Slice none none none p2) pos) (fSl fa none none) := by
  obtain ⟨ta, pa, sa⟩ := ha
  refine ⟨_, fun j => pe_slice (slj j) (pa j) po_none po_none, ?_⟩
  intro b F ρ σ X H τ Q S e k
  obtain ⟨t, e1, e⟩ := Option.bind_eq_some_iff.mp e
  exact sa b F ρ σ X H t _ S e1 fun v F1 H1 S1 i1 s1 r1 => gSl_ok S1 r1 e (k.mono i1 s1)
theorem ev_sl10 {p2 : Pos} {l : Expr} {fl : List T → Option T} (ha : Ev c a fa) (hl : Ev c l fl) : Ev c (.Subscript a (.Slice (some l) none none p2) pos) (fSl fa (some fl) none) := by
  obtain ⟨ta, pa, sa⟩ := ha
  obtain ⟨tl, pl, sl⟩ := hl
  refine ⟨_, fun j => pe_slice (slj j) (pa j) (po_some (pl j)) po_none, ?_⟩
  intro b F ρ σ X H τ Q S e k
  obtain ⟨t, e1, e⟩ := Option.bind_eq_some_iff.mp e
  obtain ⟨x, e2, e⟩ := Option.bind_eq_some_iff.mp e
  obtain ⟨i, e3, e⟩ := Option.bind_eq_some_iff.mp e
  refine sa b F ρ σ X H t _ S e1 fun v F1 H1 S1 i1 s1 r1 => ?_
  refine sl b F1 ρ σ X H1 x _ S1 e2 fun v2 F2 H2 S2 i2 s2 r2 => ⟨i, r2.int e3, ?_⟩
  exact gSl_ok S2 (r1.ext i2 s2) e (k.mono (i1.trans i2) (s1.trans s2))
theorem ev_sl01 {p2 : Pos} {l : Expr} {fl : List T → Option T} (ha : Ev c a fa) (hl : Ev c l fl) : Ev c (.Subscript a (.Slice none (some l) none p2) pos) (fSl fa none (some fl)) := by
  obtain ⟨ta, pa, sa⟩ := ha
  obtain ⟨tl, pl, sl⟩ := hl
  refine ⟨_, fun j => pe_slice (slj j) (pa j) po_none (po_some (pl j)), ?_⟩
  intro b F ρ σ X H τ Q S e k
  obtain ⟨t, e1, e⟩ := Option.bind_eq_some_iff.mp e
  obtain ⟨x, e2, e⟩ := Option.bind_eq_some_iff.mp e
  obtain ⟨i, e3, e⟩ := Option.bind_eq_some_iff.mp e
  refine sa b F ρ σ X H t _ S e1 fun v F1 H1 S1 i1 s1 r1 => ?_
  refine sl b F1 ρ σ X H1 x _ S1 e2 fun v2 F2 H2 S2 i2 s2 r2 => ⟨i, r2.int e3, ?_⟩
  exact gSl_ok S2 (r1.ext i2 s2) e (k.mono (i1.trans i2) (s1.trans s2))
theorem ev_sl11 {p2 : Pos} {l h : Expr} {fl fh : List T → Option T} (ha : Ev c a fa) (hl : Ev c l fl) (hh : Ev c h fh) : Ev c (.Subscript a (.Slice (some l) (some h) none p2) pos) (fSl fa (some fl) (some fh)) := by
  obtain ⟨ta, pa, sa⟩ := ha
  obtain ⟨tl, pl, sl⟩ := hl
  obtain ⟨th, ph, sh⟩ := hh
  refine ⟨_, fun j => pe_slice (slj j) (pa j) (po_some (pl j)) (po_some (ph j)), ?_⟩
  intro b F ρ σ X H τ Q S e k
  obtain ⟨t, e1, e⟩ := Option.bind_eq_some_iff.mp e
  obtain ⟨x, e2, e⟩ := Option.bind_eq_some_iff.mp e
  obtain ⟨i, e3, e⟩ := Option.bind_eq_some_iff.mp e
  obtain ⟨y, e4, e⟩ := Option.bind_eq_some_iff.mp e
  obtain ⟨m, e5, e⟩ := Option.bind_eq_some_iff.mp e
  refine sa b F ρ σ X H t _ S e1 fun v F1 H1 S1 i1 s1 r1 => ?_
  refine sl b F1 ρ σ X H1 x _ S1 e2 fun v2 F2 H2 S2 i2 s2 r2 => ⟨i, r2.int e3, ?_⟩
  refine sh b F2 ρ σ X H2 y _ S2 e4 fun v3 F3 H3 S3 i3 s3 r3 => ⟨m, r3.int e5, ?_⟩
  exact gSl_ok S3 ((r1.ext i2 s2).ext i3 s3) e (k.mono (i1.trans (i2.trans i3)) (s1.trans (s2.trans s3)))
end

/-! ### builtins by values -/
section
variable {W : Wd}
theorem rv1 {F H : Hp} {t : T} {xs : List V} (r : RelVs W F H [t] xs) : ∃ x, xs = [x] ∧ RelV W F H t x := by
  obtain ⟨v, vr, e, a, b⟩ := r.inv
  rw [b.inv0] at e
  exact ⟨v, e, a⟩
theorem rv2 {F H : Hp} {t u : T} {xs : List V} (r : RelVs W F H [t, u] xs) : ∃ x y, xs = [x, y] ∧ RelV W F H t x ∧ RelV W F H u y := by
  obtain ⟨v, vr, e, a, b⟩ := r.inv
  obtain ⟨y, e2, q⟩ := rv1 b
  subst e2
  exact ⟨v, y, e, a, q⟩
def gLen (ts : List T) : Option T := match ts with
  | [t] => match t with
    | .ll us => some (.f (.int us.length))
    | .tu us => some (.f (.int us.length))
    | t => match t.sq? with
      | some ds => some (.f (.int ds.length))
      | none => match t.s? with
        | some z => if z.length ≤ sizeLine then some (.f (.int z.length)) else none
        | none => match t.dk? with
          | some p => some (.f (.int p.1.length))
          | none => none
  | _ => none
def rLenU (K : PySem.W.Frag) : List V → Hp → VK → Prop := fun xs H Q => (∃ x n, xs = [x] ∧ LenV K x H n ∧ Q (.int n) H) ∨ ∃ a kvs, xs = [V.ref a] ∧ Rd H a (.dK kvs) ∧ Q (.int kvs.length) H
theorem call_lenU {X : Cx} : CallR X (.builtin "len") (rLenU X.K) := CallR_or call_len (by
  intro pins s σ H xs us Q I r h
  obtain ⟨a, kvs, rfl, ha, q⟩ := h
  obtain ⟨u, rfl, ru⟩ := vals1 r
  cases ru
  exact d_len I ha fun t s' I' => ⟨.int kvs.length, H, I', ⟨t, rfl⟩, q⟩)
theorem sn_len : Sn W (rLenU W.K) gLen := by
  intro b F ρ σ X H ts τ xs Q S r e k
  match ts, e with
  | [t], e =>
    obtain ⟨x, rfl, r1⟩ := rv1 r
    have main : ∀ t' : T, t' = t → (match t'.sq? with | some ds => some (T.f (.int ds.length)) | none => match t'.s? with | some z => if z.length ≤ sizeLine then some (T.f (.int z.length)) else none | none => match t'.dk? with | some p => some (T.f (.int p.1.length)) | none => none) = some τ → rLenU W.K [x] H Q := by
      intro t' et ee
      subst et
      split at ee
      · rename_i ds h
        cases ee
        obtain ⟨p, vs, ex, hs, q⟩ := r1.sq h S.le
        subst ex
        refine .inl ⟨_, vs.length, rfl, ?_, by rw [← q.len]; exact k.d S rfl⟩
        rcases hs with hs | hs
        · exact .inl ⟨vs, hs, rfl⟩
        · exact .inr ⟨vs, hs, rfl⟩
      · split at ee
        · rename_i z h
          split at ee
          · rename_i hz
            cases ee
            rw [r1.str h]
            exact .inl ⟨_, z.length, rfl, ⟨hz, rfl⟩, k.d S rfl⟩
          · cases ee
        · split at ee
          · rename_i p h
            cases ee
            obtain ⟨ks, ds⟩ := p
            obtain ⟨a, kvs, ex, hs, hk, q⟩ := r1.dk h S.le
            subst ex hk
            refine .inr ⟨a, kvs, rfl, hs, ?_⟩
            have h2 : Rep W F (.int ((kvs.map (·.1)).length : Nat)) (.int (kvs.length : Nat)) := by
              rw [List.length_map]
              rfl
            exact k.d S h2
          · cases ee
    cases t with
    | ll us =>
      cases e
      obtain ⟨fp, p, vs, fps, ex, _, hs, q⟩ := r1
      subst ex
      exact .inl ⟨_, vs.length, rfl, .inl ⟨vs, .inl (.inl hs), rfl⟩, by rw [← q.len.1]; exact k.d S rfl⟩
    | tu us =>
      cases e
      obtain ⟨fp, p, vs, fps, ex, _, hs, q⟩ := r1
      subst ex
      exact .inl ⟨_, vs.length, rfl, .inr ⟨vs, .inl (.inl hs), rfl⟩, by rw [← q.len.1]; exact k.d S rfl⟩
    | un => exact main _ rfl e
    | f d => exact main _ rfl e
    | l ds => exact main _ rfl e
    | dk ks ds => exact main _ rfl e
    | di ks ds => exact main _ rfl e
    | o C ns us => exact main _ rfl e
def gInt1 (ts : List T) : Option T := match ts with
  | [t] => match t.i? with
    | some i => some (.f (.int i))
    | none => match t.b? with
      | some b => some (.f (.int (if b = true then 1 else 0)))
      | none => none
  | _ => none
theorem sn_int1 : Sn W (fun xs H Q => (∃ i, xs = [.int i] ∧ Q (.int i) H) ∨ ∃ k, xs = [.bl k] ∧ Q (.int (if k then 1 else 0)) H) gInt1 := by
  intro b F ρ σ X H ts τ xs Q S r e k
  match ts, e with
  | [t], e =>
    obtain ⟨x, rfl, r1⟩ := rv1 r
    simp only [gInt1] at e
    split at e
    · rename_i i h
      cases e
      exact .inl ⟨i, by rw [r1.int h], k.d S rfl⟩
    · split at e
      · rename_i i h
        cases e
        exact .inr ⟨i, by rw [r1.bl h], k.d S rfl⟩
      · cases e
def gMax2 (ts : List T) : Option T := match ts with
  | [t, u] => t.i?.bind fun i => u.i?.bind fun j => some (.f (.int (if j > i then j else i)))
  | _ => none
def gMin2 (ts : List T) : Option T := match ts with
  | [t, u] => t.i?.bind fun i => u.i?.bind fun j => some (.f (.int (if j < i then j else i)))
  | _ => none
theorem sn_max2 : Sn W (fun xs H Q => ∃ i j, xs = [.int i, .int j] ∧ Q (.int (if j > i then j else i)) H) gMax2 := by
  intro b F ρ σ X H ts τ xs Q S r e k
  match ts, e with
  | [t, u], e =>
    obtain ⟨x, y, rfl, r1, r2⟩ := rv2 r
    obtain ⟨i, e1, e⟩ := Option.bind_eq_some_iff.mp e
    obtain ⟨j, e2, e⟩ := Option.bind_eq_some_iff.mp e
    cases e
    exact ⟨i, j, by rw [r1.int e1, r2.int e2], k.d S rfl⟩
theorem sn_min2 : Sn W (fun xs H Q => ∃ i j, xs = [.int i, .int j] ∧ Q (.int (if j < i then j else i)) H) gMin2 := by
  intro b F ρ σ X H ts τ xs Q S r e k
  match ts, e with
  | [t, u], e =>
    obtain ⟨x, y, rfl, r1, r2⟩ := rv2 r
    obtain ⟨i, e1, e⟩ := Option.bind_eq_some_iff.mp e
    obtain ⟨j, e2, e⟩ := Option.bind_eq_some_iff.mp e
    cases e
    exact ⟨i, j, by rw [r1.int e1, r2.int e2], k.d S rfl⟩
def gAbs (ts : List T) : Option T := match ts with
  | [t] => t.i?.bind fun i => some (.f (.int (if i < 0 then -i else i)))
  | _ => none
theorem sn_abs : Sn W (fun xs H Q => ∃ i, xs = [.int i] ∧ Q (.int (if i < 0 then -i else i)) H) gAbs := by
  intro b F ρ σ X H ts τ xs Q S r e k
  match ts, e with
  | [t], e =>
    obtain ⟨x, rfl, r1⟩ := rv1 r
    obtain ⟨i, e1, e⟩ := Option.bind_eq_some_iff.mp e
    cases e
    exact ⟨i, by rw [r1.int e1], k.d S rfl⟩
def intsOf : List D → Option (List Int)
  | [] => some []
  | .int i :: ds => (intsOf ds).map fun r => i :: r
  | _ :: _ => none
theorem intsOf_eq : ∀ {ds : List D} {ns : List Int}, intsOf ds = some ns → ds = ns.map .int
  | [], _, e => by cases e; rfl
  | .int i :: ds, _, e => by
    obtain ⟨r, e1, e⟩ := Option.map_eq_some_iff.mp (show (intsOf ds).map _ = _ from e)
    subst e
    rw [intsOf_eq e1]
    rfl
def gSum (ts : List T) : Option T := match ts with
  | [t] => t.ls?.bind fun ds => (intsOf ds).map fun ns => .f (.int ns.sum)
  | _ => none
theorem sn_sum : Sn W (rSum W.K) gSum := by
  intro b F ρ σ X H ts τ xs Q S r e k
  match ts, e with
  | [t], e =>
    obtain ⟨x, rfl, r1⟩ := rv1 r
    obtain ⟨ds, e1, e⟩ := Option.bind_eq_some_iff.mp e
    obtain ⟨ns, e2, e⟩ := Option.map_eq_some_iff.mp e
    subst e
    obtain ⟨p, vs, ex, hs, q⟩ := r1.ls e1 S.le
    rw [intsOf_eq e2] at q
    rw [q.ints] at hs
    subst ex
    exact ⟨p, ns, rfl, hs, k.d S rfl⟩
def blsOf : List D → Option (List Bool)
  | [] => some []
  | .bl i :: ds => (blsOf ds).map fun r => i :: r
  | _ :: _ => none
theorem blsOf_eq : ∀ {ds : List D} {ns : List Bool}, blsOf ds = some ns → ds = ns.map .bl
  | [], _, e => by cases e; rfl
  | .bl i :: ds, _, e => by
    obtain ⟨r, e1, e⟩ := Option.map_eq_some_iff.mp (show (blsOf ds).map _ = _ from e)
    subst e
    rw [blsOf_eq e1]
    rfl
def gAll (ts : List T) : Option T := match ts with
  | [t] => t.ls?.bind fun ds => (blsOf ds).map fun ns => .f (.bl (ns.all id))
  | _ => none
theorem sn_all : Sn W (rAll W.K) gAll := by
  intro b F ρ σ X H ts τ xs Q S r e k
  match ts, e with
  | [t], e =>
    obtain ⟨x, rfl, r1⟩ := rv1 r
    obtain ⟨ds, e1, e⟩ := Option.bind_eq_some_iff.mp e
    obtain ⟨ns, e2, e⟩ := Option.map_eq_some_iff.mp e
    subst e
    obtain ⟨p, vs, ex, hs, q⟩ := r1.ls e1 S.le
    rw [blsOf_eq e2] at q
    rw [q.bls] at hs
    subst ex
    exact ⟨p, ns, rfl, hs, k.d S rfl⟩
/-- str -/
def gStr (ts : List T) : Option T := match ts with
  | [t] => match t.i? with
    | some i => if i.natAbs.log2 < 1920 then some (.f (.str (toString i))) else none
    | none => match t.s? with
      | some z => some (.f (.str z))
      | none => none
  | _ => none
theorem sn_str : Sn W (fun xs H Q => (∃ i : Int, xs = [.int i] ∧ i.natAbs.log2 < 1920 ∧ Q (.str (toString i)) H) ∨ ∃ a, xs = [.str a] ∧ Q (.str a) H) gStr := by
  intro b F ρ σ X H ts τ xs Q S r e k
  match ts, e with
  | [t], e =>
    obtain ⟨x, rfl, r1⟩ := rv1 r
    simp only [gStr] at e
    split at e
    · rename_i i h
      split at e
      · rename_i hz
        cases e
        exact .inl ⟨i, by rw [r1.int h], hz, k.d S rfl⟩
      · cases e
    · split at e
      · rename_i z h
        cases e
        exact .inr ⟨z, by rw [r1.str h], k.d S rfl⟩
      · cases e
/-- list(x), tuple(x) -/
def gList (ts : List T) : Option T := match ts with
  | [t] => t.sq?.map fun ds => .f (.lst ds)
  | _ => none
theorem sn_list : Sn W (fun xs H Q => ∃ p ys, xs = [.ref p] ∧ (SqL W.K H p ys ∨ SqT W.K H p ys) ∧ ∀ l, H l = none → Q (.ref l) (upd H l (.lst ys))) gList := by
  intro b F ρ σ X H ts τ xs Q S r e k
  match ts, e with
  | [t], e =>
    obtain ⟨x, rfl, r1⟩ := rv1 r
    obtain ⟨ds, e1, e⟩ := Option.map_eq_some_iff.mp e
    subst e
    obtain ⟨p, vs, ex, hs, q⟩ := r1.sq e1 S.le
    subst ex
    exact ⟨p, vs, rfl, hs, k.lst S q⟩
def gTuple (ts : List T) : Option T := match ts with
  | [t] => match t.ls? with
    | some ds => some (.f (.tup ds))
    | none => t.ts?.map fun ds => .f (.tup ds)
  | _ => none
theorem sn_tuple : Sn W (fun xs H Q => ∃ p ys, xs = [.ref p] ∧ ((SqL W.K H p ys ∧ ∀ l, H l = none → Q (.ref l) (upd H l (.tup ys))) ∨ (SqT W.K H p ys ∧ Q (.ref p) H))) gTuple := by
  intro b F ρ σ X H ts τ xs Q S r e k
  match ts, e with
  | [t], e =>
    obtain ⟨x, rfl, r1⟩ := rv1 r
    simp only [gTuple] at e
    split at e
    · rename_i ds h
      cases e
      obtain ⟨p, vs, ex, hs, q⟩ := r1.ls h S.le
      subst ex
      exact ⟨p, vs, rfl, .inl ⟨hs, k.tup S q⟩⟩
    · obtain ⟨ds, e1, e⟩ := Option.map_eq_some_iff.mp e
      subst e
      obtain ⟨p, vs, ex, hs, q⟩ := r1.ts e1 S.le
      subst ex
      refine ⟨p, vs, rfl, .inr ⟨hs, k.here S ?_⟩⟩
      cases t with
      | f d => cases d with
        | tup l => cases e1; exact r1
        | _ => cases e1
      | _ => cases e1
/-- isinstance(x, T) -/
def T.ty : T → Option String
  | .f .non => some "NoneType" | .f (.bl _) => some "bool" | .f (.int _) => some "int" | .f (.str _) => some "str"
  | .l _ => some "list" | .ll _ => some "list" | .tu _ => some "tuple" | .dk _ _ => some "dict"
  | .f (.lst _) => some "list" | .f (.tup _) => some "tuple" | .f (.dct _ _) => some "dict" | _ => none
theorem RelV.ty {F H : Hp} {t : T} {v : V} {n : String} (r : RelV W F H t v) (h : t.ty = some n) (le : Le F H) : TyX W.K H v (.type n) := by
  cases t with
  | f d => cases d with
    | non => cases h; rw [show v = V.non from r.rep]; exact .base .non
    | bl b => cases h; rw [show v = V.bl b from r.rep]; exact .base (.bl b)
    | int b => cases h; rw [show v = V.int b from r.rep]; exact .base (.int b)
    | str b => cases h; rw [show v = V.str b from r.rep]; exact .base (.str b)
    | lst l =>
      cases h
      obtain ⟨p, vs, ex, hs, q⟩ := r.rep
      subst ex
      rcases SqL.le le hs with (e | ⟨o, e⟩) | ⟨o, its, n, e, hc, _⟩
      · exact .base (.lst e)
      · exact .base (.frz e)
      · exact .kList e hc
    | tup l =>
      cases h
      obtain ⟨p, vs, ex, hs, q⟩ := r.rep
      subst ex
      rcases SqT.le le hs with (e | ⟨o, e⟩) | ⟨o, its, n, e, hc, _⟩
      · exact .base (.tup e)
      · exact .fTuple e
      · exact .kTuple e hc
    | dct ks l =>
      cases h
      obtain ⟨p, vs, ex, hs, q⟩ := r.rep
      subst ex
      rcases Rd.le le hs with e | ⟨o, e⟩
      · exact .base (.dK e)
      · exact .fDict e
    | obj _ _ _ => cases h
  | l ds => cases h; obtain ⟨fp, p, vs, ex, _, hs, q⟩ := r; subst ex; exact .base (.lst hs)
  | ll ds => cases h; obtain ⟨fp, p, vs, _, ex, _, hs, q⟩ := r; subst ex; exact .base (.lst hs)
  | tu ds => cases h; obtain ⟨fp, p, vs, _, ex, _, hs, q⟩ := r; subst ex; exact .base (.tup hs)
  | dk ks ds => cases h; obtain ⟨fp, p, vs, ex, _, hs, q⟩ := r; subst ex; exact .base (.dK hs)
  | un => cases h
  | di _ _ => cases h
  | o _ _ _ => cases h
def fIsi (n : String) (fa : List T → Option T) : List T → Option T := fun ρ => (fa ρ).bind fun t => t.ty.bind fun m => (kitB m n).map fun b => .f (.bl b)
end
section
variable {c : Ctx} {a e' : Expr} {es : List Expr} {fa fb : List T → Option T} {fs : List T → Option (List T)} {pos : Pos} {p : Pos}
theorem ev_isi {n : String} {x : Str} {p2 : Pos} (hg : ∀ j, Gl (c.X j) "isinstance") (hm : ∀ j, (c.X j).mg "isinstance" = none) (ha : Ev c a fa) (hg2 : ∀ j, Gl (c.X j) x) (hm2 : ∀ j, (c.X j).mg x = none) (hv : bootBuiltins x = some (.type n)) (hn : x ≠ "__name__" := by decide) (hdb : (x == ("__debug__" : Str)) = false := by decide)
    (he : ∀ j, starEach [a, .Name x p2] (c.X j).env = (false, eval a (c.X j).env) :: starEach [.Name x p2] (c.X j).env := by intro _; rfl) (he2 : ∀ j, starEach [.Name x p2] (c.X j).env = (false, eval (.Name x p2) (c.X j).env) :: starEach [] (c.X j).env := by intro _; rfl) (hpl : ∀ j, (backTo pos (starEach [.Name x p2] (c.X j).env)).any (·.1) = false := by intro _; rfl) :
    Ev c (.Call (.Name "isinstance" p) [a, .Name x p2] [] pos) (fIsi n fa) := by
  obtain ⟨t, q, s⟩ := ha
  refine ⟨tCB (rIsi c.W.K) (tCons t (tCons (tC (.ty n)) tNil)), fun j => ?_, ?_⟩
  · have h := pe_callB (p := p) (pos := pos) (call_isi (X := c.X j)) (hg j) (hm j) (by decide +kernel) (pa_cons (q j) (pa_cons (pe_bltn (v := .ty n) (pos := p2) (hg2 j) (hm2 j) hv rfl hn hdb) pa_nil (he2 j)) (he j)) (by decide) (by decide) (he j) (hpl j)
    rw [c.hK j] at h
    exact h
  intro b F ρ σ X H τ Q S e k
  obtain ⟨t1, e1, e⟩ := Option.bind_eq_some_iff.mp e
  obtain ⟨m, e2, e⟩ := Option.bind_eq_some_iff.mp e
  obtain ⟨r, e3, e⟩ := Option.map_eq_some_iff.mp e
  subst e
  refine s b F ρ σ X H t1 _ S e1 fun v F1 H1 S1 i1 s1 r1 => ?_
  exact ⟨v, _, _, _, r, rfl, .ty n, r1.ty e2 S1.le, kit_ty e3, (k.mono i1 s1).d S1 rfl⟩
end
end Z

namespace Z
open PySem PySem.Spec PyProof.Rows L2

/-! ### what is walked -/
def IvR (X : Cx) (tg : Expr) (r : V → Hp → (It → Hp → Prop) → Prop) : Prop :=
  ∀ (pins : List (Addr × Obj)) (s : Shared) (σ : L2.St) (H : Hp) (x : V) (v : Value) (R : It → Hp → Prop), Inv X pins σ H s → L2.RelV x v → r x H R → wpAny (model X.prog X.w) X.A (pyIter v) (PIE X pins σ tg R) X.xe s
theorem pi_of {X : Cx} {tg e : Expr} {t : TE} {r : V → Hp → (It → Hp → Prop) → Prop} (he : PE X e t) (hr : IvR X tg r) : PI X tg e (fun σ H R => t σ H fun x H1 => r x H1 R) := by
  refine ⟨fun pins s σ H R I h => ?_⟩
  exact thn (he.run pins s σ H _ I h) fun v s1 ⟨x, H1, I1, r1, q1⟩ => hr pins s1 σ H1 x v R I1 r1 q1
def rivL (K : PySem.W.Frag) : V → Hp → (It → Hp → Prop) → Prop := fun x H R => ∃ a, x = .ref a ∧ (∃ xs, SqL K H a xs) ∧ R (Itl K a) H
def rivT (K : PySem.W.Frag) : V → Hp → (It → Hp → Prop) → Prop := fun x H R => ∃ a, x = .ref a ∧ (∃ xs, SqT K H a xs) ∧ R (Itt K a) H
def rivS : V → Hp → (It → Hp → Prop) → Prop := fun v H R => ∃ x, v = .str x ∧ R (Its x) H
theorem iv_list {X : Cx} {tg : Expr} : IvR X tg (rivL X.K) := by
  intro pins s1 σ H1 x v R I1 r1 q1
  obtain ⟨a, e, ⟨xs, hq⟩, q⟩ := q1
  subst e
  cases r1
  obtain ⟨its, rv, p, hz⟩ := I1.list hq
  refine wpAny_pyIter_list p.isList ?_
  refine ⟨s1.heap.objs.size, [s1.heap.objs.size], _, _, H1, rfl, I1.kept (t' := s1.toks) fun b o e => Heap.get?_push_of_some _ e, turn_list a _, ⟨_, Heap.get?_push_size _ rfl, rfl, rfl⟩, fun b hb => ?_, q⟩
  have e : b = s1.heap.objs.size := by simpa using hb
  subst e
  exact I1.fpOk (Nat.le_refl _) (I1.hok.fresh (Nat.le_refl _))
theorem iv_tup {X : Cx} {tg : Expr} : IvR X tg (rivT X.K) := by
  intro pins s1 σ H1 x v R I1 r1 q1
  obtain ⟨a, e, ⟨xs, hq⟩, q⟩ := q1
  subst e
  cases r1
  obtain ⟨its, rv, p, hz⟩ := I1.tuple hq
  refine wpAny_pyIter_tuple (show s1.heap.IsTuple a its.toArray from p) ?_
  refine ⟨s1.heap.objs.size, [s1.heap.objs.size], _, _, H1, rfl, I1.kept (t' := s1.toks) fun b o e => Heap.get?_push_of_some _ e, turn_tuple a _, ⟨_, Heap.get?_push_size _ rfl, rfl, rfl⟩, fun b hb => ?_, q⟩
  have e : b = s1.heap.objs.size := by simpa using hb
  subst e
  exact I1.fpOk (Nat.le_refl _) (I1.hok.fresh (Nat.le_refl _))
theorem iv_str {X : Cx} {tg : Expr} : IvR X tg rivS := by
  intro pins s1 σ H1 y v R I1 r1 q1
  obtain ⟨x, ex, q⟩ := q1
  subst ex
  obtain ⟨t, rfl⟩ := r1
  cases ha : x.cps.all (· < 128)
  · exact wpAny_pyIter_wide ha (pi_one (tk := s1.toks) I1 _ (turn_str _ x t "str_iterator" (.inr rfl)) ⟨_, Heap.get?_push_size _ rfl, rfl, rfl⟩ q)
  · exact wpAny_pyIter_ascii ha (pi_one (tk := s1.toks) I1 _ (turn_str _ x t "str_ascii_iterator" (.inl rfl)) ⟨_, Heap.get?_push_size _ rfl, rfl, rfl⟩ q)
def rivU (K : PySem.W.Frag) : V → Hp → (It → Hp → Prop) → Prop := fun x H R => rivL K x H R ∨ rivT K x H R ∨ rivS x H R
theorem iv_U {X : Cx} {tg : Expr} : IvR X tg (rivU X.K) := by
  intro pins s σ H x v R I r q
  rcases q with q | q | q
  · exact iv_list pins s σ H x v R I r q
  · exact iv_tup pins s σ H x v R I r q
  · exact iv_str pins s σ H x v R I r q
def signs (x : Str) : List D := x.cps.toList.map fun c => .str ⟨#[c]⟩
def D.its : D → Option (List D) | .lst ds => some ds | .tup ds => some ds | .str x => some (signs x) | _ => none
section
variable {W : Wd} {F : Hp}
theorem wk_list {a : Addr} {ds : List D} {vs : List V} (hs : SqL W.K F a vs) (r : Reps W F ds vs) : Wk W F (Itl W.K a) ds where
  go := fun i G H i1 le h => by
    obtain ⟨v, e, _⟩ := r.get (List.getElem?_eq_getElem h)
    exact ⟨vs, v, SqL.le (i1.le le) hs, e⟩
  stop := fun G H i1 le => ⟨vs, SqL.le (i1.le le) hs, by rw [r.len]; exact Nat.le_refl _⟩
  yld := fun i G H x H' d i1 le hd y => by
    obtain ⟨e, y⟩ := y
    obtain ⟨v, e2, q⟩ := r.get hd
    have := y vs (SqL.le (i1.le le) hs)
    rw [e2] at this
    cases this
    exact .inl ⟨e, q.inc i1⟩
theorem wk_tup {a : Addr} {ds : List D} {vs : List V} (hs : SqT W.K F a vs) (r : Reps W F ds vs) : Wk W F (Itt W.K a) ds where
  go := fun i G H i1 le h => by
    obtain ⟨v, e, _⟩ := r.get (List.getElem?_eq_getElem h)
    exact ⟨vs, v, SqT.le (i1.le le) hs, e⟩
  stop := fun G H i1 le => ⟨vs, SqT.le (i1.le le) hs, by rw [r.len]; exact Nat.le_refl _⟩
  yld := fun i G H x H' d i1 le hd y => by
    obtain ⟨e, y⟩ := y
    obtain ⟨v, e2, q⟩ := r.get hd
    have := y vs (SqT.le (i1.le le) hs)
    rw [e2] at this
    cases this
    exact .inl ⟨e, q.inc i1⟩
theorem wk_str {x : Str} : Wk W F (Its x) (signs x) where
  go := fun i G H i1 le h => by
    unfold signs at h
    rw [List.length_map] at h
    exact (by simpa using h : i < x.cps.size)
  stop := fun G H i1 le => by
    show x.cps.size ≤ _
    unfold signs
    rw [List.length_map]
    simp
  yld := fun i G H v H' d i1 le hd y => by
    obtain ⟨e, c, ec, ev⟩ := y
    refine .inl ⟨e, ?_⟩
    unfold signs at hd
    rw [List.getElem?_map] at hd
    have ec' : x.cps.toList[i]? = some c := by simpa using ec
    rw [ec'] at hd
    cases hd
    exact ev
theorem wk_its {x : V} {d : D} {ds : List D} {H : Hp} {R : It → Hp → Prop} (le : Le F H) (r : Rep W F d x) (h : d.its = some ds) (k : ∀ J, Wk W F J ds → R J H) : rivU W.K x H R := by
  cases d with
  | lst l =>
    cases h
    obtain ⟨p, vs, ex, hs, q⟩ := r
    exact .inl ⟨p, ex, ⟨vs, SqL.le le hs⟩, k _ (wk_list hs q)⟩
  | tup l =>
    cases h
    obtain ⟨p, vs, ex, hs, q⟩ := r
    exact .inr (.inl ⟨p, ex, ⟨vs, SqT.le le hs⟩, k _ (wk_tup hs q)⟩)
  | str z =>
    cases h
    exact .inr (.inr ⟨z, r, k _ wk_str⟩)
  | _ => cases h
def rangeD (lo : Int) (n : Nat) : List D := (List.range n).map fun (i : Nat) => .int (lo + (i : Int))
theorem wk_range {lo : Int} {n : Nat} : Wk W F (Itr lo n) (rangeD lo n) where
  go := fun i G H i1 le h => by
    unfold rangeD at h
    rw [List.length_map, List.length_range] at h
    exact h
  stop := fun G H i1 le => by
    show n ≤ _
    unfold rangeD
    rw [List.length_map, List.length_range]
    exact Nat.le_refl _
  yld := fun i G H v H' d i1 le hd y => by
    obtain ⟨e, ev⟩ := y
    refine .inl ⟨e, ?_⟩
    unfold rangeD at hd
    rw [List.getElem?_map] at hd
    obtain ⟨j, ej, hd⟩ := Option.map_eq_some_iff.mp hd
    obtain ⟨hlt, ej⟩ := List.getElem?_eq_some_iff.mp ej
    rw [List.getElem_range] at ej
    subst ej hd
    exact ev
def enumD : Nat → List D → List D
  | _, [] => []
  | i, d :: ds => .tup [.int (i : Int), d] :: enumD (i + 1) ds
theorem enumD_len : ∀ (ds : List D) (i : Nat), (enumD i ds).length = ds.length
  | [], _ => rfl
  | d :: ds, i => by
    show (enumD (i + 1) ds).length + 1 = ds.length + 1
    rw [enumD_len ds]
theorem enumD_get : ∀ (ds : List D) (j i : Nat) (d : D), (enumD j ds)[i]? = some d → ∃ e, ds[i]? = some e ∧ d = .tup [.int ((j + i : Nat) : Int), e]
  | [], _, _, _, h => by simp [enumD] at h
  | x :: ds, j, 0, d, h => by
    have h' : D.tup [.int (j : Int), x] = d := by simpa [enumD] using h
    exact ⟨x, rfl, by rw [← h']; rfl⟩
  | x :: ds, j, i + 1, d, h => by
    have h' : (enumD (j + 1) ds)[i]? = some d := by simpa [enumD] using h
    obtain ⟨e, e1, e2⟩ := enumD_get ds (j + 1) i d h'
    exact ⟨e, by simpa using e1, by rw [e2, show j + 1 + i = j + (i + 1) by omega]⟩
theorem wk_enum {a : Addr} {ds : List D} {vs : List V} (hs : SqL W.K F a vs) (r : Reps W F ds vs) : Wk W F (Ite W.K a) (enumD 0 ds) where
  go := fun i G H i1 le h => by
    rw [enumD_len] at h
    obtain ⟨v, e, _⟩ := r.get (List.getElem?_eq_getElem h)
    exact ⟨vs, v, SqL.le (i1.le le) hs, e⟩
  stop := fun G H i1 le => ⟨vs, SqL.le (i1.le le) hs, by rw [enumD_len, r.len]; exact Nat.le_refl _⟩
  yld := fun i G H x H' d i1 le hd y => by
    obtain ⟨p, z, ex, hp, eH, y⟩ := y
    obtain ⟨e, e1, e2⟩ := enumD_get ds 0 i d hd
    obtain ⟨v, e3, q⟩ := r.get e1
    have := y vs (SqL.le (i1.le le) hs)
    rw [e3] at this
    cases this
    refine .inr ⟨p, _, hp, eH, ex, fun i2 => ?_⟩
    subst e2
    refine ⟨p, _, rfl, .inl (.inl upd_same), _, _, rfl, ?_, _, _, rfl, (q.inc i1).inc i2, rfl⟩
    show V.int _ = V.int _
    rw [Nat.zero_add]
def zipD : List D → List D → List D
  | a :: as, b :: bs => .tup [a, b] :: zipD as bs
  | _, _ => []
theorem zipD_get : ∀ (as bs : List D) (i : Nat) (d : D), (zipD as bs)[i]? = some d → ∃ a b, as[i]? = some a ∧ bs[i]? = some b ∧ d = .tup [a, b]
  | [], _, _, _, h => by simp [zipD] at h
  | _ :: _, [], _, _, h => by simp [zipD] at h
  | a :: as, b :: bs, 0, d, h => ⟨a, b, rfl, rfl, by simpa [zipD] using h.symm⟩
  | a :: as, b :: bs, i + 1, d, h => by
    obtain ⟨x, y, e1, e2, e3⟩ := zipD_get as bs i d (by simpa [zipD] using h)
    exact ⟨x, y, by simpa using e1, by simpa using e2, e3⟩
theorem zipD_len : ∀ (as bs : List D), (zipD as bs).length = min as.length bs.length
  | [], _ => by simp [zipD]
  | _ :: _, [] => by simp [zipD]
  | a :: as, b :: bs => by
    show (zipD as bs).length + 1 = _
    rw [zipD_len as bs]
    simp only [List.length_cons]
    omega
theorem wk_zip {a a2 : Addr} {ds es : List D} {vs us : List V} (hs : SqL W.K F a vs) (r : Reps W F ds vs) (hs2 : SqL W.K F a2 us) (r2 : Reps W F es us) : Wk W F (Itz W.K a a2) (zipD ds es) where
  go := fun i G H i1 le h => by
    rw [zipD_len] at h
    obtain ⟨v, e, _⟩ := r.get (List.getElem?_eq_getElem (show i < ds.length by omega))
    obtain ⟨u, e2, _⟩ := r2.get (List.getElem?_eq_getElem (show i < es.length by omega))
    exact ⟨vs, us, v, u, SqL.le (i1.le le) hs, SqL.le (i1.le le) hs2, e, e2⟩
  stop := fun G H i1 le => ⟨vs, us, SqL.le (i1.le le) hs, SqL.le (i1.le le) hs2, by rw [zipD_len, ← r.len, ← r2.len]; omega⟩
  yld := fun i G H x H' d i1 le hd y => by
    obtain ⟨p, z, z2, ex, hp, eH, y, y2⟩ := y
    obtain ⟨e, e', e1, e2, e3⟩ := zipD_get ds es i d hd
    obtain ⟨v, h1, q⟩ := r.get e1
    obtain ⟨u, h2, q2⟩ := r2.get e2
    have t1 := y vs (SqL.le (i1.le le) hs)
    have t2 := y2 us (SqL.le (i1.le le) hs2)
    rw [h1] at t1
    rw [h2] at t2
    cases t1
    cases t2
    refine .inr ⟨p, _, hp, eH, ex, fun i2 => ?_⟩
    subst e3
    exact ⟨p, _, rfl, .inl (.inl upd_same), _, _, rfl, (q.inc i1).inc i2, _, _, rfl, (q2.inc i1).inc i2, rfl⟩
theorem wk_rev {a : Addr} {ds : List D} {vs : List V} (hs : SqL W.K F a vs) (r : Reps W F ds vs) : Wk W F (Itv W.K a vs.length) ds.reverse where
  go := fun i G H i1 le h => by
    rw [List.length_reverse] at h
    obtain ⟨v, e, _⟩ := r.get (List.getElem?_eq_getElem (show vs.length - 1 - i < ds.length by rw [r.len] at h ⊢; omega))
    exact ⟨by rw [← r.len]; exact h, vs, v, SqL.le (i1.le le) hs, e⟩
  stop := fun G H i1 le => by
    show vs.length ≤ _
    rw [List.length_reverse, r.len]
    exact Nat.le_refl _
  yld := fun i G H x H' d i1 le hd y => by
    obtain ⟨e, y⟩ := y
    have hi : i < ds.length := by
      have := (List.getElem?_eq_some_iff.mp hd).1
      rw [List.length_reverse] at this
      exact this
    rw [List.getElem?_reverse hi, r.len] at hd
    obtain ⟨v, e2, q⟩ := r.get hd
    have := y vs (SqL.le (i1.le le) hs)
    rw [e2] at this
    cases this
    exact .inl ⟨e, q.inc i1⟩
end
section
variable {c : Ctx} {tg e e2 : Expr} {fo : List T → Option Re} {fs : List T → Option (List T)} {p pos : Pos}
def iVal (fo : List T → Option Re) : List T → Option Ri := fun ρ => (fo ρ).bind fun r => match r with
  | .ok t ρ1 => t.d?.bind fun d => d.its.map fun ds => .ok ds ρ1
  | .xc C ρ1 => some (.xc C ρ1)
theorem iw_val (he : Eo c e fo) : Iw c tg e (iVal fo) := by
  obtain ⟨t, p, s⟩ := he
  refine ⟨_, fun j => pi_of (p j) (by have h := iv_U (X := c.X j) (tg := tg); rw [c.hK j] at h; exact h), ?_⟩
  intro b F ρ σ X H r R hb S e k
  unfold iVal at e
  obtain ⟨r1, e1, e⟩ := Option.bind_eq_some_iff.mp e
  refine s b F ρ σ X H r1 _ hb S e1 ?_
  cases r1 with
  | xc C ρ1 =>
    cases e
    exact k
  | ok τ ρ1 =>
    obtain ⟨d, e2, e⟩ := Option.bind_eq_some_iff.mp e
    obtain ⟨ds, e3, e⟩ := Option.map_eq_some_iff.mp e
    subst e
    rw [d_some e2]
    intro v F' H' S' i'
    exact wk_its S'.le S'.top e3 fun J w => k J F' H' S'.drop i' w
/-- by one or two deep lists -/
def iL1 (g : List D → List D) (fs : List T → Option (List T)) : List T → Option Ri := fun ρ => (fs ρ).bind fun ts => match ts with
  | [.f (.lst ds)] => some (.ok (g ds) ρ)
  | _ => none
theorem iw_enum {elts : List Expr} {kk : Nat} {tpos : Pos} (hg : ∀ j, Gl (c.X j) "enumerate") (hm : ∀ j, (c.X j).mg "enumerate" = none) (ha : Av c [e] fs) (hs : ∀ j, starEach [e] (c.X j).env = [(false, eval e (c.X j).env)] := by intro _; rfl) :
    Iw c (.Tuple elts kk tpos) (.Call (.Name "enumerate" p) [e] [] pos) (iL1 (enumD 0) fs) := by
  obtain ⟨t, q, s⟩ := ha
  refine ⟨iEnum c.W.K t, fun j => by have h := pi_enum (p := p) (pos := pos) (tpos := tpos) (elts := elts) (kk := kk) (hg j) (hm j) (q j) (hs j); rw [c.hK j] at h; exact h, ?_⟩
  intro b F ρ σ X H r R hb S e k
  unfold iL1 at e
  obtain ⟨ts, e1, e⟩ := Option.bind_eq_some_iff.mp e
  refine s b F ρ σ X H ts _ S e1 fun vs F1 H1 S1 i1 s1 r1 => ?_
  match ts, e with
  | [.f (.lst ds)], e =>
    cases e
    obtain ⟨x, rfl, r2⟩ := rv1 r1
    obtain ⟨a, us, ex, hs, q⟩ := r2.rep
    subst ex
    exact ⟨a, us, rfl, SqL.le S1.le hs, k _ F1 H1 S1 i1 (wk_enum hs q)⟩
theorem iw_rev (hg : ∀ j, Gl (c.X j) "reversed") (hm : ∀ j, (c.X j).mg "reversed" = none) (ha : Av c [e] fs) (hs : ∀ j, starEach [e] (c.X j).env = [(false, eval e (c.X j).env)] := by intro _; rfl) :
    Iw c tg (.Call (.Name "reversed" p) [e] [] pos) (iL1 List.reverse fs) := by
  obtain ⟨t, q, s⟩ := ha
  refine ⟨iRev c.W.K t, fun j => by have h := pi_reversed (tg := tg) (p := p) (pos := pos) (hg j) (hm j) (q j) (hs j); rw [c.hK j] at h; exact h, ?_⟩
  intro b F ρ σ X H r R hb S e k
  unfold iL1 at e
  obtain ⟨ts, e1, e⟩ := Option.bind_eq_some_iff.mp e
  refine s b F ρ σ X H ts _ S e1 fun vs F1 H1 S1 i1 s1 r1 => ?_
  match ts, e with
  | [.f (.lst ds)], e =>
    cases e
    obtain ⟨x, rfl, r2⟩ := rv1 r1
    obtain ⟨a, us, ex, hs, q⟩ := r2.rep
    subst ex
    exact ⟨a, us, rfl, SqL.le S1.le hs, k _ F1 H1 S1 i1 (wk_rev hs q)⟩
def iL2 (g : List D → List D → List D) (fs : List T → Option (List T)) : List T → Option Ri := fun ρ => (fs ρ).bind fun ts => match ts with
  | [.f (.lst ds), .f (.lst es)] => some (.ok (g ds es) ρ)
  | _ => none
theorem iw_zip {elts : List Expr} {kk : Nat} {tpos : Pos} (hg : ∀ j, Gl (c.X j) "zip") (hm : ∀ j, (c.X j).mg "zip" = none) (ha : Av c [e, e2] fs) (hs : ∀ j, starEach [e, e2] (c.X j).env = (false, eval e (c.X j).env) :: starEach [e2] (c.X j).env := by intro _; rfl) (hpl : ∀ j, (backTo pos (starEach [e2] (c.X j).env)).any (·.1) = false := by intro _; rfl) :
    Iw c (.Tuple elts kk tpos) (.Call (.Name "zip" p) [e, e2] [] pos) (iL2 zipD fs) := by
  obtain ⟨t, q, s⟩ := ha
  refine ⟨iZip c.W.K t, fun j => by have h := pi_zip (p := p) (pos := pos) (tpos := tpos) (elts := elts) (kk := kk) (hg j) (hm j) (q j) (hs j) (hpl j); rw [c.hK j] at h; exact h, ?_⟩
  intro b F ρ σ X H r R hb S e k
  unfold iL2 at e
  obtain ⟨ts, e1, e⟩ := Option.bind_eq_some_iff.mp e
  refine s b F ρ σ X H ts _ S e1 fun vs F1 H1 S1 i1 s1 r1 => ?_
  match ts, e with
  | [.f (.lst ds), .f (.lst es)], e =>
    cases e
    obtain ⟨x, y, rfl, r2, r3⟩ := rv2 r1
    obtain ⟨a, us, ex, hs, q⟩ := r2.rep
    obtain ⟨a2, us2, ex2, hs2, q2⟩ := r3.rep
    subst ex ex2
    exact ⟨a, a2, us, us2, rfl, SqL.le S1.le hs, SqL.le S1.le hs2, k _ F1 H1 S1 i1 (wk_zip hs q hs2 q2)⟩
def iR1 (fs : List T → Option (List T)) : List T → Option Ri := fun ρ => (fs ρ).bind fun ts => match ts with
  | [.f (.int n)] => if -(2 ^ 62) ≤ n ∧ n < 2 ^ 62 then some (.ok (rangeD 0 n.toNat) ρ) else none
  | _ => none
def iR2 (fs : List T → Option (List T)) : List T → Option Ri := fun ρ => (fs ρ).bind fun ts => match ts with
  | [.f (.int m), .f (.int n)] => if -(2 ^ 62) ≤ m ∧ m < 2 ^ 62 ∧ -(2 ^ 62) ≤ n ∧ n < 2 ^ 62 then some (.ok (rangeD m (n - m).toNat) ρ) else none
  | _ => none
theorem iw_range1 (hg : ∀ j, Gl (c.X j) "range") (hm : ∀ j, (c.X j).mg "range" = none) (ha : Av c [e] fs) (hs : ∀ j, starEach [e] (c.X j).env = [(false, eval e (c.X j).env)] := by intro _; rfl) : Iw c tg (.Call (.Name "range" p) [e] [] pos) (iR1 fs) := by
  obtain ⟨t, q, s⟩ := ha
  refine ⟨_, fun j => pi_range1 (hg j) (hm j) (q j) (hs j), ?_⟩
  intro b F ρ σ X H r R hb S e k
  unfold iR1 at e
  obtain ⟨ts, e1, e⟩ := Option.bind_eq_some_iff.mp e
  refine s b F ρ σ X H ts _ S e1 fun vs F1 H1 S1 i1 s1 r1 => ?_
  match ts, e with
  | [.f (.int n)], e =>
    simp only at e
    split at e
    · rename_i hn
      cases e
      obtain ⟨x, rfl, r2⟩ := rv1 r1
      exact ⟨n, by rw [show x = V.int n from r2.rep], hn.1, hn.2, k _ F1 H1 S1 i1 wk_range⟩
    · cases e
theorem iw_range2 (hg : ∀ j, Gl (c.X j) "range") (hm : ∀ j, (c.X j).mg "range" = none) (ha : Av c [e, e2] fs) (hs : ∀ j, starEach [e, e2] (c.X j).env = [(false, eval e (c.X j).env), (false, eval e2 (c.X j).env)] := by intro _; rfl) (hs2 : ∀ j, starEach [e2] (c.X j).env = [(false, eval e2 (c.X j).env)] := by intro _; rfl) : Iw c tg (.Call (.Name "range" p) [e, e2] [] pos) (iR2 fs) := by
  obtain ⟨t, q, s⟩ := ha
  refine ⟨_, fun j => pi_range2 (hg j) (hm j) (q j) (hs j) (hs2 j), ?_⟩
  intro b F ρ σ X H r R hb S e k
  unfold iR2 at e
  obtain ⟨ts, e1, e⟩ := Option.bind_eq_some_iff.mp e
  refine s b F ρ σ X H ts _ S e1 fun vs F1 H1 S1 i1 s1 r1 => ?_
  match ts, e with
  | [.f (.int m), .f (.int n)], e =>
    simp only at e
    split at e
    · rename_i hn
      cases e
      obtain ⟨x, y, rfl, r2, r3⟩ := rv2 r1
      exact ⟨m, n, by rw [show x = V.int m from r2.rep, show y = V.int n from r3.rep], hn, k _ F1 H1 S1 i1 wk_range⟩
    · cases e
end

/-! ### a def -/
def outs (io : List Nat) : Nat → List T → List T → List T
  | _, [], _ => []
  | _, t :: ts, [] => t :: ts
  | i, t :: ts, r :: ρ => (if i ∈ io then r else t) :: outs io (i + 1) ts ρ
def runF (m n : Nat) (io : List Nat) (fb : FS) : List T → Option Re := fun ts => if ts.length = m then (fb (ts ++ List.replicate (n - m) .un)).bind fun o => match o with
  | .rt τ ρ => if m ≤ ρ.length then some (.ok τ (outs io 0 ts ρ)) else none
  | .nx ρ => if m ≤ ρ.length then some (.ok (.f .non) (outs io 0 ts ρ)) else none
  | .xc C ρ => if m ≤ ρ.length then some (.xc C (outs io 0 ts ρ)) else none
  | _ => none
  else none
section
variable {W : Wd} {F F' H H' : Hp}
theorem slots_un : ∀ (k : Nat), Slots W F H (List.replicate k .un) (List.replicate k none) (List.replicate k [])
  | 0 => ⟨rfl, rfl⟩
  | k + 1 => ⟨none, _, [], _, rfl, rfl, ⟨rfl, rfl⟩, slots_un k⟩
theorem slots_of : ∀ {ts : List T} {vs : List V} {fps : List (List Addr)}, RelTs W F H ts vs fps → Slots W F H ts (vs.map some) fps
  | [], _, _, r => by
    rw [r.1, r.2]
    exact ⟨rfl, rfl⟩
  | t :: ts, _, _, r => by
    obtain ⟨v, vr, f, fr, e1, e2, a, b⟩ := r
    rw [e1, e2]
    exact ⟨some v, _, f, _, rfl, rfl, a, slots_of b⟩
theorem slots_app : ∀ {ts us : List T} {σ τ : L2.St} {f g : List (List Addr)}, Slots W F H ts σ f → Slots W F H us τ g → Slots W F H (ts ++ us) (σ ++ τ) (f ++ g)
  | [], _, _, _, _, _, r, q => by
    rw [r.1, r.2]
    exact q
  | t :: ts, _, _, _, _, _, r, q => by
    obtain ⟨s, sr, f, fr, e1, e2, a, b⟩ := r
    rw [e1, e2]
    exact ⟨s, _, f, _, rfl, rfl, a, slots_app b q⟩
theorem SR.init {ts : List T} {vs : List V} {fps : List (List Addr)} {io : List Nat} {N : List Str} (le : Le F H) (r : RelTs W F H ts vs fps) (own : Own F fps.flatten) :
    SR W (bsOf H F fps io vs) F (ts ++ List.replicate (N.length - vs.length) .un) (start N vs) [] H := by
  have hr : ∀ k, (List.replicate k ([] : List Addr)).flatten = [] := fun k => by induction k with
    | zero => rfl
    | succ k ih => rw [List.replicate_succ, List.flatten_cons, ih]; rfl
  refine ⟨le, Inc.refl F, fun a o e => .inl e, fun a o e _ => e, fun a o e _ => ⟨o, e, Stb.refl o⟩, fun p hp => ?_, fps ++ List.replicate (N.length - vs.length) [], [], slots_app (slots_of r) (slots_un _), ⟨rfl, rfl⟩, ⟨?_, fun a ha => ?_⟩, fun i f e a ha => ?_, trivial⟩
  · obtain ⟨i, hi, e⟩ := List.mem_filterMap.mp hp
    obtain ⟨v, hv, e⟩ := Option.map_eq_some_iff.mp e
    subst e
    show (vs.map some ++ _)[i]? = _
    rw [List.getElem?_append_left (by rw [List.length_map]; exact (List.getElem?_eq_some_iff.mp hv).1), List.getElem?_map, hv]
    rfl
  · rw [List.flatten_append, hr, List.append_nil, List.flatten_nil, List.append_nil]
    exact own.1
  · rw [List.flatten_append, hr, List.append_nil, List.flatten_nil, List.append_nil] at ha
    exact own.2 a ha
  · refine .inr ?_
    show a ∈ fps.flatten
    by_cases h : i < fps.length
    · rw [List.getElem?_append_left h] at e
      exact List.mem_flatten.mpr ⟨f, List.mem_of_getElem? e, ha⟩
    · rw [List.getElem?_append_right (by omega), List.getElem?_replicate] at e
      split at e
      · cases e
        cases ha
      · cases e
theorem outs_slots {io : List Nat} (hF : Inc F F') : ∀ {ts : List T} {vs : List V} {fps : List (List Addr)} {i : Nat} {ρ : List T} {σ : L2.St} {gps : List (List Addr)}, RelTs W F H ts vs fps → ioOk io i ts = true → Slots W F' H' ρ σ gps → ts.length ≤ ρ.length →
    (∀ j v, i + j ∈ io → vs[j]? = some v → σ[j]? = some (some v)) → ∃ hps, Slots W F' H' (outs io i ts ρ) (vs.map some) hps ∧ List.Sublist hps.flatten gps.flatten ∧ ∀ (j : Nat) (f : List Addr), hps[j]? = some f → f = [] ∨ gps[j]? = some f
  | [], _, _, _, _, _, _, r, _, _, _, _ => by
    rw [r.1]
    exact ⟨[], ⟨rfl, rfl⟩, List.nil_sublist _, fun j f e => by simp at e⟩
  | t :: ts, _, _, i, [], _, _, _, _, _, h, _ => by simp at h
  | t :: ts, _, _, i, r0 :: ρ, σ, gps, r, ho, s, h, hp => by
    obtain ⟨v, vr, f, fr, e1, e2, a, b⟩ := r
    subst e1 e2
    obtain ⟨s0, sr, g, gr, e3, e4, a', b'⟩ := s
    subst e3 e4
    have ho' : (io.contains i || isF t) = true ∧ ioOk io (i + 1) ts = true := by
      have := ho
      unfold ioOk at this
      rwa [Bool.and_eq_true] at this
    obtain ⟨hps, q1, q2, q3⟩ := outs_slots (i := i + 1) hF b ho'.2 b' (by simpa using h) fun j w hj hw => by
      have := hp (j + 1) w (by rw [show i + (j + 1) = i + 1 + j by omega]; exact hj) (by simpa using hw)
      simpa using this
    by_cases hio : i ∈ io
    · have e5 := hp 0 v hio rfl
      have e6 : s0 = some v := by simpa using e5
      subst e6
      refine ⟨g :: hps, ⟨some v, _, g, _, rfl, rfl, ?_, q1⟩, ?_, fun j f' e => ?_⟩
      · rw [if_pos hio]; exact a'
      · rw [List.flatten_cons, List.flatten_cons]
        exact List.Sublist.append (List.Sublist.refl _) q2
      · cases j with
        | zero => exact .inr e
        | succ j => exact q3 j f' (by simpa using e)
    · have hf : isF t = true := by
        rcases Bool.or_eq_true_iff.mp ho'.1 with z | z
        · exact absurd (by simpa using z) hio
        · exact z
      cases t with
      | f d =>
        refine ⟨[] :: hps, ⟨some v, _, [], _, rfl, rfl, ?_, q1⟩, ?_, fun j f' e => ?_⟩
        · rw [if_neg hio]
          exact ⟨rfl, a.2.inc hF⟩
        · rw [List.flatten_cons, List.flatten_cons, List.nil_append]
          exact q2.trans (List.sublist_append_right _ _)
        · cases j with
          | zero => exact .inl (by simpa using e.symm)
          | succ j => exact q3 j f' (by simpa using e)
      | _ => cases hf
theorem SR.outs {ts : List T} {vs : List V} {fps : List (List Addr)} {io : List Nat} {ρ : List T} {σ : L2.St} {X : List Tm} (r : RelTs W F H ts vs fps) (ho : ioOk io 0 ts = true) (hl : ts.length ≤ ρ.length)
    (S : SR W (bsOf H F fps io vs) F' ρ σ X H') : SR W (bsOf H F fps io vs) F' (outs io 0 ts ρ) (vs.map some) X H' := by
  obtain ⟨le, f0, fn, kept, stab, pin, gps, xps, s1, s2, ⟨nd, ow⟩, lc1, lc2⟩ := S
  have pins : ∀ j v, j ∈ io → vs[j]? = some v → σ[j]? = some (some v) := fun j v hj hv => pin (j, v) (List.mem_filterMap.mpr ⟨j, hj, by rw [hv]; rfl⟩)
  obtain ⟨hps, q1, q2, q3⟩ := outs_slots (i := 0) f0 r ho s1 hl fun j v hj hv => pins j v (by simpa using hj) hv
  have sub : List.Sublist (hps.flatten ++ xps.flatten) (gps.flatten ++ xps.flatten) := List.Sublist.append q2 (List.Sublist.refl _)
  refine ⟨le, f0, fn, kept, stab, fun p hp => ?_, hps, xps, q1, s2, ⟨nd.sublist sub, fun a ha => ow a (sub.subset ha)⟩, fun i f e a ha => ?_, lc2⟩
  · obtain ⟨i, hi, e⟩ := List.mem_filterMap.mp hp
    obtain ⟨v, hv, e⟩ := Option.map_eq_some_iff.mp e
    subst e
    show (vs.map some)[i]? = _
    rw [List.getElem?_map, hv]
    rfl
  · rcases q3 i f e with z | z
    · subst z; cases ha
    · exact lc1 i f z a ha
end
/-- the context of a def's body -/
def ctx0 {P : Program} {w : World} (W : Wd) {mg : Str → Option Value} {base : Heap} {N : List Str} (nd : N.Nodup) {m k : Nat} {io : List Nat} {al : List (Nat × Nat)} {qual : Str} {sc : Scope} {f : Addr} {cdv : Value} {A : Around} {outer : List Env} {s : Shared} {H : Hp} {E : XK} (hr : Room k (A.deeper (envOfC qual sc s.heap.objs.size f cdv))) : Ctx where
  J := Unit
  X := fun _ => (cxOf CX0 P w W.K mg base N qual sc f cdv A outer s H E).nox
  W := W
  P := ⟨m, io, al⟩
  E := fun _ => E
  N := N
  k := k
  hK := fun _ => rfl
  hN := fun _ => rfl
  nd := nd
  calm := fun _ => rfl
  room := fun _ => hr
section
variable {P : Program} {w : World} {W : Wd} {mg : Str → Option Value} {base : Heap}
theorem spF_end {io : List Nat} {fb : FS} {N ps : List Str} {vs : List V} {H : Hp} {Q : VK} {E : XK} {t : TS} {p : Sg} {al : List (Nat × Nat)} (hal : ∀ q ∈ al, q.1 ∈ io ∧ q.2 ∈ io ∧ ∃ v, vs[q.1]? = some v ∧ vs[q.2]? = some v) (hp : p = ⟨ps.length, io, al⟩) (hN : ps.length ≤ N.length) (hio : ∀ i ∈ io, i < ps.length) (len : vs.length = ps.length) (h : spF W io (runF ps.length N.length io fb) vs H Q E) (q : Ss W p (fun _ => E) t fb) :
    t { nx := fun _ H' => Q .non H', rt := Q } (start N vs) H := by
  subst hp
  obtain ⟨F, ts, fps, r, le, rel, own, ho, e, k⟩ := h
  unfold runF at e
  have hlt := RelTs.lenA rel
  split at e
  · rename_i hl
    obtain ⟨o, e1, e⟩ := Option.bind_eq_some_iff.mp e
    have S0 := SR.init (io := io) (N := N) le rel own
    rw [len] at S0
    have bok : Bok ⟨ps.length, io, al⟩ (bsOf H F fps io vs) := by
      refine ⟨by show fps.length = ps.length; omega, ?_, fun q hq => ?_⟩
      rotate_left
      · obtain ⟨h1, h2, v, h3, h4⟩ := hal q hq
        exact ⟨v, List.mem_filterMap.mpr ⟨q.1, h1, by rw [h3]; rfl⟩, List.mem_filterMap.mpr ⟨q.2, h2, by rw [h4]; rfl⟩⟩
      show (io.filterMap _).map _ = io
      have key : ∀ l : List Nat, (∀ i ∈ l, i < vs.length) → (l.filterMap fun i => vs[i]?.map fun v => (i, v)).map (·.1) = l := by
        intro l
        induction l with
        | nil => intro _; rfl
        | cons i l ih =>
          intro h
          have hi := h i List.mem_cons_self
          rw [List.filterMap_cons, List.getElem?_eq_getElem hi]
          show i :: _ = _
          rw [ih fun j hj => h j (List.mem_cons_of_mem _ hj)]
      exact key io fun i hi => by rw [len]; exact hio i hi
    refine q _ F _ _ [] H o _ bok S0 e1 ?_
    cases o with
    | nx ρ =>
      simp only at e
      split at e
      · rename_i hρ
        cases e
        intro σ F' H' S' i'
        exact k .non F' H' ((SR.outs rel ho (by omega) S').push rfl) i'
      · cases e
    | rt τ ρ =>
      simp only at e
      split at e
      · rename_i hρ
        cases e
        intro v σ F' H' S' i'
        exact k v F' H' (SR.outs rel ho (by omega) S') i'
      · cases e
    | xc C ρ =>
      simp only at e
      split at e
      · rename_i hρ
        cases e
        intro d σ F' H' S' i'
        exact k d F' H' (SR.outs rel ho (by omega) S') i'
      · cases e
    | bk ρ => cases e
    | ct ρ => cases e
  · cases e
end
end Z

namespace Z
open PySem PySem.Spec PyProof.Rows L2

/-! ### defs and their calls -/
section
variable {P : Program} {w : World} {W : Wd} {mg : Str → Option Value} {base : Heap}
theorem fnZ {x qual : Str} {st : Stmt} {f : Addr} {fd : FuncData} {N ps : List Str} {k : Nat} {io : List Nat} {fb : FS} (F : Fun W.K x qual st f fd) (S : FnScope N ps (defScope st)) (hN : ps.length ≤ N.length) (hio : ∀ i ∈ io, i < ps.length)
    (body : ∀ (cdv : Value) (A : Around) (outer : List Env) (s : Shared) (H : Hp) (E : XK) (hr : Room k (A.deeper (envOfC qual (defScope st) s.heap.objs.size f cdv))),
      Sms (ctx0 (P := P) (w := w) W (mg := mg) (base := base) S.nd (m := ps.length) (io := io) (al := []) (outer := outer) (H := H) (E := E) hr) (defBody st) fb) :
    FnOk P w W.K mg base CX0 (k + 1) f fd ps (spF W io (runF ps.length N.length io fb)) := by
  have len : ∀ vs H Q E, spF W io (runF ps.length N.length io fb) vs H Q E → vs.length = ps.length := by
    rintro vs H Q E ⟨F, ts, fps, r, _, rel, _, _, e, _⟩
    unfold runF at e
    split at e
    · rename_i hl
      have := RelTs.lenA rel
      omega
    · cases e
  refine F.ok S len fun cdv A outer s H vs Q E hr h => ?_
  obtain ⟨t, p, q⟩ := body cdv A outer s H E hr
  exact ⟨t, p (), spF_end (al := []) (fun _ h => absurd h List.not_mem_nil) rfl hN hio (len _ _ _ _ h) h q⟩
/-- a def of the module, ready to be called -/
structure Cl (P : Program) (w : World) (W : Wd) (mg : Str → Option Value) (base : Heap) (CX : CXT) (k : Nat) (x : Str) (io : List Nat) (G : List T → Option Re) : Prop where
  ex : ∃ f fd ps, FnOk P w W.K mg base CX k f fd ps (spF W io G) ∧ mg x = some (.ref f) ∧ PySem.W.keepIn W.K (.ref f) = true ∧ Binds W.K fd ps []
theorem Cl.mk' {CX : CXT} {k : Nat} {x : Str} {io : List Nat} {G : List T → Option Re} {f : Addr} {fd : FuncData} {ps : List Str} (h : FnOk P w W.K mg base CX k f fd ps (spF W io G)) (hm : mg x = some (.ref f)) (hk : PySem.W.keepIn W.K (.ref f) = true) (hb : Binds W.K fd ps []) : Cl P w W mg base CX k x io G := ⟨f, fd, ps, h, hm, hk, hb⟩
theorem Cl.mono {CX : CXT} {j k : Nat} {x : Str} {io : List Nat} {G : List T → Option Re} (h : Cl P w W mg base CX j x io G) (hj : j ≤ k) : Cl P w W mg base CX k x io G := by
  obtain ⟨f, fd, ps, h, a, b, d⟩ := h
  exact ⟨f, fd, ps, h.mono hj, a, b, d⟩
/-- the same function, told otherwise -/
theorem Cl.imp {CX : CXT} {k : Nat} {x : Str} {io : List Nat} {G G' : List T → Option Re} (h : Cl P w W mg base CX k x io G) (e : ∀ ts r, G' ts = some r → G ts = some r) : Cl P w W mg base CX k x io G' := by
  obtain ⟨f, fd, ps, h, a, b, d⟩ := h
  refine ⟨f, fd, ps, h.imp ?_, a, b, d⟩
  rintro vs H Q E ⟨F, ts, fps, r, h1, h2, h3, h4, h5, h6⟩
  exact ⟨F, ts, fps, r, h1, h2, h3, h4, e _ _ h5, h6⟩
end
theorem pass0' {X : Cx} {E : XK} : Passes CX0 X E := fun _ _ _ _ _ _ _ h => h.elim
section
variable {c : Ctx} {a e : Expr} {es : List Expr} {fs : List T → Option (List T)} {fo : List T → Option Rs} {x : Str} {p pos : Pos} {io : List Nat} {G : List T → Option Re} {k : Nat} {CX : CXT}
abbrev Cj (c : Ctx) (CX : CXT) (k : Nat) (x : Str) (io : List Nat) (G : List T → Option Re) : Prop := ∀ j, Cl (c.X j).prog (c.X j).w c.W (c.X j).mg (c.X j).base CX k x io G
theorem pe_cl {t : TA} {E : XK} (C : Cj c CX k x io G) (hk : k ≤ c.k) (hg : ∀ j, Gl (c.X j) x) (hx : ∀ j, Passes CX (c.X j) E) (ha : ∀ j, PA (c.X j) (a :: es) t) (hdb : (x == ("__debug__" : Str)) = false)
    (he : ∀ j, starEach (a :: es) (c.X j).env = (false, eval a (c.X j).env) :: starEach es (c.X j).env) (hpl : ∀ j, (backTo pos (starEach es (c.X j).env)).any (·.1) = false) (j : c.J) : PE (c.X j) (.Call (.Name x p) (a :: es) [] pos) (tCall (spF c.W io G) [] E t) := by
  obtain ⟨f, fd, ps, h, hm, hkp, hb⟩ := C j
  have hKj := c.hK j
  exact pe_call (by rw [hKj]; exact h) ((c.room j).mono hk) (hg j) hm (by rw [hKj]; exact hkp) (by rw [hKj]; exact hb) .nil (hx j) (ha j) hdb (he j) (hpl j)
theorem pe_cl0 {E : XK} (C : Cj c CX k x io G) (hk : k ≤ c.k) (hg : ∀ j, Gl (c.X j) x) (hx : ∀ j, Passes CX (c.X j) E) (hdb : (x == ("__debug__" : Str)) = false) (j : c.J) : PE (c.X j) (.Call (.Name x p) [] [] pos) (tCall (spF c.W io G) [] E tNil) := by
  obtain ⟨f, fd, ps, h, hm, hkp, hb⟩ := C j
  have hKj := c.hK j
  exact pe_call0 (by rw [hKj]; exact h) ((c.room j).mono hk) (hg j) hm (by rw [hKj]; exact hkp) (by rw [hKj]; exact hb) .nil (hx j) hdb
/-- f(e, ..) with effect -/
theorem eo_call {E : XK} (C : Cj c CX k x io G) (hk : k ≤ c.k) (hg : ∀ j, Gl (c.X j) x) (hE : ∀ σ, c.E σ = E) (hx : ∀ j, Passes CX (c.X j) E) (ha : Ao c (a :: es) fo) (hdb : (x == ("__debug__" : Str)) = false := by decide)
    (he : ∀ j, starEach (a :: es) (c.X j).env = (false, eval a (c.X j).env) :: starEach es (c.X j).env := by intro _; rfl) (hpl : ∀ j, (backTo pos (starEach es (c.X j).env)).any (·.1) = false := by intro _; rfl) : Eo c (.Call (.Name x p) (a :: es) [] pos) (fCall io G fo) := by
  obtain ⟨t, q, s⟩ := ha
  exact ⟨_, pe_cl C hk hg hx q hdb he hpl, so_call hE s⟩
theorem eo_call0 {E : XK} (C : Cj c CX k x io G) (hk : k ≤ c.k) (hg : ∀ j, Gl (c.X j) x) (hE : ∀ σ, c.E σ = E) (hx : ∀ j, Passes CX (c.X j) E) (hdb : (x == ("__debug__" : Str)) = false := by decide) : Eo c (.Call (.Name x p) [] [] pos) (fCall io G bNil) := by
  obtain ⟨t, q, s⟩ := (ao_nil : Ao c [] bNil)
  refine ⟨_, pe_cl0 C hk hg hx hdb, so_call hE ?_⟩
  intro b F ρ σ X H r Q hb S e p
  cases e
  exact p [] F H S rfl (Inc.refl F)
/-- f(e, ..) without effect: what is one's own is only looked at -/
def D.atom : D → Bool | .non => true | .bl _ => true | .int _ => true | .str _ => true | _ => false
theorem Rep.atom {W : Wd} {F F' : Hp} {d : D} {v : V} (r : Rep W F d v) (h : d.atom = true) : Rep W F' d v := by
  cases d with
  | non => exact r
  | bl b => exact r
  | int b => exact r
  | str b => exact r
  | _ => cases h
def fCallV (G : List T → Option Re) (fs : List T → Option (List T)) : List T → Option T := fun ρ => (fs ρ).bind fun ts => (T.fzs ts).bind fun ds => (G (ds.map .f)).bind fun r => match r with
  | .ok (.f d) _ => if (ts.all isF || d.atom) = true then some (.f d) else none
  | _ => none
theorem relTs_deep {W : Wd} {F H : Hp} : ∀ {ds : List D} {vs : List V}, Reps W F ds vs → RelTs W F H (ds.map .f) vs (List.replicate ds.length [])
  | [], _, r => ⟨r, rfl⟩
  | d :: ds, _, r => by
    obtain ⟨v, vr, e, a, b⟩ := r
    exact ⟨v, vr, [], _, e, rfl, ⟨rfl, a⟩, relTs_deep b⟩
theorem flat_nil : ∀ n : Nat, (List.replicate n ([] : List Addr)).flatten = []
  | 0 => rfl
  | n + 1 => by rw [List.replicate_succ, List.flatten_cons, flat_nil n]; rfl
theorem ioOk_deep : ∀ (ds : List D) (i : Nat), ioOk [] i (ds.map .f) = true
  | [], _ => rfl
  | d :: ds, i => by
    unfold List.map ioOk
    rw [ioOk_deep ds]
    simp [isF]
theorem allF_fz : ∀ {ts : List T} {ds : List D}, ts.all isF = true → T.fzs ts = some ds → ts = ds.map .f
  | [], _, _, e => by unfold T.fzs at e; cases e; rfl
  | t :: ts, _, h, e => by
    unfold T.fzs at e
    obtain ⟨d, e1, e⟩ := Option.bind_eq_some_iff.mp e
    obtain ⟨ds, e2, e⟩ := Option.map_eq_some_iff.mp e
    subst e
    rw [List.all_cons, Bool.and_eq_true] at h
    cases t with
    | f d' =>
      unfold T.fz at e1
      cases e1
      rw [allF_fz h.2 e2]
      rfl
    | _ => cases h.1
theorem allF_fps {W : Wd} {F H : Hp} : ∀ {ts : List T} {vs : List V} {fps : List (List Addr)}, ts.all isF = true → RelTs W F H ts vs fps → fps.flatten = []
  | [], _, _, _, r => by rw [r.2]; rfl
  | t :: ts, _, _, h, r => by
    obtain ⟨v, vr, f, fr, e1, e2, a, b⟩ := r
    subst e2
    rw [List.all_cons, Bool.and_eq_true] at h
    cases t with
    | f d' => rw [List.flatten_cons, a.1, List.nil_append]; exact allF_fps h.2 b
    | _ => cases h.1
mutual
theorem RelT.nofrz {W : Wd} {F H : Hp} : ∀ (t : T) (v : V) (fp : List Addr), RelT W F H t v fp → ∀ a ∈ fp, ∀ o u, H a ≠ some (.frz o u)
  | .un, _, fp, r, a, ha => by
    have r' : fp = [] := r
    subst r'
    cases ha
  | .f d, _, fp, r, a, ha => by
    have r' : fp = [] := r.1
    subst r'
    cases ha
  | .l ds, _, _, r, a, ha => by
    obtain ⟨p, vs, e1, e2, e3, q⟩ := r
    subst e2
    cases List.mem_singleton.mp ha
    rw [e3]
    intro o u z
    cases z
  | .dk ks ds, _, _, r, a, ha => by
    obtain ⟨p, kvs, e1, e2, e3, k, q⟩ := r
    subst e2
    cases List.mem_singleton.mp ha
    rw [e3]
    intro o u z
    cases z
  | .di ks ds, _, _, r, a, ha => by
    obtain ⟨p, xs, e1, e2, e3, k, kk, q⟩ := r
    subst e2
    cases List.mem_singleton.mp ha
    rw [e3]
    intro o u z
    cases z
  | .ll ts, _, _, r, a, ha => by
    obtain ⟨p, vs, fps, e1, e2, e3, q⟩ := r
    subst e2
    rcases List.mem_cons.mp ha with z | z
    · subst z
      rw [e3]
      intro o u z
      cases z
    · exact RelTs.nofrz ts vs fps q a z
  | .tu ts, _, _, r, a, ha => by
    obtain ⟨p, vs, fps, e1, e2, e3, q⟩ := r
    subst e2
    rcases List.mem_cons.mp ha with z | z
    · subst z
      rw [e3]
      intro o u z
      cases z
    · exact RelTs.nofrz ts vs fps q a z
  | .o C ns ts, _, _, r, a, ha => by
    obtain ⟨p, dx, kvs, fps, e1, e2, e3, k, q⟩ := r
    subst e2
    rcases List.mem_cons.mp ha with z | z
    · subst z
      rw [e3]
      intro o u z
      cases z
    · exact RelTs.nofrz ts _ fps q a z
theorem RelTs.nofrz {W : Wd} {F H : Hp} : ∀ (ts : List T) (vs : List V) (fps : List (List Addr)), RelTs W F H ts vs fps → ∀ a ∈ fps.flatten, ∀ o u, H a ≠ some (.frz o u)
  | [], _, fps, r, a, ha => by
    have r' : fps = [] := r.2
    subst r'
    cases ha
  | t :: ts, _, _, r, a, ha => by
    obtain ⟨v, vr, f, fr, e1, e2, q1, q2⟩ := r
    subst e2
    rw [List.flatten_cons] at ha
    rcases List.mem_append.mp ha with z | z
    · exact RelT.nofrz t v f q1 a z
    · exact RelTs.nofrz ts vr fr q2 a z
end
theorem sv_call {W : Wd} {E : XK} {t : TA} (h : Sav W t fs) : Sv W (tCall (spF W [] G) [] E t) (fCallV G fs) := by
  intro b F ρ σ X H τ Q S e k
  unfold fCallV at e
  obtain ⟨ts, e1, e⟩ := Option.bind_eq_some_iff.mp e
  obtain ⟨ds, e2, e⟩ := Option.bind_eq_some_iff.mp e
  obtain ⟨r, e3, e⟩ := Option.bind_eq_some_iff.mp e
  refine h b F ρ σ X H ts _ S e1 fun vs F1 H1 S1 i1 s1 r1 => ?_
  rw [List.append_nil]
  obtain ⟨fps, r1⟩ := r1
  -- all that is looked at, as deep data
  obtain ⟨Fc, hFc⟩ : ∃ Fc : Hp, ∀ a, Fc a = match F1 a with | some o => some o | none => if a ∈ fps.flatten then H1 a else none := ⟨_, fun _ => rfl⟩
  have hF : Inc F1 Fc := fun a o e => by rw [hFc a, e]
  have hfp : ∀ a ∈ fps.flatten, Fc a = H1 a := fun a ha => by
    rw [hFc a]
    cases z : F1 a with
    | none => simp only [if_pos ha]
    | some o =>
      rcases S1.le a o z with q | ⟨u, kvs, _, q⟩
      · exact q.symm
      · exact absurd q (RelTs.nofrz _ _ _ r1 a ha _ _)
  have hle : Le Fc H1 := fun a o e => by
    rw [hFc a] at e
    cases z : F1 a with
    | none =>
      rw [z] at e
      simp only at e
      split at e
      · exact .inl e
      · cases e
    | some o' =>
      rw [z] at e
      cases e
      exact S1.le a _ z
  have r2 : Reps W Fc ds vs := RelTs.fz hF ts vs fps ds r1 hfp e2
  refine ⟨Fc, ds.map .f, _, r, hle, relTs_deep r2, ⟨by rw [flat_nil]; exact List.nodup_nil, fun a ha => by rw [flat_nil] at ha; cases ha⟩, ioOk_deep ds 0, e3, ?_⟩
  cases r with
  | xc C us => cases e
  | ok τ' us =>
    cases τ' with
    | f d =>
      simp only at e
      split at e
      · rename_i hc
        cases e
        intro v F' H' R i2
        have hs : Same H1 H' := fun a o e => R.kept a o e (by
          show a ∉ (List.replicate ds.length ([] : List Addr)).flatten
          rw [flat_nil]
          intro z
          cases z)
        by_cases hat : d.atom = true
        · exact k v F1 H' (S1.ext hs (Inc.refl F1) (S1.le.inc hs) fun a o e => .inl e) i1 (s1.trans hs) (.f (Rep.atom R.top hat))
        · have hall : ts.all isF = true := by
            rcases Bool.or_eq_true_iff.mp hc with z | z
            · exact z
            · exact absurd z hat
          have hnil := allF_fps hall r1
          have heq : ∀ a, Fc a = F1 a := fun a => by
            rw [hFc a, hnil]
            cases F1 a with
            | none => rfl
            | some o => rfl
          refine k v F' H' (S1.ext hs (hF.trans i2) R.le fun a o e => ?_) (i1.trans (hF.trans i2)) (s1.trans hs) (.f R.top)
          rcases R.fn a o e with z | z | z
          · have z' : Fc a = some o := z
            rw [heq a] at z'
            exact .inl z'
          · exact .inr z
          · exfalso
            have z' : a ∈ (List.replicate ds.length ([] : List Addr)).flatten := z
            rw [flat_nil] at z'
            cases z'
      · cases e
    | _ => cases e
theorem ev_call {E : XK} (C : Cj c CX k x [] G) (hk : k ≤ c.k) (hg : ∀ j, Gl (c.X j) x) (hx : ∀ j, Passes CX (c.X j) E) (ha : Av c (a :: es) fs) (hdb : (x == ("__debug__" : Str)) = false := by decide)
    (he : ∀ j, starEach (a :: es) (c.X j).env = (false, eval a (c.X j).env) :: starEach es (c.X j).env := by intro _; rfl) (hpl : ∀ j, (backTo pos (starEach es (c.X j).env)).any (·.1) = false := by intro _; rfl) : Ev c (.Call (.Name x p) (a :: es) [] pos) (fCallV G fs) := by
  obtain ⟨t, q, s⟩ := ha
  exact ⟨_, pe_cl C hk hg hx q hdb he hpl, sv_call s⟩
end

/-! ### dict displays -/
def Sps (W : Wd) (trs : List (TE × TE)) (f : List T → Option (List (Key × D))) : Prop :=
  ∀ b F ρ σ X H kds Q, SR W b F ρ σ X H → f ρ = some kds → (∀ (kvs : List (Key × V)) F' H', SR W b F' ρ σ X H' → Inc F F' → Same H H' → kvs.map (·.1) = kds.map (·.1) → Reps W F' (kds.map (·.2)) (kvs.map (·.2)) → Q (kvs.map fun kv => (kV kv.1, kv.2)) H') → tPairs trs σ H Q
def Dp' (c : Ctx) (pos : Pos) (ks : List (Option Expr)) (vs : List Expr) (f : List T → Option (List (Key × D))) : Prop := ∃ trs, (∀ j, PPs (c.X j) pos ks vs trs) ∧ Sps c.W trs f
def pNil : List T → Option (List (Key × D)) := fun _ => some []
def pCons (fk fv : List T → Option T) (g : List T → Option (List (Key × D))) : List T → Option (List (Key × D)) := fun ρ => (fk ρ).bind fun k => k.key?.bind fun k => (fv ρ).bind fun v => v.d?.bind fun d => (g ρ).map fun r => (k, d) :: r
section
variable {c : Ctx} {ek ev : Expr} {ks : List (Option Expr)} {vs : List Expr} {fk fv : List T → Option T} {g : List T → Option (List (Key × D))} {pos : Pos}
theorem dp_nil : Dp' c pos [] [] pNil := by
  refine ⟨[], fun _ => pps_nil, ?_⟩
  intro b F ρ σ X H kds Q S e k
  cases e
  exact k [] F H S (Inc.refl F) (Same.refl H) rfl rfl
theorem dp_cons (hk : Ev c ek fk) (hv : Ev c ev fv) (hr : Dp' c pos ks vs g) : Dp' c pos (some ek :: ks) (ev :: vs) (pCons fk fv g) := by
  obtain ⟨tk, pk, sk⟩ := hk
  obtain ⟨tv, pv, sv⟩ := hv
  obtain ⟨trs, pr, sr⟩ := hr
  refine ⟨(tk, tv) :: trs, fun j => pps_cons (pk j) (pv j) (pr j), ?_⟩
  intro b F ρ σ X H kds Q S e k
  unfold pCons at e
  obtain ⟨t1, e1, e⟩ := Option.bind_eq_some_iff.mp e
  obtain ⟨k1, e2, e⟩ := Option.bind_eq_some_iff.mp e
  obtain ⟨t2, e3, e⟩ := Option.bind_eq_some_iff.mp e
  obtain ⟨d2, e4, e⟩ := Option.bind_eq_some_iff.mp e
  obtain ⟨r, e5, e⟩ := Option.map_eq_some_iff.mp e
  subst e
  rw [d_some e4] at e3
  refine sk b F ρ σ X H t1 _ S e1 fun x F1 H1 S1 i1 s1 r1 => ?_
  refine sv b F1 ρ σ X H1 _ _ S1 e3 fun y F2 H2 S2 i2 s2 r2 => ?_
  refine sr b F2 ρ σ X H2 r _ S2 e5 fun kvs F3 H3 S3 i3 s3 h1 h2 => ?_
  rw [r1.key e2]
  exact k ((k1, y) :: kvs) F3 H3 S3 (i1.trans (i2.trans i3)) (s1.trans (s2.trans s3)) (by rw [List.map_cons, List.map_cons, h1]) ⟨y, _, rfl, r2.rep.inc i3, h2⟩
end
/-- a dict with d at k -/
def dput (ks : List Key) (ds : List D) (k : Key) (d : D) : List Key × List D :=
  if (ks.any fun q => decide (q = k)) = true then (ks, List.zipWith (fun q e => if q = k then d else e) ks ds) else (ks ++ [k], ds ++ [d])
theorem dput_ok {W : Wd} {F : Hp} {kvs : List (Key × V)} {ks : List Key} {ds : List D} {k : Key} {d : D} {v : V} (hk : kvs.map (·.1) = ks) (r : Reps W F ds (kvs.map (·.2))) (rv : Rep W F d v) :
    (putK kvs k v).map (·.1) = (dput ks ds k d).1 ∧ Reps W F (dput ks ds k d).2 ((putK kvs k v).map (·.2)) := by
  subst hk
  unfold putK dput
  have e : (kvs.any fun kv => decide (kv.1 = k)) = ((kvs.map (·.1)).any fun q => decide (q = k)) := by rw [List.any_map]; rfl
  rw [e]
  split
  · rename_i hany
    clear hany e
    refine ⟨?_, ?_⟩
    · rw [List.map_map]
      refine List.map_congr_left fun kv _ => ?_
      show (if kv.1 = k then (kv.1, v) else kv).1 = kv.1
      split <;> rfl
    · induction kvs generalizing ds with
      | nil =>
        cases ds with
        | nil => exact rfl
        | cons _ _ =>
          obtain ⟨_, _, e, _⟩ := r
          cases e
      | cons kv kvs ih =>
        cases ds with
        | nil =>
          have r' : _ = [] := r
          cases r'
        | cons d0 ds =>
          obtain ⟨v0, vr, e, a, b⟩ := r
          have e1 : kv.2 = v0 := (List.cons.inj e).1
          have e2 : kvs.map (·.2) = vr := (List.cons.inj e).2
          subst e1 e2
          refine ⟨(if kv.1 = k then (kv.1, v) else kv).2, _, rfl, ?_, ih b⟩
          show Rep W F (if kv.1 = k then d else d0) _
          split
          · exact rv
          · exact a
  · refine ⟨by simp, ?_⟩
    rw [List.map_append]
    exact r.append ⟨v, [], rfl, rv, rfl⟩
def dmerge (ks : List Key) (ds : List D) : List (Key × D) → List Key × List D
  | [] => (ks, ds)
  | (k, d) :: r => dmerge (dput ks ds k d).1 (dput ks ds k d).2 r
theorem dmerge_ok {W : Wd} {F : Hp} : ∀ {kds : List (Key × D)} {more kvs : List (Key × V)} {ks : List Key} {ds : List D}, kvs.map (·.1) = ks → Reps W F ds (kvs.map (·.2)) → more.map (·.1) = kds.map (·.1) → Reps W F (kds.map (·.2)) (more.map (·.2)) →
    (mergeK kvs more).map (·.1) = (dmerge ks ds kds).1 ∧ Reps W F (dmerge ks ds kds).2 ((mergeK kvs more).map (·.2))
  | [], [], _, _, _, h1, h2, _, _ => ⟨h1, h2⟩
  | [], _ :: _, _, _, _, _, _, h, _ => by cases h
  | _ :: _, [], _, _, _, _, _, h, _ => by cases h
  | (k, d) :: kds, (k', v) :: more, kvs, ks0, ds0, h1, h2, h3, h4 => by
    have e1 : k' = k := (List.cons.inj h3).1
    subst e1
    obtain ⟨v0, vr, e, a, b⟩ := h4
    have e2 : v = v0 := (List.cons.inj e).1
    have e3 : more.map (·.2) = vr := (List.cons.inj e).2
    subst e2 e3
    obtain ⟨q1, q2⟩ := dput_ok h1 h2 a
    exact dmerge_ok (kds := kds) (kvs := putK kvs k' v) (ks := (dput ks0 ds0 k' d).1) (ds := (dput ks0 ds0 k' d).2) q1 q2 (List.cons.inj h3).2 b
section
variable {c : Ctx} {ks : List (Option Expr)} {vs : List Expr} {g : List T → Option (List (Key × D))} {pos : Pos}
def fDisp (g : List T → Option (List (Key × D))) : List T → Option Re := fun ρ => (g ρ).bind fun kds => if kds.length ≤ 15 then some (.ok (.dk (dmerge [] [] kds).1 (dmerge [] [] kds).2) ρ) else none
theorem eo_disp (h : Dp' c pos ks vs g) (hall : ks.all (·.isSome) = true) (hl : ks.length = vs.length) (h0 : ks ≠ []) (h15 : ks.length ≤ 15) : Eo c (.Dict ks vs pos) (fDisp g) := by
  obtain ⟨trs, p, q⟩ := h
  refine ⟨_, fun j => pe_disp (p j) hall hl h0 h15, ?_⟩
  intro b F ρ σ X H r Q hb S e k
  unfold fDisp at e
  obtain ⟨kds, e1, e⟩ := Option.bind_eq_some_iff.mp e
  split at e
  · rename_i h15'
    cases e
    intro p hp
    have S1 := S.own (t := .dk [] []) (o := .dK []) hp ⟨p, [], rfl, rfl, upd_same, rfl, rfl⟩
    refine q b F ρ σ _ _ kds _ S1 e1 fun kvs F2 H2 S2 i2 s2 h1 h2 => ?_
    have hp2 : H2 p = some (.dK []) := s2 _ _ upd_same
    refine ⟨hp2, kvs, rfl, ?_, ?_⟩
    · have := congrArg List.length h1
      simp only [List.length_map] at this
      omega
    · obtain ⟨m1, m2⟩ := dmerge_ok (kvs := []) (ks := []) (ds := []) rfl rfl h1 h2
      have S3 := S2.wrX (t' := .dk (dmerge [] [] kds).1 (dmerge [] [] kds).2) (p := p) (o := .dK []) (o' := .dK (mergeK [] kvs)) fun fp r nd hn => by
        obtain ⟨p', kvs', e1, e2, e3, _⟩ := r
        cases e1
        subst e2
        exact ⟨hp2, Stb.dk, List.mem_singleton.mpr rfl, [p], ⟨p, _, rfl, rfl, upd_same, m1, m2⟩, nd, fun a ha => ha⟩
      exact k _ F2 _ S3 i2
  · cases e
/-- {} -/
def fNewD : List T → Option Re := fun ρ => some (.ok (.dk [] []) ρ)
theorem eo_newd : Eo c (.Dict [] [] pos) fNewD := by
  refine ⟨_, fun _ => pe_dnewK, ?_⟩
  intro b F ρ σ X H r Q hb S e k
  cases e
  intro p hp
  exact k _ F _ (S.own hp ⟨p, [], rfl, rfl, upd_same, rfl, rfl⟩) (Inc.refl F)
/-- [a, b], one's own -/
def fNewL (fs : List T → Option (List T)) : List T → Option Re := fun ρ => (fs ρ).bind fun ts => (deep ts).bind fun ds => if ds.length ≤ sizeLine then some (.ok (.l ds) ρ) else none
theorem eo_newl {es : List Expr} {fs : List T → Option (List T)} (h : Av c es fs) : Eo c (.List es pos) (fNewL fs) := by
  obtain ⟨t, p, s⟩ := h
  refine ⟨_, fun j => pe_lst (p j), ?_⟩
  intro b F ρ σ X H r Q hb S e k
  unfold fNewL at e
  obtain ⟨xs, e1, e⟩ := Option.bind_eq_some_iff.mp e
  obtain ⟨ds, e2, e⟩ := Option.bind_eq_some_iff.mp e
  split at e
  · rename_i hl
    cases e
    refine s b F ρ σ X H xs _ S e1 fun vs F1 H1 S1 i1 s1 r1 => ?_
    have r2 := r1.deep e2
    refine ⟨by rw [← r2.len]; exact hl, fun p hp => ?_⟩
    exact k _ F1 _ (S1.own hp ⟨p, vs, rfl, rfl, upd_same, r2⟩) i1
  · cases e
/-- the same, deep -/
def fDispD (g : List T → Option (List (Key × D))) : List T → Option T := fun ρ => (g ρ).bind fun kds => if kds.length ≤ 15 then some (.f (.dct (dmerge [] [] kds).1 (dmerge [] [] kds).2)) else none
theorem ev_disp (h : Dp' c pos ks vs g) (hall : ks.all (·.isSome) = true) (hl : ks.length = vs.length) (h0 : ks ≠ []) (h15 : ks.length ≤ 15) : Ev c (.Dict ks vs pos) (fDispD g) := by
  obtain ⟨trs, p, q⟩ := h
  refine ⟨_, fun j => pe_disp (p j) hall hl h0 h15, ?_⟩
  intro b F ρ σ X H τ Q S e k
  unfold fDispD at e
  obtain ⟨kds, e1, e⟩ := Option.bind_eq_some_iff.mp e
  split at e
  · rename_i h15'
    cases e
    intro p hp
    have S1 := S.own (t := .dk [] []) (o := .dK []) hp ⟨p, [], rfl, rfl, upd_same, rfl, rfl⟩
    refine q b F ρ σ _ _ kds _ S1 e1 fun kvs F2 H2 S2 i2 s2 h1 h2 => ?_
    have hp2 : H2 p = some (.dK []) := s2 _ _ upd_same
    refine ⟨hp2, kvs, rfl, ?_, ?_⟩
    · have := congrArg List.length h1
      simp only [List.length_map] at this
      omega
    · obtain ⟨m1, m2⟩ := dmerge_ok (kvs := []) (ks := []) (ds := []) rfl rfl h1 h2
      have S3 := S2.wrX (t' := .dk (dmerge [] [] kds).1 (dmerge [] [] kds).2) (p := p) (o := .dK []) (o' := .dK (mergeK [] kvs)) fun fp r nd hn => by
        obtain ⟨p', kvs', e1, e2, e3, _⟩ := r
        cases e1
        subst e2
        exact ⟨hp2, Stb.dk, List.mem_singleton.mpr rfl, [p], ⟨p, _, rfl, rfl, upd_same, m1, m2⟩, nd, fun a ha => ha⟩
      obtain ⟨F3, S4, i3⟩ := S3.frz rfl (d := .dct (dmerge [] [] kds).1 (dmerge [] [] kds).2) rfl
      refine k _ F3 _ S4.drop (i2.trans i3) (fun a o e => ?_) (.f S4.top)
      have hap : a ≠ p := ne_of_none e hp
      rw [upd_ne hap]
      exact s2 _ _ (by rw [upd_ne hap]; exact e)
  · cases e
end
end Z

namespace Z
open PySem PySem.Spec PyProof.Rows L2
/-! ### short words -/
theorem notin_of {l : List Nat} {i : Nat} (h : l.contains i = false) : i ∉ l := fun m => by
  have := List.contains_iff_mem.mpr m
  rw [h] at this
  cases this
section
variable {c : Ctx} {e : Expr} {fo : List T → Option Re} {pos pos' : Pos}
theorem ev_v (i : Nat) {x : Str} (hi : c.N[i]? = some x := by rfl) (hv : ∀ j, Vis (c.X j).env.scope x := by intro _; first | exact Or.inl rfl | exact Or.inr (Or.inl rfl) | exact Or.inr (Or.inr rfl)) (hd : (x == ("__debug__" : Str)) = false := by decide) (hcd : (x == ("__classdict__" : Str)) = false := by decide) : Ev c (.Name x pos) (fVar i) := ev_var hi hv hd hcd
theorem eo_m (i : Nat) {x : Str} (hi : c.N[i]? = some x := by rfl) (hv : ∀ j, Vis (c.X j).env.scope x := by intro _; first | exact Or.inl rfl | exact Or.inr (Or.inl rfl) | exact Or.inr (Or.inr rfl)) (hm : Nat.ble c.P.m i = true := by rfl) (hd : (x == ("__debug__" : Str)) = false := by decide) (hcd : (x == ("__classdict__" : Str)) = false := by decide) : Eo c (.Name x pos) (fMv i) := eo_mv hi hv (Nat.le_of_ble_eq_true hm) hd hcd
theorem sm_s (i : Nat) {x : Str} (he : Eo c e fo) (hi : c.N[i]? = some x := by rfl) (hx : ∀ j, L2.Loc (c.X j).env.scope x := by intro _; first | exact Or.inl rfl | exact Or.inr rfl) (hio : c.P.io.contains i = false := by rfl) (hs : ∀ j, swapsWith e (some (.Name x pos')) pos.line (c.X j).env = pure false := by intro _; rfl)
    (hf : ∀ j, (c.X j).fn x = true ∨ (c.X j).env.scope.names.lookup x = some .local := by intro _; first | exact Or.inl rfl | exact Or.inr rfl) : Sm c (.Assign [.Name x pos'] e pos) (sSet i fo) := sm_set he hi hx (notin_of hio) hs hf
theorem gt_n (i : Nat) {x : Str} (hi : c.N[i]? = some x := by rfl) (hx : ∀ j, L2.Loc (c.X j).env.scope x := by intro _; first | exact Or.inl rfl | exact Or.inr rfl) (hio : c.P.io.contains i = false := by rfl) (hf : ∀ j, (c.X j).fn x = true ∨ (c.X j).env.scope.names.lookup x = some .local := by intro _; first | exact Or.inl rfl | exact Or.inr rfl) : Gt c (.Name x pos) (gSet i) := gt_name hi hx (notin_of hio) hf
end
section
variable {c : Ctx}
theorem callLen (j : c.J) : CallR (c.X j) (.builtin "len") (rLenU c.W.K) := by have h := call_lenU (X := c.X j); rw [c.hK j] at h; exact h
theorem callList (j : c.J) : CallR (c.X j) (.type "list") (fun xs H Q => ∃ p ys, xs = [.ref p] ∧ (SqL c.W.K H p ys ∨ SqT c.W.K H p ys) ∧ ∀ l, H l = none → Q (.ref l) (upd H l (.lst ys))) := by have h := call_list_of (X := c.X j); rw [c.hK j] at h; exact h
theorem callTuple (j : c.J) : CallR (c.X j) (.type "tuple") (fun xs H Q => ∃ p ys, xs = [.ref p] ∧ ((SqL c.W.K H p ys ∧ ∀ l, H l = none → Q (.ref l) (upd H l (.tup ys))) ∨ (SqT c.W.K H p ys ∧ Q (.ref p) H))) := by have h := call_tuple_of (X := c.X j); rw [c.hK j] at h; exact h
theorem callSum (j : c.J) : CallR (c.X j) (.builtin "sum") (rSum c.W.K) := by have h := cr_sum (c.calm j); rw [c.hK j] at h; exact h
theorem callAll (j : c.J) : CallR (c.X j) (.builtin "all") (rAll c.W.K) := by have h := cr_all (c.calm j); rw [c.hK j] at h; exact h
theorem callMax2 (j : c.J) : CallR (c.X j) (.builtin "max") (fun xs H Q => ∃ i j, xs = [.int i, .int j] ∧ Q (.int (if j > i then j else i)) H) := call_max2 (c.calm j)
theorem callMin2 (j : c.J) : CallR (c.X j) (.builtin "min") (fun xs H Q => ∃ i j, xs = [.int i, .int j] ∧ Q (.int (if j < i then j else i)) H) := call_min2 (c.calm j)
theorem callStr (j : c.J) : CallR (c.X j) (.type "str") (fun xs H Q => (∃ i : Int, xs = [.int i] ∧ i.natAbs.log2 < 1920 ∧ Q (.str (toString i)) H) ∨ ∃ a, xs = [.str a] ∧ Q (.str a) H) := CallR_or call_str_int SkE.call_str_str
end
/-- the end: a law's promise from what its function gives -/
theorem law_sp {W : Wd} {G : List T → Option Re} {H : Hp} {a : Addr} {ns : List Int} (hS : SqL W.K H a (ns.map V.int)) (h : ∃ us, G [.f (.lst (ns.map .int))] = some (.ok (.f (.bl true)) us)) : spF W [] G [.ref a] H (fun v _ => v = .bl true) fun _ _ _ => False := by
  obtain ⟨us, e⟩ := h
  refine ⟨H, [.f (.lst (ns.map .int))], [[]], _, Le.refl H, ⟨_, _, _, _, rfl, rfl, ⟨rfl, a, _, rfl, hS, Reps.of_ints ns⟩, rfl, rfl⟩, ⟨List.nodup_nil, fun a ha => by cases ha⟩, rfl, e, ?_⟩
  intro v F' H' R _
  exact R.top
end Z

namespace Z
open PySem PySem.Spec PyProof.Rows L2
/-! ### parts of a thing of one's own, changed in place -/
inductive Sel where
  | ix (n : Nat)
  | at (nm : Str)
def atN : List Str → List T → Str → Option T
  | n :: ns, t :: ts, x => if n = x then some t else atN ns ts x
  | _, _, _ => none
def setN : List Str → List T → Str → T → List T
  | n :: ns, t :: ts, x, u => if n = x then u :: ts else t :: setN ns ts x u
  | _, ts, _, _ => ts
def T.sub : T → Sel → Option T
  | .ll ts, .ix n => ts[n]?
  | .tu ts, .ix n => ts[n]?
  | .o _ ns ts, .at x => atN ns ts x
  | _, _ => none
def T.upd : T → Sel → T → T
  | .ll ts, .ix n, u => .ll (ts.set n u)
  | .tu ts, .ix n, u => .tu (ts.set n u)
  | .o C ns ts, .at x, u => .o C ns (setN ns ts x u)
  | t, _, _ => t
def T.getP : T → List Sel → Option T
  | t, [] => some t
  | t, s :: π => (t.sub s).bind fun u => u.getP π
def T.putP : T → List Sel → T → T
  | _, [], u => u
  | t, s :: π, u => match t.sub s with
    | some t1 => t.upd s (t1.putP π u)
    | none => t
def AtV (H : Hp) : V → List Sel → Addr → Prop
  | v, [], p => v = .ref p
  | v, .ix n :: π, p => ∃ a vs w, v = .ref a ∧ (H a = some (.lst vs) ∨ H a = some (.tup vs)) ∧ vs[n]? = some w ∧ AtV H w π p
  | v, .at x :: π, p => ∃ a C dx kvs w, v = .ref a ∧ H a = some (.ins C dx kvs) ∧ kvs.lookup x = some w ∧ AtV H w π p
theorem AtV.same {H H' : Hp} (h : Same H H') : ∀ {π : List Sel} {v : V} {p : Addr}, AtV H v π p → AtV H' v π p
  | [], _, _, r => r
  | .ix n :: π, _, _, r => by
    obtain ⟨a, vs, w, e, r1, r2, r3⟩ := r
    exact ⟨a, vs, w, e, r1.imp (h a _) (h a _), r2, AtV.same h r3⟩
  | .at x :: π, _, _, r => by
    obtain ⟨a, C, dx, kvs, w, e, r1, r2, r3⟩ := r
    exact ⟨a, C, dx, kvs, w, e, h a _ r1, r2, AtV.same h r3⟩
section
variable {W : Wd} {F F' H H' : Hp} {p : Addr}
theorem RelTs.put {v : V} {f : List Addr} {t' : T} (hp : p ∈ f) (hr : RelT W F H' t' v f) (hH : ∀ a, a ≠ p → H' a = H a) : ∀ {ts : List T} {vs : List V} {fps : List (List Addr)} {n : Nat}, RelTs W F H ts vs fps → fps.flatten.Nodup → vs[n]? = some v → fps[n]? = some f → RelTs W F H' (ts.set n t') vs fps
  | [], _, _, _, r, _, e, _ => by rw [r.1] at e; simp at e
  | t :: ts, _, _, 0, r, nd, e1, e2 => by
    obtain ⟨v0, vr, f0, fr, rfl, rfl, a, b⟩ := r
    simp at e1 e2
    subst e1 e2
    rw [List.flatten_cons] at nd
    have n := List.nodup_append.mp nd
    exact ⟨_, _, _, _, rfl, rfl, hr, RelTs.mono (Inc.refl F) ts vr fr (fun x hx => hH x fun q => n.2.2 p hp x hx q.symm) b⟩
  | t :: ts, _, _, n + 1, r, nd, e1, e2 => by
    obtain ⟨v0, vr, f0, fr, rfl, rfl, a, b⟩ := r
    simp at e1 e2
    rw [List.flatten_cons] at nd
    have n0 := List.nodup_append.mp nd
    refine ⟨_, _, _, _, rfl, rfl, RelT.mono (Inc.refl F) t v0 f0 (fun x hx => hH x fun q => n0.2.2 x hx p (List.mem_flatten.mpr ⟨f, List.mem_of_getElem? e2, hp⟩) q) a, RelTs.put hp hr hH b n0.2.1 e1 e2⟩
theorem RelTs.putN {x : Str} {t' : T} : ∀ {ns : List Str} {ts : List T} {kvs : List (Str × V)} {fps : List (List Addr)} {t : T}, kvs.map (·.1) = ns → RelTs W F H ts (kvs.map (·.2)) fps → fps.flatten.Nodup → atN ns ts x = some t →
    ∃ w f, kvs.lookup x = some w ∧ f ∈ fps ∧ RelT W F H t w f ∧ ∀ H', (∀ a, a ≠ p → H' a = H a) → p ∈ f → RelT W F H' t' w f → RelTs W F H' (setN ns ts x t') (kvs.map (·.2)) fps
  | _, [], [], _, _, h, _, _, e => by subst h; simp [atN] at e
  | _, [], k :: kvs, _, _, h, _, _, e => by subst h; simp [atN] at e
  | _, t0 :: ts, [], _, _, h, _, _, e => by subst h; simp [atN] at e
  | _, t0 :: ts, k :: kvs, fps, t, h, r, nd, e => by
    subst h
    obtain ⟨v0, vr, f0, fr, e1, rfl, a, b⟩ := r
    have e1a : k.2 = v0 := (List.cons.inj e1).1
    have e1b : kvs.map (·.2) = vr := (List.cons.inj e1).2
    subst e1a e1b
    rw [List.flatten_cons] at nd
    have n0 := List.nodup_append.mp nd
    by_cases hk : k.1 = x
    · have e2 : t0 = t := by
        have e' : (if k.1 = x then some t0 else _) = some t := e
        rw [if_pos hk] at e'
        exact Option.some.inj e'
      subst e2
      refine ⟨k.2, f0, ?_, List.mem_cons_self, a, fun H' hH hp hr => ?_⟩
      · rw [List.lookup_cons]
        rw [show (x == k.1) = true by rw [hk]; exact beq_self_eq_true x]
      · show RelTs W F H' (if k.1 = x then t' :: ts else _) _ _
        rw [if_pos hk]
        exact ⟨_, _, _, _, rfl, rfl, hr, RelTs.mono (Inc.refl F) ts _ fr (fun y hy => hH y fun q => n0.2.2 p hp y hy q.symm) b⟩
    · have e2 : atN (kvs.map (·.1)) ts x = some t := by
        have e' : (if k.1 = x then some t0 else atN (kvs.map (·.1)) ts x) = some t := e
        rwa [if_neg hk] at e'
      obtain ⟨w, f, q1, q2, q3, q4⟩ := RelTs.putN (t' := t') rfl b n0.2.1 e2
      refine ⟨w, f, ?_, List.mem_cons_of_mem _ q2, q3, fun H' hH hp hr => ?_⟩
      · rw [List.lookup_cons]
        rw [show (x == k.1) = false from beq_eq_false_iff_ne.mpr fun z => hk z.symm]
        exact q1
      · show RelTs W F H' (if k.1 = x then _ else t0 :: setN (kvs.map (·.1)) ts x t') _ _
        rw [if_neg hk]
        exact ⟨_, _, _, _, rfl, rfl, RelT.mono (Inc.refl F) t0 _ f0 (fun y hy => hH y fun q => n0.2.2 y hy p (List.mem_flatten.mpr ⟨f, q2, hp⟩) q) a, q4 H' hH hp hr⟩
/-- the part at a place: what it is, and the whole where the part is changed at its own place -/
theorem RelT.mut {u u' : T} : ∀ {π : List Sel} {t : T} {v : V} {fp : List Addr}, RelT W F H t v fp → fp.Nodup → t.getP π = some u → AtV H v π p →
    ∃ fu, (fu.Nodup ∧ ∀ a ∈ fu, a ∈ fp) ∧ RelT W F H u (.ref p) fu ∧ ∀ H', (∀ a, a ≠ p → H' a = H a) → p ∈ fu → RelT W F H' u' (.ref p) fu → RelT W F H' (t.putP π u') v fp
  | [], t, v, fp, r, nd, e, hv => by
    have hv : v = _ := hv
    subst hv
    cases e
    exact ⟨fp, ⟨nd, fun _ h => h⟩, r, fun H' _ _ h => h⟩
  | .ix n :: π, t, v, fp, r, nd, e, hv => by
    obtain ⟨a, vs, w, rfl, hH, hw, hv⟩ := hv
    obtain ⟨t1, e1, e0⟩ := Option.bind_eq_some_iff.mp (show (t.sub (.ix n)).bind _ = _ from e)
    have hput : t.putP (.ix n :: π) u' = t.upd (.ix n) (t1.putP π u') := by
      show (match t.sub (.ix n) with | some t1 => t.upd (.ix n) (t1.putP π u') | none => t) = _
      rw [e1]
    rw [hput]
    cases t with
    | ll ts =>
      obtain ⟨q, vs', fps, ev, rfl, hq, rs⟩ := r
      cases ev
      have evs : vs' = vs := by
        rcases hH with h | h
        · rw [hq] at h; cases h; rfl
        · rw [hq] at h; cases h
      subst evs
      have n0 := List.nodup_cons.mp nd
      obtain ⟨w', f, q1, q2, q3⟩ := rs.at e1
      rw [hw] at q1
      cases q1
      have hfm : ∀ x ∈ f, x ∈ fps.flatten := fun x hx => List.mem_flatten.mpr ⟨f, List.mem_of_getElem? q2, hx⟩
      obtain ⟨fu, h1, h2, h3⟩ := RelT.mut (u' := u') q3 ((List.sublist_flatten_of_mem (List.mem_of_getElem? q2)).nodup n0.2) e0 hv
      have hnd := h1.1
      have h1 := h1.2
      refine ⟨fu, ⟨hnd, fun x hx => List.mem_cons_of_mem _ (hfm x (h1 x hx))⟩, h2, fun H' hH' hp hr => ?_⟩
      refine ⟨_, _, fps, rfl, rfl, ?_, RelTs.put (h1 p hp) (h3 H' hH' hp hr) hH' rs n0.2 hw q2⟩
      rw [hH' _ fun z => n0.1 (by rw [z]; exact hfm p (h1 p hp))]
      exact hq
    | tu ts =>
      obtain ⟨q, vs', fps, ev, rfl, hq, rs⟩ := r
      cases ev
      have evs : vs' = vs := by
        rcases hH with h | h
        · rw [hq] at h; cases h
        · rw [hq] at h; cases h; rfl
      subst evs
      have n0 := List.nodup_cons.mp nd
      obtain ⟨w', f, q1, q2, q3⟩ := rs.at e1
      rw [hw] at q1
      cases q1
      have hfm : ∀ x ∈ f, x ∈ fps.flatten := fun x hx => List.mem_flatten.mpr ⟨f, List.mem_of_getElem? q2, hx⟩
      obtain ⟨fu, h1, h2, h3⟩ := RelT.mut (u' := u') q3 ((List.sublist_flatten_of_mem (List.mem_of_getElem? q2)).nodup n0.2) e0 hv
      have hnd := h1.1
      have h1 := h1.2
      refine ⟨fu, ⟨hnd, fun x hx => List.mem_cons_of_mem _ (hfm x (h1 x hx))⟩, h2, fun H' hH' hp hr => ?_⟩
      refine ⟨_, _, fps, rfl, rfl, ?_, RelTs.put (h1 p hp) (h3 H' hH' hp hr) hH' rs n0.2 hw q2⟩
      rw [hH' _ fun z => n0.1 (by rw [z]; exact hfm p (h1 p hp))]
      exact hq
    | _ => cases e1
  | .at x :: π, t, v, fp, r, nd, e, hv => by
    obtain ⟨a, C, dx, kvs, w, rfl, hH, hw, hv⟩ := hv
    obtain ⟨t1, e1, e0⟩ := Option.bind_eq_some_iff.mp (show (t.sub (.at x)).bind _ = _ from e)
    have hput : t.putP (.at x :: π) u' = t.upd (.at x) (t1.putP π u') := by
      show (match t.sub (.at x) with | some t1 => t.upd (.at x) (t1.putP π u') | none => t) = _
      rw [e1]
    rw [hput]
    cases t with
    | o C' ns ts =>
      obtain ⟨q, dx', kvs', fps, ev, rfl, hq, hk, rs⟩ := r
      cases ev
      rw [hq] at hH
      cases hH
      have n0 := List.nodup_cons.mp nd
      obtain ⟨w', f, q1, q2, q3, q4⟩ := RelTs.putN (p := p) (t' := t1.putP π u') hk rs n0.2 e1
      rw [hw] at q1
      cases q1
      have hfm : ∀ x ∈ f, x ∈ fps.flatten := fun x hx => List.mem_flatten.mpr ⟨f, q2, hx⟩
      obtain ⟨fu, h1, h2, h3⟩ := RelT.mut (u' := u') q3 ((List.sublist_flatten_of_mem q2).nodup n0.2) e0 hv
      have hnd := h1.1
      have h1 := h1.2
      refine ⟨fu, ⟨hnd, fun x hx => List.mem_cons_of_mem _ (hfm x (h1 x hx))⟩, h2, fun H' hH' hp hr => ?_⟩
      refine ⟨_, dx, _, fps, rfl, rfl, ?_, hk, q4 H' hH' (h1 p hp) (h3 H' hH' hp hr)⟩
      rw [hH' _ fun z => n0.1 (by rw [z]; exact hfm p (h1 p hp))]
      exact hq
    | _ => cases e1
theorem Slots.put {v : V} {f : List Addr} {t' : T} (hp : p ∈ f) (hr : RelT W F H' t' v f) (hH : ∀ a, a ≠ p → H' a = H a) : ∀ {ts : List T} {σ : L2.St} {fps : List (List Addr)} {n : Nat}, Slots W F H ts σ fps → fps.flatten.Nodup → σ[n]? = some (some v) → fps[n]? = some f → Slots W F H' (ts.set n t') σ fps
  | [], _, _, _, r, _, e, _ => by rw [r.1] at e; simp at e
  | t :: ts, _, _, 0, r, nd, e1, e2 => by
    obtain ⟨v0, vr, f0, fr, rfl, rfl, a, b⟩ := r
    simp at e1 e2
    subst e1 e2
    rw [List.flatten_cons] at nd
    have n := List.nodup_append.mp nd
    exact ⟨_, _, _, _, rfl, rfl, hr, Slots.mono (Inc.refl F) (fun x hx => hH x fun q => n.2.2 p hp x hx q.symm) b⟩
  | t :: ts, _, _, n + 1, r, nd, e1, e2 => by
    obtain ⟨v0, vr, f0, fr, rfl, rfl, a, b⟩ := r
    simp at e1 e2
    rw [List.flatten_cons] at nd
    have n0 := List.nodup_append.mp nd
    refine ⟨_, _, _, _, rfl, rfl, Slot.mono (Inc.refl F) (fun x hx => hH x fun q => n0.2.2 x hx p (List.mem_flatten.mpr ⟨f, List.mem_of_getElem? e2, hp⟩) q) a, Slots.put hp hr hH b n0.2.1 e1 e2⟩
/-- a slot's thing is changed at one place of its own -/
theorem SR.mut {b : Bs} {ρ : List T} {σ : L2.St} {X : List Tm} {i : Nat} {t u u' : T} {v : V} {π : List Sel} (S : SR W b F ρ σ X H) (hi : ρ[i]? = some t) (hv : σ[i]? = some (some v)) (hu : t.getP π = some u) (ha : AtV H v π p) :
    ∃ fu, RelT W F H u (.ref p) fu ∧ (fu.Nodup ∧ ∀ a ∈ fu, F a = none) ∧ ∀ o o', H p = some o → (b.H0 p ≠ none → Stb (GB W b) o o') → p ∈ fu → RelT W F (upd H p o') u' (.ref p) fu → SR W b F (ρ.set i (t.putP π u')) σ X (upd H p o') := by
  obtain ⟨le, f0, fn, kept, stab, pin, fps, xps, s1, s2, ⟨nd, ow⟩, lc1, lc2⟩ := S
  obtain ⟨s, f, e1, e2, r⟩ := s1.get hi
  rw [hv] at e1
  cases e1
  have n := List.nodup_append.mp nd
  have hf : ∀ a ∈ f, a ∈ fps.flatten := fun a ha => List.mem_flatten.mpr ⟨f, List.mem_of_getElem? e2, ha⟩
  have nf : f.Nodup := (List.sublist_flatten_of_mem (List.mem_of_getElem? e2)).nodup n.1
  obtain ⟨fu, h1, h2, h3⟩ := RelT.mut (u' := u') r nf hu ha
  have hnd := h1.1
  have h1 := h1.2
  refine ⟨fu, h2, ⟨hnd, fun a ha => ow a (List.mem_append_left _ (hf a (h1 a ha)))⟩, fun o o' ho hst hp hr => ?_⟩
  have hpf : p ∈ fps.flatten := hf p (h1 p hp)
  have hpn : F p = none := ow p (List.mem_append_left _ hpf)
  have hne : ∀ a, a ≠ p → upd H p o' a = H a := fun a e => upd_ne e
  refine ⟨fun a x e => ?_, f0, fn, fun a x e hA => ?_, fun a x e hA => ?_, pin, fps, xps, Slots.put (h1 p hp) (h3 _ hne hp hr) hne s1 n.1 hv e2, RelTs.mono (Inc.refl F) _ _ xps (fun a ha => hne a fun q => n.2.2 p hpf a ha q.symm) s2, ⟨nd, ow⟩, lc1, lc2⟩
  · have : a ≠ p := fun q => by rw [q, hpn] at e; cases e
    rw [hne a this]
    exact le a x e
  · have : a ≠ p := fun q => by
      subst q
      rcases LocS.old lc1 hpf with z | z
      · rw [z] at e; cases e
      · exact hA z
    rw [hne a this]
    exact kept a x e hA
  · by_cases q : a = p
    · subst q
      obtain ⟨w, hw, st⟩ := stab a x e hA
      rw [ho] at hw
      cases hw
      exact ⟨o', upd_same, st.trans (hst (by rw [e]; exact fun z => nomatch z))⟩
    · obtain ⟨w, hw, st⟩ := stab a x e hA
      exact ⟨w, by rw [hne a q]; exact hw, st⟩
theorem stb_lst {b : Bs} {ρ : List T} {σ : L2.St} {X : List Tm} {ds : List D} {vs : List V} {vs' : List V} (S : SR W b F ρ σ X H) (r : Reps W F ds vs) : Stb (GB W b) (.lst vs) (.lst vs') := Stb.lst
end
end Z

namespace Z
open PySem PySem.Spec PyProof.Rows L2
section
variable {W : Wd} {F F' H H' : Hp}
theorem rep_ref {d : D} {a : Addr} (q : Rep W F d (.ref a)) : F a ≠ none ∨ W.K.lookup a ≠ none := by
  cases d with
  | non => cases (show V.ref a = _ from q)
  | bl b => cases (show V.ref a = _ from q)
  | int b => cases (show V.ref a = _ from q)
  | str b => cases (show V.ref a = _ from q)
  | tup l =>
    obtain ⟨p, us, e, s, _⟩ := q
    cases e
    rcases s with (s | ⟨o, s⟩) | ⟨o, its, n, s, _⟩
    · exact .inl (by rw [s]; simp)
    · exact .inl (by rw [s]; simp)
    · exact .inr (by rw [s]; simp)
  | lst l =>
    obtain ⟨p, us, e, s, _⟩ := q
    cases e
    rcases s with (s | ⟨o, s⟩) | ⟨o, its, n, s, _⟩
    · exact .inl (by rw [s]; simp)
    · exact .inl (by rw [s]; simp)
    · exact .inr (by rw [s]; simp)
  | dct ks l =>
    obtain ⟨p, us, e, s, _⟩ := q
    cases e
    rcases s with s | ⟨o, s⟩
    · exact .inl (by rw [s]; simp)
    · exact .inl (by rw [s]; simp)
  | obj C ns l =>
    obtain ⟨p, dx, us, e, s, _⟩ := q
    cases e
    exact .inl (by rw [s]; simp)
theorem stb_lstF {ds : List D} {vs vs' : List V} (r : Reps W F ds vs) : Stb (GF W F) (.lst vs) (.lst vs') := Stb.lst
theorem stb_dk {kvs kvs' : List (Key × V)} {G : Addr → Prop} : Stb G (.dK kvs) (.dK kvs') := Stb.dk
end
/-! ### where a thing of one's own stands -/
def owned : T → Bool | .un => false | .f _ => false | _ => true
def Sl (W : Wd) (te : TE) (i : Nat) (f : List T → Option (List Sel)) : Prop :=
  ∀ b F ρ σ X H π t u Q, SR W b F ρ σ X H → f ρ = some π → ρ[i]? = some t → t.getP π = some u → owned u = true → (∀ p v F' H', SR W b F' ρ σ X H' → Inc F F' → Same H H' → σ[i]? = some (some v) → AtV H' v π p → Q (.ref p) H') → te σ H Q
def Lo (c : Ctx) (e : Expr) (i : Nat) (f : List T → Option (List Sel)) : Prop := ∃ t, (∀ j, PE (c.X j) e t) ∧ Sl c.W t i f
def pHere : List T → Option (List Sel) := fun _ => some []
theorem owned_ref {W : Wd} {F H : Hp} {t : T} {v : V} {fp : List Addr} (r : RelT W F H t v fp) (h : owned t = true) : ∃ p, v = .ref p := by
  cases t with
  | un => cases h
  | f d => cases h
  | l ds => obtain ⟨p, _, e, _⟩ := r; exact ⟨p, e⟩
  | dk ks ds => obtain ⟨p, _, e, _⟩ := r; exact ⟨p, e⟩
  | di ks ds => obtain ⟨p, _, e, _⟩ := r; exact ⟨p, e⟩
  | ll ts => obtain ⟨p, _, _, e, _⟩ := r; exact ⟨p, e⟩
  | tu ts => obtain ⟨p, _, _, e, _⟩ := r; exact ⟨p, e⟩
  | o C ns ts => obtain ⟨p, _, _, _, e, _⟩ := r; exact ⟨p, e⟩
section
variable {c : Ctx} {pos : Pos}
theorem lo_v (i : Nat) {x : Str} (hi : c.N[i]? = some x := by rfl) (hv : ∀ j, Vis (c.X j).env.scope x := by intro _; first | exact Or.inl rfl | exact Or.inr (Or.inl rfl) | exact Or.inr (Or.inr rfl)) (hd : (x == ("__debug__" : Str)) = false := by decide) (hcd : (x == ("__classdict__" : Str)) = false := by decide) : Lo c (.Name x pos) i pHere := by
  refine ⟨_, fun j => pe_var (i := i) (by rw [c.hN j]; exact hi) (hv j) hd hcd, ?_⟩
  intro b F ρ σ X H π t u Q S e ht hu ho k
  cases e
  cases hu
  obtain ⟨s, fp, e1, r⟩ := S.slot ht
  cases s with
  | none => rw [r.1] at ho; cases ho
  | some v =>
    obtain ⟨p, rfl⟩ := owned_ref r ho
    exact ⟨_, e1, k p _ F H S (Inc.refl F) (Same.refl H) e1 rfl⟩
end
/-- a slot's thing with one part changed -/
def mutF (i : Nat) (π : List Sel) (g : T → Option T) (ρ : List T) : Option (List T) := ρ[i]?.bind fun t => (t.getP π).bind fun u => (g u).map fun u' => ρ.set i (t.putP π u')
theorem mutF_some {i : Nat} {π : List Sel} {g : T → Option T} {ρ ρ' : List T} (h : mutF i π g ρ = some ρ') : ∃ t u u', ρ[i]? = some t ∧ t.getP π = some u ∧ g u = some u' ∧ ρ' = ρ.set i (t.putP π u') := by
  obtain ⟨t, e1, h⟩ := Option.bind_eq_some_iff.mp h
  obtain ⟨u, e2, h⟩ := Option.bind_eq_some_iff.mp h
  obtain ⟨u', e3, h⟩ := Option.map_eq_some_iff.mp h
  exact ⟨t, u, u', e1, e2, e3, h.symm⟩
def appT (d : D) : T → Option T
  | .l ds => if ds.length < sizeLine then some (.l (ds ++ [d])) else none
  | _ => none
/-- xs.append(e) -/
def sApp (i : Nat) (fp : List T → Option (List Sel)) (fe : List T → Option T) : FS := fun ρ => (fp ρ).bind fun π => (fe ρ).bind fun x => x.d?.bind fun d => (mutF i π (appT d) ρ).map .nx
theorem SR.app {W : Wd} {b : Bs} {F : Hp} {ρ ρ' : List T} {σ : L2.St} {X : List Tm} {H : Hp} {i : Nat} {π : List Sel} {d : D} {v y : V} {p : Addr} (S : SR W b F ρ σ X H) (h : mutF i π (appT d) ρ = some ρ') (hv : σ[i]? = some (some v)) (ha : AtV H v π p) (r : Rep W F d y) :
    ∃ vs, H p = some (.lst vs) ∧ vs.length < sizeLine ∧ SR W b F ρ' σ X (upd H p (.lst (vs ++ [y]))) := by
  obtain ⟨t, u, u', e1, e2, e3, rfl⟩ := mutF_some h
  cases u with
  | l ds =>
    have e3' : (if ds.length < sizeLine then some (T.l (ds ++ [d])) else none) = some u' := e3
    split at e3'
    · rename_i hl
      cases e3'
      obtain ⟨fu, q1, q2, q3⟩ := S.mut (u' := .l (ds ++ [d])) e1 hv e2 ha
      obtain ⟨p', vs, ep, rfl, hp, rs⟩ := q1
      cases ep
      refine ⟨vs, hp, by rw [← rs.len]; exact hl, q3 _ _ hp (fun _ => stb_lst S rs) (List.mem_singleton.mpr rfl) ⟨p, _, rfl, rfl, upd_same, rs.append ⟨y, [], rfl, r, rfl⟩⟩⟩
    · cases e3'
  | _ => cases e3
section
variable {c : Ctx} {e o : Expr} {i : Nat} {fp : List T → Option (List Sel)} {fe fk : List T → Option T} {pos apos cpos : Pos}
theorem mutF_own {i : Nat} {π : List Sel} {g : T → Option T} {ρ ρ' : List T} (h : mutF i π g ρ = some ρ') (hg : ∀ u u', g u = some u' → owned u = true) : ∃ t u, ρ[i]? = some t ∧ t.getP π = some u ∧ owned u = true := by
  obtain ⟨t, u, u', e1, e2, e3, _⟩ := mutF_some h
  exact ⟨t, u, e1, e2, hg u u' e3⟩
theorem appT_own {d : D} (u u' : T) (h : appT d u = some u') : owned u = true := by
  cases u with
  | un => cases h
  | f d => cases h
  | _ => rfl
theorem sm_app (ho : Lo c o i fp) (he : Ev c e fe)
    (hbase : ∀ j, attributeBase o "append" (c.X j).env (eval o (c.X j).env) = eval o (c.X j).env := by intro _; rfl)
    (hfew : ∀ j, ((backTo cpos (starEach [e] (c.X j).env)).all (fun x => !x.1) && (backToKw cpos (keywordEach [] (c.X j).env)).all (fun x => x.1.isSome)
      && decide (([e] : List Expr).length + ([] : List Keyword).length + (if ([] : List Keyword).isEmpty then 0 else 1) < 30)) = true := by intro _; rfl)
    (hline : (apos.endLine == cpos.line) = true := by rfl) (hs : ∀ j, starEach [e] (c.X j).env = (false, eval e (c.X j).env) :: starEach [] (c.X j).env := by intro _; rfl) (hplain : ∀ j, (backTo cpos (starEach [] (c.X j).env)).any (·.1) = false := by intro _; rfl)
    (hsw : ∀ j, swapsWith (.Call (.Attribute o "append" apos) [e] [] cpos) none pos.line (c.X j).env = pure false := by intro _; rfl) :
    Sm c (.Expr (.Call (.Attribute o "append" apos) [e] [] cpos) pos) (sApp i fp fe) := by
  obtain ⟨to, po, so⟩ := ho
  obtain ⟨te, pe, se⟩ := he
  refine ⟨tDrop (tBM c.W.K "list" rAppend to (tCons te tNil)), fun j => by
    have h := ps_expr (pe_bm PySem.F.plainAttrs_list PySem.F.slot_list_append PySem.F.type_list_append mt_append (po j) (pa_cons (pe j) pa_nil (hs j)) (hbase j) (hfew j) hline (hs j) (hplain j)) (hsw j)
    rw [c.hK j] at h
    exact h, ?_⟩
  intro b F ρ σ X H out D hb S eq k
  unfold sApp at eq
  obtain ⟨π, e1, eq⟩ := Option.bind_eq_some_iff.mp eq
  obtain ⟨x, e2, eq⟩ := Option.bind_eq_some_iff.mp eq
  obtain ⟨d, e3, eq⟩ := Option.bind_eq_some_iff.mp eq
  obtain ⟨ρ', e4, eq⟩ := Option.map_eq_some_iff.mp eq
  subst eq
  cases d_some e3
  obtain ⟨tt, uu, h1, h2, h3⟩ := mutF_own e4 appT_own
  refine so b F ρ σ X H π tt uu _ S e1 h1 h2 h3 fun p v F1 H1 S1 i1 s1 hv hat => ?_
  obtain ⟨t9, u9, u9', f1, f2, f3, _⟩ := mutF_some e4
  obtain ⟨fu, q1, _⟩ := S1.mut (u' := .un) f1 hv f2 hat
  have hl : ∃ vs, H1 p = some (.lst vs) := by
    cases u9 with
    | l ds => obtain ⟨p', vs, ep, _, hp, _⟩ := q1; cases ep; exact ⟨vs, hp⟩
    | _ => cases f3
  obtain ⟨vs0, hl⟩ := hl
  refine ⟨.inl ⟨rfl, vs0, SqL.of hl⟩, ?_⟩
  refine se b F1 ρ σ X H1 _ _ S1 e2 fun y F2 H2 S2 i2 s2 r2 => ?_
  obtain ⟨vs, hp, hz, S3⟩ := S2.app e4 hv (hat.same s2) r2.rep
  exact ⟨p, vs, y, rfl, rfl, hp, hz, k σ F2 _ S3 (i1.trans i2)⟩
/-! o[k] = e -/
def setT (k d : D) : T → Option T
  | .l ds => (T.f k).i?.bind fun j => (ixN ds.length j).map fun n => .l (ds.set n d)
  | .dk ks ds => (T.f k).key?.bind fun q => if ks.length < sizeLine then some (.dk (dput ks ds q d).1 (dput ks ds q d).2) else none
  | _ => none
def sSetIx (i : Nat) (fp : List T → Option (List Sel)) (fk fe : List T → Option T) : FS := fun ρ => (fe ρ).bind fun x => x.d?.bind fun d => (fp ρ).bind fun π => (fk ρ).bind fun z => z.d?.bind fun q => (mutF i π (setT q d) ρ).map .nx
theorem setT_own {k d : D} (u u' : T) (h : setT k d u = some u') : owned u = true := by
  cases u with
  | un => cases h
  | f d => cases h
  | _ => rfl
def rSetU : TSet := fun o i v H Q => rSetL o i v H Q ∨ rSetD o i v H Q
theorem set_U {X : Cx} (hu : X.A.units + 1 < cLine) : PSet X rSetU := by
  intro pins s σ H o i v ov iv u Q I ro ri rv h
  rcases h with h | h
  · exact set_list pins s σ H o i v ov iv u Q I ro ri rv h
  · exact set_dict hu pins s σ H o i v ov iv u Q I ro ri rv h
theorem rep_key {W : Wd} {F : Hp} {d : D} {k : Key} {v : V} (r : Rep W F d v) (h : (T.f d).key? = some k) : v = kV k := by
  cases d with
  | int i => cases h; exact r
  | str x => cases h; exact r
  | _ => cases h
theorem SR.setIx {W : Wd} {b : Bs} {F : Hp} {ρ ρ' : List T} {σ : L2.St} {X : List Tm} {H : Hp} {i : Nat} {π : List Sel} {d q : D} {v y z : V} {p : Addr} (S : SR W b F ρ σ X H) (h : mutF i π (setT q d) ρ = some ρ') (hv : σ[i]? = some (some v)) (ha : AtV H v π p) (r : Rep W F d y) (rq : Rep W F q z)
    {Q : Hp → Prop} (k : ∀ H', SR W b F ρ' σ X H' → Q H') : rSetU (.ref p) z y H Q := by
  obtain ⟨t, u, u', e1, e2, e3, rfl⟩ := mutF_some h
  cases u with
  | l ds =>
    obtain ⟨j, e4, e3⟩ := Option.bind_eq_some_iff.mp (show (T.f q).i?.bind _ = some u' from e3)
    obtain ⟨n, e5, e3⟩ := Option.map_eq_some_iff.mp e3
    subst e3
    have hq : q = .int j := by cases q <;> first | (cases e4; rfl) | cases e4
    subst hq
    obtain ⟨fu, q1, q2, q3⟩ := S.mut (u' := .l (ds.set n d)) e1 hv e2 ha
    obtain ⟨p', vs, ep, rfl, hp, rs⟩ := q1
    cases ep
    have hz : z = .int j := rq
    subst hz
    refine .inl ⟨p, vs, j, n, rfl, rfl, hp, by rw [← rs.len]; exact e5, k _ (q3 _ _ hp (fun _ => stb_lst S rs) (List.mem_singleton.mpr rfl) ⟨p, _, rfl, rfl, upd_same, Reps.set r n rs⟩)⟩
  | dk ks ds =>
    obtain ⟨j, e4, e3⟩ := Option.bind_eq_some_iff.mp (show (T.f q).key?.bind _ = some u' from e3)
    split at e3
    · rename_i hl
      cases e3
      obtain ⟨fu, q1, q2, q3⟩ := S.mut (u' := .dk (dput ks ds j d).1 (dput ks ds j d).2) e1 hv e2 ha
      obtain ⟨p', kvs, ep, rfl, hp, hk, rs⟩ := q1
      cases ep
      have hz := rep_key rq e4
      subst hz
      have hk2 : kvs.length < sizeLine := by rw [← hk, List.length_map] at hl; exact hl
      have dp := dput_ok hk rs r (k := j)
      exact .inr ⟨p, _, rfl, DPut.k hp hk2, k _ (q3 _ _ hp (fun _ => stb_dk) (List.mem_singleton.mpr rfl) ⟨p, _, rfl, rfl, upd_same, dp.1, dp.2⟩)⟩
    · cases e3
  | _ => cases e3
theorem sm_setIx {ek : Expr} {pos' : Pos} (ho : Lo c o i fp) (hk : Ev c ek fk) (he : Ev c e fe)
    (hsw : ∀ j, swapsWithSole [.Subscript o ek pos'] e pos.line (c.X j).env = pure false := by intro _; rfl) (hw : ∀ j, swappedStores [.Subscript o ek pos'] e (c.X j).env = pure none := by intro _; rfl)
    (h1 : ∀ j, (assignEach [.Subscript o ek pos'] (c.X j).env).map (·.2) = [assign (.Subscript o ek pos') (c.X j).env] := by intro _; rfl)
    (ha : ∀ j v, assign (.Subscript o ek pos') (c.X j).env v = (do
      let ov ← holding [v] (eval o (c.X j).env)
      let iv ← holding [v, ov] (eval ek (c.X j).env)
      standAt pos'
      holding [v, ov, iv] (setItem ov iv v)
      release [v, ov, iv] []) := by intro _ _; rfl) : Sm c (.Assign [.Subscript o ek pos'] e pos) (sSetIx i fp fk fe) := by
  obtain ⟨to, po, so⟩ := ho
  obtain ⟨te, pe, se⟩ := he
  obtain ⟨tk, pk, sk⟩ := hk
  refine ⟨tAsg te (L2.gSub to tk rSetU), fun j => ps_asg (pe j) (pg_sub (po j) (pk j) (set_U (c.hu1 j)) (ha j)) (hsw j) (hw j) (h1 j), ?_⟩
  intro b F ρ σ X H out D hb S eq k
  unfold sSetIx at eq
  obtain ⟨x, e2, eq⟩ := Option.bind_eq_some_iff.mp eq
  obtain ⟨d, e3, eq⟩ := Option.bind_eq_some_iff.mp eq
  obtain ⟨π, e1, eq⟩ := Option.bind_eq_some_iff.mp eq
  obtain ⟨z, e5, eq⟩ := Option.bind_eq_some_iff.mp eq
  obtain ⟨q, e6, eq⟩ := Option.bind_eq_some_iff.mp eq
  obtain ⟨ρ', e4, eq⟩ := Option.map_eq_some_iff.mp eq
  subst eq
  cases d_some e3
  cases d_some e6
  obtain ⟨tt, uu, h1, h2, h3⟩ := mutF_own e4 setT_own
  refine se b F ρ σ X H _ _ S e2 fun y F1 H1 S1 i1 s1 r1 => ?_
  refine so b F1 ρ σ X H1 π tt uu _ S1 e1 h1 h2 h3 fun p v F2 H2 S2 i2 s2 hv hat => ?_
  refine sk b F2 ρ σ X H2 _ _ S2 e5 fun w F3 H3 S3 i3 s3 r3 => ?_
  exact S3.setIx e4 hv (hat.same s3) ((r1.ext i2 s2).ext i3 s3).rep r3.rep fun H' S' => k σ F3 H' S' ((i1.trans i2).trans i3)
end
end Z

namespace Z
open PySem PySem.Spec PyProof.Rows L2
/-! ### comprehensions -/
/-- what a pure thing goes over -/
def Sip (W : Wd) (wi : TI) (f : List T → Option (List D)) : Prop :=
  ∀ b F ρ σ X H ds R, SR W b F ρ σ X H → f ρ = some ds → (∀ J F' H', SR W b F' ρ σ X H' → Inc F F' → Same H H' → Wk W F' J ds → R J H') → wi σ H R
def Ip (c : Ctx) (tg e : Expr) (f : List T → Option (List D)) : Prop := ∃ wi, (∀ j, PI (c.X j) tg e wi) ∧ Sip c.W wi f
/-- a target that sets the slots vs alone -/
def Sgc (W : Wd) (g : TG) (f : T → List T → Option (List T)) (vs : List Nat) : Prop :=
  ∀ b F ρ ρ' σ X H t v Q, SR W b F ρ σ (⟨none, t, v⟩ :: X) H → b.io = [] → f t ρ = some ρ' → (∀ σ' F' H', SR W b F' ρ' σ' X H' → Inc F F' → Same H H' → L2.wipe σ' vs = L2.wipe σ vs → Q σ' H') → g v σ H Q
def wipeR (ρ : List T) : List Nat → List T
  | [] => ρ
  | v :: vs => (wipeR ρ vs).set v .un
def Gc (c : Ctx) (e : Expr) (f : T → List T → Option (List T)) (vs : List Nat) : Prop := ∃ g, (∀ j, PG (c.X j) e g) ∧ Sgc c.W g f vs ∧ ∀ t ρ ρ', f t ρ = some ρ' → wipeR ρ' vs = wipeR ρ vs
def Sgcs (W : Wd) (g : TGs) (f : List T → List T → Option (List T)) (vs : List Nat) : Prop :=
  ∀ b F ρ ρ' σ X H ts us Q, ts.length = us.length → SR W b F ρ σ (Xn ts us ++ X) H → b.io = [] → f ts ρ = some ρ' → (∀ σ' F' H', SR W b F' ρ' σ' X H' → Inc F F' → Same H H' → L2.wipe σ' vs = L2.wipe σ vs → Q σ' H') → g us σ H Q
def Gcs (c : Ctx) (es : List Expr) (f : List T → List T → Option (List T)) (vs : List Nat) : Prop := ∃ g, (∀ j, PGs (c.X j) es g) ∧ Sgcs c.W g f vs ∧ ∀ ts ρ ρ', f ts ρ = some ρ' → wipeR ρ' vs = wipeR ρ vs
theorem set_set_comm {α : Type} (l : List α) (i j : Nat) (a : α) : (l.set i a).set j a = (l.set j a).set i a := by
  by_cases h : i = j
  · subst h; rfl
  · exact List.set_comm _ _ h
theorem wipe_set {s : Option V} : ∀ {vs : List Nat} {σ : L2.St} {i : Nat}, i ∈ vs → L2.wipe (σ.set i s) vs = L2.wipe σ vs
  | [], _, _, h => by cases h
  | v :: vs, σ, i, h => by
    have key : ∀ (us : List Nat) (τ : L2.St) (j : Nat) (a : Option V), j ∉ us → L2.wipe (τ.set j a) us = (L2.wipe τ us).set j a := by
      intro us
      induction us with
      | nil => intro τ j a _; rfl
      | cons u us ih =>
        intro τ j a hj
        have hj' : j ≠ u ∧ j ∉ us := ⟨fun h => hj (h ▸ List.mem_cons_self), fun h => hj (List.mem_cons_of_mem _ h)⟩
        show (L2.wipe (τ.set j a) us).set u none = ((L2.wipe τ us).set u none).set j a
        rw [ih τ j a hj'.2, List.set_comm _ _ hj'.1]
    by_cases hm : i ∈ vs
    · show (L2.wipe (σ.set i s) vs).set v none = (L2.wipe σ vs).set v none
      rw [wipe_set hm]
    · have hv : i = v := by
        rcases List.mem_cons.mp h with z | z
        · exact z
        · exact absurd z hm
      subst hv
      show (L2.wipe (σ.set i s) vs).set i none = (L2.wipe σ vs).set i none
      rw [key vs σ i s hm, List.set_set]
theorem wipeR_set {t : T} : ∀ {vs : List Nat} {ρ : List T} {i : Nat}, i ∈ vs → wipeR (ρ.set i t) vs = wipeR ρ vs
  | [], _, _, h => by cases h
  | v :: vs, ρ, i, h => by
    have key : ∀ (us : List Nat) (τ : List T) (j : Nat) (a : T), j ∉ us → wipeR (τ.set j a) us = (wipeR τ us).set j a := by
      intro us
      induction us with
      | nil => intro τ j a _; rfl
      | cons u us ih =>
        intro τ j a hj
        have hj' : j ≠ u ∧ j ∉ us := ⟨fun h => hj (h ▸ List.mem_cons_self), fun h => hj (List.mem_cons_of_mem _ h)⟩
        show (wipeR (τ.set j a) us).set u .un = ((wipeR τ us).set u .un).set j a
        rw [ih τ j a hj'.2, List.set_comm _ _ hj'.1]
    by_cases hm : i ∈ vs
    · show (wipeR (ρ.set i t) vs).set v .un = (wipeR ρ vs).set v .un
      rw [wipeR_set hm]
    · have hv : i = v := by
        rcases List.mem_cons.mp h with z | z
        · exact z
        · exact absurd z hm
      subst hv
      show (wipeR (ρ.set i t) vs).set i .un = (wipeR ρ vs).set i .un
      rw [key vs ρ i t hm, List.set_set]
theorem wipe_wipe (σ : L2.St) : ∀ vs us : List Nat, (∀ v ∈ us, v ∈ vs) → L2.wipe (L2.wipe σ us) vs = L2.wipe σ vs
  | vs, [], _ => rfl
  | vs, u :: us, h => by
    show L2.wipe ((L2.wipe σ us).set u none) vs = _
    rw [wipe_set (h u List.mem_cons_self), wipe_wipe σ vs us fun v hv => h v (List.mem_cons_of_mem _ hv)]
section
variable {W : Wd} {b : Bs} {F F' : Hp} {ρ : List T} {σ : L2.St} {X : List Tm} {H H' : Hp}
def Bs.noio (b : Bs) : Bs := ⟨b.H0, b.F0, b.As, []⟩
theorem locX_noio : ∀ {X : List Tm} {xps : List (List Addr)}, LocX b X xps → LocX b.noio X xps
  | [], _, _ => trivial
  | _ :: _, [], _ => trivial
  | _ :: _, _ :: _, h => ⟨h.1, locX_noio h.2⟩
theorem locX_io : ∀ {X : List Tm} {xps : List (List Addr)}, LocX b.noio X xps → LocX b X xps
  | [], _, _ => trivial
  | _ :: _, [], _ => trivial
  | _ :: _, _ :: _, h => ⟨h.1, locX_io h.2⟩
theorem SR.noio (S : SR W b F ρ σ X H) : SR W b.noio F ρ σ X H := by
  obtain ⟨le, f0, fn, kept, stab, pin, fps, xps, s1, s2, ow, lc1, lc2⟩ := S
  exact ⟨le, f0, fn, kept, stab, (fun p hp => by cases hp), fps, xps, s1, s2, ow, lc1, locX_noio lc2⟩
theorem SR.io (S : SR W b.noio F' ρ σ X H') (h : ∀ p ∈ b.io, σ[p.1]? = some (some p.2)) : SR W b F' ρ σ X H' := by
  obtain ⟨le, f0, fn, kept, stab, pin, fps, xps, s1, s2, ow, lc1, lc2⟩ := S
  exact ⟨le, f0, fn, kept, stab, h, fps, xps, s1, s2, ow, lc1, locX_io lc2⟩
/-- a slot is forgotten -/
theorem SR.unset {i : Nat} (S : SR W b F ρ σ X H) (hio : b.io = []) : SR W b F (ρ.set i .un) (σ.set i none) X H := by
  obtain ⟨le, f0, fn, kept, stab, pin, fps, xps, s1, s2, ⟨nd, ow⟩, lc1, lc2⟩ := S
  have s1' : Slots W F H (ρ.set i .un) (σ.set i none) (fps.set i []) := Slots.set (s' := none) (u := .un) (f' := []) ⟨rfl, rfl⟩ i s1
  have mset : ∀ a ∈ (fps.set i []).flatten, a ∈ fps.flatten := fun a ha => (mem_set_flat ha).elim id fun z => nomatch z
  have n := List.nodup_append.mp nd
  have nset : (fps.set i []).flatten.Nodup := by
    by_cases hi : i < fps.length
    · exact nodup_set n.1 (List.getElem?_eq_getElem hi) List.nodup_nil (fun a ha => nomatch ha)
    · rw [List.set_eq_of_length_le (by omega)]; exact n.1
  refine ⟨le, f0, fn, kept, stab, (by rw [hio]; exact fun p hp => by cases hp), _, xps, s1', s2, ⟨List.nodup_append.mpr ⟨nset, n.2.1, fun a ha c hc e => n.2.2 a (mset a ha) c hc e⟩, fun a ha => ?_⟩, fun j f hj a ha => ?_, lc2⟩
  · rcases List.mem_append.mp ha with z | z
    · exact ow a (List.mem_append_left _ (mset a z))
    · exact ow a (List.mem_append_right _ z)
  · by_cases hij : i = j
    · subst hij
      rw [List.getElem?_set] at hj
      split at hj
      · split at hj
        · cases hj; cases ha
        · cases hj
      · exact lc1 _ f hj a ha
    · rw [List.getElem?_set_ne hij] at hj
      exact lc1 j f hj a ha
/-- .. and told again -/
theorem SR.reset {i : Nat} {ρ' : List T} {σ' : L2.St} (S : SR W b F (ρ'.set i .un) (σ'.set i none) X H) (hio : b.io = []) (h : ∀ t s, ρ'[i]? = some t → σ'[i]? = some s → Slot W F H t s []) (hl : ρ'.length = σ'.length) : SR W b F ρ' σ' X H := by
  by_cases hi : i < ρ'.length
  · obtain ⟨le, f0, fn, kept, stab, pin, fps, xps, s1, s2, ⟨nd, ow⟩, lc1, lc2⟩ := S
    have hlen := s1.len
    rw [List.length_set, List.length_set] at hlen
    have s1' := Slots.set (h ρ'[i] (σ'[i]'(by omega)) (List.getElem?_eq_getElem hi) (List.getElem?_eq_getElem _)) i s1
    rw [List.set_set, List.set_set] at s1'
    rw [List.set_getElem_self, List.set_getElem_self] at s1'
    have mset : ∀ a ∈ (fps.set i []).flatten, a ∈ fps.flatten := fun a ha => (mem_set_flat ha).elim id fun z => nomatch z
    have n := List.nodup_append.mp nd
    have nset : (fps.set i []).flatten.Nodup := nodup_set n.1 (List.getElem?_eq_getElem (show i < fps.length by omega)) List.nodup_nil (fun a ha => nomatch ha)
    refine ⟨le, f0, fn, kept, stab, (by rw [hio]; exact fun p hp => by cases hp), _, xps, s1', s2, ⟨List.nodup_append.mpr ⟨nset, n.2.1, fun a ha c hc e => n.2.2 a (mset a ha) c hc e⟩, fun a ha => ?_⟩, fun j f hj a ha => ?_, lc2⟩
    · rcases List.mem_append.mp ha with z | z
      · exact ow a (List.mem_append_left _ (mset a z))
      · exact ow a (List.mem_append_right _ z)
    · by_cases hij : i = j
      · subst hij
        rw [List.getElem?_set] at hj
        split at hj
        · split at hj
          · cases hj; cases ha
          · cases hj
        · exact lc1 _ f hj a ha
      · rw [List.getElem?_set_ne hij] at hj
        exact lc1 j f hj a ha
  · rw [List.set_eq_of_length_le (by omega), List.set_eq_of_length_le (by omega)] at S
    exact S
theorem SR.wipes (hio : b.io = []) : ∀ (vs : List Nat), SR W b F ρ σ X H → SR W b F (wipeR ρ vs) (L2.wipe σ vs) X H
  | [], S => S
  | v :: vs, S => (SR.wipes hio vs S).unset hio
/-- the slots that a block may have as its own: deep ones -/
def okW (ρ : List T) (vs : List Nat) : Bool := vs.all fun v => match ρ[v]? with
  | none => true
  | some .un => true
  | some (.f _) => true
  | _ => false
theorem wipeR_length (ρ : List T) : ∀ vs : List Nat, (wipeR ρ vs).length = ρ.length
  | [] => rfl
  | v :: vs => by show ((wipeR ρ vs).set v .un).length = _; rw [List.length_set, wipeR_length ρ vs]
theorem wipeR_at (ρ : List T) (i : Nat) : ∀ vs : List Nat, (wipeR ρ vs)[i]? = ρ[i]? ∨ (wipeR ρ vs)[i]? = some .un
  | [] => .inl rfl
  | v :: vs => by
    show ((wipeR ρ vs).set v .un)[i]? = _ ∨ ((wipeR ρ vs).set v .un)[i]? = _
    by_cases h : v = i
    · subst h
      by_cases hl : v < (wipeR ρ vs).length
      · rw [List.getElem?_set_self hl]; exact .inr rfl
      · rw [List.set_eq_of_length_le (by omega)]; exact wipeR_at ρ v vs
    · rw [List.getElem?_set_ne h]
      exact wipeR_at ρ i vs
theorem SR.unwipes {X' : List Tm} {us : List Nat} (hio : b.io = []) (S : SR W b F ρ σ X H) (i1 : Inc F F') (hw : okW ρ us = true) : ∀ (vs : List Nat), (∀ v ∈ vs, v ∈ us) → SR W b F' (wipeR ρ vs) (L2.wipe σ vs) X' H' → SR W b F' ρ σ X' H'
  | [], _, R => R
  | v :: vs, hv, R => by
    have R' : SR W b F' ((wipeR ρ vs).set v .un) ((L2.wipe σ vs).set v none) X' H' := R
    have Sv := SR.wipes hio vs S
    refine SR.unwipes hio S i1 hw vs (fun x hx => hv x (List.mem_cons_of_mem _ hx)) (R'.reset hio (fun t s et es => ?_) Sv.len)
    obtain ⟨s0, fp, e0, r⟩ := Sv.slot et
    rw [es] at e0
    cases e0
    have ht : t = .un ∨ ∃ d, t = .f d := by
      rcases wipeR_at ρ v vs with z | z
      · rw [z] at et
        have := List.all_eq_true.mp hw v (hv v List.mem_cons_self)
        rw [et] at this
        cases t with
        | un => exact .inl rfl
        | f d => exact .inr ⟨d, rfl⟩
        | _ => cases this
      · rw [z] at et; cases et; exact .inl rfl
    rcases ht with rfl | ⟨d, rfl⟩
    · cases s with
      | none => exact ⟨rfl, rfl⟩
      | some w => exact (rfl : ([] : List Addr) = [])
    · cases s with
      | none => exact nomatch r.1
      | some w => exact ⟨rfl, Rep.inc i1 r.2⟩
/-- the list that is being made -/
theorem SR.topApp {ds : List D} {d : D} {D0 : Addr} {y : V} (S : SR W b F ρ σ (⟨none, .l ds, .ref D0⟩ :: X) H) (r : Rep W F d y) : ∃ vs, H D0 = some (.lst vs) ∧ vs.length = ds.length ∧ SR W b F ρ σ (⟨none, .l (ds ++ [d]), .ref D0⟩ :: X) (upd H D0 (.lst (vs ++ [y]))) := by
  obtain ⟨vs, hD, rs⟩ : ∃ vs, H D0 = some (.lst vs) ∧ Reps W F ds vs := by
    obtain ⟨_, _, _, _, _, _, fps, xps, _, s2, _⟩ := S
    obtain ⟨v, vr, f, fr, e1, e2, r1, r2⟩ := s2
    obtain ⟨p, vs, ep, _, hp, rs⟩ := r1
    have e3 : V.ref D0 = v := (List.cons.inj e1).1
    rw [ep] at e3
    cases e3
    exact ⟨vs, hp, rs⟩
  refine ⟨vs, hD, rs.len.symm, ?_⟩
  refine S.wrX (t' := .l (ds ++ [d])) (o := .lst vs) fun fp rf nd hn => ?_
  obtain ⟨p, vs', ep, rfl, hp, rs'⟩ := rf
  cases ep
  rw [hD] at hp
  cases hp
  exact ⟨hD, stb_lstF rs, List.mem_singleton.mpr rfl, [D0], ⟨D0, _, rfl, rfl, upd_same, rs.append ⟨y, [], rfl, r, rfl⟩⟩, nd, fun a h => h⟩
end
/-- the block's contexts -/
def cB (c : Ctx) (scope : Scope) : Ctx where
  J := c.J × Shared × Hp × Addr × List (Str × Addr) × List Addr
  X := fun q => (c.X q.1).blk q.2.1 q.2.2.1 scope (compEnvC scope q.2.2.2.2.1 q.2.2.2.1 (c.X q.1).env) q.2.2.2.2.2
  W := c.W
  P := ⟨c.P.m, [], []⟩
  E := fun _ _ _ _ => False
  N := c.N
  k := c.k
  hK := fun q => c.hK q.1
  hN := fun q => c.hN q.1
  nd := c.nd
  calm := fun q => c.calm q.1
  room := fun q => c.room q.1
def Tvs (c : Ctx) (es : List Expr) (f : List T → Option Bool) : Prop := ∃ t, (∀ j, PTs (c.X j) es t) ∧ Stv c.W t f
def tYesF : List T → Option Bool := fun _ => some true
theorem tvs_nil {c : Ctx} : Tvs c [] tYesF := ⟨_, fun _ => pts_nil, fun b F ρ σ X H cc Q S e k => by cases e; exact k F H S (Inc.refl F) (Same.refl H)⟩
theorem tvs_one {c : Ctx} {e : Expr} {f : List T → Option Bool} (h : Tv c e f) : Tvs c [e] f := by
  obtain ⟨t, p, s⟩ := h
  exact ⟨t, fun j => pts_one (p j), s⟩
def lcF (fg : T → List T → Option (List T)) (ft : List T → Option Bool) (fe : List T → Option T) (ρ0 : List T) : List D → Option (List D)
  | [] => some []
  | d :: ds => (fg (.f d) ρ0).bind fun ρ1 => (ft ρ1).bind fun b => if b = true then (fe ρ1).bind fun t => t.d?.bind fun e => (lcF fg ft fe ρ0 ds).map fun r => e :: r else lcF fg ft fe ρ0 ds
def fLc (vs : List Nat) (fi : List T → Option (List D)) (fg : T → List T → Option (List T)) (ft : List T → Option Bool) (fe : List T → Option T) : List T → Option T :=
  fun ρ => if okW ρ vs = true then (fi ρ).bind fun ds => (lcF fg ft fe (wipeR ρ vs) ds).bind fun es => if es.length ≤ sizeLine then some (.f (.lst es)) else none else none
theorem slc_core {W : Wd} {wi : TI} {g : TG} {tt : TT} {te : TE} {vs : List Nat} {fi : List T → Option (List D)} {fg : T → List T → Option (List T)} {ft : List T → Option Bool} {fe : List T → Option T}
    (hi : Sip W wi fi) (hg : Sgc W g fg vs) (hgw : ∀ t ρ ρ', fg t ρ = some ρ' → wipeR ρ' vs = wipeR ρ vs) (ht : Stv W tt ft) (he : Sv W te fe) {b : Bs} {F : Hp} {ρ : List T} {σ : L2.St} {X : List Tm} {H : Hp} {ds es : List D} {Q : VK} (S : SR W b F ρ σ X H) (hok : okW ρ vs = true) (e1 : fi ρ = some ds) (e2 : lcF fg ft fe (wipeR ρ vs) ds = some es) (hz : es.length ≤ sizeLine)
    (k : ∀ D0 F' H', SR W b F' ρ σ (⟨none, .l es, .ref D0⟩ :: X) H' → Inc F F' → Same H H' → Q (.ref D0) H') : tLc wi g tt te vs σ H Q := by
  refine hi b F ρ σ X H ds _ S e1 fun J F1 H1 S1 i1 s1 wk => ?_
  intro D0 hD
  have S2 : SR W b F1 ρ σ (⟨none, .l [], .ref D0⟩ :: X) (upd H1 D0 (.lst [])) := S1.own hD ⟨D0, [], rfl, rfl, upd_same, rfl⟩
  have s2 : Same H1 (upd H1 D0 (.lst [])) := fun a u e => by rw [upd_ne (ne_of_none e hD)]; exact e
  refine ⟨fun i m H' => m = ds.length - i ∧ i ≤ ds.length ∧ ∃ F' acc rest, SR W b F' ρ σ (⟨none, .l acc, .ref D0⟩ :: X) H' ∧ Inc F1 F' ∧ Same H1 H' ∧ lcF fg ft fe (wipeR ρ vs) (ds.drop i) = some rest ∧ acc ++ rest = es, ⟨ds.length, by simp, Nat.zero_le _, F1, [], es, S2, Inc.refl F1, s2, e2, rfl⟩, ?_⟩
  rintro i m H' ⟨rfl, hi2, F2, acc, rest, S3, i2, s3, e3, e4⟩
  by_cases hlt : i < ds.length
  · refine .inr ⟨wk.go i F2 H' i2 S3.le hlt, fun H'' => i + 1 ≤ ds.length ∧ ∃ F' acc rest, SR W b F' ρ σ (⟨none, .l acc, .ref D0⟩ :: X) H'' ∧ Inc F1 F' ∧ Same H1 H'' ∧ lcF fg ft fe (wipeR ρ vs) (ds.drop (i + 1)) = some rest ∧ acc ++ rest = es, fun H'' h => ⟨ds.length - (i + 1), by omega, rfl, h⟩, fun x H3 y => ?_⟩
    have hd : ds[i]? = some ds[i] := List.getElem?_eq_getElem hlt
    rw [List.drop_eq_getElem_cons hlt] at e3
    obtain ⟨ρ1, e5, e3⟩ := Option.bind_eq_some_iff.mp (show (fg (.f ds[i]) (wipeR ρ vs)).bind _ = some rest from e3)
    obtain ⟨c, e6, e3⟩ := Option.bind_eq_some_iff.mp e3
    -- the item
    obtain ⟨F3, S4, i3, s4⟩ : ∃ F3, SR W b F3 ρ σ (⟨none, .f ds[i], x⟩ :: ⟨none, .l acc, .ref D0⟩ :: X) H3 ∧ Inc F2 F3 ∧ Same H' H3 := by
      rcases wk.yld i F2 H' x H3 ds[i] i2 S3.le hd y with ⟨e, r⟩ | ⟨p, o, hp, e, ex, r⟩
      · subst e
        exact ⟨F2, S3.push r, Inc.refl F2, Same.refl _⟩
      · subst e ex
        obtain ⟨S', i', s'⟩ := S3.laid (o := o) hp
        exact ⟨_, S'.push (r i'), i', s'⟩
    have S5 := SR.wipes (b := b.noio) rfl vs S4.noio
    have S0 := S4.drop.noio
    refine hg b.noio F3 _ ρ1 _ _ H3 _ x _ S5 rfl e5 fun σ4 F4 H4 S6 i4 s5 hw => ?_
    have hw2 : L2.wipe σ4 vs = L2.wipe σ vs := by rw [hw, wipe_wipe σ vs vs fun v h => h]
    refine ⟨hw2, ?_⟩
    refine ht b.noio F4 ρ1 σ4 _ H4 c _ S6 e6 fun F5 H5 S7 i5 s6 => ?_
    have back : ∀ {F6 H6 Y}, SR W b.noio F6 ρ1 σ4 Y H6 → Inc F3 F6 → SR W b F6 ρ σ Y H6 := fun {F6 H6 Y} R ii => by
      have R1 := SR.wipes (b := b.noio) rfl vs R
      rw [hw2, hgw _ _ _ e5] at R1
      have hwR : wipeR (wipeR ρ vs) vs = wipeR ρ vs := by
        have key : ∀ (l l' : List Nat), (∀ v ∈ l', v ∈ l) → wipeR (wipeR ρ l') l = wipeR ρ l := by
          intro l l'
          induction l' with
          | nil => intro _; rfl
          | cons u l' ih =>
            intro h
            show wipeR ((wipeR ρ l').set u .un) l = _
            rw [wipeR_set (h u List.mem_cons_self)]
            exact ih fun v hv => h v (List.mem_cons_of_mem _ hv)
        exact key vs vs fun v h => h
      rw [hwR] at R1
      exact (SR.unwipes rfl S0 ii hok vs (fun v h => h) R1).io S4.pin
    cases c with
    | false =>
      simp only [Bool.false_eq_true, if_false] at e3 ⊢
      exact ⟨hlt, F5, acc, rest, back S7 (i4.trans i5), ((i2.trans i3).trans i4).trans i5, ((s3.trans s4).trans s5).trans s6, e3, e4⟩
    | true =>
      simp only [if_true] at e3 ⊢
      obtain ⟨t, e7, e3⟩ := Option.bind_eq_some_iff.mp e3
      obtain ⟨e, e8, e3⟩ := Option.bind_eq_some_iff.mp e3
      obtain ⟨r, e9, e3⟩ := Option.map_eq_some_iff.mp e3
      subst e3
      cases d_some e8
      refine he b.noio F5 ρ1 σ4 _ H5 _ _ S7 e7 fun w F6 H6 S8 i6 s7 r6 => ?_
      have S9 := back S8 ((i4.trans i5).trans i6)
      obtain ⟨us, hD6, hl6, S10⟩ := S9.topApp r6.rep
      have hlen : acc.length + (r.length + 1) ≤ sizeLine := by
        have := hz
        rw [← e4, List.length_append, List.length_cons] at this
        exact this
      refine ⟨us, hD6, by omega, hlt, F6, acc ++ [e], r, S10, (((i2.trans i3).trans i4).trans i5).trans i6, ?_, e9, by rw [List.append_assoc]; exact e4⟩
      have s10 := (((s3.trans s4).trans s5).trans s6).trans s7
      intro a u ea
      have : a ≠ D0 := fun z => by rw [z, hD] at ea; cases ea
      rw [upd_ne this]
      exact s10 a u ea
  · have hi3 : i = ds.length := by omega
    subst hi3
    rw [List.drop_length] at e3
    cases e3
    rw [List.append_nil] at e4
    subst e4
    refine .inl ⟨wk.stop F2 H' i2 S3.le, ?_⟩
    exact k D0 F2 H' S3 (i1.trans i2) (s1.trans s3)
theorem sv_lc {W : Wd} {wi : TI} {g : TG} {tt : TT} {te : TE} {vs : List Nat} {fi : List T → Option (List D)} {fg : T → List T → Option (List T)} {ft : List T → Option Bool} {fe : List T → Option T}
    (hi : Sip W wi fi) (hg : Sgc W g fg vs) (hgw : ∀ t ρ ρ', fg t ρ = some ρ' → wipeR ρ' vs = wipeR ρ vs) (ht : Stv W tt ft) (he : Sv W te fe) : Sv W (tLc wi g tt te vs) (fLc vs fi fg ft fe) := by
  intro b F ρ σ X H τ Q S eq k
  unfold fLc at eq
  split at eq
  · rename_i hok
    obtain ⟨ds, e1, eq⟩ := Option.bind_eq_some_iff.mp eq
    obtain ⟨es, e2, eq⟩ := Option.bind_eq_some_iff.mp eq
    split at eq
    · rename_i hz
      cases eq
      refine slc_core hi hg hgw ht he S hok e1 e2 hz fun D0 F2 H' S3 i2 s2 => ?_
      obtain ⟨F3, S4, i3⟩ := S3.frz (d := .lst es) rfl rfl
      exact k _ F3 H' S4.drop (i2.trans i3) s2 (.f S4.top)
    · cases eq
  · cases eq
end Z
namespace Z
open PySem PySem.Spec PyProof.Rows L2
/-! ### their parts -/
section
variable {c : Ctx} {tg e e2 : Expr} {fe : List T → Option T} {fs : List T → Option (List T)} {p pos : Pos} {pos' : Pos}
def jVal (fe : List T → Option T) : List T → Option (List D) := fun ρ => (fe ρ).bind fun t => match t with
  | .f d => d.its
  | _ => none
theorem ip_val (he : Ev c e fe) : Ip c tg e (jVal fe) := by
  obtain ⟨t, q, s⟩ := he
  refine ⟨_, fun j => pi_of (q j) (by have h := iv_U (X := c.X j) (tg := tg); rw [c.hK j] at h; exact h), ?_⟩
  intro b F ρ σ X H ds R S eq k
  unfold jVal at eq
  obtain ⟨τ, e1, eq⟩ := Option.bind_eq_some_iff.mp eq
  refine s b F ρ σ X H _ _ S e1 fun v F1 H1 S1 i1 s1 r1 => ?_
  cases τ with
  | f d =>
    cases d with
    | lst l =>
      cases eq
      obtain ⟨a, vs, ex, hs, r⟩ := r1.rep
      subst ex
      exact .inl ⟨a, rfl, ⟨vs, SqL.le S1.le hs⟩, k _ F1 H1 S1 i1 s1 (wk_list hs r)⟩
    | tup l =>
      cases eq
      obtain ⟨a, vs, ex, hs, r⟩ := r1.rep
      subst ex
      exact .inr (.inl ⟨a, rfl, ⟨vs, SqT.le S1.le hs⟩, k _ F1 H1 S1 i1 s1 (wk_tup hs r)⟩)
    | str x =>
      cases eq
      exact .inr (.inr ⟨x, r1.rep, k _ F1 H1 S1 i1 s1 wk_str⟩)
    | _ => cases eq
  | _ => cases eq
def jL1 (g : List D → List D) (fs : List T → Option (List T)) : List T → Option (List D) := fun ρ => (fs ρ).bind fun ts => match ts with
  | [.f (.lst ds)] => some (g ds)
  | _ => none
def jL2 (g : List D → List D → List D) (fs : List T → Option (List T)) : List T → Option (List D) := fun ρ => (fs ρ).bind fun ts => match ts with
  | [.f (.lst ds), .f (.lst es)] => some (g ds es)
  | _ => none
def jR1 (fs : List T → Option (List T)) : List T → Option (List D) := fun ρ => (fs ρ).bind fun ts => match ts with
  | [.f (.int n)] => if -(2 ^ 62) ≤ n ∧ n < 2 ^ 62 then some (rangeD 0 n.toNat) else none
  | _ => none
def jR2 (fs : List T → Option (List T)) : List T → Option (List D) := fun ρ => (fs ρ).bind fun ts => match ts with
  | [.f (.int m), .f (.int n)] => if -(2 ^ 62) ≤ m ∧ m < 2 ^ 62 ∧ -(2 ^ 62) ≤ n ∧ n < 2 ^ 62 then some (rangeD m (n - m).toNat) else none
  | _ => none
theorem ip_enum {elts : List Expr} {kk : Nat} {tpos : Pos} (hg : ∀ j, Gl (c.X j) "enumerate") (hm : ∀ j, (c.X j).mg "enumerate" = none) (ha : Av c [e] fs) (hs : ∀ j, starEach [e] (c.X j).env = [(false, eval e (c.X j).env)] := by intro _; rfl) :
    Ip c (.Tuple elts kk tpos) (.Call (.Name "enumerate" p) [e] [] pos) (jL1 (enumD 0) fs) := by
  obtain ⟨t, q, s⟩ := ha
  refine ⟨iEnum c.W.K t, fun j => by have h := pi_enum (p := p) (pos := pos) (tpos := tpos) (elts := elts) (kk := kk) (hg j) (hm j) (q j) (hs j); rw [c.hK j] at h; exact h, ?_⟩
  intro b F ρ σ X H r R S e k
  unfold jL1 at e
  obtain ⟨ts, e1, e⟩ := Option.bind_eq_some_iff.mp e
  refine s b F ρ σ X H ts _ S e1 fun vs F1 H1 S1 i1 s1 r1 => ?_
  match ts, e with
  | [.f (.lst ds)], e =>
    cases e
    obtain ⟨x, rfl, r2⟩ := rv1 r1
    obtain ⟨a, us, ex, hs, q⟩ := r2.rep
    subst ex
    exact ⟨a, us, rfl, SqL.le S1.le hs, k _ F1 H1 S1 i1 s1 (wk_enum hs q)⟩
theorem ip_rev (hg : ∀ j, Gl (c.X j) "reversed") (hm : ∀ j, (c.X j).mg "reversed" = none) (ha : Av c [e] fs) (hs : ∀ j, starEach [e] (c.X j).env = [(false, eval e (c.X j).env)] := by intro _; rfl) :
    Ip c tg (.Call (.Name "reversed" p) [e] [] pos) (jL1 List.reverse fs) := by
  obtain ⟨t, q, s⟩ := ha
  refine ⟨iRev c.W.K t, fun j => by have h := pi_reversed (tg := tg) (p := p) (pos := pos) (hg j) (hm j) (q j) (hs j); rw [c.hK j] at h; exact h, ?_⟩
  intro b F ρ σ X H r R S e k
  unfold jL1 at e
  obtain ⟨ts, e1, e⟩ := Option.bind_eq_some_iff.mp e
  refine s b F ρ σ X H ts _ S e1 fun vs F1 H1 S1 i1 s1 r1 => ?_
  match ts, e with
  | [.f (.lst ds)], e =>
    cases e
    obtain ⟨x, rfl, r2⟩ := rv1 r1
    obtain ⟨a, us, ex, hs, q⟩ := r2.rep
    subst ex
    exact ⟨a, us, rfl, SqL.le S1.le hs, k _ F1 H1 S1 i1 s1 (wk_rev hs q)⟩
theorem ip_zip {elts : List Expr} {kk : Nat} {tpos : Pos} (hg : ∀ j, Gl (c.X j) "zip") (hm : ∀ j, (c.X j).mg "zip" = none) (ha : Av c [e, e2] fs) (hs : ∀ j, starEach [e, e2] (c.X j).env = (false, eval e (c.X j).env) :: starEach [e2] (c.X j).env := by intro _; rfl) (hpl : ∀ j, (backTo pos (starEach [e2] (c.X j).env)).any (·.1) = false := by intro _; rfl) :
    Ip c (.Tuple elts kk tpos) (.Call (.Name "zip" p) [e, e2] [] pos) (jL2 zipD fs) := by
  obtain ⟨t, q, s⟩ := ha
  refine ⟨iZip c.W.K t, fun j => by have h := pi_zip (p := p) (pos := pos) (tpos := tpos) (elts := elts) (kk := kk) (hg j) (hm j) (q j) (hs j) (hpl j); rw [c.hK j] at h; exact h, ?_⟩
  intro b F ρ σ X H r R S e k
  unfold jL2 at e
  obtain ⟨ts, e1, e⟩ := Option.bind_eq_some_iff.mp e
  refine s b F ρ σ X H ts _ S e1 fun vs F1 H1 S1 i1 s1 r1 => ?_
  match ts, e with
  | [.f (.lst ds), .f (.lst es)], e =>
    cases e
    obtain ⟨x, y, rfl, r2, r3⟩ := rv2 r1
    obtain ⟨a, us, ex, hs, q⟩ := r2.rep
    obtain ⟨a2, us2, ex2, hs2, q2⟩ := r3.rep
    subst ex ex2
    exact ⟨a, a2, us, us2, rfl, SqL.le S1.le hs, SqL.le S1.le hs2, k _ F1 H1 S1 i1 s1 (wk_zip hs q hs2 q2)⟩
theorem ip_range1 (hg : ∀ j, Gl (c.X j) "range") (hm : ∀ j, (c.X j).mg "range" = none) (ha : Av c [e] fs) (hs : ∀ j, starEach [e] (c.X j).env = [(false, eval e (c.X j).env)] := by intro _; rfl) : Ip c tg (.Call (.Name "range" p) [e] [] pos) (jR1 fs) := by
  obtain ⟨t, q, s⟩ := ha
  refine ⟨_, fun j => pi_range1 (hg j) (hm j) (q j) (hs j), ?_⟩
  intro b F ρ σ X H r R S e k
  unfold jR1 at e
  obtain ⟨ts, e1, e⟩ := Option.bind_eq_some_iff.mp e
  refine s b F ρ σ X H ts _ S e1 fun vs F1 H1 S1 i1 s1 r1 => ?_
  match ts, e with
  | [.f (.int n)], e =>
    simp only at e
    split at e
    · rename_i hn
      cases e
      obtain ⟨x, rfl, r2⟩ := rv1 r1
      exact ⟨n, by rw [show x = V.int n from r2.rep], hn.1, hn.2, k _ F1 H1 S1 i1 s1 wk_range⟩
    · cases e
theorem ip_range2 (hg : ∀ j, Gl (c.X j) "range") (hm : ∀ j, (c.X j).mg "range" = none) (ha : Av c [e, e2] fs) (hs : ∀ j, starEach [e, e2] (c.X j).env = [(false, eval e (c.X j).env), (false, eval e2 (c.X j).env)] := by intro _; rfl) (hs2 : ∀ j, starEach [e2] (c.X j).env = [(false, eval e2 (c.X j).env)] := by intro _; rfl) : Ip c tg (.Call (.Name "range" p) [e, e2] [] pos) (jR2 fs) := by
  obtain ⟨t, q, s⟩ := ha
  refine ⟨_, fun j => pi_range2 (hg j) (hm j) (q j) (hs j) (hs2 j), ?_⟩
  intro b F ρ σ X H r R S e k
  unfold jR2 at e
  obtain ⟨ts, e1, e⟩ := Option.bind_eq_some_iff.mp e
  refine s b F ρ σ X H ts _ S e1 fun vs F1 H1 S1 i1 s1 r1 => ?_
  match ts, e with
  | [.f (.int m), .f (.int n)], e =>
    simp only at e
    split at e
    · rename_i hn
      cases e
      obtain ⟨x, y, rfl, r2, r3⟩ := rv2 r1
      exact ⟨m, n, by rw [show x = V.int m from r2.rep, show y = V.int n from r3.rep], hn, k _ F1 H1 S1 i1 s1 wk_range⟩
    · cases e
end
/-! targets -/
section
variable {c : Ctx} {e : Expr} {es : List Expr} {pos : Pos} {f : T → List T → Option (List T)} {fs : List T → List T → Option (List T)} {vs : List Nat}
theorem gc_n (i : Nat) {x : Str} (hm : vs.contains i = true := by rfl) (hi : c.N[i]? = some x := by rfl) (hx : ∀ j, L2.Loc (c.X j).env.scope x := by intro _; first | exact Or.inl rfl | exact Or.inr rfl) (hf : ∀ j, (c.X j).fn x = true ∨ (c.X j).env.scope.names.lookup x = some .local := by intro _; first | exact Or.inl rfl | exact Or.inr rfl) : Gc c (.Name x pos) (gSet i) vs := by
  have hmem : i ∈ vs := List.contains_iff_mem.mp hm
  refine ⟨_, fun j => pg_name (i := i) (c.hNd j) (by rw [c.hN j]; exact hi) (hx j) (hf j), ?_, fun t ρ ρ' h => by cases h; exact wipeR_set hmem⟩
  intro b F ρ ρ' σ X H t v Q S hio e k
  cases e
  exact k _ F H (S.store (.inl rfl) (.inl (by rw [hio]; exact fun p hp => by cases hp))) (Inc.refl F) (Same.refl H) (wipe_set hmem)
theorem gcs_nil : Gcs c [] gsNil vs := by
  refine ⟨_, fun _ => pgs_nil, ?_, fun ts ρ ρ' h => by cases ts <;> cases h; rfl⟩
  intro b F ρ ρ' σ X H ts us Q hl S hio e k
  cases ts with
  | nil =>
    cases us with
    | nil => cases e; exact ⟨rfl, k _ F H S (Inc.refl F) (Same.refl H) rfl⟩
    | cons _ _ => cases hl
  | cons _ _ => cases e
theorem gcs_cons (h : Gc c e f vs) (k : Gcs c es fs vs) (hs : ∀ j, (assignEach (e :: es) (c.X j).env).map (·.2) = assign e (c.X j).env :: (assignEach es (c.X j).env).map (·.2) := by intro _; rfl) : Gcs c (e :: es) (gsCons f fs) vs := by
  obtain ⟨g, p, q, w⟩ := h
  obtain ⟨g', p', q', w'⟩ := k
  refine ⟨_, fun j => pgs_cons (p j) (p' j) (hs j), ?_, fun ts ρ ρ' h => ?_⟩
  · intro b F ρ ρ' σ X H ts us Q hl S hio e k
    cases ts with
    | nil => cases e
    | cons t ts =>
      cases us with
      | nil => cases hl
      | cons v us =>
        obtain ⟨ρ1, e1, e⟩ := Option.bind_eq_some_iff.mp (show (f t ρ).bind _ = _ from e)
        refine ⟨v, us, rfl, q b F ρ ρ1 σ (Xn ts us ++ X) H t v _ S hio e1 fun σ' F' H' S' i s hw => ?_⟩
        exact q' b F' ρ1 ρ' σ' X H' ts us Q (by simpa using hl) S' hio e fun σ2 F2 H2 S2 i2 s2 hw2 => k σ2 F2 H2 S2 (i.trans i2) (s.trans s2) (hw2.trans hw)
  · cases ts with
    | nil => cases h
    | cons t ts =>
      obtain ⟨ρ1, e1, e⟩ := Option.bind_eq_some_iff.mp (show (f t ρ).bind _ = _ from h)
      rw [w' _ _ _ e, w _ _ _ e1]
theorem gc_tup {n m : Nat} (h : Gcs c es fs vs) (hn : ∀ j, (assignEach es (c.X j).env).length = n := by intro _; rfl) (hst : ∀ j, (assignEach es (c.X j).env).findIdx? (·.1) = none := by intro _; rfl) : Gc c (.Tuple es m pos) (gTupT n fs) vs := by
  obtain ⟨g, p, q, w⟩ := h
  refine ⟨L2.gTup c.W.K n g, fun j => ?_, ?_, fun t ρ ρ' h => ?_⟩
  · have := pg_tup (pos := pos) (k := m) (c.calm j) (p j) (hn j) (hst j)
    rw [c.hK j] at this
    exact this
  · intro b F ρ ρ' σ X H t v Q S hio e k
    unfold gTupT at e
    cases t with
    | f d => cases d with
      | tup ds =>
        simp only at e
        split at e
        · rename_i hl
          obtain ⟨p, us, ex, hs, r⟩ := S.top
          refine ⟨p, us, ex, SqT.le S.le hs, by rw [← r.len]; exact hl, ?_⟩
          exact q b F ρ ρ' σ X H (ds.map .f) us Q (by rw [List.length_map]; exact r.len) (S.drop.pushes r) hio e k
        · cases e
      | _ => cases e
    | _ => cases e
  · unfold gTupT at h
    cases t with
    | f d => cases d with
      | tup ds =>
        simp only at h
        split at h
        · exact w _ _ _ h
        · cases h
      | _ => cases h
    | _ => cases h
end
/-! the whole -/
section
variable {c : Ctx} {elt tg iter : Expr} {ifs : List Expr} {scope : Scope} {pos spos : Pos} {fi : List T → Option (List D)} {fg : T → List T → Option (List T)} {ft : List T → Option Bool} {fe : List T → Option T}
theorem ev_lc (own : List (Str × Nat)) (hi : Ip c tg iter fi) (hg : Gc (cB c scope) tg fg (own.map (·.2))) (ht : Tvs (cB c scope) ifs ft) (he : Ev (cB c scope) elt fe) (ok : ∀ j, blkC c.N (c.X j).env.scope scope own = true := by intro _; rfl)
    (hs : ∀ j x, foldedSetIterable iter (c.X j).env x = pure x := by intro _ _; rfl) : Ev c (.ListComp elt [⟨tg, iter, ifs, 0⟩] scope pos) (fLc (own.map (·.2)) fi fg ft fe) := by
  obtain ⟨wi, pi, si⟩ := hi
  obtain ⟨g, pg, sg, wg⟩ := hg
  obtain ⟨tt, pt, st⟩ := ht
  obtain ⟨te, pe, se⟩ := he
  exact ⟨tLc wi g tt te (own.map (·.2)), fun j => pe_lc (c.calm j) (c.hNd j) (pi j) (blkOk_by (by rw [c.hN j]; exact ok j)) (fun s H C cl fp => pg (j, s, H, C, cl, fp)) (fun s H C cl fp => pt (j, s, H, C, cl, fp)) (fun s H C cl fp => pe (j, s, H, C, cl, fp)) (hs j), sv_lc si sg wg st se⟩
theorem sm_setLc (i : Nat) {y : Str} {py : Pos} (own : List (Str × Nat)) (hi : Ip c tg iter fi) (hg : Gc (cB c scope) tg fg (own.map (·.2))) (ht : Tvs (cB c scope) ifs ft) (he : Ev (cB c scope) elt fe) (ok : ∀ j, blkC c.N (c.X j).env.scope scope own = true := by intro _; rfl)
    (hy : c.N[i]? = some y := by rfl) (hyl : ∀ j, (c.X j).env.scope.names.lookup y = some .local := by intro _; rfl) (hio : c.P.io.contains i = false := by rfl)
    (hsw : ∀ j, swapsWith (.ListComp elt [⟨tg, iter, ifs, 0⟩] scope pos) (some (.Name y py)) spos.line (c.X j).env = pure true := by intro _; rfl)
    (hs : ∀ j x, foldedSetIterable iter (c.X j).env x = pure x := by intro _ _; rfl) : Sm c (.Assign [.Name y py] (.ListComp elt [⟨tg, iter, ifs, 0⟩] scope pos) spos) (sSet i (lift (fLc (own.map (·.2)) fi fg ft fe))) := by
  obtain ⟨wi, pi, si⟩ := hi
  obtain ⟨g, pg, sg, wg⟩ := hg
  obtain ⟨tt, pt, st⟩ := ht
  obtain ⟨te, pe, se⟩ := he
  refine ⟨tAsg (tLc wi g tt te (own.map (·.2))) (gName i), fun j => ps_setLc (c.calm j) (c.hNd j) (by rw [c.hN j]; exact hy) (hyl j) (hsw j) (pi j) (blkOk_by (by rw [c.hN j]; exact ok j)) (fun s H C cl fp => pg (j, s, H, C, cl, fp)) (fun s H C cl fp => pt (j, s, H, C, cl, fp)) (fun s H C cl fp => pe (j, s, H, C, cl, fp)) (hs j), ?_⟩
  intro b F ρ σ X H o D hb S eq k
  unfold sSet lift at eq
  obtain ⟨r, e1, eq⟩ := Option.map_eq_some_iff.mp eq
  obtain ⟨t, e2, e3⟩ := Option.bind_eq_some_iff.mp e1
  obtain ⟨d, e4, e5⟩ := Option.map_eq_some_iff.mp e3
  subst e5 eq
  cases d_some e4
  refine sv_lc si sg wg st se b F ρ σ X H _ _ S e2 fun v F1 H1 S1 i1 s1 r1 => ?_
  exact k _ F1 H1 ((S1.push (o := none) r1.rep).store (.inl rfl) (.inl (notio hb (notin_of hio)))) i1
end
/-! ### a local becomes deep data between two statements -/
def fzS (i : Nat) (ρ : List T) : Option (List T) := match ρ[i]? with
  | some .un => some ρ
  | some t => t.fz.map fun d => ρ.set i (.f d)
  | none => none
def sFz (i : Nat) (f : FS) : FS := fun ρ => (fzS i ρ).bind f
theorem sms_fz (i : Nat) {c : Ctx} {ss : List Stmt} {f : FS} (h : Sms c ss f) (hm : Nat.ble c.P.m i = true := by rfl) (hio : c.P.io.contains i = false := by rfl) : Sms c ss (sFz i f) := by
  obtain ⟨t, p, q⟩ := h
  refine ⟨t, p, ?_⟩
  intro b F ρ σ X H o D hb S e k
  unfold sFz at e
  obtain ⟨ρ1, e1, e⟩ := Option.bind_eq_some_iff.mp e
  unfold fzS at e1
  cases q1 : ρ[i]? with
  | none => rw [q1] at e1; cases e1
  | some t1 =>
    by_cases hu : t1 = .un
    · subst hu
      rw [q1] at e1
      cases e1
      exact q b F ρ σ X H o D hb S e k
    · obtain ⟨d, e2, e3⟩ : ∃ d, t1.fz = some d ∧ ρ.set i (.f d) = ρ1 := by
        rw [q1] at e1
        cases t1 with
        | un => exact absurd rfl hu
        | _ => exact Option.map_eq_some_iff.mp e1
      subst e3
      obtain ⟨s, fp, e4, r⟩ := S.slot q1
      cases s with
      | none => exact absurd r.1 hu
      | some v =>
        have S' := S.take q1 e4
        -- it is new
        have S2 : SR c.W b F (ρ.set i .un) σ (⟨none, t1, v⟩ :: X) H := by
          obtain ⟨le, f0, fn, kept, stab, pin, fps, xps, s1, s2, ow, lc1, lc2⟩ := S'
          refine ⟨le, f0, fn, kept, stab, pin, fps, xps, s1, s2, ow, lc1, ?_⟩
          cases xps with
          | nil => exact trivial
          | cons f fs => exact lc2
        obtain ⟨F3, S3, i3⟩ := S2.frz rfl e2
        have S4 := S3.store (i := i) (.inl rfl) (.inl (notio hb (notin_of hio)))
        have eσ : σ.set i (some v) = σ := by
          apply List.ext_getElem?
          intro j
          by_cases h : j = i
          · subst h
            have := (List.getElem?_eq_some_iff.mp e4).1
            rw [List.getElem?_set_self (by omega), e4]
          · rw [List.getElem?_set_ne (fun e => h e.symm)]
        rw [eσ, List.set_set] at S4
        exact q b F3 _ σ X H o D hb S4 e (k.mono i3)
section
variable {c : Ctx} {a : Expr} {fa : List T → Option T} {pos : Pos} {ss : List Stmt} {e : Expr} {f : List T → Option T} {fb : List T → Option Bool}
theorem sv_isN {W : Wd} {ta : TE} (sa : Sv W ta fa) : Sv W (tIsN ta) (fIsN false fa) := by
  intro b F ρ σ X H τ Q S e k
  obtain ⟨t, e1, e⟩ := Option.bind_eq_some_iff.mp e
  refine sa b F ρ σ X H t _ S e1 fun v F1 H1 S1 i1 s1 r1 => ?_
  have := isN_out r1 e
  subst this
  rw [Bool.false_xor] at k
  exact (k.mono i1 s1).d S1 rfl
theorem sv_notN {W : Wd} {ta : TE} (sa : Sv W ta fa) : Sv W (tNotN ta) (fIsN true fa) := by
  intro b F ρ σ X H τ Q S e k
  obtain ⟨t, e1, e⟩ := Option.bind_eq_some_iff.mp e
  refine sa b F ρ σ X H t _ S e1 fun v F1 H1 S1 i1 s1 r1 => ?_
  have := isN_out r1 e
  subst this
  rw [Bool.true_xor] at k
  exact (k.mono i1 s1).d S1 rfl
theorem tv_isN {m : Nat} {p2 : Pos} (ha : Ev c a fa) : Tv c (.Compare a [.Is] [.Constant .none m p2] pos) (fT (fIsN false fa)) := by
  obtain ⟨ta, pa, sa⟩ := ha
  exact ⟨_, fun j => pt_cmp (pc_isN (pa j)) rfl, stv_test (sv_isN sa)⟩
theorem tv_notN {m : Nat} {p2 : Pos} (ha : Ev c a fa) : Tv c (.Compare a [.IsNot] [.Constant .none m p2] pos) (fT (fIsN true fa)) := by
  obtain ⟨ta, pa, sa⟩ := ha
  exact ⟨_, fun j => pt_cmp (pc_notN (pa j)) rfl, stv_test (sv_notN sa)⟩
theorem evo (h : Ev c e f) : Eo c e (lift f) := h.o
theorem tvo (h : Tv c e fb) : To c e (liftB fb) := h.o
theorem wvt (h : Wv c e fb) : Tv c e fb := h.tv
end
end Z

namespace Z
open PySem PySem.Spec PyProof.Rows L2
/-! ### objects -/
def atD : List Str → List D → Str → Option D
  | n :: ns, d :: ds, x => if n = x then some d else atD ns ds x
  | _, _, _ => none
def gAtt (C : Nat) (f : Str) : T → Option T
  | .f (.obj C' ns ds) => if C' = C then (atD ns ds f).map .f else none
  | .o C' ns ts => if C' = C then (atN ns ts f).bind fun t => match t with
    | .un => none
    | t => some t
    else none
  | _ => none
theorem atD_ok {W : Wd} {F : Hp} {f : Str} : ∀ {ns : List Str} {ds : List D} {kvs : List (Str × V)} {d : D}, kvs.map (·.1) = ns → Reps W F ds (kvs.map (·.2)) → atD ns ds f = some d → ∃ v, kvs.lookup f = some v ∧ Rep W F d v
  | _, [], kvs, _, h, _, e => by subst h; cases kvs <;> simp [atD] at e
  | _, d0 :: ds, [], _, h, _, e => by subst h; simp [atD] at e
  | _, d0 :: ds, k :: kvs, d, h, r, e => by
    subst h
    obtain ⟨v, vr, e1, a, b⟩ := r
    have e1a : k.2 = v := (List.cons.inj e1).1
    have e1b : kvs.map (·.2) = vr := (List.cons.inj e1).2
    subst e1a e1b
    have e' : (if k.1 = f then some d0 else atD (kvs.map (·.1)) ds f) = some d := e
    by_cases hk : k.1 = f
    · rw [if_pos hk] at e'
      cases e'
      refine ⟨k.2, ?_, a⟩
      rw [List.lookup_cons, show (f == k.1) = true by rw [hk]; exact beq_self_eq_true f]
    · rw [if_neg hk] at e'
      obtain ⟨v, q1, q2⟩ := atD_ok rfl b e'
      refine ⟨v, ?_, q2⟩
      rw [List.lookup_cons, show (f == k.1) = false from beq_eq_false_iff_ne.mpr fun z => hk z.symm]
      exact q1
theorem atN_ok {W : Wd} {F H : Hp} {f : Str} : ∀ {ns : List Str} {ts : List T} {kvs : List (Str × V)} {fps : List (List Addr)} {t : T}, kvs.map (·.1) = ns → RelTs W F H ts (kvs.map (·.2)) fps → atN ns ts f = some t → ∃ v fp, kvs.lookup f = some v ∧ RelT W F H t v fp
  | _, [], kvs, _, _, h, _, e => by subst h; cases kvs <;> simp [atN] at e
  | _, t0 :: ts, [], _, _, h, _, e => by subst h; simp [atN] at e
  | _, t0 :: ts, k :: kvs, fps, t, h, r, e => by
    subst h
    obtain ⟨v, vr, f0, fr, e1, rfl, a, b⟩ := r
    have e1a : k.2 = v := (List.cons.inj e1).1
    have e1b : kvs.map (·.2) = vr := (List.cons.inj e1).2
    subst e1a e1b
    have e' : (if k.1 = f then some t0 else atN (kvs.map (·.1)) ts f) = some t := e
    by_cases hk : k.1 = f
    · rw [if_pos hk] at e'
      cases e'
      refine ⟨k.2, f0, ?_, a⟩
      rw [List.lookup_cons, show (f == k.1) = true by rw [hk]; exact beq_self_eq_true f]
    · rw [if_neg hk] at e'
      obtain ⟨v, fp, q1, q2⟩ := atN_ok rfl b e'
      refine ⟨v, fp, ?_, q2⟩
      rw [List.lookup_cons, show (f == k.1) = false from beq_eq_false_iff_ne.mpr fun z => hk z.symm]
      exact q1
section
variable {c : Ctx} {e o : Expr} {fa fe : List T → Option T} {pos : Pos} {C : Nat} {f : Str}
theorem sv_att {W : Wd} {ta : TE} (hC : Cls W.K (W.cl C)) (hN : NoAttr W.K (W.cl C) f) (sa : Sv W ta fa) : Sv W (tFld W.K ta f) (f1 (gAtt C f) fa) := by
  intro b F ρ σ X H τ Q S e k
  unfold f1 at e
  obtain ⟨t, e1, e⟩ := Option.bind_eq_some_iff.mp e
  refine sa b F ρ σ X H t _ S e1 fun v F1 H1 S1 i1 s1 r1 => ?_
  cases t with
  | f d => cases d with
    | obj C' ns ds =>
      have e' : (if C' = C then (atD ns ds f).map T.f else none) = some τ := e
      split at e'
      · rename_i hc
        subst hc
        obtain ⟨d, e2, e'⟩ := Option.map_eq_some_iff.mp e'
        subst e'
        obtain ⟨p, dx, kvs, ev, hp, hk, r⟩ := r1.rep
        subst ev
        obtain ⟨w, q1, q2⟩ := atD_ok hk r e2
        exact ⟨p, _, dx, kvs, w, rfl, ins_le S1.le hp, hC, hN, q1, (k.mono i1 s1).d S1 q2⟩
      · cases e'
    | _ => cases e
  | o C' ns ts =>
    have e' : (if C' = C then (atN ns ts f).bind fun t => (match t with | .un => none | t => some t) else none) = some τ := e
    split at e'
    · rename_i hc
      subst hc
      obtain ⟨t, e2, e'⟩ := Option.bind_eq_some_iff.mp e'
      have et : t = τ := by cases t <;> first | (cases e'; rfl) | cases e'
      subst et
      obtain ⟨fp, p, dx, kvs, fps, ev, _, hp, hk, r⟩ := r1
      subst ev
      obtain ⟨w, fp', q1, q2⟩ := atN_ok hk r e2
      exact ⟨p, _, dx, kvs, w, rfl, hp, hC, hN, q1, (k.mono i1 s1).here S1 ⟨fp', q2⟩⟩
    · cases e'
  | _ => cases e
theorem ev_att (hC : Cls c.W.K (c.W.cl C)) (hN : NoAttr c.W.K (c.W.cl C) f) (ha : Ev c e fa) (hb : ∀ j, attributeBase e f (c.X j).env (eval e (c.X j).env) = eval e (c.X j).env := by intro _; rfl) : Ev c (.Attribute e f pos) (f1 (gAtt C f) fa) := by
  obtain ⟨ta, pa, sa⟩ := ha
  exact ⟨_, fun j => by have h := pe_fld (pos := pos) (pa j) (hb j); rw [c.hK j] at h; exact h, sv_att hC hN sa⟩
end
/-! places in parts -/
theorem getP_snoc {s : Sel} : ∀ {π : List Sel} {t : T}, t.getP (π ++ [s]) = (t.getP π).bind fun u => u.sub s
  | [], t => by
    show (t.sub s).bind (fun u => some u) = t.sub s
    cases t.sub s <;> rfl
  | s' :: π, t => by
    show (t.sub s').bind (fun u => u.getP (π ++ [s])) = ((t.sub s').bind fun u => u.getP π).bind fun u => u.sub s
    cases t.sub s' with
    | none => rfl
    | some u => exact getP_snoc
theorem atV_snoc {H : Hp} {s : Sel} {p : Addr} {q : Addr} : ∀ {π : List Sel} {v : V}, AtV H v π q → AtV H (.ref q) [s] p → AtV H v (π ++ [s]) p
  | [], v, r, h => by
    have r' : v = _ := r
    subst r'
    exact h
  | .ix n :: π, v, r, h => by
    obtain ⟨a, vs, w, e, r1, r2, r3⟩ := r
    exact ⟨a, vs, w, e, r1, r2, atV_snoc r3 h⟩
  | .at x :: π, v, r, h => by
    obtain ⟨a, C, dx, kvs, w, e, r1, r2, r3⟩ := r
    exact ⟨a, C, dx, kvs, w, e, r1, r2, atV_snoc r3 h⟩
theorem SR.part {W : Wd} {b : Bs} {F : Hp} {ρ : List T} {σ : L2.St} {X : List Tm} {H : Hp} {i : Nat} {t u : T} {v : V} {π : List Sel} {p : Addr} (S : SR W b F ρ σ X H) (hi : ρ[i]? = some t) (hv : σ[i]? = some (some v)) (hu : t.getP π = some u) (ha : AtV H v π p) : ∃ fu, RelT W F H u (.ref p) fu := by
  obtain ⟨fu, h, _⟩ := S.mut (u' := .un) hi hv hu ha
  exact ⟨fu, h⟩
def pAt (C : Nat) (f : Str) (i : Nat) (fp : List T → Option (List Sel)) : List T → Option (List Sel) := fun ρ => (fp ρ).bind fun π => (ρ[i]?.bind fun t => t.getP π).bind fun u => match u with
  | .o C' ns ts => if C' = C then (atN ns ts f).map fun _ => π ++ [.at f] else none
  | _ => none
def pIx (fk : List T → Option T) (i : Nat) (fp : List T → Option (List Sel)) : List T → Option (List Sel) := fun ρ => (fp ρ).bind fun π => (ρ[i]?.bind fun t => t.getP π).bind fun u => u.tsq?.bind fun ts => (fk ρ).bind fun k => k.i?.bind fun j => (ixN ts.length j).map fun n => π ++ [.ix n]
section
variable {c : Ctx} {o ek : Expr} {fk : List T → Option T} {pos : Pos} {C : Nat} {f : Str} {i : Nat} {fp : List T → Option (List Sel)}
theorem lo_at (hC : Cls c.W.K (c.W.cl C)) (hN : NoAttr c.W.K (c.W.cl C) f) (ho : Lo c o i fp) (hb : ∀ j, attributeBase o f (c.X j).env (eval o (c.X j).env) = eval o (c.X j).env := by intro _; rfl) : Lo c (.Attribute o f pos) i (pAt C f i fp) := by
  obtain ⟨ta, pa, sa⟩ := ho
  refine ⟨_, fun j => by have h := pe_fld (pos := pos) (pa j) (hb j); rw [c.hK j] at h; exact h, ?_⟩
  intro b F ρ σ X H π t u Q S e ht hu hown k
  unfold pAt at e
  obtain ⟨π0, e1, e8⟩ := Option.bind_eq_some_iff.mp e
  obtain ⟨u0, e2, e9⟩ := Option.bind_eq_some_iff.mp e8
  clear e e8
  obtain ⟨t', e2a, e2⟩ := Option.bind_eq_some_iff.mp e2
  rw [ht] at e2a
  cases e2a
  cases u0 with
  | o C' ns ts =>
    simp only at e9
    split at e9
    · rename_i hc
      subst hc
      obtain ⟨u1, e3, e⟩ := Option.map_eq_some_iff.mp e9
      subst e
      rw [getP_snoc, e2] at hu
      have hu' : atN ns ts f = some u := hu
      refine sa b F ρ σ X H π0 t _ _ S e1 ht e2 rfl fun p v F1 H1 S1 i1 s1 hv hat => ?_
      obtain ⟨fu, q, dx, kvs, fps, eq, _, hp, hk, r⟩ := S1.part ht hv e2 hat
      cases eq
      obtain ⟨w, fp', q1, q2⟩ := atN_ok hk r hu'
      obtain ⟨p', rfl⟩ := owned_ref q2 hown
      exact ⟨p, _, dx, kvs, .ref p', rfl, hp, hC, hN, q1, k p' v F1 H1 S1 i1 s1 hv (atV_snoc hat ⟨p, _, dx, kvs, .ref p', rfl, hp, q1, rfl⟩)⟩
    · cases e9
  | _ => cases e9
theorem lo_ix (ho : Lo c o i fp) (hk : Ev c ek fk) (hs : PlainIx ek := by exact fun _ _ => rfl) : Lo c (.Subscript o ek pos) i (pIx fk i fp) := by
  obtain ⟨ta, pa, sa⟩ := ho
  obtain ⟨tb, pb, sb⟩ := hk
  refine ⟨_, fun j => pe_ix (by have h := ix_U (X := c.X j) (c.hu1 j); rw [c.hK j] at h; exact h) (pa j) (pb j) hs, ?_⟩
  intro b F ρ σ X H π t u Q S e ht hu hown k
  unfold pIx at e
  obtain ⟨π0, e1, e⟩ := Option.bind_eq_some_iff.mp e
  obtain ⟨u0, e2, e⟩ := Option.bind_eq_some_iff.mp e
  obtain ⟨t', e2a, e2⟩ := Option.bind_eq_some_iff.mp e2
  rw [ht] at e2a
  cases e2a
  obtain ⟨ts, e3, e⟩ := Option.bind_eq_some_iff.mp e
  obtain ⟨kk, e4, e⟩ := Option.bind_eq_some_iff.mp e
  obtain ⟨j, e5, e⟩ := Option.bind_eq_some_iff.mp e
  obtain ⟨n, e6, e⟩ := Option.map_eq_some_iff.mp e
  subst e
  rw [getP_snoc, e2] at hu
  have ho0 : owned u0 = true := by cases u0 <;> first | (cases e3; rfl) | cases e3
  refine sa b F ρ σ X H π0 t _ _ S e1 ht e2 ho0 fun p v F1 H1 S1 i1 s1 hv hat => ?_
  refine sb b F1 ρ σ X H1 _ _ S1 e4 fun y F2 H2 S2 i2 s2 r2 => ?_
  have hy := r2.int e5
  subst hy
  have hat2 := hat.same s2
  obtain ⟨fu, hpart⟩ := S2.part ht hv e2 hat2
  cases u0 with
  | ll us =>
    cases e3
    obtain ⟨q, vs, fps, eq, _, hp, r⟩ := hpart
    cases eq
    have hu' : ts[n]? = some u := hu
    obtain ⟨w, fw, q1, q2, q3⟩ := r.at hu'
    obtain ⟨p', rfl⟩ := owned_ref q3 hown
    refine .inl (.inl (.inl ?_))
    have hx : atI vs j = some (V.ref p') := by
      unfold atI
      rw [← r.lenA.1, e6]
      exact q1
    exact ⟨p, vs, j, .ref p', rfl, rfl, SqL.of hp, hx, k p' v F2 H2 S2 (i1.trans i2) (s1.trans s2) hv (atV_snoc hat2 ⟨p, vs, .ref p', rfl, .inl hp, q1, rfl⟩)⟩
  | tu us =>
    cases e3
    obtain ⟨q, vs, fps, eq, _, hp, r⟩ := hpart
    cases eq
    have hu' : ts[n]? = some u := hu
    obtain ⟨w, fw, q1, q2, q3⟩ := r.at hu'
    obtain ⟨p', rfl⟩ := owned_ref q3 hown
    refine .inl (.inl (.inr ?_))
    have hx : atI vs j = some (V.ref p') := by
      unfold atI
      rw [← r.lenA.1, e6]
      exact q1
    exact ⟨p, vs, j, .ref p', rfl, rfl, SqT.of hp, hx, k p' v F2 H2 S2 (i1.trans i2) (s1.trans s2) hv (atV_snoc hat2 ⟨p, vs, .ref p', rfl, .inr hp, q1, rfl⟩)⟩
  | _ => cases e3
end
/-! o.f = e -/
theorem RelTs.putNew {W : Wd} {F H : Hp} {f : Str} {d : D} {y : V} (ry : Rep W F d y) : ∀ {ns : List Str} {ts : List T} {kvs : List (Str × V)} {fps : List (List Addr)}, kvs.map (·.1) = ns → RelTs W F H ts (kvs.map (·.2)) fps → atN ns ts f = none →
    (L2.putF f y kvs).map (·.1) = ns ++ [f] ∧ RelTs W F H (ts ++ [.f d]) ((L2.putF f y kvs).map (·.2)) (fps ++ [[]]) ∧ kvs.lookup f = none
  | _, [], [], fps, h, r, _ => by
    subst h
    rw [r.2]
    exact ⟨rfl, ⟨y, [], [], [], rfl, rfl, ⟨rfl, ry⟩, rfl, rfl⟩, rfl⟩
  | _, [], k :: kvs, _, _, r, _ => by cases r.1
  | _, t0 :: ts, [], _, _, r, _ => by obtain ⟨_, _, _, _, e, _⟩ := r; cases e
  | _, t0 :: ts, k :: kvs, fps, h, r, e => by
    subst h
    obtain ⟨v, vr, f0, fr, e1, rfl, a, b⟩ := r
    have e1a : k.2 = v := (List.cons.inj e1).1
    have e1b : kvs.map (·.2) = vr := (List.cons.inj e1).2
    subst e1a e1b
    have e' : (if k.1 = f then some t0 else atN (kvs.map (·.1)) ts f) = none := e
    by_cases hk : k.1 = f
    · rw [if_pos hk] at e'; cases e'
    · rw [if_neg hk] at e'
      obtain ⟨q1, q2, q3⟩ := RelTs.putNew (y := y) ry rfl b e'
      have hp : L2.putF f y (k :: kvs) = k :: L2.putF f y kvs := by
        show (if k.1 = f then _ else _) = _
        rw [if_neg hk]
      rw [hp]
      refine ⟨by rw [List.map_cons, q1]; rfl, ⟨k.2, _, f0, _, rfl, rfl, a, q2⟩, ?_⟩
      rw [List.lookup_cons, show (f == k.1) = false from beq_eq_false_iff_ne.mpr fun z => hk z.symm]
      exact q3
theorem RelTs.putOld {W : Wd} {F H : Hp} {f : Str} {d d0 : D} {y : V} (ry : Rep W F d y) : ∀ {ns : List Str} {ts : List T} {kvs : List (Str × V)} {fps : List (List Addr)}, kvs.map (·.1) = ns → RelTs W F H ts (kvs.map (·.2)) fps → atN ns ts f = some (.f d0) →
    (L2.putF f y kvs).map (·.1) = ns ∧ RelTs W F H (setN ns ts f (.f d)) ((L2.putF f y kvs).map (·.2)) fps ∧ ∃ w, kvs.lookup f = some w ∧ Rep W F d0 w
  | _, [], kvs, _, h, _, e => by subst h; cases kvs <;> simp [atN] at e
  | _, t0 :: ts, [], _, _, r, _ => by obtain ⟨_, _, _, _, e, _⟩ := r; cases e
  | _, t0 :: ts, k :: kvs, fps, h, r, e => by
    subst h
    obtain ⟨v, vr, f0, fr, e1, rfl, a, b⟩ := r
    have e1a : k.2 = v := (List.cons.inj e1).1
    have e1b : kvs.map (·.2) = vr := (List.cons.inj e1).2
    subst e1a e1b
    have e' : (if k.1 = f then some t0 else atN (kvs.map (·.1)) ts f) = some (.f d0) := e
    by_cases hk : k.1 = f
    · rw [if_pos hk] at e'
      cases e'
      have hp : L2.putF f y (k :: kvs) = (k.1, y) :: kvs := by
        show (if k.1 = f then _ else _) = _
        rw [if_pos hk]
      rw [hp]
      have hf0 : f0 = [] := a.1
      subst hf0
      refine ⟨rfl, ?_, k.2, ?_, a.2⟩
      · show RelTs W F H (if k.1 = f then _ else _) _ _
        rw [if_pos hk]
        exact ⟨y, _, [], _, rfl, rfl, ⟨rfl, ry⟩, b⟩
      · rw [List.lookup_cons, show (f == k.1) = true by rw [hk]; exact beq_self_eq_true f]
    · rw [if_neg hk] at e'
      obtain ⟨q1, q2, w, q3, q4⟩ := RelTs.putOld (d := d) (y := y) ry rfl b e'
      have hp : L2.putF f y (k :: kvs) = k :: L2.putF f y kvs := by
        show (if k.1 = f then _ else _) = _
        rw [if_neg hk]
      rw [hp]
      refine ⟨by rw [List.map_cons, q1]; rfl, ?_, w, ?_, q4⟩
      · show RelTs W F H (if k.1 = f then _ else _) _ _
        rw [if_neg hk]
        exact ⟨k.2, _, f0, _, rfl, rfl, a, q2⟩
      · rw [List.lookup_cons, show (f == k.1) = false from beq_eq_false_iff_ne.mpr fun z => hk z.symm]
        exact q3
theorem atN_look {f : Str} : ∀ {ts : List T} {kvs : List (Str × V)}, atN (kvs.map (·.1)) ts f = none → ts.length = kvs.length → kvs.lookup f = none
  | [], [], _, _ => rfl
  | [], _ :: _, _, h => by cases h
  | _ :: _, [], _, h => by cases h
  | t :: ts, k :: kvs, e, h => by
    have e' : (if k.1 = f then some t else atN (kvs.map (·.1)) ts f) = none := e
    by_cases hk : k.1 = f
    · rw [if_pos hk] at e'; cases e'
    · rw [if_neg hk] at e'
      rw [List.lookup_cons, show (f == k.1) = false from beq_eq_false_iff_ne.mpr fun z => hk z.symm]
      exact atN_look e' (by simpa using h)
theorem stb_put {G : Addr → Prop} {C dx : Addr} {kvs : List (Str × V)} {f : Str} {y : V} (h : f = Str.ofString "endings" → kvs.lookup f = none) : Stb G (.ins C dx kvs) (.ins C dx (L2.putF f y kvs)) := by
  intro C' dx' kvs' e
  cases e
  refine ⟨_, rfl, fun v hv => ?_⟩
  rw [L2.lookup_putF]
  by_cases z : Str.ofString "endings" = f
  · rw [z, h z.symm] at hv; cases hv
  · rw [if_neg z]; exact hv
theorem stb_new {W : Wd} {F H : Hp} {G : Addr → Prop} {C dx : Addr} {kvs : List (Str × V)} {ns : List Str} {ts : List T} {fps : List (List Addr)} {f : Str} {y : V} (hk : kvs.map (·.1) = ns) (rs : RelTs W F H ts (kvs.map (·.2)) fps) (hat : atN ns ts f = none) : Stb G (.ins C dx kvs) (.ins C dx (L2.putF f y kvs)) := by
  subst hk
  refine stb_put fun _ => atN_look hat ?_
  have := rs.lenA.1
  rw [List.length_map] at this
  omega
def attT (C : Nat) (f : Str) (d : D) : T → Option T
  | .o C' ns ts => if C' = C ∧ ns.length < 1000 then (match atN ns ts f with
    | none => some (.o C' (ns ++ [f]) (ts ++ [.f d]))
    | some (.f _) => if f = Str.ofString "endings" then none else some (.o C' ns (setN ns ts f (.f d)))
    | _ => none) else none
  | _ => none
theorem attT_own {C : Nat} {f : Str} {d : D} (u u' : T) (h : attT C f d u = some u') : owned u = true := by
  cases u <;> first | rfl | cases h
def sAtt (C : Nat) (f : Str) (i : Nat) (fp : List T → Option (List Sel)) (fe : List T → Option T) : FS := fun ρ => (fe ρ).bind fun x => x.d?.bind fun d => (fp ρ).bind fun π => (mutF i π (attT C f d) ρ).map .nx
theorem SR.att {W : Wd} {b : Bs} {F : Hp} {ρ ρ' : List T} {σ : L2.St} {X : List Tm} {H : Hp} {i : Nat} {π : List Sel} {C : Nat} {f : Str} {d : D} {v y : V} {p : Addr} (S : SR W b F ρ σ X H) (h : mutF i π (attT C f d) ρ = some ρ') (hv : σ[i]? = some (some v)) (ha : AtV H v π p) (r : Rep W F d y) :
    ∃ dx fs, H p = some (.ins (W.cl C) dx fs) ∧ fs.length < 1000 ∧ SR W b F ρ' σ X (upd H p (.ins (W.cl C) dx (L2.putF f y fs))) := by
  obtain ⟨t, u, u', e1, e2, e3, rfl⟩ := mutF_some h
  cases u with
  | o C' ns ts =>
    have e3' : (if C' = C ∧ ns.length < 1000 then _ else none) = some u' := e3
    split at e3'
    · rename_i hc
      obtain ⟨hc, hl⟩ := hc
      subst hc
      obtain ⟨fu, q1, ⟨qn, q2⟩, q3⟩ := S.mut (u' := u') e1 hv e2 ha
      obtain ⟨p', dx, kvs, fps, ep, rfl, hp, hk, rs⟩ := q1
      cases ep
      have n0 := List.nodup_cons.mp qn
      have hlen : kvs.length < 1000 := by
        have := congrArg List.length hk
        rw [List.length_map] at this
        omega
      refine ⟨dx, kvs, hp, hlen, ?_⟩
      have stay : ∀ o', ∀ a ∈ fps.flatten, upd H p o' a = H a := fun o' a ha => upd_ne fun z => n0.1 (z ▸ ha)
      cases hat : atN ns ts f with
      | none =>
        rw [hat] at e3'
        cases e3'
        obtain ⟨m1, m2, m3⟩ := RelTs.putNew (y := y) r hk rs hat
        refine q3 _ _ hp (fun _ => stb_new hk rs hat) List.mem_cons_self ⟨p, dx, _, fps ++ [[]], rfl, ?_, upd_same, m1, RelTs.mono (Inc.refl F) _ _ _ (fun a ha => stay _ a ?_) m2⟩
        · rw [List.flatten_append]
          simp
        · rw [List.flatten_append] at ha
          simpa using ha
      | some t0 =>
        rw [hat] at e3'
        cases t0 with
        | f d0 =>
          have e4 : (if f = Str.ofString "endings" then none else some (T.o C' ns (setN ns ts f (.f d)))) = some u' := e3'
          split at e4
          · cases e4
          rename_i hne
          cases e4
          obtain ⟨m1, m2, w, m3, m4⟩ := RelTs.putOld (d := d) (y := y) r hk rs hat
          exact q3 _ _ hp (fun _ => stb_put fun z => absurd z hne) List.mem_cons_self ⟨p, dx, _, fps, rfl, rfl, upd_same, m1, RelTs.mono (Inc.refl F) _ _ _ (fun a ha => stay _ a ha) m2⟩
        | _ => cases e3'
    · cases e3'
  | _ => cases e3
section
variable {c : Ctx} {e o : Expr} {fa fe : List T → Option T} {pos pos' : Pos} {C : Nat} {f : Str} {i : Nat} {fp : List T → Option (List Sel)}
theorem sm_att (hC : Cls c.W.K (c.W.cl C)) (hN : NoAttr c.W.K (c.W.cl C) f) (ho : Lo c o i fp) (he : Ev c e fe) (hs : ∀ j, swapsWith e (some (.Attribute o f pos')) pos.line (c.X j).env = pure false := by intro _; rfl) : Sm c (.Assign [.Attribute o f pos'] e pos) (sAtt C f i fp fe) := by
  obtain ⟨to, po, so⟩ := ho
  obtain ⟨te, pe, se⟩ := he
  refine ⟨_, fun j => by have h := ps_fld (po j) (pe j) (hs j); rw [c.hK j] at h; exact h, ?_⟩
  intro b F ρ σ X H out D hb S eq k
  unfold sAtt at eq
  obtain ⟨x, e2, eq⟩ := Option.bind_eq_some_iff.mp eq
  obtain ⟨d, e3, eq⟩ := Option.bind_eq_some_iff.mp eq
  obtain ⟨π, e1, eq⟩ := Option.bind_eq_some_iff.mp eq
  obtain ⟨ρ', e4, eq⟩ := Option.map_eq_some_iff.mp eq
  subst eq
  cases d_some e3
  obtain ⟨tt, uu, h1, h2, h3⟩ := mutF_own e4 attT_own
  refine se b F ρ σ X H _ _ S e2 fun y F1 H1 S1 i1 s1 r1 => ?_
  refine so b F1 ρ σ X H1 π tt uu _ S1 e1 h1 h2 h3 fun p v F2 H2 S2 i2 s2 hv hat => ?_
  obtain ⟨dx, fs, hp, hl, S3⟩ := S2.att e4 hv hat (r1.ext i2 s2).rep
  exact ⟨p, _, dx, fs, rfl, hp, hC, hN, hl, k σ F2 _ S3 (i1.trans i2)⟩
end
/-! ### C(e, ..) -/
structure ClM (P : Program) (w : World) (W : Wd) (mg : Str → Option Value) (base : Heap) (CX : CXT) (k : Nat) (x : Str) (C : Nat) (io : List Nat) (G : List T → Option Re) : Prop where
  ex : ∃ f fd ps, FnOk P w W.K mg base CX k f fd ps (spF W io G) ∧ mg x = some (.ref (W.cl C)) ∧ Mk W.K (W.cl C) f ∧ Binds W.K fd ps []
theorem SR.dropN {W : Wd} {b : Bs} {F : Hp} {ρ : List T} {σ : L2.St} {x : Tm} {X : List Tm} {H : Hp} : ∀ (Y : List Tm), SR W b F ρ σ (x :: (Y ++ X)) H → SR W b F ρ σ (x :: X) H
  | [], S => S
  | y :: Y, S => SR.dropN Y ((S.perm (Y := y :: x :: (Y ++ X)) (List.Perm.swap _ _ _)).drop)
theorem Xn_t : ∀ {ts : List T} {vs : List V}, ts.length = vs.length → (Xn ts vs).map (·.t) = ts ∧ (Xn ts vs).map (·.v) = vs
  | [], [], _ => ⟨rfl, rfl⟩
  | [], _ :: _, h => by cases h
  | _ :: _, [], h => by cases h
  | t :: ts, v :: vs, h => by
    obtain ⟨a, b⟩ := Xn_t (ts := ts) (vs := vs) (by simpa using h)
    exact ⟨by show t :: _ = _; rw [a], by show v :: _ = _; rw [b]⟩
def mkF (C : Nat) (io : List Nat) (G : List T → Option Re) (ds : List D) : Option T := if ioOk io 0 (.o C [] [] :: ds.map .f) = true then (G (.o C [] [] :: ds.map .f)).bind fun r => match r with
  | .ok (.f .non) (u :: _) => some u
  | _ => none
  else none
def fMake (C : Nat) (io : List Nat) (G : List T → Option Re) (fs : List T → Option (List T)) : List T → Option Re := fun ρ => (fs ρ).bind fun ts => (deep ts).bind fun ds => (mkF C io G ds).map fun u => .ok u ρ
theorem so_make {W : Wd} {P : Sg} {E : L2.St → XK} {E' : XK} {t : TA} {C : Nat} {io : List Nat} {G : List T → Option Re} {fs : List T → Option (List T)} (h : Sav W t fs) : So W P E (tMake (W.cl C) (spF W io G) [] E' t) (fMake C io G fs) := by
  intro b F ρ σ X H r Q hb S e k
  unfold fMake at e
  obtain ⟨ts, e1, e⟩ := Option.bind_eq_some_iff.mp e
  obtain ⟨ds, e2, e⟩ := Option.bind_eq_some_iff.mp e
  obtain ⟨u, e3, e⟩ := Option.map_eq_some_iff.mp e
  subst e
  unfold mkF at e3
  split at e3
  · rename_i hio
    obtain ⟨r, e4, e3⟩ := Option.bind_eq_some_iff.mp e3
    obtain ⟨us, er⟩ : ∃ us, r = .ok (.f .non) (u :: us) := by
      split at e3
      · cases e3; exact ⟨_, rfl⟩
      · cases e3
    subst er
    refine h b F ρ σ X H ts _ S e1 fun vs F1 H1 S1 i1 s1 r1 => ?_
    have rs := RelVs.deep r1 e2
    intro x dx hx hdx hne
    obtain ⟨S2, i2, s2⟩ := S1.laid (o := .own x) hdx
    have hx2 : upd H1 dx (.own x) x = none := by rw [upd_ne (fun z => hne z.symm)]; exact hx
    have S3 := S2.pushes (rs.inc i2)
    have S4 : SR W b _ ρ σ (⟨none, .o C [] [], .ref x⟩ :: (Xn (ds.map .f) vs ++ X)) (upd (upd H1 dx (.own x)) x (.ins (W.cl C) dx [])) := S3.own hx2 ⟨x, dx, [], [], rfl, rfl, upd_same, rfl, rfl, rfl⟩
    obtain ⟨a1, a2⟩ := Xn_t (ts := ds.map T.f) (vs := vs) (by rw [List.length_map]; exact rs.len)
    obtain ⟨xa, q1, own, back⟩ := SR.call (Xa := ⟨none, .o C [] [], .ref x⟩ :: Xn (ds.map .f) vs) (X := X) S4
    have em : ((⟨none, .o C [] [], .ref x⟩ :: Xn (ds.map .f) vs : List Tm).map (·.t)) = .o C [] [] :: ds.map .f := by rw [List.map_cons, a1]
    have ev : ((⟨none, .o C [] [], .ref x⟩ :: Xn (ds.map .f) vs : List Tm).map (·.v)) = .ref x :: vs := by rw [List.map_cons, a2]
    rw [em, ev] at q1
    rw [ev] at back
    rw [List.append_nil]
    refine ⟨_, _, xa, _, S4.le, q1, own, hio, e4, ?_⟩
    intro v F' H' R i3
    have hv : v = .non := R.top
    refine ⟨hv, ?_⟩
    have S5 := back io (u :: us) F' [⟨none, .f .non, v⟩] H' (fun x hx => by rw [List.mem_singleton.mp hx]) R
    have S6 : SR W b F' ρ σ (⟨none, u, .ref x⟩ :: (setTs (Xn (ds.map .f) vs) us ++ X)) H' := S5.drop
    exact k (.ref x) F' H' (SR.dropN _ S6) ((i1.trans i2).trans i3)
  · cases e3
section
variable {c : Ctx} {a : Expr} {es : List Expr} {fs : List T → Option (List T)} {x : Str} {p pos : Pos} {io : List Nat} {G : List T → Option Re} {k C : Nat} {CX : CXT}
theorem eo_make {E : XK} (M : ∀ j, ClM (c.X j).prog (c.X j).w c.W (c.X j).mg (c.X j).base CX k x C io G) (hk : k + 1 ≤ c.k) (hg : ∀ j, Gl (c.X j) x) (hx : ∀ j, Passes CX (c.X j) E) (ha : Av c (a :: es) fs) (hdb : (x == ("__debug__" : Str)) = false := by decide)
    (he : ∀ j, starEach (a :: es) (c.X j).env = (false, eval a (c.X j).env) :: starEach es (c.X j).env := by intro _; rfl) (hpl : ∀ j, (backTo pos (starEach es (c.X j).env)).any (·.1) = false := by intro _; rfl) : Eo c (.Call (.Name x p) (a :: es) [] pos) (fMake C io G fs) := by
  obtain ⟨t, q, s⟩ := ha
  refine ⟨tMake (c.W.cl C) (spF c.W io G) [] E t, fun j => ?_, so_make s⟩
  obtain ⟨f, fd, ps, F, hm, hM, hb⟩ := M j
  have hKj := c.hK j
  exact pe_make (by rw [hKj]; exact hM) (by rw [hKj]; exact F) ((c.room j).mono hk) (hg j) hm (by rw [hKj]; exact hb) .nil (hx j) (q j) hdb (he j) (hpl j)
end
/-! ### defs that call themselves -/
theorem fn_none {P : Program} {w : World} {W : Wd} {mg : Str → Option Value} {base : Heap} {CX : CXT} {k : Nat} {f : Addr} {fd : FuncData} {ps : List Str} {io : List Nat} : FnOk P w W.K mg base CX k f fd ps (spF W io fun _ => none) :=
  ⟨fun vs H Q E h => (by obtain ⟨_, _, _, _, _, _, _, _, e, _⟩ := h; cases e), fun A outer s H args us vs Q E _ _ _ _ h => (by obtain ⟨_, _, _, _, _, _, _, _, e, _⟩ := h; cases e)⟩
/-- what is handed back as a thing of the caller's own, told as deep data -/
def fzR (G : List T → Option Re) : List T → Option Re := fun ts => (G ts).bind fun r => match r with
  | .ok t us => t.fz.map fun d => .ok (.f d) us
  | r => some r
theorem Cl.fz {P : Program} {w : World} {W : Wd} {mg : Str → Option Value} {base : Heap} {CX : CXT} {k : Nat} {x : Str} {io : List Nat} {G : List T → Option Re} (h : Cl P w W mg base CX k x io G) : Cl P w W mg base CX k x io (fzR G) := by
  obtain ⟨f, fd, ps, h, a, b, d⟩ := h
  refine ⟨f, fd, ps, h.imp ?_, a, b, d⟩
  rintro vs H Q E ⟨F, ts, fps, r, h1, h2, h3, h4, h5, h6⟩
  unfold fzR at h5
  obtain ⟨r0, e1, h5⟩ := Option.bind_eq_some_iff.mp h5
  refine ⟨F, ts, fps, r0, h1, h2, h3, h4, e1, ?_⟩
  cases r0 with
  | xc C us => cases h5; exact h6
  | ok t us =>
    obtain ⟨dd, e2, h5⟩ := Option.map_eq_some_iff.mp h5
    subst h5
    intro v F' H' R i
    obtain ⟨F2, S2, i2⟩ := R.frz rfl e2
    exact h6 v F2 H' S2 (i.trans i2)
end Z

namespace Z
open PySem PySem.Spec PyProof.Rows L2
/-! ### things go into parts and out of them -/
theorem flat_set : ∀ {l : List (List Addr)} {n : Nat} {f : List Addr}, l[n]? = some f → ∃ rl, l.flatten.Perm (f ++ rl) ∧ ∀ f', (l.set n f').flatten.Perm (f' ++ rl)
  | [], _, _, h => by simp at h
  | x :: l, 0, f, h => by
    simp at h
    subst h
    exact ⟨l.flatten, by rw [List.flatten_cons], fun f' => by rw [List.set_cons_zero, List.flatten_cons]⟩
  | x :: l, n + 1, f, h => by
    obtain ⟨rl, h1, h2⟩ := flat_set (l := l) (n := n) (f := f) (by simpa using h)
    refine ⟨x ++ rl, ?_, fun f' => ?_⟩
    · rw [List.flatten_cons]
      exact (h1.append_left x).trans (List.perm_append_comm_assoc _ _ _)
    · rw [List.set_cons_succ, List.flatten_cons]
      exact ((h2 f').append_left x).trans (List.perm_append_comm_assoc _ _ _)
theorem atN_ix {x : Str} : ∀ {ns : List Str} {ts : List T} {t : T}, atN ns ts x = some t → ∃ n, ts[n]? = some t ∧ (∀ u, setN ns ts x u = ts.set n u) ∧ ∀ {kvs : List (Str × V)} {w : V}, kvs.map (·.1) = ns → kvs.lookup x = some w → (kvs.map (·.2))[n]? = some w
  | [], ts, t, h => by cases ts <;> simp [atN] at h
  | n :: ns, [], t, h => by simp [atN] at h
  | n :: ns, t0 :: ts, t, h => by
    have h' : (if n = x then some t0 else atN ns ts x) = some t := h
    by_cases hn : n = x
    · rw [if_pos hn] at h'
      cases h'
      refine ⟨0, rfl, fun u => by show (if n = x then _ else _) = _; rw [if_pos hn]; rfl, fun {kvs w} hk hl => ?_⟩
      cases kvs with
      | nil => cases hk
      | cons k kvs =>
        have e : k.1 = x := by rw [← hn]; exact (List.cons.inj hk).1
        rw [List.lookup_cons, show (x == k.1) = true by rw [e]; exact beq_self_eq_true x] at hl
        cases hl
        rfl
    · rw [if_neg hn] at h'
      obtain ⟨m, h1, h2, h3⟩ := atN_ix h'
      refine ⟨m + 1, by simpa using h1, fun u => by show (if n = x then _ else _) = _; rw [if_neg hn, h2]; rfl, fun {kvs w} hk hl => ?_⟩
      cases kvs with
      | nil => cases hk
      | cons k kvs =>
        have e : k.1 = n := (List.cons.inj hk).1
        rw [List.lookup_cons, show (x == k.1) = false from beq_eq_false_iff_ne.mpr fun z => hn (by rw [← e]; exact z.symm)] at hl
        have := h3 (List.cons.inj hk).2 hl
        simpa using this
section
variable {W : Wd} {F F' H H' : Hp} {p : Addr}
theorem RelTs.putX {v : V} {f f' : List Addr} {t' : T} (hp : p ∈ f) (hr : RelT W F H' t' v f') (hH : ∀ a, a ≠ p → H' a = H a) : ∀ {ts : List T} {vs : List V} {fps : List (List Addr)} {n : Nat}, RelTs W F H ts vs fps → fps.flatten.Nodup → vs[n]? = some v → fps[n]? = some f → RelTs W F H' (ts.set n t') vs (fps.set n f')
  | [], _, _, _, r, _, e, _ => by rw [r.1] at e; simp at e
  | t :: ts, _, _, 0, r, nd, e1, e2 => by
    obtain ⟨v0, vr, f0, fr, rfl, rfl, a, b⟩ := r
    simp at e1 e2
    subst e1 e2
    rw [List.flatten_cons] at nd
    have n := List.nodup_append.mp nd
    exact ⟨_, _, _, _, rfl, rfl, hr, RelTs.mono (Inc.refl F) ts vr fr (fun x hx => hH x fun q => n.2.2 p hp x hx q.symm) b⟩
  | t :: ts, _, _, n + 1, r, nd, e1, e2 => by
    obtain ⟨v0, vr, f0, fr, rfl, rfl, a, b⟩ := r
    simp at e1 e2
    rw [List.flatten_cons] at nd
    have n0 := List.nodup_append.mp nd
    exact ⟨_, _, _, _, rfl, rfl, RelT.mono (Inc.refl F) t v0 f0 (fun x hx => hH x fun q => n0.2.2 x hx p (List.mem_flatten.mpr ⟨f, List.mem_of_getElem? e2, hp⟩) q) a, RelTs.putX hp hr hH b n0.2.1 e1 e2⟩
theorem Slots.putX {v : V} {f f' : List Addr} {t' : T} (hp : p ∈ f) (hr : RelT W F H' t' v f') (hH : ∀ a, a ≠ p → H' a = H a) : ∀ {ts : List T} {σ : L2.St} {fps : List (List Addr)} {n : Nat}, Slots W F H ts σ fps → fps.flatten.Nodup → σ[n]? = some (some v) → fps[n]? = some f → Slots W F H' (ts.set n t') σ (fps.set n f')
  | [], _, _, _, r, _, e, _ => by rw [r.1] at e; simp at e
  | t :: ts, _, _, 0, r, nd, e1, e2 => by
    obtain ⟨v0, vr, f0, fr, rfl, rfl, a, b⟩ := r
    simp at e1 e2
    subst e1 e2
    rw [List.flatten_cons] at nd
    have n := List.nodup_append.mp nd
    exact ⟨_, _, _, _, rfl, rfl, hr, Slots.mono (Inc.refl F) (fun x hx => hH x fun q => n.2.2 p hp x hx q.symm) b⟩
  | t :: ts, _, _, n + 1, r, nd, e1, e2 => by
    obtain ⟨v0, vr, f0, fr, rfl, rfl, a, b⟩ := r
    simp at e1 e2
    rw [List.flatten_cons] at nd
    have n0 := List.nodup_append.mp nd
    exact ⟨_, _, _, _, rfl, rfl, Slot.mono (Inc.refl F) (fun x hx => hH x fun q => n0.2.2 x hx p (List.mem_flatten.mpr ⟨f, List.mem_of_getElem? e2, hp⟩) q) a, Slots.putX hp hr hH b n0.2.1 e1 e2⟩
theorem perm_in {a : Addr} {fu r1 rl f l : List Addr} (h1 : f.Perm (fu ++ r1)) (h2 : l.Perm (f ++ rl)) : (a :: l).Perm (fu ++ (a :: (r1 ++ rl))) := by
  refine (List.Perm.cons a (h2.trans (h1.append_right rl))).trans ?_
  rw [List.append_assoc]
  exact List.perm_middle.symm
theorem RelT.mutX {u : T} : ∀ {π : List Sel} {t : T} {v : V} {fp : List Addr}, RelT W F H t v fp → fp.Nodup → t.getP π = some u → AtV H v π p →
    ∃ fu rest, fp.Perm (fu ++ rest) ∧ RelT W F H u (.ref p) fu ∧ ∀ H' u' fu', (∀ a, a ≠ p → H' a = H a) → p ∈ fu → RelT W F H' u' (.ref p) fu' → ∃ fp', fp'.Perm (fu' ++ rest) ∧ RelT W F H' (t.putP π u') v fp'
  | [], t, v, fp, r, nd, e, hv => by
    have hv : v = _ := hv
    subst hv
    cases e
    exact ⟨fp, [], by rw [List.append_nil], r, fun H' u' fu' _ _ h => ⟨fu', by rw [List.append_nil], h⟩⟩
  | .ix n :: π, t, v, fp, r, nd, e, hv => by
    obtain ⟨a, vs, w, rfl, hH, hw, hv⟩ := hv
    obtain ⟨t1, e1, e0⟩ := Option.bind_eq_some_iff.mp (show (t.sub (.ix n)).bind _ = _ from e)
    have hput : ∀ u', t.putP (.ix n :: π) u' = t.upd (.ix n) (t1.putP π u') := fun u' => by
      show (match t.sub (.ix n) with | some t1 => t.upd (.ix n) (t1.putP π u') | none => t) = _
      rw [e1]
    have step : ∀ {ts : List T} {fps : List (List Addr)}, RelTs W F H ts vs fps → ts[n]? = some t1 → (a :: fps.flatten).Nodup → ∃ fu rest, (a :: fps.flatten).Perm (fu ++ rest) ∧ RelT W F H u (.ref p) fu ∧ ∀ H' u' fu', (∀ a, a ≠ p → H' a = H a) → p ∈ fu → RelT W F H' u' (.ref p) fu' →
        ∃ fps', (a :: fps'.flatten).Perm (fu' ++ rest) ∧ RelTs W F H' (ts.set n (t1.putP π u')) vs fps' ∧ H' a = H a := by
      intro ts fps rs e1 nd
      have n0 := List.nodup_cons.mp nd
      obtain ⟨w', f, q1, q2, q3⟩ := rs.at e1
      rw [hw] at q1
      cases q1
      obtain ⟨fu, r1, h1, h2, h3⟩ := RelT.mutX q3 ((List.sublist_flatten_of_mem (List.mem_of_getElem? q2)).nodup n0.2) e0 hv
      obtain ⟨rl, l1, l2⟩ := flat_set q2
      refine ⟨fu, a :: (r1 ++ rl), perm_in h1 l1, h2, fun H' u' fu' hH' hp hr => ?_⟩
      have hpf : p ∈ f := h1.mem_iff.mpr (List.mem_append_left _ hp)
      obtain ⟨f', g1, g2⟩ := h3 H' u' fu' hH' hp hr
      refine ⟨fps.set n f', perm_in g1 (l2 f'), RelTs.putX hpf g2 hH' rs n0.2 hw q2, ?_⟩
      exact hH' a fun z => n0.1 (by rw [z]; exact List.mem_flatten.mpr ⟨f, List.mem_of_getElem? q2, hpf⟩)
    cases t with
    | ll ts =>
      obtain ⟨q, vs', fps, ev, rfl, hq, rs⟩ := r
      cases ev
      have evs : vs' = vs := by
        rcases hH with h | h
        · rw [hq] at h; cases h; rfl
        · rw [hq] at h; cases h
      subst evs
      obtain ⟨fu, rest, k1, k2, k3⟩ := step rs e1 nd
      refine ⟨fu, rest, k1, k2, fun H' u' fu' hH' hp hr => ?_⟩
      obtain ⟨fps', m1, m2, m3⟩ := k3 H' u' fu' hH' hp hr
      rw [hput]
      exact ⟨_, m1, a, vs', fps', rfl, rfl, by rw [m3]; exact hq, m2⟩
    | tu ts =>
      obtain ⟨q, vs', fps, ev, rfl, hq, rs⟩ := r
      cases ev
      have evs : vs' = vs := by
        rcases hH with h | h
        · rw [hq] at h; cases h
        · rw [hq] at h; cases h; rfl
      subst evs
      obtain ⟨fu, rest, k1, k2, k3⟩ := step rs e1 nd
      refine ⟨fu, rest, k1, k2, fun H' u' fu' hH' hp hr => ?_⟩
      obtain ⟨fps', m1, m2, m3⟩ := k3 H' u' fu' hH' hp hr
      rw [hput]
      exact ⟨_, m1, a, vs', fps', rfl, rfl, by rw [m3]; exact hq, m2⟩
    | _ => cases e1
  | .at x :: π, t, v, fp, r, nd, e, hv => by
    obtain ⟨a, C, dx, kvs, w, rfl, hH, hw, hv⟩ := hv
    obtain ⟨t1, e1, e0⟩ := Option.bind_eq_some_iff.mp (show (t.sub (.at x)).bind _ = _ from e)
    have hput : ∀ u', t.putP (.at x :: π) u' = t.upd (.at x) (t1.putP π u') := fun u' => by
      show (match t.sub (.at x) with | some t1 => t.upd (.at x) (t1.putP π u') | none => t) = _
      rw [e1]
    cases t with
    | o C' ns ts =>
      obtain ⟨q, dx', kvs', fps, ev, rfl, hq, hk, rs⟩ := r
      cases ev
      rw [hq] at hH
      cases hH
      obtain ⟨n, i1, i2, i3⟩ := atN_ix (show atN ns ts x = some t1 from e1)
      have n0 := List.nodup_cons.mp nd
      have hw' := i3 hk hw
      obtain ⟨w', f, q1, q2, q3⟩ := rs.at i1
      rw [hw'] at q1
      cases q1
      obtain ⟨fu, r1, h1, h2, h3⟩ := RelT.mutX q3 ((List.sublist_flatten_of_mem (List.mem_of_getElem? q2)).nodup n0.2) e0 hv
      obtain ⟨rl, l1, l2⟩ := flat_set q2
      refine ⟨fu, a :: (r1 ++ rl), perm_in h1 l1, h2, fun H' u' fu' hH' hp hr => ?_⟩
      have hpf : p ∈ f := h1.mem_iff.mpr (List.mem_append_left _ hp)
      obtain ⟨f', g1, g2⟩ := h3 H' u' fu' hH' hp hr
      rw [hput]
      refine ⟨_, perm_in g1 (l2 f'), a, dx, kvs, fps.set n f', rfl, rfl, ?_, hk, ?_⟩
      · rw [hH' a fun z => n0.1 (by rw [z]; exact List.mem_flatten.mpr ⟨f, List.mem_of_getElem? q2, hpf⟩)]
        exact hq
      · rw [i2]
        exact RelTs.putX hpf g2 hH' rs n0.2 hw' q2
    | _ => cases e1
/-- a slot's thing is changed at one place; things held may go into it, or come out -/
theorem SR.mutX {b : Bs} {ρ : List T} {σ : L2.St} {X Y : List Tm} {i : Nat} {t u : T} {v : V} {π : List Sel} (S : SR W b F ρ σ (Y ++ X) H) (hi : ρ[i]? = some t) (hv : σ[i]? = some (some v)) (hu : t.getP π = some u) (ha : AtV H v π p) :
    ∃ fu yps, RelT W F H u (.ref p) fu ∧ RelTs W F H (Y.map (·.t)) (Y.map (·.v)) yps ∧ (fu ++ yps.flatten).Nodup ∧ (∀ a ∈ fu ++ yps.flatten, F a = none) ∧
      ∀ o' u' fu' (Z : List Tm) zps, p ∈ fu → RelT W F (upd H p o') u' (.ref p) fu' → RelTs W F (upd H p o') (Z.map (·.t)) (Z.map (·.v)) zps → (fu' ++ zps.flatten).Nodup → (∀ a ∈ fu' ++ zps.flatten, a ∈ fu ++ yps.flatten) →
        (∃ o, H p = some o ∧ Stb (GB W b) o o') → SR W b F (ρ.set i (t.putP π u')) σ (Z ++ X) (upd H p o') := by
  obtain ⟨le, f0, fn, kept, stab, pin, fps, xps, s1, s2, ⟨nd, ow⟩, lc1, lc2⟩ := S
  rw [List.map_append, List.map_append] at s2
  obtain ⟨yps, xr, e, q1, q2⟩ := RelTs.split (by simp) s2
  subst e
  obtain ⟨s, f, e1, e2, r⟩ := s1.get hi
  rw [hv] at e1
  cases e1
  rw [List.flatten_append] at nd ow
  have n := List.nodup_append.mp nd
  have n2 := List.nodup_append.mp n.2.1
  have hf : ∀ a ∈ f, a ∈ fps.flatten := fun a ha => List.mem_flatten.mpr ⟨f, List.mem_of_getElem? e2, ha⟩
  have nf : f.Nodup := (List.sublist_flatten_of_mem (List.mem_of_getElem? e2)).nodup n.1
  obtain ⟨fu, rest, h1, h2, h3⟩ := RelT.mutX r nf hu ha
  obtain ⟨rl, l1, l2⟩ := flat_set e2
  have hfu : ∀ a ∈ fu, a ∈ fps.flatten := fun a ha => hf a (h1.mem_iff.mpr (List.mem_append_left _ ha))
  have nfu : fu.Nodup := (List.nodup_append.mp (h1.nodup_iff.mp nf)).1
  have lY : Y.length = yps.length := by have := RelTs.lenA q1; simpa using this.2
  have lcs := (LocX.append (b := b) lY).mp lc2
  refine ⟨fu, yps, h2, q1, List.nodup_append.mpr ⟨nfu, n2.1, fun a ha c hc e => n.2.2 a (hfu a ha) c (List.mem_append_left _ hc) e⟩, fun a ha => ?_, fun o' u' fu' Z zps hp hr hz nn hsub ho => ?_⟩
  · rcases List.mem_append.mp ha with z | z
    · exact ow a (List.mem_append_left _ (hfu a z))
    · exact ow a (List.mem_append_right _ (List.mem_append_left _ z))
  obtain ⟨o, ho, hst⟩ := ho
  have hpf : p ∈ fps.flatten := hfu p hp
  have hpn : F p = none := ow p (List.mem_append_left _ hpf)
  have hne : ∀ a, a ≠ p → upd H p o' a = H a := fun a e => upd_ne e
  obtain ⟨f', g1, g2⟩ := h3 _ u' fu' hne hp hr
  have hpf1 : p ∈ f := h1.mem_iff.mpr (List.mem_append_left _ hp)
  -- all places, told apart
  have P0 : (fps.flatten ++ (yps.flatten ++ xr.flatten)).Perm ((fu ++ yps.flatten) ++ (rest ++ rl ++ xr.flatten)) := by
    refine ((l1.trans (h1.append_right rl)).append_right _).trans ?_
    simp only [List.append_assoc]
    refine List.Perm.append_left fu ?_
    rw [← List.append_assoc rest rl, ← List.append_assoc rest rl]
    exact (List.perm_append_comm_assoc _ _ _)
  have P1 : ((fps.set i f').flatten ++ (zps.flatten ++ xr.flatten)).Perm ((fu' ++ zps.flatten) ++ (rest ++ rl ++ xr.flatten)) := by
    refine (((l2 f').trans (g1.append_right rl)).append_right _).trans ?_
    simp only [List.append_assoc]
    refine List.Perm.append_left fu' ?_
    rw [← List.append_assoc rest rl, ← List.append_assoc rest rl]
    exact (List.perm_append_comm_assoc _ _ _)
  have N0 := List.nodup_append.mp (P0.nodup_iff.mp nd)
  have N1 : ((fu' ++ zps.flatten) ++ (rest ++ rl ++ xr.flatten)).Nodup := List.nodup_append.mpr ⟨nn, N0.2.1, fun a ha c hc e => N0.2.2 a (hsub a ha) c hc e⟩
  have sub : ∀ a ∈ (fps.set i f').flatten ++ (zps.flatten ++ xr.flatten), a ∈ fps.flatten ++ (yps.flatten ++ xr.flatten) := fun a ha => by
    refine P0.mem_iff.mpr ?_
    rcases List.mem_append.mp (P1.mem_iff.mp ha) with z | z
    · exact List.mem_append_left _ (hsub a z)
    · exact List.mem_append_right _ z
  have mine : ∀ a ∈ fps.flatten ++ (yps.flatten ++ xr.flatten), b.H0 a = none ∨ a ∈ b.A := fun a ha => by
    rcases List.mem_append.mp ha with z | z
    · exact LocS.old lc1 z
    · rcases List.mem_append.mp z with z | z
      · exact LocX.old lY lcs.1 z
      · exact LocX.old (by have := RelTs.lenA q2; simpa using this.2) lcs.2 z
  have lZ : Z.length = zps.length := by have := RelTs.lenA hz; simpa using this.2
  refine ⟨fun a x e => ?_, f0, fn, fun a x e hA => ?_, fun a x e hA => ?_, pin, fps.set i f', zps ++ xr, Slots.putX hpf1 g2 hne s1 n.1 hv e2, ?_, ⟨?_, fun a ha => ?_⟩, fun j g hj a ha => ?_, ?_⟩
  · have : a ≠ p := fun q => by rw [q, hpn] at e; cases e
    rw [hne a this]
    exact le a x e
  · have : a ≠ p := fun q => by
      subst q
      rcases LocS.old lc1 hpf with z | z
      · rw [z] at e; cases e
      · exact hA z
    rw [hne a this]
    exact kept a x e hA
  · by_cases q : a = p
    · subst q
      obtain ⟨w, hw, st⟩ := stab a x e hA
      rw [ho] at hw
      cases hw
      exact ⟨o', upd_same, st.trans hst⟩
    · obtain ⟨w, hw, st⟩ := stab a x e hA
      exact ⟨w, by rw [hne a q]; exact hw, st⟩
  · rw [List.map_append, List.map_append]
    exact RelTs.join hz (RelTs.mono (Inc.refl F) _ _ xr (fun a ha => hne a fun q => n.2.2 p hpf a (List.mem_append_right _ ha) q.symm) q2)
  · rw [List.flatten_append]
    exact P1.nodup_iff.mpr N1
  · rw [List.flatten_append] at ha
    exact ow a (sub a ha)
  · exact mine a (sub a (List.mem_append_left _ (List.mem_flatten.mpr ⟨g, List.mem_of_getElem? hj, ha⟩)))
  · exact (LocX.append lZ).mpr ⟨LocX.any fun a ha => mine a (sub a (List.mem_append_right _ (List.mem_append_left _ ha))), lcs.2⟩
end
end Z

namespace Z
open PySem PySem.Spec PyProof.Rows L2
/-! ### values of one's own, made without changing anything that stands -/
def Smo (W : Wd) (t : TE) (f : List T → Option (T × List T)) : Prop :=
  ∀ b F ρ σ X H τ ρ' Q, SR W b F ρ σ X H → f ρ = some (τ, ρ') → (∀ v F' H', SR W b F' ρ' σ (⟨none, τ, v⟩ :: X) H' → Inc F F' → Same H H' → Q v H') → t σ H Q
def Em (c : Ctx) (e : Expr) (f : List T → Option (T × List T)) : Prop := ∃ t, (∀ j, PE (c.X j) e t) ∧ Smo c.W t f
def Smos (W : Wd) (t : TA) (f : List T → Option (List T × List T)) : Prop :=
  ∀ b F ρ σ X H τs ρ' Q, SR W b F ρ σ X H → f ρ = some (τs, ρ') → (∀ vs F' H', τs.length = vs.length → SR W b F' ρ' σ (Xn τs vs ++ X) H' → Inc F F' → Same H H' → Q vs H') → t σ H Q
def Ams (c : Ctx) (es : List Expr) (f : List T → Option (List T × List T)) : Prop := ∃ t, (∀ j, PA (c.X j) es t) ∧ Smos c.W t f
section
variable {c : Ctx} {e : Expr} {es : List Expr} {pos : Pos} {fe : List T → Option T} {fm : List T → Option (T × List T)} {fs : List T → Option (List T × List T)}
def mP (fe : List T → Option T) : List T → Option (T × List T) := fun ρ => (fe ρ).bind fun t => t.d?.map fun d => (.f d, ρ)
theorem em_p (h : Ev c e fe) : Em c e (mP fe) := by
  obtain ⟨t, p, s⟩ := h
  refine ⟨t, p, ?_⟩
  intro b F ρ σ X H τ ρ' Q S e k
  unfold mP at e
  obtain ⟨t1, e1, e⟩ := Option.bind_eq_some_iff.mp e
  obtain ⟨d, e2, e⟩ := Option.map_eq_some_iff.mp e
  cases e
  cases d_some e2
  exact s b F ρ σ X H _ _ S e1 fun v F1 H1 S1 i1 s1 r1 => k v F1 H1 (S1.push r1.rep) i1 s1
def mV (i : Nat) : List T → Option (T × List T) := fun ρ => match ρ[i]? with
  | some .un => none
  | some t => some (t, ρ.set i .un)
  | none => none
theorem em_v (i : Nat) {x : Str} (hi : c.N[i]? = some x := by rfl) (hv : ∀ j, Vis (c.X j).env.scope x := by intro _; first | exact Or.inl rfl | exact Or.inr (Or.inl rfl) | exact Or.inr (Or.inr rfl)) (hd : (x == ("__debug__" : Str)) = false := by decide) (hcd : (x == ("__classdict__" : Str)) = false := by decide) : Em c (.Name x pos) (mV i) := by
  refine ⟨_, fun j => pe_var (i := i) (by rw [c.hN j]; exact hi) (hv j) hd hcd, ?_⟩
  intro b F ρ σ X H τ ρ' Q S e k
  unfold mV at e
  cases q : ρ[i]? with
  | none => rw [q] at e; cases e
  | some t =>
    have ht : t ≠ .un := by
      rintro rfl
      rw [q] at e
      cases e
    have e2 : t = τ ∧ ρ.set i .un = ρ' := by
      rw [q] at e
      cases t with
      | un => exact absurd rfl ht
      | _ => cases e; exact ⟨rfl, rfl⟩
    obtain ⟨rfl, rfl⟩ := e2
    obtain ⟨s, fp, e1, r⟩ := S.slot q
    cases s with
    | none => exact absurd r.1 ht
    | some v =>
      have S' := S.take q e1
      refine ⟨v, e1, k v F H ?_ (Inc.refl F) (Same.refl H)⟩
      obtain ⟨le, f0, fn, kept, stab, pin, fps, xps, s1, s2, ow, lc1, lc2⟩ := S'
      refine ⟨le, f0, fn, kept, stab, pin, fps, xps, s1, s2, ow, lc1, ?_⟩
      cases xps with
      | nil => exact trivial
      | cons f fs => exact lc2
def msNil : List T → Option (List T × List T) := fun ρ => some ([], ρ)
def msCons (f : List T → Option (T × List T)) (g : List T → Option (List T × List T)) : List T → Option (List T × List T) := fun ρ => (f ρ).bind fun p => (g p.2).map fun q => (p.1 :: q.1, q.2)
theorem ams_nil : Ams c [] msNil := by
  refine ⟨_, fun _ => pa_nil, ?_⟩
  intro b F ρ σ X H τs ρ' Q S e k
  cases e
  exact k [] F H rfl S (Inc.refl F) (Same.refl H)
theorem Xn_perm {x : Tm} {X : List Tm} : ∀ (Y : List Tm), (Y ++ x :: X).Perm (x :: (Y ++ X)) := fun Y => List.perm_middle
theorem ams_cons (ha : Em c e fm) (hr : Ams c es fs) (hs : ∀ j, starEach (e :: es) (c.X j).env = (false, eval e (c.X j).env) :: starEach es (c.X j).env := by intro _; rfl) : Ams c (e :: es) (msCons fm fs) := by
  obtain ⟨t, p, s⟩ := ha
  obtain ⟨u, q, s'⟩ := hr
  refine ⟨tCons t u, fun j => pa_cons (p j) (q j) (hs j), ?_⟩
  intro b F ρ σ X H τs ρ' Q S e k
  unfold msCons at e
  obtain ⟨⟨τ, ρ1⟩, e1, e⟩ := Option.bind_eq_some_iff.mp e
  obtain ⟨⟨τr, ρ2⟩, e2, e⟩ := Option.map_eq_some_iff.mp e
  cases e
  refine s b F ρ σ X H _ _ _ S e1 fun v F1 H1 S1 i1 s1 => ?_
  refine s' b F1 _ σ _ H1 _ _ _ S1 e2 fun vs F2 H2 hl S2 i2 s2 => ?_
  exact k (v :: vs) F2 H2 (by simp [hl]) (S2.perm (Xn_perm _)) (i1.trans i2) (s1.trans s2)
/-- the things held become one tuple, one list -/
theorem SR.bundle {W : Wd} {b : Bs} {F : Hp} {ρ : List T} {σ : L2.St} {X Y : List Tm} {H : Hp} {p : Addr} {o : HO} {t : T} (S : SR W b F ρ σ (Y ++ X) H) (hp : H p = none)
    (ht : ∀ fps, RelTs W F (upd H p o) (Y.map (·.t)) (Y.map (·.v)) fps → RelT W F (upd H p o) t (.ref p) (p :: fps.flatten)) : SR W b F ρ σ (⟨none, t, .ref p⟩ :: X) (upd H p o) := by
  have S1 : SR W b F ρ σ (⟨none, .l [], .ref p⟩ :: (Y ++ X)) (upd H p (.lst [])) := S.own hp ⟨p, [], rfl, rfl, upd_same, rfl⟩
  obtain ⟨le, f0, fn, kept, stab, pin, fps, xps, s1, s2, ⟨nd, ow⟩, lc1, lc2⟩ := S
  rw [List.map_append, List.map_append] at s2
  obtain ⟨yps, xr, e, q1, q2⟩ := RelTs.split (by simp) s2
  subst e
  rw [List.flatten_append] at nd ow
  have hthere : ∀ a ∈ fps.flatten ++ (yps.flatten ++ xr.flatten), a ≠ p := fun a ha z => by
    subst z
    rcases List.mem_append.mp ha with y | y
    · obtain ⟨o, e⟩ := Slots.there s1 a y
      rw [hp] at e; cases e
    · rcases List.mem_append.mp y with y | y
      · obtain ⟨o, e⟩ := RelTs.there _ _ _ q1 a y
        rw [hp] at e; cases e
      · obtain ⟨o, e⟩ := RelTs.there _ _ _ q2 a y
        rw [hp] at e; cases e
  have stay : ∀ a ∈ fps.flatten ++ (yps.flatten ++ xr.flatten), upd H p o a = H a := fun a ha => upd_ne (hthere a ha)
  have lY : Y.length = yps.length := by have := RelTs.lenA q1; simpa using this.2
  have lcs := (LocX.append (b := b) lY).mp lc2
  have hFp : F p = none := le.none hp
  have hnew : b.H0 p = none := by
    cases q : b.H0 p with
    | none => rfl
    | some u =>
      by_cases hA : p ∈ b.A
      · obtain ⟨u', z', _⟩ := stab p u q hA
        rw [z'] at hp; cases hp
      · rw [kept p u q hA] at hp; cases hp
  have same : Same H (upd H p o) := fun a u e => by rw [upd_ne (ne_of_none e hp)]; exact e
  refine ⟨le.inc same, f0, fn, fun a u e na => same a u (kept a u e na), fun a u e ha => (stab a u e ha).elim fun w q => ⟨w, same a w q.1, q.2⟩, pin, fps, (p :: yps.flatten) :: xr, s1.mono (Inc.refl F) (fun a ha => stay a (List.mem_append_left _ ha)),
    ⟨_, _, _, _, rfl, rfl, ht yps (RelTs.mono (Inc.refl F) _ _ _ (fun a ha => stay a (List.mem_append_right _ (List.mem_append_left _ ha))) q1), RelTs.mono (Inc.refl F) _ _ _ (fun a ha => stay a (List.mem_append_right _ (List.mem_append_right _ ha))) q2⟩, ⟨?_, fun a ha => ?_⟩, lc1, fun a ha => ?_, lcs.2⟩
  · rw [List.flatten_cons, List.cons_append]
    refine (List.perm_middle.nodup_iff).mpr (List.nodup_cons.mpr ⟨fun z => hthere p z rfl, nd⟩)
  · rw [List.flatten_cons, List.cons_append] at ha
    rcases List.mem_cons.mp (List.perm_middle.mem_iff.mp ha) with z | z
    · rw [z]; exact hFp
    · exact ow a z
  · rcases List.mem_cons.mp ha with z | z
    · rw [z]; exact .inl hnew
    · exact LocX.old lY lcs.1 z
def mTup (fs : List T → Option (List T × List T)) : List T → Option (T × List T) := fun ρ => (fs ρ).bind fun p => if p.1.length ≤ sizeLine then some (.tu p.1, p.2) else none
def mLst (fs : List T → Option (List T × List T)) : List T → Option (T × List T) := fun ρ => (fs ρ).bind fun p => if p.1.length ≤ sizeLine then some (.ll p.1, p.2) else none
theorem em_tup {m : Nat} (h : Ams c es fs) : Em c (.Tuple es m pos) (mTup fs) := by
  obtain ⟨t, p, s⟩ := h
  refine ⟨_, fun j => pe_tup (p j), ?_⟩
  intro b F ρ σ X H τ ρ' Q S e k
  unfold mTup at e
  obtain ⟨⟨ts, ρ1⟩, e1, e⟩ := Option.bind_eq_some_iff.mp e
  split at e
  · rename_i hl
    cases e
    refine s b F ρ σ X H _ _ _ S e1 fun vs F1 H1 hlen S1 i1 s1 => ⟨by rw [← hlen]; exact hl, fun q hq => ?_⟩
    obtain ⟨a1, a2⟩ := Xn_t hlen
    refine k _ F1 _ (S1.bundle hq fun fps r => ?_) i1 (s1.trans fun a u e => by rw [upd_ne (ne_of_none e hq)]; exact e)
    rw [a1, a2] at r
    exact ⟨q, vs, fps, rfl, rfl, upd_same, r⟩
  · cases e
theorem em_lst (h : Ams c es fs) : Em c (.List es pos) (mLst fs) := by
  obtain ⟨t, p, s⟩ := h
  refine ⟨_, fun j => pe_lst (p j), ?_⟩
  intro b F ρ σ X H τ ρ' Q S e k
  unfold mLst at e
  obtain ⟨⟨ts, ρ1⟩, e1, e⟩ := Option.bind_eq_some_iff.mp e
  split at e
  · rename_i hl
    cases e
    refine s b F ρ σ X H _ _ _ S e1 fun vs F1 H1 hlen S1 i1 s1 => ⟨by rw [← hlen]; exact hl, fun q hq => ?_⟩
    obtain ⟨a1, a2⟩ := Xn_t hlen
    refine k _ F1 _ (S1.bundle hq fun fps r => ?_) i1 (s1.trans fun a u e => by rw [upd_ne (ne_of_none e hq)]; exact e)
    rw [a1, a2] at r
    exact ⟨q, vs, fps, rfl, rfl, upd_same, r⟩
  · cases e
/-- a new list of deep things -/
def mNew (fs : List T → Option (List T)) : List T → Option (T × List T) := fun ρ => (fs ρ).bind fun ts => (deep ts).bind fun ds => if ds.length ≤ sizeLine then some (.l ds, ρ) else none
theorem em_new {fs : List T → Option (List T)} (h : Av c es fs) : Em c (.List es pos) (mNew fs) := by
  obtain ⟨t, p, s⟩ := h
  refine ⟨_, fun j => pe_lst (p j), ?_⟩
  intro b F ρ σ X H τ ρ' Q S e k
  unfold mNew at e
  obtain ⟨xs, e1, e⟩ := Option.bind_eq_some_iff.mp e
  obtain ⟨ds, e2, e⟩ := Option.bind_eq_some_iff.mp e
  split at e
  · rename_i hl
    cases e
    refine s b F _ σ X H xs _ S e1 fun vs F1 H1 S1 i1 s1 r1 => ?_
    have r2 := r1.deep e2
    refine ⟨by rw [← r2.len]; exact hl, fun q hq => ?_⟩
    exact k _ F1 _ (S1.own hq ⟨q, vs, rfl, rfl, upd_same, r2⟩) i1 (s1.trans fun a u e => by rw [upd_ne (ne_of_none e hq)]; exact e)
  · cases e
def mNewD : List T → Option (T × List T) := fun ρ => some (.dk [] [], ρ)
theorem em_newd : Em c (.Dict [] [] pos) mNewD := by
  refine ⟨_, fun _ => pe_dnewK, ?_⟩
  intro b F ρ σ X H τ ρ' Q S e k
  cases e
  intro q hq
  exact k _ F _ (S.own hq ⟨q, [], rfl, rfl, upd_same, rfl, rfl⟩) (Inc.refl F) fun a u e => by rw [upd_ne (ne_of_none e hq)]; exact e
/-- as such -/
def mE (fm : List T → Option (T × List T)) : List T → Option Re := fun ρ => (fm ρ).map fun p => .ok p.1 p.2
theorem emo (h : Em c e fm) : Eo c e (mE fm) := by
  obtain ⟨t, p, s⟩ := h
  refine ⟨t, p, ?_⟩
  intro b F ρ σ X H r Q hb S e k
  unfold mE at e
  obtain ⟨⟨τ, ρ'⟩, e1, e⟩ := Option.map_eq_some_iff.mp e
  subst e
  exact s b F ρ σ X H τ ρ' _ S e1 fun v F1 H1 S1 i1 s1 => k v F1 H1 S1 i1
end
/-! ### xs.append(a thing of its own) -/
def appM (t : T) : T → Option T
  | .ll ts => if ts.length < sizeLine then some (.ll (ts ++ [t])) else none
  | .l ds => if ds.length < sizeLine then (match t with
    | .f d => some (.l (ds ++ [d]))
    | .un => none
    | t => some (.ll (ds.map .f ++ [t]))) else none
  | _ => none
def isLst : T → Bool | .l _ => true | .ll _ => true | _ => false
def sAppM (i : Nat) (fp : List T → Option (List Sel)) (fm : List T → Option (T × List T)) : FS := fun ρ => (fp ρ).bind fun π => (ρ[i]?.bind fun t => t.getP π).bind fun u0 => if isLst u0 = true then (fm ρ).bind fun q => (mutF i π (appM q.1) q.2).map .nx else none
theorem relTs_one {W : Wd} {F H : Hp} {t : T} {v : V} {f : List Addr} (r : RelT W F H t v f) : RelTs W F H [t] [v] [f] := ⟨v, [], f, [], rfl, rfl, r, rfl, rfl⟩
theorem relTs_deepF {W : Wd} {F H : Hp} {ds : List D} {vs : List V} (r : Reps W F ds vs) : RelTs W F H (ds.map .f) vs (List.replicate ds.length []) := relTs_deep r
theorem flat_repl : ∀ (n : Nat), (List.replicate n ([] : List Addr)).flatten = []
  | 0 => rfl
  | n + 1 => by rw [List.replicate_succ, List.flatten_cons, flat_repl n]; rfl
theorem SR.appM {W : Wd} {b : Bs} {F : Hp} {ρ ρ' : List T} {σ : L2.St} {X : List Tm} {H : Hp} {i : Nat} {π : List Sel} {t : T} {v y : V} {p : Addr} (S : SR W b F ρ σ (⟨none, t, y⟩ :: X) H) (h : mutF i π (appM t) ρ = some ρ') (hv : σ[i]? = some (some v)) (ha : AtV H v π p) :
    ∃ vs, H p = some (.lst vs) ∧ vs.length < sizeLine ∧ SR W b F ρ' σ X (upd H p (.lst (vs ++ [y]))) := by
  obtain ⟨t0, u, u', e1, e2, e3, rfl⟩ := mutF_some h
  obtain ⟨fu, yps, q1, q2, q3, q4, q5⟩ := SR.mutX (Y := [⟨none, t, y⟩]) (X := X) S e1 hv e2 ha
  obtain ⟨y', vr, fy, fr, ey, rfl, ry, q2'⟩ := q2
  cases ey
  obtain ⟨_, rfl⟩ := q2'
  rw [List.flatten_cons, List.flatten_nil, List.append_nil] at q3 q4 q5
  have ny : p ∈ fu → ∀ o, ∀ a ∈ fy, upd H p o a = H a := fun hp o a ha => upd_ne fun z => (List.nodup_append.mp q3).2.2 p hp a ha z.symm
  cases u with
  | ll ts =>
    have e3' : (if ts.length < sizeLine then some (T.ll (ts ++ [t])) else none) = some u' := e3
    split at e3'
    · rename_i hl
      cases e3'
      obtain ⟨p', vs, fps, ep, rfl, hp, rs⟩ := q1
      cases ep
      have n0 := List.nodup_append.mp q3
      have hpn : p ∉ fps.flatten := (List.nodup_cons.mp n0.1).1
      refine ⟨vs, hp, by rw [← rs.lenA.1]; exact hl, ?_⟩
      refine q5 _ (.ll (ts ++ [t])) (p :: (fps ++ [fy]).flatten) [] [] List.mem_cons_self ⟨p, _, fps ++ [fy], rfl, rfl, upd_same, ?_⟩ ⟨rfl, rfl⟩ ?_ (fun a ha => ?_) ⟨_, hp, Stb.lst⟩
      · exact RelTs.join (RelTs.mono (Inc.refl F) _ _ _ (fun a ha => upd_ne fun z => hpn (z ▸ ha)) rs) (relTs_one (RelT.mono (Inc.refl F) _ _ _ (ny List.mem_cons_self _) ry))
      · simpa using q3
      · simpa using ha
    · cases e3'
  | l ds =>
    have e3' : (if ds.length < sizeLine then (match t with
      | .f d => some (T.l (ds ++ [d]))
      | .un => none
      | t => some (.ll (ds.map .f ++ [t]))) else none) = some u' := e3
    split at e3'
    · rename_i hl
      obtain ⟨p', vs, ep, rfl, hp, rs⟩ := q1
      cases ep
      refine ⟨vs, hp, by rw [← rs.len]; exact hl, ?_⟩
      by_cases hf : ∃ d, t = .f d
      · obtain ⟨d, rfl⟩ := hf
        cases e3'
        have hfy : fy = [] := ry.1
        subst hfy
        refine q5 _ (.l (ds ++ [d])) [p] [] [] (List.mem_singleton.mpr rfl) ⟨p, _, rfl, rfl, upd_same, rs.append ⟨y, [], rfl, ry.2, rfl⟩⟩ ⟨rfl, rfl⟩ (by simp) (fun a ha => by simpa using ha) ⟨_, hp, Stb.lst⟩
      · have e4 : u' = .ll (ds.map .f ++ [t]) := by
          cases t with
          | f d => exact absurd ⟨d, rfl⟩ hf
          | un => cases e3'
          | _ => exact (Option.some.inj e3').symm
        subst e4
        have hfl : (List.replicate ds.length ([] : List Addr) ++ [fy]).flatten = fy := by
          rw [List.flatten_append, flat_repl, List.flatten_cons, List.flatten_nil, List.append_nil, List.nil_append]
        refine q5 _ (.ll (ds.map .f ++ [t])) (p :: (List.replicate ds.length [] ++ [fy]).flatten) [] [] (List.mem_singleton.mpr rfl) ⟨p, _, _, rfl, rfl, upd_same, ?_⟩ ⟨rfl, rfl⟩ ?_ (fun a ha => ?_) ⟨_, hp, Stb.lst⟩
        · exact RelTs.join (relTs_deep rs) (relTs_one (RelT.mono (Inc.refl F) _ _ _ (ny (List.mem_singleton.mpr rfl) _) ry))
        · rw [hfl]
          simpa using q3
        · rw [hfl] at ha
          simpa using ha
    · cases e3'
  | _ => cases e3
theorem sm_appM {c : Ctx} {e o : Expr} {i : Nat} {fp : List T → Option (List Sel)} {fm : List T → Option (T × List T)} {pos apos cpos : Pos} (ho : Lo c o i fp) (he : Em c e fm)
    (hbase : ∀ j, attributeBase o "append" (c.X j).env (eval o (c.X j).env) = eval o (c.X j).env := by intro _; rfl)
    (hfew : ∀ j, ((backTo cpos (starEach [e] (c.X j).env)).all (fun x => !x.1) && (backToKw cpos (keywordEach [] (c.X j).env)).all (fun x => x.1.isSome)
      && decide (([e] : List Expr).length + ([] : List Keyword).length + (if ([] : List Keyword).isEmpty then 0 else 1) < 30)) = true := by intro _; rfl)
    (hline : (apos.endLine == cpos.line) = true := by rfl) (hs : ∀ j, starEach [e] (c.X j).env = (false, eval e (c.X j).env) :: starEach [] (c.X j).env := by intro _; rfl) (hplain : ∀ j, (backTo cpos (starEach [] (c.X j).env)).any (·.1) = false := by intro _; rfl)
    (hsw : ∀ j, swapsWith (.Call (.Attribute o "append" apos) [e] [] cpos) none pos.line (c.X j).env = pure false := by intro _; rfl) :
    Sm c (.Expr (.Call (.Attribute o "append" apos) [e] [] cpos) pos) (sAppM i fp fm) := by
  obtain ⟨to, po, so⟩ := ho
  obtain ⟨te, pe, se⟩ := he
  refine ⟨tDrop (tBM c.W.K "list" rAppend to (tCons te tNil)), fun j => by
    have h := ps_expr (pe_bm PySem.F.plainAttrs_list PySem.F.slot_list_append PySem.F.type_list_append mt_append (po j) (pa_cons (pe j) pa_nil (hs j)) (hbase j) (hfew j) hline (hs j) (hplain j)) (hsw j)
    rw [c.hK j] at h
    exact h, ?_⟩
  intro b F ρ σ X H out D hb S eq k
  unfold sAppM at eq
  obtain ⟨π, e1, eq⟩ := Option.bind_eq_some_iff.mp eq
  obtain ⟨u0, e2, eq⟩ := Option.bind_eq_some_iff.mp eq
  obtain ⟨t0, e2a, e2b⟩ := Option.bind_eq_some_iff.mp e2
  split at eq
  · rename_i hlst
    have hown : owned u0 = true := by cases u0 <;> first | rfl | cases hlst
    obtain ⟨⟨t, ρ1⟩, e3, eq⟩ := Option.bind_eq_some_iff.mp eq
    obtain ⟨ρ', e4, eq⟩ := Option.map_eq_some_iff.mp eq
    subst eq
    refine so b F ρ σ X H π t0 u0 _ S e1 e2a e2b hown fun p v F1 H1 S1 i1 s1 hv hat => ?_
    have hl1 : ∃ vs, H1 p = some (.lst vs) := by
      obtain ⟨fu, q1⟩ := S1.part e2a hv e2b hat
      cases u0 with
      | l ds => obtain ⟨p', vs, ep, _, hp, _⟩ := q1; cases ep; exact ⟨vs, hp⟩
      | ll ts => obtain ⟨p', vs, fps, ep, _, hp, _⟩ := q1; cases ep; exact ⟨vs, hp⟩
      | _ => cases hlst
    obtain ⟨vs0, hl1⟩ := hl1
    refine ⟨.inl ⟨rfl, vs0, SqL.of hl1⟩, ?_⟩
    refine se b F1 ρ σ X H1 t ρ1 _ S1 e3 fun y F2 H2 S2 i2 s2 => ?_
    obtain ⟨vs, hp, hz, S3⟩ := S2.appM e4 hv (hat.same s2)
    exact ⟨p, vs, y, rfl, rfl, hp, hz, k σ F2 _ S3 (i1.trans i2)⟩
  · cases eq
end Z

namespace Z
open PySem PySem.Spec PyProof.Rows L2
/-! ### xs.pop() -/
theorem drop_last {α : Type} {l : List α} {a : α} (h : l.getLast? = some a) : l.dropLast ++ [a] = l := by
  have hne : l ≠ [] := fun z => by rw [z] at h; cases h
  rw [List.getLast?_eq_getLast hne] at h
  cases h
  exact List.dropLast_concat_getLast hne
theorem RelTs.last {W : Wd} {F H : Hp} {t : T} : ∀ {ts : List T} {vs : List V} {fps : List (List Addr)}, RelTs W F H (ts ++ [t]) vs fps → ∃ vs' y fs f, vs = vs' ++ [y] ∧ fps = fs ++ [f] ∧ RelTs W F H ts vs' fs ∧ RelT W F H t y f
  | [], _, _, r => by
    obtain ⟨v, vr, f, fr, rfl, rfl, a, b⟩ := r
    obtain ⟨rfl, rfl⟩ := b
    exact ⟨[], v, [], f, rfl, rfl, ⟨rfl, rfl⟩, a⟩
  | s :: ts, _, _, r => by
    obtain ⟨v, vr, f, fr, rfl, rfl, a, b⟩ := r
    obtain ⟨vs', y, fs, f', rfl, rfl, q1, q2⟩ := RelTs.last b
    exact ⟨v :: vs', y, f :: fs, f', rfl, rfl, ⟨v, vs', f, fs, rfl, rfl, a, q1⟩, q2⟩
def popT : T → Option (T × T)
  | .ll ts => ts.getLast?.bind fun t => match t with
    | .un => none
    | t => some (t, .ll ts.dropLast)
  | .l ds => ds.getLast?.map fun d => (.f d, .l ds.dropLast)
  | _ => none
def fPop (i : Nat) (fp : List T → Option (List Sel)) : List T → Option Re := fun ρ => (fp ρ).bind fun π => ρ[i]?.bind fun t0 => (t0.getP π).bind fun u => (popT u).map fun q => .ok q.1 (ρ.set i (t0.putP π q.2))
theorem eo_pop {c : Ctx} {o : Expr} {i : Nat} {fp : List T → Option (List Sel)} {apos cpos : Pos} (ho : Lo c o i fp)
    (hbase : ∀ j, attributeBase o "pop" (c.X j).env (eval o (c.X j).env) = eval o (c.X j).env := by intro _; rfl) (hline : (apos.endLine == cpos.line) = true := by rfl) : Eo c (.Call (.Attribute o "pop" apos) [] [] cpos) (fPop i fp) := by
  obtain ⟨to, po, so⟩ := ho
  refine ⟨tBM0 c.W.K "list" rPop to, fun j => by
    have h := pe_bm0 (cpos := cpos) (apos := apos) PySem.F.plainAttrs_list PySem.F.slot_list_pop PySem.F.type_list_pop mt_pop (po j) (hbase j) hline
    rw [c.hK j] at h
    exact h, ?_⟩
  intro b F ρ σ X H r Q hb S eq k
  unfold fPop at eq
  obtain ⟨π, e1, eq⟩ := Option.bind_eq_some_iff.mp eq
  obtain ⟨t0, e2, eq⟩ := Option.bind_eq_some_iff.mp eq
  obtain ⟨u, e3, eq⟩ := Option.bind_eq_some_iff.mp eq
  obtain ⟨⟨t, u'⟩, e4, eq⟩ := Option.map_eq_some_iff.mp eq
  subst eq
  have hown : owned u = true := by cases u <;> first | rfl | cases e4
  refine so b F ρ σ X H π t0 u _ S e1 e2 e3 hown fun p v F1 H1 S1 i1 s1 hv hat => ?_
  obtain ⟨fu, yps, q1, q2, q3, q4, q5⟩ := SR.mutX (Y := []) (X := X) S1 e2 hv e3 hat
  obtain ⟨_, rfl⟩ := q2
  rw [List.flatten_nil, List.append_nil] at q3 q4 q5
  cases u with
  | ll ts =>
    obtain ⟨t', e5, e6⟩ := Option.bind_eq_some_iff.mp (show ts.getLast?.bind _ = some (t, u') from e4)
    have e7 : t' = t ∧ u' = .ll ts.dropLast := by
      cases t' with
      | un => cases e6
      | _ => cases e6; exact ⟨rfl, rfl⟩
    obtain ⟨rfl, rfl⟩ := e7
    have ets : ts = ts.dropLast ++ [t'] := (drop_last e5).symm
    obtain ⟨p', vs, fps, ep, rfl, hp, rs⟩ := q1
    cases ep
    rw [ets] at rs
    obtain ⟨vs', y, fs, f, rfl, rfl, r1, r2⟩ := RelTs.last rs
    refine ⟨.inl ⟨rfl, _, SqL.of hp⟩, p, _, y, rfl, rfl, hp, by simp, ?_⟩
    have n0 := List.nodup_cons.mp q3
    have hpn : ∀ a ∈ (fs ++ [f]).flatten, upd H1 p (.lst (vs' ++ [y]).dropLast) a = H1 a := fun a ha => upd_ne fun z => n0.1 (z ▸ ha)
    rw [List.dropLast_concat] at hpn ⊢
    refine k y F1 _ (q5 _ (.ll ts.dropLast) (p :: fs.flatten) [⟨none, t', y⟩] [f] List.mem_cons_self ⟨p, vs', fs, rfl, rfl, upd_same, RelTs.mono (Inc.refl F1) _ _ _ (fun a ha => hpn a (by rw [List.flatten_append]; exact List.mem_append_left _ ha)) r1⟩
      (relTs_one (RelT.mono (Inc.refl F1) _ _ _ (fun a ha => hpn a (by rw [List.flatten_append]; exact List.mem_append_right _ (by simpa using ha))) r2)) ?_ (fun a ha => ?_) ⟨_, hp, Stb.lst⟩) i1
    · simpa using q3
    · simpa using ha
  | l ds =>
    obtain ⟨d, e5, e6⟩ := Option.map_eq_some_iff.mp (show ds.getLast?.map _ = some (t, u') from e4)
    cases e6
    have ets : ds = ds.dropLast ++ [d] := (drop_last e5).symm
    obtain ⟨p', vs, ep, rfl, hp, rs⟩ := q1
    cases ep
    have hl : 0 < ds.length := by rw [ets]; simp
    have hlv := rs.len
    obtain ⟨y, hy, ry⟩ := rs.get (i := ds.length - 1) (d := d) (by rw [← List.getLast?_eq_getElem?]; exact e5)
    refine ⟨.inl ⟨rfl, _, SqL.of hp⟩, p, vs, y, rfl, rfl, hp, by rw [← hlv]; exact hy, ?_⟩
    have hdrop : Reps c.W F1 ds.dropLast vs.dropLast := by
      rw [List.dropLast_eq_take, List.dropLast_eq_take, hlv]
      exact rs.take _
    exact k y F1 _ (q5 _ (.l ds.dropLast) [p] [⟨none, .f d, y⟩] [[]] (List.mem_singleton.mpr rfl) ⟨p, _, rfl, rfl, upd_same, hdrop⟩ (relTs_one ⟨rfl, ry⟩) (by simp) (fun a ha => by simpa using ha) ⟨_, hp, Stb.lst⟩) i1
  | _ => cases e4
/-! ### (a, b, ..) = e -/
theorem SR.untup {W : Wd} {b : Bs} {F : Hp} {ρ : List T} {σ : L2.St} {X : List Tm} {H : Hp} {ts : List T} {v : V} (S : SR W b F ρ σ (⟨none, .tu ts, v⟩ :: X) H) : ∃ p vs, v = .ref p ∧ H p = some (.tup vs) ∧ ts.length = vs.length ∧ SR W b F ρ σ (Xn ts vs ++ X) H := by
  obtain ⟨le, f0, fn, kept, stab, pin, fps, xps, s1, s2, ⟨nd, ow⟩, lc1, lc2⟩ := S
  obtain ⟨v', vr, f, fr, e1, rfl, r1, r2⟩ := s2
  obtain ⟨p, vs, gps, ep, rfl, hp, rs⟩ := r1
  have e3 : v = v' := (List.cons.inj e1).1
  have e4 : X.map (·.v) = vr := (List.cons.inj e1).2
  subst e3 e4
  have hlen := rs.lenA.1
  obtain ⟨a1, a2⟩ := Xn_t hlen
  rw [List.flatten_cons] at nd ow
  have sub : List.Sublist (fps.flatten ++ (gps ++ fr).flatten) (fps.flatten ++ ((p :: gps.flatten) ++ fr.flatten)) := by
    rw [List.flatten_append]
    exact List.Sublist.append (List.Sublist.refl _) (List.Sublist.append (List.sublist_cons_self _ _) (List.Sublist.refl _))
  refine ⟨p, vs, ep, hp, hlen, le, f0, fn, kept, stab, pin, fps, gps ++ fr, s1, ?_, ⟨nd.sublist sub, fun a ha => ow a (sub.subset ha)⟩, lc1, ?_⟩
  · rw [List.map_append, List.map_append, a1, a2]
    exact RelTs.join rs r2
  · have hX : (Xn ts vs).length = gps.length := by
      have := congrArg List.length a1
      simp only [List.length_map] at this
      rw [this, rs.lenA.2]
    exact (LocX.append hX).mpr ⟨LocX.any fun a ha => lc2.1 a (List.mem_cons_of_mem _ ha), lc2.2⟩
def gTupM (n : Nat) (f : List T → List T → Option (List T)) : T → List T → Option (List T) := fun t ρ => match t with
  | .f (.tup ds) => if ds.length = n then f (ds.map .f) ρ else none
  | .tu ts => if ts.length = n then f ts ρ else none
  | _ => none
section
variable {c : Ctx} {e tg o : Expr} {es : List Expr} {pos pos' : Pos} {fs : List T → List T → Option (List T)} {fg : T → List T → Option (List T)} {fo : List T → Option Re}
theorem gt_tupM {n m : Nat} (h : Gts c es fs) (hn : ∀ j, (assignEach es (c.X j).env).length = n := by intro _; rfl) (hst : ∀ j, (assignEach es (c.X j).env).findIdx? (·.1) = none := by intro _; rfl) : Gt c (.Tuple es m pos) (gTupM n fs) := by
  obtain ⟨g, p, q⟩ := h
  refine ⟨L2.gTup c.W.K n g, fun j => ?_, ?_⟩
  · have := pg_tup (pos := pos) (k := m) (c.calm j) (p j) (hn j) (hst j)
    rw [c.hK j] at this
    exact this
  intro b F ρ ρ' σ X H t v Q hb S e k
  unfold gTupM at e
  cases t with
  | f d => cases d with
    | tup ds =>
      simp only at e
      split at e
      · rename_i hl
        obtain ⟨p, vs, ex, hs, r⟩ := S.top
        refine ⟨p, vs, ex, SqT.le S.le hs, by rw [← r.len]; exact hl, ?_⟩
        exact q b F ρ ρ' σ X H (ds.map .f) vs Q hb (by rw [List.length_map]; exact r.len) (S.drop.pushes r) e k
      · cases e
    | _ => cases e
  | tu ts =>
    simp only at e
    split at e
    · rename_i hl
      obtain ⟨p, vs, ex, hp, hlen, S2⟩ := S.untup
      exact ⟨p, vs, ex, SqT.of hp, by rw [← hlen]; exact hl, q b F ρ ρ' σ X H ts vs Q hb hlen S2 e k⟩
    · cases e
  | _ => cases e
def sAsg (fg : T → List T → Option (List T)) (fo : List T → Option Re) : FS := fun ρ => (fo ρ).bind fun r => match r with
  | .ok t ρ1 => (fg t ρ1).map .nx
  | .xc C ρ1 => some (.xc C ρ1)
theorem sm_asg (he : Eo c e fo) (hg : Gt c tg fg) (hs : ∀ j, swapsWithSole [tg] e pos.line (c.X j).env = pure false := by intro _; rfl) (hw : ∀ j, swappedStores [tg] e (c.X j).env = pure none := by intro _; rfl)
    (h1 : ∀ j, (assignEach [tg] (c.X j).env).map (·.2) = [assign tg (c.X j).env] := by intro _; rfl) : Sm c (.Assign [tg] e pos) (sAsg fg fo) := by
  obtain ⟨t, p, s⟩ := he
  obtain ⟨g, q, sg⟩ := hg
  refine ⟨tAsg t g, fun j => ps_asg (p j) (q j) (hs j) (hw j) (h1 j), ?_⟩
  intro b F ρ σ X H out D hb S eq k
  unfold sAsg at eq
  obtain ⟨r, e1, eq⟩ := Option.bind_eq_some_iff.mp eq
  refine s b F ρ σ X H r _ hb S e1 ?_
  cases r with
  | xc C ρ1 =>
    cases eq
    exact fun d F' H' S' i' => k d σ F' H' S' i'
  | ok t ρ1 =>
    obtain ⟨ρ2, e2, eq⟩ := Option.map_eq_some_iff.mp eq
    subst eq
    intro v F' H' S' i'
    exact sg b F' ρ1 ρ2 σ X H' t v _ hb S' e2 fun σ' F2 H2 S2 i2 => k σ' F2 H2 S2 (i'.trans i2)
end
/-! ### o.f = a thing of its own -/
theorem RelTs.putNewM {W : Wd} {F H : Hp} {f : Str} {t : T} {y : V} {fy : List Addr} (ry : RelT W F H t y fy) : ∀ {ns : List Str} {ts : List T} {kvs : List (Str × V)} {fps : List (List Addr)}, kvs.map (·.1) = ns → RelTs W F H ts (kvs.map (·.2)) fps → atN ns ts f = none →
    (L2.putF f y kvs).map (·.1) = ns ++ [f] ∧ RelTs W F H (ts ++ [t]) ((L2.putF f y kvs).map (·.2)) (fps ++ [fy])
  | _, [], [], fps, h, r, _ => by
    subst h
    rw [r.2]
    exact ⟨rfl, ⟨y, [], fy, [], rfl, rfl, ry, rfl, rfl⟩⟩
  | _, [], k :: kvs, _, _, r, _ => by cases r.1
  | _, t0 :: ts, [], _, _, r, _ => by obtain ⟨_, _, _, _, e, _⟩ := r; cases e
  | _, t0 :: ts, k :: kvs, fps, h, r, e => by
    subst h
    obtain ⟨v, vr, f0, fr, e1, rfl, a, b⟩ := r
    have e1a : k.2 = v := (List.cons.inj e1).1
    have e1b : kvs.map (·.2) = vr := (List.cons.inj e1).2
    subst e1a e1b
    have e' : (if k.1 = f then some t0 else atN (kvs.map (·.1)) ts f) = none := e
    by_cases hk : k.1 = f
    · rw [if_pos hk] at e'; cases e'
    · rw [if_neg hk] at e'
      obtain ⟨q1, q2⟩ := RelTs.putNewM (y := y) ry rfl b e'
      have hp : L2.putF f y (k :: kvs) = k :: L2.putF f y kvs := by
        show (if k.1 = f then _ else _) = _
        rw [if_neg hk]
      rw [hp]
      exact ⟨by rw [List.map_cons, q1]; rfl, ⟨k.2, _, f0, _, rfl, rfl, a, q2⟩⟩
def attM (C : Nat) (f : Str) (t : T) : T → Option T
  | .o C' ns ts => if C' = C ∧ ns.length < 1000 ∧ (atN ns ts f).isNone = true then some (.o C' (ns ++ [f]) (ts ++ [t])) else none
  | _ => none
def sAttM (C : Nat) (f : Str) (i : Nat) (fp : List T → Option (List Sel)) (fm : List T → Option (T × List T)) : FS := fun ρ => (fm ρ).bind fun q => (fp q.2).bind fun π => (mutF i π (attM C f q.1) q.2).map .nx
theorem sm_attM {c : Ctx} {e o : Expr} {fm : List T → Option (T × List T)} {pos pos' : Pos} {C : Nat} {f : Str} {i : Nat} {fp : List T → Option (List Sel)} (hC : Cls c.W.K (c.W.cl C)) (hN : NoAttr c.W.K (c.W.cl C) f) (ho : Lo c o i fp) (he : Em c e fm) (hs : ∀ j, swapsWith e (some (.Attribute o f pos')) pos.line (c.X j).env = pure false := by intro _; rfl) : Sm c (.Assign [.Attribute o f pos'] e pos) (sAttM C f i fp fm) := by
  obtain ⟨to, po, so⟩ := ho
  obtain ⟨te, pe, se⟩ := he
  refine ⟨_, fun j => by have h := ps_fld (po j) (pe j) (hs j); rw [c.hK j] at h; exact h, ?_⟩
  intro b F ρ σ X H out D hb S eq k
  unfold sAttM at eq
  obtain ⟨⟨t, ρ1⟩, e2, eq⟩ := Option.bind_eq_some_iff.mp eq
  obtain ⟨π, e1, eq⟩ := Option.bind_eq_some_iff.mp eq
  obtain ⟨ρ', e4, eq⟩ := Option.map_eq_some_iff.mp eq
  subst eq
  obtain ⟨t0, u, u', g1, g2, g3, g4⟩ := mutF_some e4
  have hown : owned u = true := by cases u <;> first | rfl | cases g3
  refine se b F ρ σ X H t ρ1 _ S e2 fun y F1 H1 S1 i1 s1 => ?_
  refine so b F1 ρ1 σ _ H1 π t0 u _ S1 e1 g1 g2 hown fun p v F2 H2 S2 i2 s2 hv hat => ?_
  obtain ⟨fu, yps, q1, q2, q3, q4, q5⟩ := SR.mutX (Y := [⟨none, t, y⟩]) (X := X) S2 g1 hv g2 hat
  obtain ⟨y', vr, fy, fr, ey, rfl, ry, q2'⟩ := q2
  cases ey
  obtain ⟨_, rfl⟩ := q2'
  rw [List.flatten_cons, List.flatten_nil, List.append_nil] at q3 q4 q5
  cases u with
  | o C' ns ts =>
    have g3' : (if C' = C ∧ ns.length < 1000 ∧ (atN ns ts f).isNone = true then some (T.o C' (ns ++ [f]) (ts ++ [t])) else none) = some u' := g3
    split at g3'
    · rename_i hc
      obtain ⟨hc, hl, hat0⟩ := hc
      subst hc
      cases g3'
      obtain ⟨p', dx, kvs, fps, ep, rfl, hp, hk, rs⟩ := q1
      cases ep
      have hlen : kvs.length < 1000 := by
        have := congrArg List.length hk
        rw [List.length_map] at this
        omega
      refine ⟨p, _, dx, kvs, rfl, hp, hC, hN, hlen, ?_⟩
      have n0 := List.nodup_append.mp q3
      have hpn := (List.nodup_cons.mp n0.1).1
      have st1 : ∀ o, ∀ a ∈ fps.flatten, upd H2 p o a = H2 a := fun o a ha => upd_ne fun z => hpn (z ▸ ha)
      have st2 : ∀ o, ∀ a ∈ fy, upd H2 p o a = H2 a := fun o a ha => upd_ne fun z => n0.2.2 p List.mem_cons_self a ha z.symm
      obtain ⟨m1, m2⟩ := RelTs.putNewM (y := y) (RelT.mono (H' := upd H2 p (.ins (c.W.cl C') dx (L2.putF f y kvs))) (Inc.refl F2) _ _ _ (st2 _) ry) hk (RelTs.mono (H' := upd H2 p (.ins (c.W.cl C') dx (L2.putF f y kvs))) (Inc.refl F2) _ _ _ (st1 _) rs) (Option.isNone_iff_eq_none.mp hat0)
      subst g4
      exact k σ F2 _ (q5 _ (.o C' (ns ++ [f]) (ts ++ [t])) (p :: (fps ++ [fy]).flatten) [] [] List.mem_cons_self ⟨p, dx, _, fps ++ [fy], rfl, rfl, upd_same, m1, m2⟩ ⟨rfl, rfl⟩ (by simpa using q3) (fun a ha => by simpa using ha) ⟨_, hp, stb_new hk rs (Option.isNone_iff_eq_none.mp hat0)⟩) (i1.trans i2)
    · cases g3'
  | _ => cases g3
end Z

namespace Z
open PySem PySem.Spec PyProof.Rows L2
/-! ### o.m(..), o a slot's thing -/
theorem sa_slot {W : Wd} {P : Sg} {E : L2.St → XK} {t : TA} {i : Nat} {fs : List T → Option Rs} (s' : Sa W P E t fs) : Sa W P E (tCons (tVar i) t) (bSlot i fs) := by
  intro b F ρ σ X H r Q hb S e k
  unfold bSlot at e
  cases z : ρ[i]? with
  | none => rw [z] at e; cases e
  | some t =>
    have ht : t ≠ .un := by
      rintro rfl
      rw [z] at e
      cases e
    have e2 : bSlot0 i fs ρ = some r := by
      rw [z] at e
      cases t with
      | un => exact absurd rfl ht
      | _ => exact e
    unfold bSlot0 at e2
    obtain ⟨r2, e3, e4⟩ := Option.map_eq_some_iff.mp e2
    obtain ⟨s, fp, e1, rr⟩ := S.slot z
    cases s with
    | none => exact absurd rr.1 ht
    | some v =>
      refine ⟨v, e1, s' b F ρ σ X H r2 _ hb S e3 ?_⟩
      cases r2 with
      | ok as ρ2 =>
        subst e4
        intro vs F2 H2 S2 g2 i2
        exact k (v :: vs) F2 H2 S2 ⟨v, vs, rfl, e1, g2⟩ i2
      | xc C ρ2 =>
        subst e4
        exact k
def fMeth (C : Nat) (m : Str) (j : Nat) (io : List Nat) (G : List T → Option Re) (fs : List T → Option Rs) : List T → Option Re := fun ρ => match ρ[j]? with
  | some (.o C' ns _) => if C' = C ∧ ns.contains m = false then fCall io G (bSlot j fs) ρ else none
  | _ => none
theorem lookup_notin {m : Str} : ∀ {kvs : List (Str × V)}, (kvs.map (·.1)).contains m = false → kvs.lookup m = none
  | [], _ => rfl
  | k :: kvs, h => by
    rw [List.map_cons, List.contains_cons, Bool.or_eq_false_iff] at h
    rw [List.lookup_cons, h.1]
    exact lookup_notin h.2
theorem so_meth {W : Wd} {P : Sg} {E : L2.St → XK} {E' : XK} {t : TA} {C j : Nat} {m : Str} {io : List Nat} {G : List T → Option Re} {fs : List T → Option Rs} (hE : ∀ σ, E σ = E') (h : Sa W P E t fs) : So W P E (tMeth (W.cl C) m (spF W io G) [] E' (tVar j) t) (fMeth C m j io G fs) := by
  intro b F ρ σ X H r Q hb S e k
  unfold fMeth at e
  split at e
  · rename_i C' ns ts hj
    split at e
    · rename_i hc
      obtain ⟨rfl, hm⟩ := hc
      obtain ⟨v, hv, q⟩ := so_call hE (sa_slot (i := j) h) b F ρ σ X H r Q hb S e k
      obtain ⟨s, fp, e1, rr⟩ := S.slot hj
      rw [hv] at e1
      cases e1
      obtain ⟨p, dx, kvs, fps, ep, _, hp, hk, _⟩ := rr
      subst ep
      exact ⟨_, hv, p, dx, kvs, rfl, hp, lookup_notin (by rw [hk]; exact hm), q⟩
    · cases e
  · cases e
def plOf (x : Str) (p : Pos) (env : Env) : Sem Bool := do return (← importBound (.Name x p) env).getD true
structure ClT (P : Program) (w : World) (W : Wd) (mg : Str → Option Value) (base : Heap) (CX : CXT) (k : Nat) (C : Nat) (m : Str) (io : List Nat) (G : List T → Option Re) : Prop where
  ex : ∃ f fd ps, FnOk P w W.K mg base CX k f fd ps (spF W io G) ∧ Cls W.K (W.cl C) ∧ Meth W.K (W.cl C) m f ∧ Binds W.K fd ps []
section
variable {c : Ctx} {a e o : Expr} {es : List Expr} {fs : List T → Option Rs} {m x : Str} {apos p pos : Pos} {io : List Nat} {G : List T → Option Re} {k C : Nat} {CX : CXT}
theorem eo_meth {E : XK} (j : Nat) (M : ∀ j, ClT (c.X j).prog (c.X j).w c.W (c.X j).mg (c.X j).base CX k C m io G) (hk : k ≤ c.k) (hE : ∀ σ, c.E σ = E) (hx : ∀ j, Passes CX (c.X j) E) (ha : Ao c (a :: es) fs)
    (hi : c.N[j]? = some x := by rfl) (hv : ∀ j, Vis (c.X j).env.scope x := by intro _; first | exact Or.inl rfl | exact Or.inr (Or.inl rfl) | exact Or.inr (Or.inr rfl))
    (ht : ∀ i, eval (.Call (.Attribute (.Name x p) m apos) (a :: es) [] pos) (c.X i).env = (do
      let ov ← eval (.Name x p) (c.X i).env
      standAt apos.atName
      let (f, first) ← holding [ov] (getMethod ov m (plOf x p (c.X i).env))
      callWith pos f first (backTo pos (starEach (a :: es) (c.X i).env)) (backToKw pos (keywordEach [] (c.X i).env))) := by intro _; rfl)
    (he : ∀ j, starEach (a :: es) (c.X j).env = (false, eval a (c.X j).env) :: starEach es (c.X j).env := by intro _; rfl) (hpl : ∀ j, (backTo pos (starEach es (c.X j).env)).any (·.1) = false := by intro _; rfl)
    (hd : (x == ("__debug__" : Str)) = false := by decide) (hcd : (x == ("__classdict__" : Str)) = false := by decide) : Eo c (.Call (.Attribute (.Name x p) m apos) (a :: es) [] pos) (fMeth C m j io G fs) := by
  obtain ⟨t, q, s⟩ := ha
  refine ⟨tMeth (c.W.cl C) m (spF c.W io G) [] E (tVar j) t, fun i => ?_, so_meth hE s⟩
  obtain ⟨f, fd, ps, F, hC, hM, hb⟩ := M i
  have hKj := c.hK i
  exact pe_meth (pe_var (i := j) (by rw [c.hN i]; exact hi) (hv i) hd hcd) (by rw [hKj]; exact hC) (by rw [hKj]; exact hM) (by rw [hKj]; exact F) ((c.room i).mono hk) (by rw [hKj]; exact hb) .nil (hx i) (q i) (he i) (hpl i) (ht i)
theorem eo_meth0 {E : XK} (j : Nat) (M : ∀ j, ClT (c.X j).prog (c.X j).w c.W (c.X j).mg (c.X j).base CX k C m io G) (hk : k ≤ c.k) (hE : ∀ σ, c.E σ = E) (hx : ∀ j, Passes CX (c.X j) E)
    (hi : c.N[j]? = some x := by rfl) (hv : ∀ j, Vis (c.X j).env.scope x := by intro _; first | exact Or.inl rfl | exact Or.inr (Or.inl rfl) | exact Or.inr (Or.inr rfl))
    (ht : ∀ i, eval (.Call (.Attribute (.Name x p) m apos) [] [] pos) (c.X i).env = (do
      let ov ← eval (.Name x p) (c.X i).env
      standAt apos.atName
      let (f, first) ← holding [ov] (getMethod ov m (plOf x p (c.X i).env))
      callWith pos f first (backTo pos (starEach [] (c.X i).env)) (backToKw pos (keywordEach [] (c.X i).env))) := by intro _; rfl)
    (hd : (x == ("__debug__" : Str)) = false := by decide) (hcd : (x == ("__classdict__" : Str)) = false := by decide) : Eo c (.Call (.Attribute (.Name x p) m apos) [] [] pos) (fMeth C m j io G bNil) := by
  obtain ⟨t, q, s⟩ := (ao_nil : Ao c [] bNil)
  refine ⟨tMeth (c.W.cl C) m (spF c.W io G) [] E (tVar j) tNil, fun i => ?_, so_meth hE ?_⟩
  · obtain ⟨f, fd, ps, F, hC, hM, hb⟩ := M i
    have hKj := c.hK i
    exact pe_meth0 (pe_var (i := j) (by rw [c.hN i]; exact hi) (hv i) hd hcd) (by rw [hKj]; exact hC) (by rw [hKj]; exact hM) (by rw [hKj]; exact F) ((c.room i).mono hk) (by rw [hKj]; exact hb) .nil (hx i) (ht i)
  · intro b F ρ σ X H r Q hb S e k
    cases e
    exact k [] F H S rfl (Inc.refl F)
end
/-! ### o.f op= e -/
def sAttAug (C : Nat) (f : Str) (i : Nat) (fp : List T → Option (List Sel)) (g : T → T → Option T) (fe : List T → Option T) : FS := fun ρ => (fp ρ).bind fun π => (ρ[i]?.bind fun t => t.getP π).bind fun u => (gAtt C f u).bind fun a => (fe ρ).bind fun x => (g a x).bind fun z => z.d?.bind fun d => (mutF i π (attT C f d) ρ).map .nx
theorem sm_attAug {c : Ctx} {e o : Expr} {fe : List T → Option T} {pos tpos : Pos} {C : Nat} {f : Str} {i : Nat} {fp : List T → Option (List Sel)} {op : Operator} {rd : V → V → Hp → VK → Prop} {g : T → T → Option T}
    (hop : ∀ j, InOp (c.X j) op rd) (hr : S2 c.W rd g) (hC : Cls c.W.K (c.W.cl C)) (hN : NoAttr c.W.K (c.W.cl C) f) (ho : Lo c o i fp) (he : Ev c e fe) : Sm c (.AugAssign (.Attribute o f tpos) op e pos) (sAttAug C f i fp g fe) := by
  obtain ⟨to, po, so⟩ := ho
  obtain ⟨te, pe, se⟩ := he
  refine ⟨_, fun j => by have h := ps_fldaug (pos := pos) (tpos := tpos) (f := f) (po j) (pe j) (hop j); rw [c.hK j] at h; exact h, ?_⟩
  intro b F ρ σ X H out D hb S eq k
  unfold sAttAug at eq
  obtain ⟨π, e1, eq⟩ := Option.bind_eq_some_iff.mp eq
  obtain ⟨u, e2, eq⟩ := Option.bind_eq_some_iff.mp eq
  obtain ⟨a, e3, eq⟩ := Option.bind_eq_some_iff.mp eq
  obtain ⟨x, e4, eq⟩ := Option.bind_eq_some_iff.mp eq
  obtain ⟨z, e5, eq⟩ := Option.bind_eq_some_iff.mp eq
  obtain ⟨d, e6, eq⟩ := Option.bind_eq_some_iff.mp eq
  obtain ⟨ρ', e7, eq⟩ := Option.map_eq_some_iff.mp eq
  subst eq
  cases d_some e6
  obtain ⟨t0, e2a, e2b⟩ := Option.bind_eq_some_iff.mp e2
  obtain ⟨t9, u9, u9', g1, g2, g3, _⟩ := mutF_some e7
  rw [e2a] at g1
  cases g1
  rw [e2b] at g2
  cases g2
  cases u with
  | o C' ns ts =>
    have e3' : (if C' = C then (atN ns ts f).bind fun t => (match t with | .un => none | t => some t) else none) = some a := e3
    split at e3'
    · rename_i hc
      subst hc
      obtain ⟨t', e8, e9⟩ := Option.bind_eq_some_iff.mp e3'
      have et : t' = a := by cases t' <;> first | (cases e9; rfl) | cases e9
      subst et
      refine so b F ρ σ X H π t0 _ _ S e1 e2a e2b rfl fun p v F1 H1 S1 i1 s1 hv hat => ?_
      obtain ⟨fu, p', dx, kvs, fps, ep, _, hp, hk, rs⟩ := S1.part e2a hv e2b hat
      cases ep
      obtain ⟨w, fp', q1, q2⟩ := atN_ok hk rs e8
      refine ⟨p, _, dx, kvs, w, rfl, hp, hC, hN, q1, ?_⟩
      refine se b F1 ρ σ X H1 _ _ S1 e4 fun y F2 H2 S2 i2 s2 r2 => ?_
      refine hr b F2 ρ σ X H2 _ _ _ w y _ S2 ((show RelV c.W F1 H1 t' w from ⟨fp', q2⟩).ext i2 s2) r2 e5 fun z F3 H3 S3 i3 s3 r3 => ?_
      obtain ⟨dx', fs', hp3, hl3, S4⟩ := S3.att e7 hv ((hat.same s2).same s3) r3.rep
      exact ⟨dx', fs', hp3, hl3, k σ F3 _ S4 ((i1.trans i2).trans i3)⟩
    · cases e3'
  | _ => cases g3
/-! ### d.get(k, e), d.copy(), d.clear(), xs.clear() -/
def gGet (t k x : T) : Option T := t.dk?.bind fun p => k.key?.bind fun q => x.d?.map fun d => .f ((dAt p.1 p.2 q).getD d)
def fGet (fa fk fd : List T → Option T) : List T → Option T := fun ρ => (fa ρ).bind fun a => (fk ρ).bind fun k => (fd ρ).bind fun d => gGet a k d
theorem dAt_none {F : Hp} {W : Wd} : ∀ {kvs : List (Key × V)} {ds : List D} {k : Key}, Reps W F ds (kvs.map (·.2)) → dAt (kvs.map (·.1)) ds k = none → valV kvs k = none
  | [], _, _, _, _ => rfl
  | p :: r, [], _, q, _ => by
    have q' : _ = [] := q
    cases q'
  | p :: r, d :: ds, k, q, h => by
    obtain ⟨v, vr, e, a, b⟩ := q
    have e2 : r.map (·.2) = vr := (List.cons.inj e).2
    subst e2
    have h' : (if p.1 = k then some d else dAt (r.map (·.1)) ds k) = none := h
    by_cases hk : p.1 = k
    · rw [if_pos hk] at h'; cases h'
    · rw [if_neg hk] at h'
      have := dAt_none b h'
      unfold valV at this ⊢
      rw [List.find?_cons, decide_eq_false hk]
      exact this
section
variable {c : Ctx} {a e e2 o : Expr} {fa fk fd : List T → Option T} {apos cpos pos : Pos} {i : Nat} {fp : List T → Option (List Sel)}
theorem ev_get (ha : Ev c a fa) (hk : Ev c e fk) (hd : Ev c e2 fd) (m : ∀ j, M2 (c.X j) a "get" apos e e2 cpos := by intro _; exact ⟨rfl, rfl, rfl, rfl⟩) : Ev c (.Call (.Attribute a "get" apos) [e, e2] [] cpos) (fGet fa fk fd) := by
  obtain ⟨ta, pa, sa⟩ := ha
  obtain ⟨tk, pk, sk⟩ := hk
  obtain ⟨td, pd, sd⟩ := hd
  refine ⟨_, fun j => pe_dget2 (c.hu1 j) (pa j) (pk j) (pd j) (m j), ?_⟩
  intro b F ρ σ X H τ Q S e k
  unfold fGet at e
  obtain ⟨t1, e1, e⟩ := Option.bind_eq_some_iff.mp e
  obtain ⟨t2, e2, e⟩ := Option.bind_eq_some_iff.mp e
  obtain ⟨t3, e3, e⟩ := Option.bind_eq_some_iff.mp e
  unfold gGet at e
  obtain ⟨⟨ks, ds⟩, e4, e⟩ := Option.bind_eq_some_iff.mp e
  obtain ⟨q, e5, e⟩ := Option.bind_eq_some_iff.mp e
  obtain ⟨d, e6, e⟩ := Option.map_eq_some_iff.mp e
  subst e
  cases d_some e6
  refine sa b F ρ σ X H _ _ S e1 fun x F1 H1 S1 i1 s1 r1 => ?_
  obtain ⟨p, kvs, ex, hs, hk, r⟩ := r1.dk e4 S1.le
  refine ⟨p, ex, .inl ⟨kvs, hs⟩, ?_⟩
  refine sk b F1 ρ σ X H1 _ _ S1 e2 fun y F2 H2 S2 i2 s2 r2 => ?_
  refine sd b F2 ρ σ X H2 _ _ S2 e3 fun z F3 H3 S3 i3 s3 r3 => ?_
  have r1' := (r1.ext i2 s2).ext i3 s3
  obtain ⟨p', kvs', ex', hs', hk', r'⟩ := r1'.dk e4 S3.le
  rw [ex] at ex'
  cases ex'
  subst hk'
  have kk := (k.mono ((i1.trans i2).trans i3) ((s1.trans s2).trans s3))
  rw [r2.key e5]
  cases hd : dAt (kvs'.map (·.1)) ds q with
  | none =>
    exact ⟨none, .inl ⟨kvs', q, hs', rfl, (dAt_none r' hd).symm⟩, by rw [hd] at kk; exact kk.d S3 r3.rep⟩
  | some d' =>
    obtain ⟨v, h1, h2⟩ := dAt_val r' hd
    exact ⟨some v, .inl ⟨kvs', q, hs', rfl, h1.symm⟩, by rw [hd] at kk; exact kk.d S3 h2⟩
def rDCopy : V → List V → Hp → VK → Prop := fun x vs H Q => ∃ (a : Addr) (kvs : List (Key × V)), x = .ref a ∧ vs = [] ∧ Rd H a (.dK kvs) ∧ ∀ p, H p = none → Q (.ref p) (upd H p (.dK kvs))
theorem mtd_copy {X : Cx} : MtR X "dict.copy" rDCopy := by
  intro pins s σ H x vs v us Q I rx rv h
  obtain ⟨a, kvs, ex, ev, e, q⟩ := h
  subst ex ev
  obtain rfl : v = Value.ref a := rx
  have hus := rv.zero
  subst hus
  obtain ⟨z, hd, vs, rel, dd⟩ := dk_rd I.hok e
  refine call_meetsIn PySem.F.slot_dict_copy dd.typeIs PySem.F.entry_dict_copy (PySem.F.args_dict_copy_1 _) (meets_dict_copy (mixKind X.prog X.w) a hd) ⟨vs, dd, by rw [← rel.length]; exact z, fun h' dn _ hs => ?_⟩
  have hf : H s.heap.objs.size = none := I.hok.fresh (Nat.le_refl _)
  exact ⟨.ref s.heap.objs.size, _, I.laid (a := s.heap.objs.size) (o := .dK kvs) (t' := s.toks) hs (Nat.le_refl _) (dk_new z (beq_eq_false_iff_ne.mpr (Ne.symm (Nat.ne_of_lt I.big))) rel dn), rfl, q _ hf⟩
def gCopy (t : T) : Option T := t.dk?.map fun p => .f (.dct p.1 p.2)
def tDM0 (r : V → List V → Hp → VK → Prop) (to : TE) : TE := fun σ H Q => to σ H fun x H1 => (∃ a kvs, x = .ref a ∧ Rd H1 a (.dK kvs)) ∧ r x [] H1 Q
theorem pe_dm0 {X : Cx} {o : Expr} {to : TE} {name : Str} {apos cpos : Pos} {id : String} {r : V → List V → Hp → VK → Prop} (slot : PySem.Slot "dict" name id) (hty : typeOf (.builtin id) = pure (.type "method_descriptor")) (hm : MtR X id r) (ho : PE X o to)
    (hbase : attributeBase o name X.env (eval o X.env) = eval o X.env) (hline : (apos.endLine == cpos.line) = true) : PE X (.Call (.Attribute o name apos) [] [] cpos) (tDM0 r to) := by
  refine ⟨fun pins s σ H Q I h => ?_⟩
  refine wpAny_Call_method0_late hbase hline (thn (ho.run pins s σ H _ I h) fun v s1 ⟨x, H1, I1, r1, ty, q1⟩ => ?_)
  obtain ⟨a, kvs, ex, ha⟩ := ty
  subst ex
  obtain rfl : v = Value.ref a := r1
  obtain ⟨hz, hsys, vs, rel, dof⟩ := dk_rd I1.hok ha
  obtain ⟨ep, ob, es, ho, ex, _⟩ := dof.dictAt
  exact ⟨"dict", id, PySem.F.plainAttrs_dict, slot, hty, ⟨ob, ho, ex.1⟩, fun b e => by cases e; exact ⟨ob, ho, ex.2.1⟩, Calls.callWith_builtin rfl (PySem.evalArgs_none (hm pins s1 σ H1 (.ref a) [] (.ref a) [] Q I1 (show L2.RelV (.ref a) (.ref a) from rfl) .nil q1))⟩
theorem ev_copy (ha : Ev c a fa) (hbase : ∀ j, attributeBase a "copy" (c.X j).env (eval a (c.X j).env) = eval a (c.X j).env := by intro _; rfl) (hline : (apos.endLine == cpos.line) = true := by rfl) : Ev c (.Call (.Attribute a "copy" apos) [] [] cpos) (f1 gCopy fa) := by
  obtain ⟨ta, pa, sa⟩ := ha
  refine ⟨tDM0 rDCopy ta, fun j => pe_dm0 PySem.F.slot_dict_copy PySem.F.type_dict_copy mtd_copy (pa j) (hbase j) hline, ?_⟩
  intro b F ρ σ X H τ Q S e k
  unfold f1 at e
  obtain ⟨t, e1, e⟩ := Option.bind_eq_some_iff.mp e
  obtain ⟨⟨ks, ds⟩, e2, e⟩ := Option.map_eq_some_iff.mp e
  subst e
  refine sa b F ρ σ X H _ _ S e1 fun x F1 H1 S1 i1 s1 r1 => ?_
  obtain ⟨p, kvs, ex, hp, hk, r⟩ := r1.dk e2 S1.le
  subst ex
  refine ⟨⟨p, kvs, rfl, hp⟩, p, kvs, rfl, rfl, hp, fun q hq => ?_⟩
  obtain ⟨S2, i2, s2⟩ := S1.laid (o := .dK kvs) hq
  exact (k.mono (i1.trans i2) (s1.trans s2)).d S2 ⟨q, kvs, rfl, .inl upd_same, hk, r.inc i2⟩
def clrT : T → Option T
  | .dk _ _ => some (.dk [] [])
  | _ => none
def clrL : T → Option T
  | .l _ => some (.l [])
  | .ll _ => some (.l [])
  | _ => none
def sClr (i : Nat) (fp : List T → Option (List Sel)) (g : T → Option T) : FS := fun ρ => (fp ρ).bind fun π => (mutF i π g ρ).map .nx
theorem sm_dclear (ho : Lo c o i fp) (hbase : ∀ j, attributeBase o "clear" (c.X j).env (eval o (c.X j).env) = eval o (c.X j).env := by intro _; rfl) (hline : (apos.endLine == cpos.line) = true := by rfl)
    (hsw : ∀ j, swapsWith (.Call (.Attribute o "clear" apos) [] [] cpos) none pos.line (c.X j).env = pure false := by intro _; rfl) : Sm c (.Expr (.Call (.Attribute o "clear" apos) [] [] cpos) pos) (sClr i fp clrT) := by
  obtain ⟨to, po, so⟩ := ho
  refine ⟨tDrop (tBM0 c.W.K "dict" rDClear to), fun j => by
    have h := ps_expr (pe_dclear (cpos := cpos) (apos := apos) (po j) (hbase j) hline) (hsw j)
    rw [c.hK j] at h
    exact h, ?_⟩
  intro b F ρ σ X H out D hb S eq k
  unfold sClr at eq
  obtain ⟨π, e1, eq⟩ := Option.bind_eq_some_iff.mp eq
  obtain ⟨ρ', e2, eq⟩ := Option.map_eq_some_iff.mp eq
  subst eq
  obtain ⟨t, u, u', g1, g2, g3, rfl⟩ := mutF_some e2
  cases u with
  | dk ks ds =>
    cases g3
    refine so b F ρ σ X H π t _ _ S e1 g1 g2 rfl fun p v F1 H1 S1 i1 s1 hv hat => ?_
    obtain ⟨fu, q1, q2, q3⟩ := S1.mut (u' := .dk [] []) g1 hv g2 hat
    obtain ⟨p', kvs, ep, rfl, hp, hk, rs⟩ := q1
    cases ep
    exact ⟨.inr (.inr (.inl ⟨rfl, .inl ⟨kvs, hp⟩⟩)), p, kvs, rfl, rfl, hp, k σ F1 _ (q3 _ _ hp (fun _ => Stb.dk) (List.mem_singleton.mpr rfl) ⟨p, [], rfl, rfl, upd_same, rfl, rfl⟩) i1⟩
  | _ => cases g3
end
/-! ### a comprehension's list of one's own -/
def mLc (vs : List Nat) (fi : List T → Option (List D)) (fg : T → List T → Option (List T)) (ft : List T → Option Bool) (fe : List T → Option T) : List T → Option (T × List T) := fun ρ => (fLc vs fi fg ft fe ρ).bind fun t => match t with
  | .f (.lst es) => some (.l es, ρ)
  | _ => none
section
variable {c : Ctx} {elt tg iter : Expr} {ifs : List Expr} {scope : Scope} {pos spos : Pos} {fi : List T → Option (List D)} {fg : T → List T → Option (List T)} {ft : List T → Option Bool} {fe : List T → Option T}
theorem em_lc (own : List (Str × Nat)) (hi : Ip c tg iter fi) (hg : Gc (cB c scope) tg fg (own.map (·.2))) (ht : Tvs (cB c scope) ifs ft) (he : Ev (cB c scope) elt fe) (ok : ∀ j, blkC c.N (c.X j).env.scope scope own = true := by intro _; rfl)
    (hs : ∀ j x, foldedSetIterable iter (c.X j).env x = pure x := by intro _ _; rfl) : Em c (.ListComp elt [⟨tg, iter, ifs, 0⟩] scope pos) (mLc (own.map (·.2)) fi fg ft fe) := by
  obtain ⟨wi, pi, si⟩ := hi
  obtain ⟨g, pg, sg, wg⟩ := hg
  obtain ⟨tt, pt, st⟩ := ht
  obtain ⟨te, pe, se⟩ := he
  refine ⟨tLc wi g tt te (own.map (·.2)), fun j => pe_lc (c.calm j) (c.hNd j) (pi j) (blkOk_by (by rw [c.hN j]; exact ok j)) (fun s H C cl fp => pg (j, s, H, C, cl, fp)) (fun s H C cl fp => pt (j, s, H, C, cl, fp)) (fun s H C cl fp => pe (j, s, H, C, cl, fp)) (hs j), ?_⟩
  intro b F ρ σ X H τ ρ' Q S e k
  unfold mLc at e
  obtain ⟨t, e1, e⟩ := Option.bind_eq_some_iff.mp e
  unfold fLc at e1
  split at e1
  · rename_i hok
    obtain ⟨ds, e2, e1⟩ := Option.bind_eq_some_iff.mp e1
    obtain ⟨es, e3, e1⟩ := Option.bind_eq_some_iff.mp e1
    split at e1
    · rename_i hz
      cases e1
      cases e
      exact slc_core si sg wg st se S hok e2 e3 hz fun D0 F2 H' S3 i2 s2 => k _ F2 H' S3 i2 s2
    · cases e1
  · cases e1
end
end Z

namespace Z
open PySem PySem.Spec PyProof.Rows L2
theorem relTs_f_nil {W : Wd} {F H : Hp} : ∀ {ds : List D} {vs : List V} {fps : List (List Addr)}, RelTs W F H (ds.map .f) vs fps → fps.flatten = []
  | [], _, _, r => by
    obtain ⟨_, rfl⟩ := r
    rfl
  | d :: ds, _, _, r => by
    obtain ⟨v, vr, f, fr, rfl, rfl, a, b⟩ := r
    rw [List.flatten_cons, relTs_f_nil b, show f = [] from a.1]
    rfl
theorem ioOk_f : ∀ (io : List Nat) (i : Nat) (ds : List D), ioOk io i (ds.map .f) = true
  | _, _, [] => rfl
  | io, i, d :: ds => by
    show ((io.contains i || isF (.f d)) && ioOk io (i + 1) (ds.map .f)) = true
    rw [ioOk_f io (i + 1) ds]
    simp [isF]
/-- a call with deep arguments that hands back a thing of the caller's own -/
def mCall (G : List T → Option Re) (fs : List T → Option (List T)) : List T → Option (T × List T) := fun ρ => (fs ρ).bind fun ts => (deep ts).bind fun ds => (G (ds.map .f)).bind fun r => match r with
  | .ok τ _ => some (τ, ρ)
  | _ => none
theorem smo_call {W : Wd} {E : XK} {t : TA} {G : List T → Option Re} {fs : List T → Option (List T)} (h : Sav W t fs) : Smo W (tCall (spF W [] G) [] E t) (mCall G fs) := by
  intro b F ρ σ X H τ ρ' Q S e k
  unfold mCall at e
  obtain ⟨ts, e1, e⟩ := Option.bind_eq_some_iff.mp e
  obtain ⟨ds, e2, e⟩ := Option.bind_eq_some_iff.mp e
  obtain ⟨r, e3, e⟩ := Option.bind_eq_some_iff.mp e
  cases r with
  | xc C us => cases e
  | ok τ' us =>
    cases e
    refine h b F _ σ X H ts _ S e1 fun vs F1 H1 S1 i1 s1 r1 => ?_
    have rs := RelVs.deep r1 e2
    obtain ⟨a1, a2⟩ := Xn_t (ts := ds.map T.f) (vs := vs) (by rw [List.length_map]; exact rs.len)
    obtain ⟨xa, q1, own, back⟩ := SR.call (Xa := Xn (ds.map .f) vs) (X := X) (S1.pushes rs)
    rw [a1, a2] at q1
    rw [a2] at back
    have hnil := relTs_f_nil q1
    rw [List.append_nil]
    refine ⟨_, _, xa, _, S1.le, q1, own, ioOk_f _ _ _, e3, ?_⟩
    intro v F' H' R i2
    have hs : Same H1 H' := fun a o e => R.kept a o e (by
      show a ∉ xa.flatten
      rw [hnil]
      intro z
      cases z)
    have S5 := back [] us F' [⟨none, τ, v⟩] H' (fun x hx => by rw [List.mem_singleton.mp hx]) R
    exact k v F' H' (SR.dropN _ S5) (i1.trans i2) (s1.trans hs)
section
variable {c : Ctx} {a e : Expr} {es : List Expr} {fs : List T → Option (List T)} {x m : Str} {p pos apos : Pos} {G : List T → Option Re} {k C : Nat} {CX : CXT}
theorem em_call {E : XK} (C : Cj c CX k x [] G) (hk : k ≤ c.k) (hg : ∀ j, Gl (c.X j) x) (hx : ∀ j, Passes CX (c.X j) E) (ha : Av c (a :: es) fs) (hdb : (x == ("__debug__" : Str)) = false := by decide)
    (he : ∀ j, starEach (a :: es) (c.X j).env = (false, eval a (c.X j).env) :: starEach es (c.X j).env := by intro _; rfl) (hpl : ∀ j, (backTo pos (starEach es (c.X j).env)).any (·.1) = false := by intro _; rfl) : Em c (.Call (.Name x p) (a :: es) [] pos) (mCall G fs) := by
  obtain ⟨t, q, s⟩ := ha
  exact ⟨_, pe_cl C hk hg hx q hdb he hpl, smo_call s⟩
/-! ### a method that changes nothing -/
def fMethV (C : Nat) (m : Str) (j : Nat) (G : List T → Option Re) (fs : List T → Option (List T)) : List T → Option T := fun ρ => match ρ[j]? with
  | some (.o C' ns _) => if C' = C ∧ ns.contains m = false then fCallV G (aCons (fVar j) fs) ρ else none
  | some (.f (.obj C' ns _)) => if C' = C ∧ ns.contains m = false then fCallV G (aCons (fVar j) fs) ρ else none
  | _ => none
theorem sav_cons {W : Wd} {te : TE} {t : TA} {fa : List T → Option T} {fs : List T → Option (List T)} (ha : Sv W te fa) (hs : Sav W t fs) : Sav W (tCons te t) (aCons fa fs) := by
  intro b F ρ σ X H τs Q S e k
  unfold aCons at e
  obtain ⟨x, e1, e⟩ := Option.bind_eq_some_iff.mp e
  obtain ⟨xs, e2, e⟩ := Option.map_eq_some_iff.mp e
  subst e
  refine ha b F ρ σ X H x _ S e1 fun v F1 H1 S1 i1 s1 r1 => ?_
  refine hs b F1 ρ σ X H1 xs _ S1 e2 fun vs F2 H2 S2 i2 s2 r2 => ?_
  refine k (v :: vs) F2 H2 S2 (i1.trans i2) (s1.trans s2) ?_
  obtain ⟨f, q⟩ := r1.ext i2 s2
  obtain ⟨fp, q2⟩ := r2
  exact ⟨f :: fp, v, vs, f, fp, rfl, rfl, q, q2⟩
theorem sv_meth {W : Wd} {E : XK} {t : TA} {j : Nat} (h : Sav W t fs) : Sv W (tMeth (W.cl C) m (spF W [] G) [] E (tVar j) t) (fMethV C m j G fs) := by
  intro b F ρ σ X H τ Q S e k
  unfold fMethV at e
  have key : fCallV G (aCons (fVar j) fs) ρ = some τ → ∃ v, σ[j]? = some (some v) ∧ t σ H fun vs H2 => spF W [] G (v :: (vs ++ [])) H2 Q E := fun e' => by
    obtain ⟨v, hv, q⟩ := sv_call (E := E) (sav_cons (sv_var (i := j)) h) b F ρ σ X H τ Q S e' k
    exact ⟨v, hv, q⟩
  split at e
  · rename_i C' ns ts hj
    split at e
    · rename_i hc
      obtain ⟨rfl, hm⟩ := hc
      obtain ⟨v, hv, q⟩ := key e
      obtain ⟨s, fp, e1, rr⟩ := S.slot hj
      rw [hv] at e1
      cases e1
      obtain ⟨p, dx, kvs, fps, ep, _, hp, hk, _⟩ := rr
      subst ep
      exact ⟨_, hv, p, dx, kvs, rfl, hp, lookup_notin (by rw [hk]; exact hm), q⟩
    · cases e
  · rename_i C' ns ts hj
    split at e
    · rename_i hc
      obtain ⟨rfl, hm⟩ := hc
      obtain ⟨v, hv, q⟩ := key e
      obtain ⟨s, fp, e1, rr⟩ := S.slot hj
      rw [hv] at e1
      cases e1
      obtain ⟨_, p, dx, kvs, ep, hp, hk, _⟩ := rr
      subst ep
      exact ⟨_, hv, p, dx, kvs, rfl, ins_le S.le hp, lookup_notin (by rw [hk]; exact hm), q⟩
    · cases e
  · cases e
theorem ev_meth {E : XK} (j : Nat) (M : ∀ j, ClT (c.X j).prog (c.X j).w c.W (c.X j).mg (c.X j).base CX k C m [] G) (hk : k ≤ c.k) (hx : ∀ j, Passes CX (c.X j) E) (ha : Av c (a :: es) fs)
    (hi : c.N[j]? = some x := by rfl) (hv : ∀ j, Vis (c.X j).env.scope x := by intro _; first | exact Or.inl rfl | exact Or.inr (Or.inl rfl) | exact Or.inr (Or.inr rfl))
    (ht : ∀ i, eval (.Call (.Attribute (.Name x p) m apos) (a :: es) [] pos) (c.X i).env = (do
      let ov ← eval (.Name x p) (c.X i).env
      standAt apos.atName
      let (f, first) ← holding [ov] (getMethod ov m (plOf x p (c.X i).env))
      callWith pos f first (backTo pos (starEach (a :: es) (c.X i).env)) (backToKw pos (keywordEach [] (c.X i).env))) := by intro _; rfl)
    (he : ∀ j, starEach (a :: es) (c.X j).env = (false, eval a (c.X j).env) :: starEach es (c.X j).env := by intro _; rfl) (hpl : ∀ j, (backTo pos (starEach es (c.X j).env)).any (·.1) = false := by intro _; rfl)
    (hd : (x == ("__debug__" : Str)) = false := by decide) (hcd : (x == ("__classdict__" : Str)) = false := by decide) : Ev c (.Call (.Attribute (.Name x p) m apos) (a :: es) [] pos) (fMethV C m j G fs) := by
  obtain ⟨t, q, s⟩ := ha
  refine ⟨tMeth (c.W.cl C) m (spF c.W [] G) [] E (tVar j) t, fun i => ?_, sv_meth s⟩
  obtain ⟨f, fd, ps, F, hC, hM, hb⟩ := M i
  have hKj := c.hK i
  exact pe_meth (pe_var (i := j) (by rw [c.hN i]; exact hi) (hv i) hd hcd) (by rw [hKj]; exact hC) (by rw [hKj]; exact hM) (by rw [hKj]; exact F) ((c.room i).mono hk) (by rw [hKj]; exact hb) .nil (hx i) (q i) (he i) (hpl i) (ht i)
theorem ev_meth0 {E : XK} (j : Nat) (M : ∀ j, ClT (c.X j).prog (c.X j).w c.W (c.X j).mg (c.X j).base CX k C m [] G) (hk : k ≤ c.k) (hx : ∀ j, Passes CX (c.X j) E)
    (hi : c.N[j]? = some x := by rfl) (hv : ∀ j, Vis (c.X j).env.scope x := by intro _; first | exact Or.inl rfl | exact Or.inr (Or.inl rfl) | exact Or.inr (Or.inr rfl))
    (ht : ∀ i, eval (.Call (.Attribute (.Name x p) m apos) [] [] pos) (c.X i).env = (do
      let ov ← eval (.Name x p) (c.X i).env
      standAt apos.atName
      let (f, first) ← holding [ov] (getMethod ov m (plOf x p (c.X i).env))
      callWith pos f first (backTo pos (starEach [] (c.X i).env)) (backToKw pos (keywordEach [] (c.X i).env))) := by intro _; rfl)
    (hd : (x == ("__debug__" : Str)) = false := by decide) (hcd : (x == ("__classdict__" : Str)) = false := by decide) : Ev c (.Call (.Attribute (.Name x p) m apos) [] [] pos) (fMethV C m j G aNil) := by
  refine ⟨tMeth (c.W.cl C) m (spF c.W [] G) [] E (tVar j) tNil, fun i => ?_, sv_meth ?_⟩
  · obtain ⟨f, fd, ps, F, hC, hM, hb⟩ := M i
    have hKj := c.hK i
    exact pe_meth0 (pe_var (i := j) (by rw [c.hN i]; exact hi) (hv i) hd hcd) (by rw [hKj]; exact hC) (by rw [hKj]; exact hM) (by rw [hKj]; exact F) ((c.room i).mono hk) (by rw [hKj]; exact hb) .nil (hx i) (ht i)
  · intro b F ρ σ X H τs Q S e k
    cases e
    exact k [] F H S (Inc.refl F) (Same.refl H) RelVs.nil
end
/-! ### values of a dict -/
section
variable {c : Ctx} {a e o : Expr} {fb gb : List T → Option Rb} {pos : Pos}
theorem wot (h : Wo c e fb) : To c e fb := h.to
end
/-! ### x op= e, whole numbers -/
section
variable {c : Ctx} {e : Expr} {es : List Expr} {fe : List T → Option T} {fs : List T → Option Rs} {pos pos' : Pos}
def sAug (i : Nat) (g : T → T → Option T) (fe : List T → Option T) : FS := sSet i (lift (f2 g (fVar i) fe))
theorem sm_augI {op : Operator} {h : Int → Int → Int} {g : T → T → Option T} (i : Nat) {x : Str} (ho : ∀ j, PIp (c.X j) op (ipI h)) (hg : ∀ s t τ, g s t = some τ → ∃ a b, s = .f (.int a) ∧ t = .f (.int b) ∧ τ = .f (.int (h a b))) (he : Ev c e fe)
    (hi : c.N[i]? = some x := by rfl) (hx : ∀ j, L2.Loc (c.X j).env.scope x := by intro _; first | exact Or.inl rfl | exact Or.inr rfl) (hio : c.P.io.contains i = false := by rfl)
    (hf : ∀ j, (c.X j).fn x = true ∨ (c.X j).env.scope.names.lookup x = some .local := by intro _; first | exact Or.inl rfl | exact Or.inr rfl) : Sm c (.AugAssign (.Name x pos') op e pos) (sAug i g fe) := by
  obtain ⟨te, pe, se⟩ := he
  refine ⟨tAug i te (ipI h), fun j => ps_aug (c.hNd j) (by rw [c.hN j]; exact hi) (hx j) (pe j) (ho j) (hf j), ?_⟩
  intro b F ρ σ X H o D hb S eq k
  unfold sAug sSet lift f2 at eq
  obtain ⟨r, e1, eq⟩ := Option.map_eq_some_iff.mp eq
  obtain ⟨t, e2, e3⟩ := Option.bind_eq_some_iff.mp e1
  obtain ⟨s1, e4, e5⟩ := Option.bind_eq_some_iff.mp e2
  obtain ⟨s2, e6, e7⟩ := Option.bind_eq_some_iff.mp e5
  obtain ⟨a, b', rfl, rfl, rfl⟩ := hg _ _ _ e7
  cases e3
  subst eq
  have e4' := e4
  unfold fVar at e4'
  have hρ : ρ[i]? = some (.f (.int a)) := by
    cases q : ρ[i]? with
    | none => rw [q] at e4'; cases e4'
    | some t => rw [q] at e4'; cases t <;> first | (cases e4'; rfl) | cases e4'
  obtain ⟨s, fp, es, r⟩ := S.slot hρ
  cases s with
  | none => exact nomatch r.1
  | some v =>
    have hv : v = .int a := r.2
    subst hv
    refine ⟨_, es, se b F ρ σ X H _ _ S e6 fun y F1 H1 S1 i1 s1 r1 => ?_⟩
    have hy : y = .int b' := r1.rep
    subst hy
    exact ⟨a, b', rfl, rfl, k _ F1 H1 ((S1.push (o := none) (show Rep c.W F1 (.int (h a b')) (.int (h a b')) from rfl)).store (.inl rfl) (.inl (notio hb (notin_of hio)))) i1⟩
theorem gIa_inv {g : Int → Int → D} {s t τ : T} (h : gIa g s t = some τ) : ∃ a b, s = .f (.int a) ∧ t = .f (.int b) ∧ τ = .f (g a b) := by
  unfold gIa gI at h
  obtain ⟨a, e1, h⟩ := Option.bind_eq_some_iff.mp h
  obtain ⟨b, e2, h⟩ := Option.bind_eq_some_iff.mp h
  rw [if_pos (show always a b = true from rfl)] at h
  cases h
  refine ⟨a, b, ?_, ?_, rfl⟩
  · cases s with
    | f d => cases d <;> first | (cases e1; rfl) | cases e1
    | _ => cases e1
  · cases t with
    | f d => cases d <;> first | (cases e2; rfl) | cases e2
    | _ => cases e2
theorem aug_add (i : Nat) {x : Str} (he : Ev c e fe) (hi : c.N[i]? = some x := by rfl) (hx : ∀ j, L2.Loc (c.X j).env.scope x := by intro _; first | exact Or.inl rfl | exact Or.inr rfl) (hio : c.P.io.contains i = false := by rfl)
    (hf : ∀ j, (c.X j).fn x = true ∨ (c.X j).env.scope.names.lookup x = some .local := by intro _; first | exact Or.inl rfl | exact Or.inr rfl) : Sm c (.AugAssign (.Name x pos') .Add e pos) (sAug i gAddI fe) := sm_augI i (fun _ => ip_add) (fun _ _ _ h => gIa_inv h) he hi hx hio hf
theorem aug_sub (i : Nat) {x : Str} (he : Ev c e fe) (hi : c.N[i]? = some x := by rfl) (hx : ∀ j, L2.Loc (c.X j).env.scope x := by intro _; first | exact Or.inl rfl | exact Or.inr rfl) (hio : c.P.io.contains i = false := by rfl)
    (hf : ∀ j, (c.X j).fn x = true ∨ (c.X j).env.scope.names.lookup x = some .local := by intro _; first | exact Or.inl rfl | exact Or.inr rfl) : Sm c (.AugAssign (.Name x pos') .Sub e pos) (sAug i Z.gSub fe) := sm_augI i (fun _ => ip_sub) (fun _ _ _ h => gIa_inv h) he hi hx hio hf
theorem ao_s (i : Nat) {x : Str} (hr : Ao c es fs) (hi : c.N[i]? = some x := by rfl) (hv : ∀ j, Vis (c.X j).env.scope x := by intro _; first | exact Or.inl rfl | exact Or.inr (Or.inl rfl) | exact Or.inr (Or.inr rfl)) (hs : ∀ j, starEach (.Name x pos :: es) (c.X j).env = (false, eval (.Name x pos) (c.X j).env) :: starEach es (c.X j).env := by intro _; rfl)
    (hd : (x == ("__debug__" : Str)) = false := by decide) (hcd : (x == ("__classdict__" : Str)) = false := by decide) : Ao c (.Name x pos :: es) (bSlot i fs) := ao_slot hi hv hr hs hd hcd
end
/-- a method, ready to be called -/
theorem ClT.mk' {P : Program} {w : World} {W : Wd} {mg : Str → Option Value} {base : Heap} {CX : CXT} {k C : Nat} {m : Str} {io : List Nat} {G : List T → Option Re} {f : Addr} {fd : FuncData} {ps : List Str} (h : FnOk P w W.K mg base CX k f fd ps (spF W io G)) (hC : Cls W.K (W.cl C)) (hM : Meth W.K (W.cl C) m f) (hb : Binds W.K fd ps []) : ClT P w W mg base CX k C m io G := ⟨f, fd, ps, h, hC, hM, hb⟩
theorem ClM.mk' {P : Program} {w : World} {W : Wd} {mg : Str → Option Value} {base : Heap} {CX : CXT} {k C : Nat} {x : Str} {io : List Nat} {G : List T → Option Re} {f : Addr} {fd : FuncData} {ps : List Str} (h : FnOk P w W.K mg base CX k f fd ps (spF W io G)) (hm : mg x = some (.ref (W.cl C))) (hM : Mk W.K (W.cl C) f) (hb : Binds W.K fd ps []) : ClM P w W mg base CX k x C io G := ⟨f, fd, ps, h, hm, hM, hb⟩
/-! ### a part is taken out -/
def mPart (i : Nat) (fp : List T → Option (List Sel)) : List T → Option (T × List T) := fun ρ => (fp ρ).bind fun π => ρ[i]?.bind fun t0 => (t0.getP π).bind fun u => if owned u = true then some (u, ρ.set i (t0.putP π .un)) else none
theorem em_part {c : Ctx} {e : Expr} {i : Nat} {fp : List T → Option (List Sel)} (h : Lo c e i fp) : Em c e (mPart i fp) := by
  obtain ⟨t, p, s⟩ := h
  refine ⟨t, p, ?_⟩
  intro b F ρ σ X H τ ρ' Q S e k
  unfold mPart at e
  obtain ⟨π, e1, e⟩ := Option.bind_eq_some_iff.mp e
  obtain ⟨t0, e2, e⟩ := Option.bind_eq_some_iff.mp e
  obtain ⟨u, e3, e⟩ := Option.bind_eq_some_iff.mp e
  split at e
  · rename_i hown
    cases e
    refine s b F ρ σ X H π t0 _ _ S e1 e2 e3 hown fun q v F1 H1 S1 i1 s1 hv hat => ?_
    obtain ⟨fu, yps, q1, q2, q3, q4, q5⟩ := SR.mutX (Y := []) (X := X) S1 e2 hv e3 hat
    obtain ⟨_, rfl⟩ := q2
    rw [List.flatten_nil, List.append_nil] at q3 q4 q5
    have hq : q ∈ fu := by
      cases τ with
      | un => cases hown
      | f d => cases hown
      | l ds => obtain ⟨p', vs, ep, rfl, _⟩ := q1; cases ep; exact List.mem_cons_self
      | dk ks ds => obtain ⟨p', vs, ep, rfl, _⟩ := q1; cases ep; exact List.mem_cons_self
      | di ks ds => obtain ⟨p', vs, ep, rfl, _⟩ := q1; cases ep; exact List.mem_cons_self
      | ll ts => obtain ⟨p', vs, fps, ep, rfl, _⟩ := q1; cases ep; exact List.mem_cons_self
      | tu ts => obtain ⟨p', vs, fps, ep, rfl, _⟩ := q1; cases ep; exact List.mem_cons_self
      | o C ns ts => obtain ⟨p', dx, vs, fps, ep, rfl, _⟩ := q1; cases ep; exact List.mem_cons_self
    obtain ⟨o, ho⟩ := RelT.there _ _ _ q1 q hq
    have hu : upd H1 q o = H1 := by
      funext a
      by_cases z : a = q
      · rw [z, upd_same, ho]
      · rw [upd_ne z]
    have S2 := q5 o .un [] [⟨none, τ, .ref q⟩] [fu] hq rfl (by rw [hu]; exact relTs_one q1) (by simpa using q3) (fun a ha => by simpa using ha) ⟨o, ho, Stb.refl o⟩
    rw [hu] at S2
    exact k _ F1 H1 S2 i1 s1
  · cases e
end Z

namespace Z
open PySem PySem.Spec PyProof.Rows L2
/-! ### xs[::-1] -/
def gRevL (t : T) : Option T := t.ls?.map fun ds => .f (.lst ds.reverse)
theorem Reps.snoc {W : Wd} {F : Hp} : ∀ {ds : List D} {vs : List V} {d : D} {v : V}, Reps W F ds vs → Rep W F d v → Reps W F (ds ++ [d]) (vs ++ [v])
  | [], _, _, _, h, r => by
    have h' : _ = [] := h
    subst h'
    exact ⟨_, [], rfl, r, rfl⟩
  | d :: ds, _, _, _, ⟨v, vr, e, a, b⟩, r => by
    subst e
    exact ⟨v, _, rfl, a, Reps.snoc b r⟩
theorem Reps.rev {W : Wd} {F : Hp} : ∀ {ds : List D} {vs : List V}, Reps W F ds vs → Reps W F ds.reverse vs.reverse
  | [], _, h => by
    have h' : _ = [] := h
    subst h'
    exact rfl
  | d :: ds, _, ⟨v, vr, e, a, b⟩ => by
    subst e
    rw [List.reverse_cons, List.reverse_cons]
    exact (Reps.rev b).snoc a
section
variable {c : Ctx} {a e e' o : Expr} {fa fb : List T → Option T} {pos apos mpos p1 p2 p3 p : Pos}
theorem ev_revL {k : Nat} (ha : Ev c a fa) : Ev c (.Subscript a (.Slice none none (some (.UnaryOp .USub (.Constant (.int 1) k p1) p2)) p3) pos) (f1 gRevL fa) := by
  obtain ⟨ta, pa, sa⟩ := ha
  refine ⟨tRevL c.W.K ta, fun j => by have h := pe_revL (k := k) (p1 := p1) (p2 := p2) (p3 := p3) (pos := pos) (pa j); rw [c.hK j] at h; exact h, ?_⟩
  intro b F ρ σ X H τ Q S e k
  unfold f1 at e
  obtain ⟨t, e1, e⟩ := Option.bind_eq_some_iff.mp e
  obtain ⟨ds, e2, e⟩ := Option.map_eq_some_iff.mp e
  subst e
  refine sa b F ρ σ X H _ _ S e1 fun x F1 H1 S1 i1 s1 r1 => ?_
  obtain ⟨p, vs, ex, hs, r⟩ := r1.ls e2 S1.le
  refine ⟨p, vs, ex, hs, ?_⟩
  exact (k.mono i1 s1).lst S1 r.rev
/-! ### list(d.values()) -/
def tValsL (td : TE) : TE := fun σ H Q => td σ H fun x H1 => ∃ a kvs, x = V.ref a ∧ Rd H1 a (.dK kvs) ∧ ∀ p, H1 p = none → Q (.ref p) (upd H1 p (.lst (kvs.map (·.2))))
theorem relAll_of {xs : List V} {vs : List Value} (hl : vs.length = xs.length) (h : ∀ (i : Nat) (v : Value), vs[i]? = some v → ∃ x, xs[i]? = some x ∧ L2.RelV x v) : Vals xs vs := by
  induction xs generalizing vs with
  | nil =>
    cases vs with
    | nil => exact .nil
    | cons v vs => simp at hl
  | cons x xs ih =>
    cases vs with
    | nil => simp at hl
    | cons v vs =>
      obtain ⟨y, e, r⟩ := h 0 v rfl
      cases (show some x = some y from e)
      exact .cons r (ih (by simpa using hl) fun i w q => h (i + 1) w q)
theorem pe_valsL {X : Cx} {x : Str} {td : TE} (hc : X.calm = true) (hg : Gl X x) (hm : X.mg x = none) (hv : bootBuiltins x = some (.type "list")) (hd : PE X o td) (hbase : attributeBase o "values" X.env (eval o X.env) = eval o X.env) (hline : (apos.endLine == mpos.line) = true)
    (hse : starEach [Expr.Call (.Attribute o "values" apos) [] [] mpos] X.env = [(false, eval (Expr.Call (.Attribute o "values" apos) [] [] mpos) X.env)]) (hn : x ≠ "__name__" := by decide) (hdb : (x == ("__debug__" : Str)) = false := by decide) :
    PE X (.Call (.Name x p) [.Call (.Attribute o "values" apos) [] [] mpos] [] pos) (tValsL td) := by
  refine ⟨fun pins s σ H Q I h => ?_⟩
  refine wpAny_Call_Name_kw (ld_blt I hg hm (u := .type "list") hv ?_ hn hdb)
  rw [hse]
  refine PySem.callWith_type1 (wpAny_Call_method0_late hbase hline (thn (hd.run pins s σ H _ I h) fun v s1 ⟨x, H1, I1, r1, a, kvs, ex, ha, q⟩ => ?_))
  subst ex
  obtain rfl : v = Value.ref a := r1
  obtain ⟨hz, hsys, vs, rel, dof⟩ := dk_rd I1.hok ha
  obtain ⟨ep, dat⟩ := dof.dictAt
  have dat' := dat
  obtain ⟨ob, es, ho, ex, hdat, hko, hpr, hnd⟩ := dat'
  refine ⟨"dict", "dict.values", F.plainAttrs_dict, F.slot_dict_values, F.type_dict_values, ⟨ob, ho, ex.1⟩, fun b e => ?_, Calls.callWith_builtin rfl (PySem.evalArgs_none ?_)⟩
  · cases e
    exact ⟨ob, ho, ex.2.1⟩
  refine call_meetsIn F.slot_dict_values ⟨ob, ho, ex.1⟩ F.entry_dict_values (F.args_dict_values_1 _) (meets_dict_values (mixKind X.prog X.w) a hsys) ⟨⟨vs, dof⟩, ?_⟩
  have k1 : ∀ b u, s1.heap.get? b = some u → (s1.heap.push { cls := .type "dict_values", data := .fields #[.ref a] }).get? b = some u := fun b u e => Heap.get?_push_of_some _ e
  have dat1 : (s1.heap.push { cls := .type "dict_values", data := .fields #[.ref a] }).DictAt (mixKind X.prog X.w) a vs ep := dat.keep k1
  have hlv : vs.length = kvs.length := (KV.length rel).symm
  refine PySem.W.kdl_call (PySem.W.kdl_values (prog := X.prog) (w := X.w) (knd := mixKind X.prog X.w) (d := a) (r := s1.heap.objs.size) (kvs := vs) (ep := ep)) (I.ok.hd hc) ⟨⟨_, Heap.get?_push_size _ rfl, rfl, rfl⟩, dat1⟩ (by omega) fun h' tk acc' c' hk hS hit => ?_
  have hlen : acc'.toList.length = kvs.length := by rw [Array.length_toList, hit.1, hlv]
  have hrel : Vals (kvs.map (·.2)) acc'.toList := relAll_of (by rw [List.length_map]; exact hlen) fun i v e => by
    obtain ⟨k, e2⟩ := hit.2 i v (by rw [← Array.getElem?_toList]; exact e)
    obtain ⟨y, h1, h2⟩ := KV.at' rel e2
    exact ⟨y, by rw [List.getElem?_map, h1]; rfl, h2⟩
  have hsz : (s1.heap.push { cls := .type "dict_values", data := .fields #[.ref a] }).objs.size = s1.heap.objs.size + 1 := Heap.size_push _ _
  have hf : H1 (s1.heap.objs.size + 1) = none := I1.hok.fresh (Nat.le_succ _)
  rw [hsz] at hS ⊢
  refine ⟨.ref (s1.heap.objs.size + 1), _, I1.laid (a := s1.heap.objs.size + 1) (o := .lst (kvs.map (·.2))) (t' := tk) (fun b ob q => hk b ob (k1 b ob q)) (Nat.le_succ _) ⟨by rw [List.length_map]; exact hz, acc'.toList, c', hrel, by simpa using hS⟩, rfl, q _ hf⟩
def gVals (t : T) : Option T := t.dk?.map fun p => .f (.lst p.2)
theorem ev_vals {x : Str} (hg : ∀ j, Gl (c.X j) x) (hm : ∀ j, (c.X j).mg x = none) (hv : bootBuiltins x = some (.type "list")) (ha : Ev c o fa) (hn : x ≠ "__name__" := by decide) (hdb : (x == ("__debug__" : Str)) = false := by decide)
    (hbase : ∀ j, attributeBase o "values" (c.X j).env (eval o (c.X j).env) = eval o (c.X j).env := by intro _; rfl) (hline : (apos.endLine == mpos.line) = true := by rfl)
    (hse : ∀ j, starEach [Expr.Call (.Attribute o "values" apos) [] [] mpos] (c.X j).env = [(false, eval (Expr.Call (.Attribute o "values" apos) [] [] mpos) (c.X j).env)] := by intro _; rfl) :
    Ev c (.Call (.Name x p) [.Call (.Attribute o "values" apos) [] [] mpos] [] pos) (f1 gVals fa) := by
  obtain ⟨ta, pa, sa⟩ := ha
  refine ⟨tValsL ta, fun j => pe_valsL (c.calm j) (hg j) (hm j) hv (pa j) (hbase j) hline (hse j) hn hdb, ?_⟩
  intro b F ρ σ X H τ Q S e k
  unfold f1 at e
  obtain ⟨t, e1, e⟩ := Option.bind_eq_some_iff.mp e
  obtain ⟨⟨ks, ds⟩, e2, e⟩ := Option.map_eq_some_iff.mp e
  subst e
  refine sa b F ρ σ X H _ _ S e1 fun x F1 H1 S1 i1 s1 r1 => ?_
  obtain ⟨p, kvs, ex, hs, hk, r⟩ := r1.dk e2 S1.le
  exact ⟨p, kvs, ex, hs, (k.mono i1 s1).lst S1 r⟩
end
/-! ### dicts of plain values compared -/
def rEqDR (neg : Bool) : R2 := fun x y H Q => ∃ a b ks ls, x = .ref a ∧ y = .ref b ∧ Rd H a (.dK ks) ∧ Rd H b (.dK ls) ∧ ks.length = ls.length ∧ (∀ p ∈ ks, valV ls p.1 = some p.2 ∧ flatB p.2 = true) ∧ Q (.bl (!neg)) H
theorem op_eqDR {X : Cx} (hu : X.A.units < cLine) : OpR X (compareOp .Eq) (rEqDR false) := by
  intro pins s σ H x y v u Q I rx ry h
  obtain ⟨a, b, ks, ls, rfl, rfl, ea, eb, hlen, hp, q⟩ := h
  obtain rfl : v = Value.ref a := rx
  obtain rfl : u = Value.ref b := ry
  obtain ⟨_, ya, va, ra, da⟩ := dk_rd I.hok ea
  obtain ⟨_, yb, vb, rb, db⟩ := dk_rd I.hok eb
  have hl : va.length = vb.length := by rw [← ra.length, ← rb.length]; exact hlen
  exact PySem.W.keq_eq (knd := mixKind X.prog X.w) (r := true) ya yb da db hu (fun _ => hits_all rb ra hp) (fin_bl I q (by simp [hl]))
theorem op_neDR {X : Cx} (hu : X.A.units < cLine) : OpR X (compareOp .NotEq) (rEqDR true) := by
  intro pins s σ H x y v u Q I rx ry h
  obtain ⟨a, b, ks, ls, rfl, rfl, ea, eb, hlen, hp, q⟩ := h
  obtain rfl : v = Value.ref a := rx
  obtain rfl : u = Value.ref b := ry
  obtain ⟨_, ya, va, ra, da⟩ := dk_rd I.hok ea
  obtain ⟨_, yb, vb, rb, db⟩ := dk_rd I.hok eb
  have hl : va.length = vb.length := by rw [← ra.length, ← rb.length]; exact hlen
  exact PySem.W.keq_ne (knd := mixKind X.prog X.w) (r := true) ya yb da db hu (fun _ => hits_all rb ra hp) (fin_bl I q (by simp [hl]))
def dkSub (ls : List Key) (es : List D) : List Key → List D → Bool
  | [], [] => true
  | k :: ks, d :: ds => (match (T.f d).v?, (dAt ls es k).bind fun x => (T.f x).v? with | some v, some w => decide (v = w) | _, _ => false) && dkSub ls es ks ds
  | _, _ => false
theorem flat_v {d : D} {v : V} (h : (T.f d).v? = some v) : flatB v = true := by
  cases d <;> first | (cases h; rfl) | cases h
theorem rep_v {W : Wd} {F : Hp} {d : D} {v w : V} (r : Rep W F d w) (h : (T.f d).v? = some v) : w = v := by
  cases d <;> first | (cases h; exact r) | cases h
theorem dkSub_ok {W : Wd} {F : Hp} {ls : List (Key × V)} {es : List D} (rl : Reps W F es (ls.map (·.2))) : ∀ {ks : List (Key × V)} {ds : List D}, Reps W F ds (ks.map (·.2)) → dkSub (ls.map (·.1)) es (ks.map (·.1)) ds = true → ∀ p ∈ ks, valV ls p.1 = some p.2 ∧ flatB p.2 = true
  | [], _, _, _, p, hp => absurd hp List.not_mem_nil
  | q :: ks, [], r, _, _, _ => by
    have r' : _ = [] := r
    cases r'
  | q :: ks, d :: ds, r, h, p, hp => by
    obtain ⟨v, vr, e, a, b⟩ := r
    have e1 : q.2 = v := (List.cons.inj e).1
    have e2 : ks.map (·.2) = vr := (List.cons.inj e).2
    subst e1 e2
    have h' : ((match (T.f d).v?, (dAt (ls.map (·.1)) es q.1).bind fun x => (T.f x).v? with | some v, some w => decide (v = w) | _, _ => false) && dkSub (ls.map (·.1)) es (ks.map (·.1)) ds) = true := h
    obtain ⟨h1, h2⟩ := Bool.and_eq_true_iff.mp h'
    rcases List.mem_cons.mp hp with z | z
    · subst z
      split at h1
      · rename_i v w hv hw
        obtain ⟨x, hx, hw⟩ := Option.bind_eq_some_iff.mp hw
        have hvw := of_decide_eq_true h1
        subst hvw
        obtain ⟨y, hy, ry⟩ := dAt_val rl hx
        rw [hy, rep_v ry hw, rep_v a hv]
        exact ⟨rfl, flat_v hv⟩
      · cases h1
    · exact dkSub_ok rl b h2 p z
def gEqK (neg : Bool) : T → T → Option T := fun a b => a.dk?.bind fun p => b.dk?.bind fun q => if p.1.length = q.1.length ∧ dkSub q.1 q.2 p.1 p.2 = true then some (.f (.bl (!neg))) else none
theorem s2_eqK {W : Wd} (neg : Bool) : S2 W (rEqDR neg) (gEqK neg) := by
  intro b F ρ σ X H t1 t2 τ x y Q S r1 r2 e k
  unfold gEqK at e
  obtain ⟨⟨ks, ds⟩, e1, e⟩ := Option.bind_eq_some_iff.mp e
  obtain ⟨⟨ls, es⟩, e2, e⟩ := Option.bind_eq_some_iff.mp e
  split at e
  · rename_i hz
    cases e
    obtain ⟨p, kvs, ex, hs, hk, r⟩ := r1.dk e1 S.le
    obtain ⟨p2, kvs2, ex2, hs2, hk2, r'⟩ := r2.dk e2 S.le
    subst hk hk2
    exact ⟨p, p2, kvs, kvs2, ex, ex2, hs, hs2, by have := hz.1; simpa using this, dkSub_ok r' r hz.2, k.d S rfl⟩
  · cases e
def gEqX := or2 gEq (gEqK false)
def gNeX := or2 gNe (gEqK true)
section
variable {c : Ctx}
theorem c_eqX : CmpR c .Eq gEqX := ⟨_, fun j => OpR_or (by have h := op_eqU (X := c.X j) (c.hu j); rw [c.hK j] at h; exact h) (op_eqDR (by have := c.hu j; omega)), S2.or s2_eq (s2_eqK false)⟩
theorem c_neX : CmpR c .NotEq gNeX := ⟨_, fun j => OpR_or (by have h := op_neU (X := c.X j) (c.hu j); rw [c.hK j] at h; exact h) (op_neDR (by have := c.hu j; omega)), S2.or s2_ne (s2_eqK true)⟩
end
/-! ### a concatenation's list of one's own -/
def gCatO (a b : T) : Option (List D) := a.ls?.bind fun xs => b.ls?.bind fun ys => if xs.length + ys.length ≤ sizeLine then some (xs ++ ys) else none
def mCat (fa fb : List T → Option T) : List T → Option (T × List T) := fun ρ => (fa ρ).bind fun a => (fb ρ).bind fun b => (gCatO a b).map fun ds => (.l ds, ρ)
theorem em_cat {c : Ctx} {a e' : Expr} {fa fb : List T → Option T} {pos : Pos} (ha : Ev c a fa) (hb : Ev c e' fb) : Em c (.BinOp a .Add e' pos) (mCat fa fb) := by
  obtain ⟨ta, pa, sa⟩ := ha
  obtain ⟨tb, pb, sb⟩ := hb
  refine ⟨tOp (rCatL c.W.K) ta tb, fun j => pe_op (by have h := op_catL (X := c.X j); rw [c.hK j] at h; exact h) (pa j) (pb j), ?_⟩
  intro b F ρ σ X H τ ρ' Q S e k
  unfold mCat at e
  obtain ⟨t1, e1, e⟩ := Option.bind_eq_some_iff.mp e
  obtain ⟨t2, e2, e⟩ := Option.bind_eq_some_iff.mp e
  obtain ⟨ds, e3, e⟩ := Option.map_eq_some_iff.mp e
  cases e
  unfold gCatO at e3
  obtain ⟨xs, e4, e3⟩ := Option.bind_eq_some_iff.mp e3
  obtain ⟨ys, e5, e3⟩ := Option.bind_eq_some_iff.mp e3
  split at e3
  · rename_i hz
    cases e3
    refine sa b F ρ σ X H _ _ S e1 fun x F1 H1 S1 i1 s1 r1 => ?_
    refine sb b F1 ρ σ X H1 _ _ S1 e2 fun y F2 H2 S2 i2 s2 r2 => ?_
    obtain ⟨p, vs, ex, hs, q⟩ := (r1.ext i2 s2).ls e4 S2.le
    obtain ⟨p2, vs2, ex2, hs2, q2⟩ := r2.ls e5 S2.le
    refine ⟨p, p2, vs, vs2, ex, ex2, hs, hs2, by rw [← q.len, ← q2.len]; exact hz, fun r hr => ?_⟩
    exact k _ F2 _ (S2.own hr ⟨r, _, rfl, rfl, upd_same, q.append q2⟩) (i1.trans i2) ((s1.trans s2).trans fun a u e => by rw [upd_ne (ne_of_none e hr)]; exact e)
  · cases e3
section
variable {c : Ctx} {elt tg iter : Expr} {ifs : List Expr} {scope : Scope} {pos spos : Pos} {fi : List T → Option (List D)} {fg : T → List T → Option (List T)} {ft : List T → Option Bool} {fe : List T → Option T}
theorem sm_setLcM (i : Nat) {y : Str} {py : Pos} (own : List (Str × Nat)) (hi : Ip c tg iter fi) (hg : Gc (cB c scope) tg fg (own.map (·.2))) (ht : Tvs (cB c scope) ifs ft) (he : Ev (cB c scope) elt fe) (ok : ∀ j, blkC c.N (c.X j).env.scope scope own = true := by intro _; rfl)
    (hy : c.N[i]? = some y := by rfl) (hyl : ∀ j, (c.X j).env.scope.names.lookup y = some .local := by intro _; rfl) (hio : c.P.io.contains i = false := by rfl)
    (hsw : ∀ j, swapsWith (.ListComp elt [⟨tg, iter, ifs, 0⟩] scope pos) (some (.Name y py)) spos.line (c.X j).env = pure true := by intro _; rfl)
    (hs : ∀ j x, foldedSetIterable iter (c.X j).env x = pure x := by intro _ _; rfl) : Sm c (.Assign [.Name y py] (.ListComp elt [⟨tg, iter, ifs, 0⟩] scope pos) spos) (sSet i (mE (mLc (own.map (·.2)) fi fg ft fe))) := by
  obtain ⟨wi, pi, si⟩ := hi
  obtain ⟨g, pg, sg, wg⟩ := hg
  obtain ⟨tt, pt, st⟩ := ht
  obtain ⟨te, pe, se⟩ := he
  refine ⟨tAsg (tLc wi g tt te (own.map (·.2))) (gName i), fun j => ps_setLc (c.calm j) (c.hNd j) (by rw [c.hN j]; exact hy) (hyl j) (hsw j) (pi j) (blkOk_by (by rw [c.hN j]; exact ok j)) (fun s H C cl fp => pg (j, s, H, C, cl, fp)) (fun s H C cl fp => pt (j, s, H, C, cl, fp)) (fun s H C cl fp => pe (j, s, H, C, cl, fp)) (hs j), ?_⟩
  intro b F ρ σ X H o D hb S eq k
  unfold sSet mE at eq
  obtain ⟨r, e1, eq⟩ := Option.map_eq_some_iff.mp eq
  obtain ⟨⟨t, ρ'⟩, e2, e3⟩ := Option.map_eq_some_iff.mp e1
  subst e3 eq
  unfold mLc at e2
  obtain ⟨t0, e4, e2⟩ := Option.bind_eq_some_iff.mp e2
  unfold fLc at e4
  split at e4
  · rename_i hok
    obtain ⟨ds, e5, e4⟩ := Option.bind_eq_some_iff.mp e4
    obtain ⟨es, e6, e4⟩ := Option.bind_eq_some_iff.mp e4
    split at e4
    · rename_i hz
      cases e4
      cases e2
      exact slc_core si sg wg st se S hok e5 e6 hz fun D0 F2 H' S3 i2 s2 => k _ F2 H' (S3.store (.inl rfl) (.inl (notio hb (notin_of hio)))) i2
    · cases e4
  · cases e4
end
end Z

namespace Z
open PySem PySem.Spec PyProof.Rows L2
/-! ### a dict locked while it is walked -/
def Nf (u : HO) : Prop := ∀ o w, u ≠ .frz o w
structure Cv (F G : Hp) : Prop where
  rd : ∀ a u, Nf u → Rd F a u → Rd G a u
  ins : ∀ a C dx kvs, F a = some (.ins C dx kvs) → G a = some (.ins C dx kvs)
theorem nf_l {vs : List V} : Nf (.lst vs) := fun _ _ e => nomatch e
theorem nf_t {vs : List V} : Nf (.tup vs) := fun _ _ e => nomatch e
theorem nf_d {kvs : List (Key × V)} : Nf (.dK kvs) := fun _ _ e => nomatch e
mutual
theorem Rep.cv {W : Wd} {F G : Hp} (h : Cv F G) : ∀ (d : D) (v : V), Rep W F d v → Rep W G d v
  | .non, _, r => r
  | .bl _, _, r => r
  | .int _, _, r => r
  | .str _, _, r => r
  | .tup l, _, ⟨p, vs, e, s, q⟩ => ⟨p, vs, e, s.imp (h.rd p _ nf_t) id, Reps.cv h l vs q⟩
  | .lst l, _, ⟨p, vs, e, s, q⟩ => ⟨p, vs, e, s.imp (h.rd p _ nf_l) id, Reps.cv h l vs q⟩
  | .dct ks ds, _, ⟨p, kvs, e, s, k, q⟩ => ⟨p, kvs, e, h.rd p _ nf_d s, k, Reps.cv h ds _ q⟩
  | .obj C ns ds, _, ⟨p, dx, kvs, e, s, k, q⟩ => ⟨p, dx, kvs, e, h.ins p _ _ _ s, k, Reps.cv h ds _ q⟩
theorem Reps.cv {W : Wd} {F G : Hp} (h : Cv F G) : ∀ (ds : List D) (vs : List V), Reps W F ds vs → Reps W G ds vs
  | [], _, r => r
  | d :: ds, _, ⟨v, vr, e, a, b⟩ => ⟨v, vr, e, Rep.cv h d v a, Reps.cv h ds vr b⟩
end
mutual
theorem RelT.cv {W : Wd} {F G H J : Hp} (h : Cv F G) : ∀ (t : T) (v : V) (fp : List Addr), (∀ a ∈ fp, J a = H a) → RelT W F H t v fp → RelT W G J t v fp
  | .un, _, _, _, r => r
  | .f d, _, _, _, r => ⟨r.1, Rep.cv h _ _ r.2⟩
  | .l ds, _, _, k, ⟨p, vs, e1, e2, e3, q⟩ => ⟨p, vs, e1, e2, (k p (by rw [e2]; exact List.mem_singleton.mpr rfl)).trans e3, Reps.cv h _ _ q⟩
  | .dk ks ds, _, _, k, ⟨p, kvs, e1, e2, e3, e4, q⟩ => ⟨p, kvs, e1, e2, (k p (by rw [e2]; exact List.mem_singleton.mpr rfl)).trans e3, e4, Reps.cv h _ _ q⟩
  | .di ks ds, _, _, k, ⟨p, xs, e1, e2, e3, e4, kk, q⟩ => ⟨p, xs, e1, e2, (k p (by rw [e2]; exact List.mem_singleton.mpr rfl)).trans e3, e4, fun x hx => let ⟨l, a, b⟩ := kk x hx; ⟨l, a, Rep.cv h _ _ b⟩, Reps.cv h _ _ q⟩
  | .ll ts, _, _, k, ⟨p, vs, fps, e1, e2, e3, q⟩ => ⟨p, vs, fps, e1, e2, (k p (by rw [e2]; exact List.mem_cons_self)).trans e3, RelTs.cv h ts vs fps (fun a ha => k a (by rw [e2]; exact List.mem_cons_of_mem _ ha)) q⟩
  | .tu ts, _, _, k, ⟨p, vs, fps, e1, e2, e3, q⟩ => ⟨p, vs, fps, e1, e2, (k p (by rw [e2]; exact List.mem_cons_self)).trans e3, RelTs.cv h ts vs fps (fun a ha => k a (by rw [e2]; exact List.mem_cons_of_mem _ ha)) q⟩
  | .o C ns ts, _, _, k, ⟨p, dx, kvs, fps, e1, e2, e3, e4, q⟩ => ⟨p, dx, kvs, fps, e1, e2, (k p (by rw [e2]; exact List.mem_cons_self)).trans e3, e4, RelTs.cv h ts _ fps (fun a ha => k a (by rw [e2]; exact List.mem_cons_of_mem _ ha)) q⟩
theorem RelTs.cv {W : Wd} {F G H J : Hp} (h : Cv F G) : ∀ (ts : List T) (vs : List V) (fps : List (List Addr)), (∀ a ∈ fps.flatten, J a = H a) → RelTs W F H ts vs fps → RelTs W G J ts vs fps
  | [], _, _, _, r => r
  | t :: ts, _, _, k, ⟨v, vr, f, fr, e1, e2, a, b⟩ => by
    subst e2
    rw [List.flatten_cons] at k
    exact ⟨v, vr, f, fr, e1, rfl, RelT.cv h t v f (fun x hx => k x (List.mem_append_left _ hx)) a, RelTs.cv h ts vr fr (fun x hx => k x (List.mem_append_right _ hx)) b⟩
end
theorem Slots.cv {W : Wd} {F G H J : Hp} (h : Cv F G) : ∀ {ts : List T} {σ : L2.St} {fps : List (List Addr)}, (∀ a ∈ fps.flatten, J a = H a) → Slots W F H ts σ fps → Slots W G J ts σ fps
  | [], _, _, _, r => r
  | t :: ts, _, _, k, ⟨s, sr, f, fr, e1, e2, a, b⟩ => by
    subst e2
    rw [List.flatten_cons] at k
    refine ⟨s, sr, f, fr, e1, rfl, ?_, Slots.cv h (fun x hx => k x (List.mem_append_right _ hx)) b⟩
    cases s with
    | none => exact a
    | some v => exact RelT.cv h t v f (fun x hx => k x (List.mem_append_left _ hx)) a
theorem cv_lock {F : Hp} {d : Addr} {od : Obj} {kvs : List (Key × V)} (e : F d = some (.dK kvs)) : Cv F (upd F d (.frz od (.dK kvs))) where
  rd := fun a u n r => by
    by_cases h : a = d
    · subst h
      rcases r with r | ⟨o, r⟩
      · rw [e] at r; cases r; exact .inr ⟨od, upd_same⟩
      · rw [e] at r; cases r
    · rcases r with r | ⟨o, r⟩
      · exact .inl (by rw [upd_ne h]; exact r)
      · exact .inr ⟨o, by rw [upd_ne h]; exact r⟩
  ins := fun a C dx ks r => by
    have h : a ≠ d := fun h => by subst h; rw [e] at r; cases r
    rw [upd_ne h]; exact r
theorem cv_free {F : Hp} {d : Addr} {od : Obj} {kvs : List (Key × V)} (e : F d = some (.frz od (.dK kvs))) : Cv F (upd F d (.dK kvs)) where
  rd := fun a u n r => by
    by_cases h : a = d
    · subst h
      rcases r with r | ⟨o, r⟩
      · rw [e] at r; exact absurd (Option.some.inj r).symm (n od _)
      · rw [e] at r; cases r; exact .inl upd_same
    · rcases r with r | ⟨o, r⟩
      · exact .inl (by rw [upd_ne h]; exact r)
      · exact .inr ⟨o, by rw [upd_ne h]; exact r⟩
  ins := fun a C dx ks r => by
    have h : a ≠ d := fun h => by subst h; rw [e] at r; cases r
    rw [upd_ne h]; exact r
/-- the frame of a def while a dict is locked -/
def Bs.lock (b : Bs) (d : Addr) (o : HO) : Bs := ⟨upd b.H0 d o, upd b.F0 d o, b.As, b.io⟩
section
variable {W : Wd} {b : Bs} {F : Hp} {ρ : List T} {σ : L2.St} {X : List Tm} {H : Hp} {d : Addr} {od : Obj} {kvs : List (Key × V)}
theorem SR.lock (S : SR W b F ρ σ X H) (e : F d = some (.dK kvs)) : SR W (b.lock d (.frz od (.dK kvs))) (upd F d (.frz od (.dK kvs))) ρ σ X (upd H d (.frz od (.dK kvs))) := by
  obtain ⟨le, f0, fn, kept, stab, pin, fps, xps, s1, s2, ⟨nd, ow⟩, lc1, lc2⟩ := S
  have nin : ∀ a ∈ fps.flatten ++ xps.flatten, a ≠ d := fun a ha z => by subst z; rw [ow a ha] at e; cases e
  have H0n : ∀ a, a ≠ d → (b.lock d (.frz od (.dK kvs))).H0 a = b.H0 a := fun a h => upd_ne h
  have F0n : ∀ a, a ≠ d → (b.lock d (.frz od (.dK kvs))).F0 a = b.F0 a := fun a h => upd_ne h
  refine ⟨?_, ?_, ?_, ?_, ?_, pin, fps, xps, Slots.cv (cv_lock e) (fun a ha => upd_ne (nin a (List.mem_append_left _ ha))) s1, RelTs.cv (cv_lock e) _ _ _ (fun a ha => upd_ne (nin a (List.mem_append_right _ ha))) s2, ⟨nd, ?_⟩, ?_, ?_⟩
  · intro a o h
    by_cases z : a = d
    · subst z
      rw [upd_same] at h ⊢
      exact .inl h
    · rw [upd_ne z] at h ⊢
      exact le a o h
  · intro a o h
    by_cases z : a = d
    · subst z
      have h' : upd b.F0 a (.frz od (.dK kvs)) a = some o := h
      rw [upd_same] at h' ⊢
      exact h'
    · rw [F0n a z] at h
      rw [upd_ne z]
      exact f0 a o h
  · intro a o h
    by_cases z : a = d
    · subst z
      rw [upd_same] at h
      exact .inl (show upd b.F0 a _ a = some o by rw [upd_same]; exact h)
    · rw [upd_ne z] at h
      rw [F0n a z, H0n a z]
      exact fn a o h
  · intro a o h na
    by_cases z : a = d
    · subst z
      have h' : upd b.H0 a (.frz od (.dK kvs)) a = some o := h
      rw [upd_same] at h' ⊢
      exact h'
    · rw [H0n a z] at h
      rw [upd_ne z]
      exact kept a o h na
  · intro a o h ha
    by_cases z : a = d
    · subst z
      have h' : upd b.H0 a (.frz od (.dK kvs)) a = some o := h
      rw [upd_same] at h'
      cases h'
      exact ⟨_, upd_same, Stb.frz⟩
    · rw [H0n a z] at h
      obtain ⟨u, q, st⟩ := stab a o h ha
      exact ⟨u, by rw [upd_ne z]; exact q, st⟩
  · intro a ha
    rw [upd_ne (nin a ha)]
    exact ow a ha
  · intro i f hf a ha
    have z : a ≠ d := nin a (List.mem_append_left _ (List.mem_flatten.mpr ⟨f, List.mem_of_getElem? hf, ha⟩))
    exact (lc1 i f hf a ha).imp (fun q => (H0n a z).trans q) id
  · have go : ∀ (X : List Tm) (fs : List (List Addr)), (∀ a ∈ fs.flatten, a ≠ d) → LocX b X fs → LocX (b.lock d (.frz od (.dK kvs))) X fs := by
      intro X
      induction X with
      | nil => intro fs _ _; exact trivial
      | cons x X ih =>
        intro fs hn h
        cases fs with
        | nil => exact trivial
        | cons f fs =>
          rw [List.flatten_cons] at hn
          exact ⟨fun a ha => (h.1 a ha).imp (fun q => (H0n a (hn a (List.mem_append_left _ ha))).trans q) id, ih fs (fun a ha => hn a (List.mem_append_right _ ha)) h.2⟩
    exact go X xps (fun a ha => nin a (List.mem_append_right _ ha)) lc2
theorem SR.free {F0 H0 : Hp} {ρ0 : List T} {σ0 : L2.St} {X0 : List Tm} (S0 : SR W b F0 ρ0 σ0 X0 H0) (e0 : F0 d = some (.dK kvs)) {J : Hp} (hJ : ∀ a, a ≠ d → J a = H a) (eJ : J d = H0 d) (eJ2 : J d = some (.dK kvs) ∨ J d = some (.frz od (.dK kvs))) (S : SR W (b.lock d (.frz od (.dK kvs))) F ρ σ X H) (i : Inc (upd F0 d (.frz od (.dK kvs))) F) :
    SR W b (upd F d (.dK kvs)) ρ σ X J ∧ Inc F0 (upd F d (.dK kvs)) ∧ H d = some (.frz od (.dK kvs)) := by
  have e : F d = some (.frz od (.dK kvs)) := i d _ upd_same
  obtain ⟨le0, f00, fn0, kept0, stab0, _⟩ := S0
  obtain ⟨le, f0, fn, kept, stab, pin, fps, xps, s1, s2, ⟨nd, ow⟩, lc1, lc2⟩ := S
  have nin : ∀ a ∈ fps.flatten ++ xps.flatten, a ≠ d := fun a ha z => by subst z; rw [ow a ha] at e; cases e
  have H0n : ∀ a, a ≠ d → (b.lock d (.frz od (.dK kvs))).H0 a = b.H0 a := fun a h => upd_ne h
  have F0n : ∀ a, a ≠ d → (b.lock d (.frz od (.dK kvs))).F0 a = b.F0 a := fun a h => upd_ne h
  have eH : H d = some (.frz od (.dK kvs)) := by
    rcases le d _ e with q | ⟨u, ks, q, _⟩
    · exact q
    · cases q
  have inc : Inc F0 (upd F d (.dK kvs)) := fun a o h => by
    by_cases z : a = d
    · subst z
      rw [e0] at h
      rw [upd_same]
      exact h
    · rw [upd_ne z]
      exact i a o (by rw [upd_ne z]; exact h)
  refine ⟨⟨?_, f00.trans inc, ?_, ?_, ?_, pin, fps, xps, Slots.cv (cv_free e) (fun a ha => hJ a (nin a (List.mem_append_left _ ha))) s1, RelTs.cv (cv_free e) _ _ _ (fun a ha => hJ a (nin a (List.mem_append_right _ ha))) s2, ⟨nd, ?_⟩, ?_, ?_⟩, inc, eH⟩
  · intro a o h
    by_cases z : a = d
    · subst z
      rw [upd_same] at h
      cases h
      exact eJ2.imp id fun q => ⟨_, _, rfl, q⟩
    · rw [upd_ne z] at h
      rw [hJ a z]
      exact le a o h
  · intro a o h
    by_cases z : a = d
    · subst z
      rw [upd_same] at h
      cases h
      exact fn0 a _ e0
    · rw [upd_ne z] at h
      have := fn a o h
      rw [F0n a z, H0n a z] at this
      exact this
  · intro a o h na
    by_cases z : a = d
    · subst z
      exact eJ.trans (kept0 a o h na)
    · rw [hJ a z]
      exact kept a o (by rw [H0n a z]; exact h) na
  · intro a o h ha
    by_cases z : a = d
    · subst z
      obtain ⟨u, q, st⟩ := stab0 a o h ha
      exact ⟨u, eJ.trans q, st⟩
    · obtain ⟨u, q, st⟩ := stab a o (by rw [H0n a z]; exact h) ha
      exact ⟨u, by rw [hJ a z]; exact q, st⟩
  · intro a ha
    rw [upd_ne (nin a ha)]
    exact ow a ha
  · intro j f hf a ha
    have z : a ≠ d := nin a (List.mem_append_left _ (List.mem_flatten.mpr ⟨f, List.mem_of_getElem? hf, ha⟩))
    exact (lc1 j f hf a ha).imp (fun q => (H0n a z).symm.trans q) id
  · have go : ∀ (X : List Tm) (fs : List (List Addr)), (∀ a ∈ fs.flatten, a ≠ d) → LocX (b.lock d (.frz od (.dK kvs))) X fs → LocX b X fs := by
      intro X
      induction X with
      | nil => intro fs _ _; exact trivial
      | cons x X ih =>
        intro fs hn h
        cases fs with
        | nil => exact trivial
        | cons f fs =>
          rw [List.flatten_cons] at hn
          exact ⟨fun a ha => (h.1 a ha).imp (fun q => (H0n a (hn a (List.mem_append_left _ ha))).symm.trans q) id, ih fs (fun a ha => hn a (List.mem_append_right _ ha)) h.2⟩
    exact go X xps (fun a ha => nin a (List.mem_append_right _ ha)) lc2
end
/-! ### values that are found without a change -/
def kD : Key → D
  | .inl i => .int i
  | .inr x => .str x
theorem kD_rep {W : Wd} {F : Hp} {k : Key} : Rep W F (kD k) (kV k) := by cases k <;> rfl
theorem wk_keys {W : Wd} {F : Hp} {d : Addr} {od : Obj} {kvs : List (Key × V)} (e : F d = some (.frz od (.dK kvs))) : Wk W F (Itk d od kvs) ((kvs.map (·.1)).map kD) where
  go := fun i G H i1 le h => by
    rw [List.length_map, List.length_map] at h
    rcases le d _ (i1 d _ e) with q | ⟨_, _, q, _⟩
    · exact ⟨q, h⟩
    · cases q
  stop := fun G H i1 le => by
    rcases le d _ (i1 d _ e) with q | ⟨_, _, q, _⟩
    · exact ⟨q, by rw [List.length_map, List.length_map]; exact Nat.le_refl _⟩
    · cases q
  yld := fun i G H x H' dd i1 le hd y => by
    obtain ⟨e1, k, v, e2, e3⟩ := y
    refine .inl ⟨e1, ?_⟩
    rw [List.getElem?_map, List.getElem?_map, e2] at hd
    cases hd
    rw [e3]
    exact kD_rep
/-- found without a change: the value is known ahead -/
def Spk (W : Wd) (te : TE) (f : List T → Option T) : Prop := ∀ b F ρ σ X H t, SR W b F ρ σ X H → f ρ = some t → ∃ v, RelV W F H t v ∧ ∀ (G : Hp) (Q : VK), (∀ p vs, SqT W.K F p vs → SqT W.K G p vs) → Q v G → te σ G Q
def Pk (c : Ctx) (e : Expr) (f : List T → Option T) : Prop := ∃ t, (∀ j, PE (c.X j) e t) ∧ Spk c.W t f
section
variable {c : Ctx} {a tg e : Expr} {ss : List Stmt} {fa : List T → Option T} {pos p2 : Pos}
theorem pk_v (i : Nat) {x : Str} (hi : c.N[i]? = some x := by rfl) (hv : ∀ j, Vis (c.X j).env.scope x := by intro _; first | exact Or.inl rfl | exact Or.inr (Or.inl rfl) | exact Or.inr (Or.inr rfl)) (hd : (x == ("__debug__" : Str)) = false := by decide) (hcd : (x == ("__classdict__" : Str)) = false := by decide) : Pk c (.Name x pos) (fVar i) := by
  refine ⟨_, fun j => pe_var (i := i) (by rw [c.hN j]; exact hi) (hv j) hd hcd, ?_⟩
  intro b F ρ σ X H t S e
  unfold fVar at e
  cases q : ρ[i]? with
  | none => rw [q] at e; cases e
  | some u =>
    have hu : u = t ∧ t ≠ .un := by
      rw [q] at e
      cases u <;> first | (cases e; exact ⟨rfl, fun z => nomatch z⟩) | cases e
    obtain ⟨rfl, hn⟩ := hu
    obtain ⟨s, fp, e1, r⟩ := S.slot q
    cases s with
    | none => exact absurd r.1 hn
    | some v => exact ⟨v, ⟨fp, r⟩, fun G Q _ k => ⟨v, e1, k⟩⟩
def fTix (k : Int) (fa : List T → Option T) : List T → Option T := fun ρ => (fa ρ).bind fun t => match t with
  | .f (.tup ds) => (atI ds k).map .f
  | _ => none
theorem pk_ix {kk : Nat} (k : Int) (ha : Pk c a fa) : Pk c (.Subscript a (.Constant (.int k) kk p2) pos) (fTix k fa) := by
  obtain ⟨ta, pa, sa⟩ := ha
  refine ⟨tOp (rIxU c.W.K) ta (tC (.int k)), fun j => pe_ix (by have h := ix_U (X := c.X j) (c.hu1 j); rw [c.hK j] at h; exact h) (pa j) pe_int (fun _ _ => rfl), ?_⟩
  intro b F ρ σ X H t S e
  unfold fTix at e
  obtain ⟨u, e1, e⟩ := Option.bind_eq_some_iff.mp e
  cases u with
  | f d => cases d with
    | tup ds =>
      obtain ⟨d, e2, e3⟩ := Option.map_eq_some_iff.mp e
      subst e3
      obtain ⟨v, r, q⟩ := sa b F ρ σ X H _ S e1
      obtain ⟨p, vs, ex, hs, rs⟩ := r.rep
      subst ex
      obtain ⟨j, h1, h2⟩ := atI_map rs.len e2
      obtain ⟨w, h3, h4⟩ := rs.get h1
      exact ⟨w, ⟨[], rfl, h4⟩, fun G Q hG k' => q G _ hG (.inl (.inl (.inr ⟨p, vs, k, w, rfl, rfl, hG p vs hs, h2 w h3, k'⟩)))⟩
    | _ => cases e
  | _ => cases e
theorem for_core {W : Wd} {P : Sg} {E : L2.St → XK} {g : TG} {tb : TS} {fg : T → List T → Option (List T)} {fb : FS} (hg : Sgt W P g fg) (hb : Ss W P E tb fb) {b : Bs} {F1 : Hp} {ρ1 : List T} {σ : L2.St} {X : List Tm} {H1 : Hp} {J : It} {ds : List D} {o : Out} {D : Ends}
    (bok : Bok P b) (S1 : SR W b F1 ρ1 σ X H1) (wk : Wk W F1 J ds) (e : forF fg fb ds ρ1 = some o) (k : PostS W b F1 X D E o) :
    ∃ Wm : Nat → Nat → L2.St → Hp → Prop, (∃ m, Wm 0 m σ H1) ∧ ∀ i m σ H, Wm i m σ H →
      (J.stop i H ∧ D.nx σ H) ∨ (J.go i H ∧ ∃ N : L2.St → Hp → Prop, (∀ σ' H', N σ' H' → ∃ m', m' < m ∧ Wm (i + 1) m' σ' H') ∧ ∀ x H', J.yld i H x H' → g x σ H' fun σ2 H2 => tb { D with nx := N, ct := N, bk := D.nx } σ2 H2) := by
  refine ⟨fun i m σ' H' => m = ds.length - i ∧ i ≤ ds.length ∧ ∃ F' ρ', SR W b F' ρ' σ' X H' ∧ Inc F1 F' ∧ forF fg fb (ds.drop i) ρ' = some o, ⟨ds.length, by simp, Nat.zero_le _, F1, ρ1, S1, Inc.refl F1, e⟩, ?_⟩
  rintro i m σ2 H2 ⟨rfl, hi2, F2, ρ2, S2, i2, e2⟩
  by_cases hlt : i < ds.length
  · refine .inr ⟨wk.go i F2 H2 i2 S2.le hlt, fun σ' H' => i + 1 ≤ ds.length ∧ ∃ F' ρ', SR W b F' ρ' σ' X H' ∧ Inc F1 F' ∧ forF fg fb (ds.drop (i + 1)) ρ' = some o, fun σ' H' h => ⟨ds.length - (i + 1), by omega, rfl, h⟩, fun x H3 y => ?_⟩
    have hd : ds[i]? = some ds[i] := List.getElem?_eq_getElem hlt
    rw [List.drop_eq_getElem_cons hlt] at e2
    unfold forF at e2
    obtain ⟨ρ3, e3, e2⟩ := Option.bind_eq_some_iff.mp e2
    obtain ⟨o1, e4, e2⟩ := Option.bind_eq_some_iff.mp e2
    obtain ⟨F3, S3, i3⟩ := wk.item S2 i2 hd y
    refine hg b F3 ρ2 ρ3 σ2 X H3 _ x _ bok S3 e3 fun σ4 F4 H4 S4 i4 => ?_
    have i14 := i2.trans (i3.trans i4)
    refine hb b F4 ρ3 σ4 X H4 o1 _ bok S4 e4 ?_
    cases o1 with
    | nx ρ5 => exact fun σ' F' H' S' i' => ⟨hlt, F', ρ5, S', i14.trans i', e2⟩
    | ct ρ5 => exact fun σ' F' H' S' i' => ⟨hlt, F', ρ5, S', i14.trans i', e2⟩
    | bk ρ5 =>
      cases e2
      exact fun σ' F' H' S' i' => k σ' F' H' S' (i14.trans i')
    | rt t ρ5 =>
      cases e2
      exact fun v σ' F' H' S' i' => k v σ' F' H' S' (i14.trans i')
    | xc C ρ5 =>
      cases e2
      exact fun d σ' F' H' S' i' => k d σ' F' H' S' (i14.trans i')
  · have hi3 : i = ds.length := by omega
    subst hi3
    rw [List.drop_length] at e2
    cases e2
    exact .inl ⟨wk.stop F2 H2 i2 S2.le, k σ2 F2 H2 S2 i2⟩
def noX : Out → Option Out
  | .xc _ _ => none
  | o => some o
def sForK (pk : List T → Option T) (fg : T → List T → Option (List T)) (fb : FS) : FS := fun ρ => (pk ρ).bind fun t => match t with
  | .f (.dct ks _) => (forF fg fb (ks.map kD) ρ).bind noX
  | _ => none
theorem sm_forK {fg : T → List T → Option (List T)} {fb : FS} (hp : ∀ j, PassesOwn (model (c.X j).prog (c.X j).w) (c.X j).A (c.X j).env (c.X j).xe) (hi : Pk c e fa) (hg : Gt c tg fg) (hb : Sms c ss fb) (hs : ∀ j x, foldedSetIterable e (c.X j).env x = pure x := by intro _ _; rfl) : Sm c (.For tg e ss [] pos) (sForK fa fg fb) := by
  obtain ⟨te, p1, q1⟩ := hi
  obtain ⟨g, p2, q2⟩ := hg
  obtain ⟨tb, p3, q3⟩ := hb
  have pf : ∀ j, PS (c.X j) (.For tg e ss [] pos) (tFor (iKeys te) g tb) := fun j => ps_for (hp j) (c.calm j) (pi_keys (p1 j)) (p2 j) (p3 j) (hs j)
  refine ⟨fun D σ H => tLock (tFor (iKeys te) g tb) D σ H ∨ tFor (iKeys te) g tb D σ H, fun j => ⟨fun pins s σ H D I h => h.elim (fun h => (ps_lock (pf j)).run pins s σ H D I h) fun h => (pf j).run pins s σ H D I h⟩, ?_⟩
  intro b F ρ σ X H o D bok S eq k
  unfold sForK at eq
  obtain ⟨t, e1, eq⟩ := Option.bind_eq_some_iff.mp eq
  obtain ⟨ks, ds, rfl⟩ : ∃ ks ds, t = .f (.dct ks ds) := by
    cases t with
    | f d => cases d with
      | dct ks ds => exact ⟨ks, ds, rfl⟩
      | _ => cases eq
    | _ => cases eq
  obtain ⟨o', e2, e3⟩ := Option.bind_eq_some_iff.mp (show (forF fg fb (ks.map kD) ρ).bind noX = some o from eq)
  have ho : o' = o ∧ ∀ C ρ', o ≠ .xc C ρ' := by
    cases o' <;> first | (cases e3; exact ⟨rfl, fun _ _ z => nomatch z⟩) | cases e3
  obtain ⟨rfl, hx⟩ := ho
  obtain ⟨v, r, q⟩ := q1 b F ρ σ X H _ S e1
  obtain ⟨d, kvs, ex, hd, hk, rs⟩ := r.rep
  subst ex hk
  -- the loop, once the dict is locked in F
  have loop : ∀ (b' : Bs) (G J : Hp) (od : Obj) (D' : Ends), Bok c.P b' → SR c.W b' G ρ σ X J → G d = some (.frz od (.dK kvs)) → (∀ p vs, SqT c.W.K F p vs → SqT c.W.K J p vs) → PostS c.W b' G X D' c.E o' → tFor (iKeys te) g tb D' σ J := by
    intro b' G J od D' bok' S' hG hJ k'
    refine q J _ hJ ⟨d, od, rfl, .inl ⟨kvs, ?_, for_core q2 q3 bok' S' (wk_keys hG) e2 k'⟩⟩
    rcases S'.le d _ hG with z | ⟨_, _, z, _⟩
    · exact z
    · cases z
  rcases hd with hd | ⟨od, hd⟩
  · rcases S.le d _ hd with hH | ⟨od, _, hu, hH⟩
    · refine .inl ⟨d, .dK kvs, hH, trivial, fun od => ?_⟩
      have SL := S.lock (od := od) hd
      refine loop (b.lock d (.frz od (.dK kvs))) _ _ od _ bok SL upd_same (fun p vs h => ?_) ?_
      · refine h.imp (fun r => ?_) id
        exact (cv_lock (od := od) hH).rd p _ nf_t (Rd.le S.le r)
      · have fin : ∀ {F' : Hp} {ρ' : List T} {σ' : L2.St} {X' : List Tm} {H' : Hp}, SR c.W (b.lock d (.frz od (.dK kvs))) F' ρ' σ' X' H' → Inc (upd F d (.frz od (.dK kvs))) F' → H' d = some (.frz od (.dK kvs)) ∧ SR c.W b (upd F' d (.dK kvs)) ρ' σ' X' (upd H' d (.dK kvs)) ∧ Inc F (upd F' d (.dK kvs)) := fun S' i' => by
          obtain ⟨s1, s2, s3⟩ := SR.free S hd (J := upd _ d (.dK kvs)) (fun a h => upd_ne h) (by rw [upd_same, hH]) (.inl upd_same) S' i'
          exact ⟨s3, s1, s2⟩
        cases o' with
        | nx ρ' => exact fun σ' F' H' S' i' => have f := fin S' i'; ⟨f.1, k σ' _ _ f.2.1 f.2.2⟩
        | rt t ρ' => exact fun v σ' F' H' S' i' => have f := fin S' i'; ⟨f.1, k v σ' _ _ f.2.1 f.2.2⟩
        | bk ρ' => exact fun σ' F' H' S' i' => have f := fin S' i'; ⟨f.1, k σ' _ _ f.2.1 f.2.2⟩
        | ct ρ' => exact fun σ' F' H' S' i' => have f := fin S' i'; ⟨f.1, k σ' _ _ f.2.1 f.2.2⟩
        | xc C ρ' => exact absurd rfl (hx C ρ')
    · cases hu
      refine .inr ?_
      have SL := S.lock (od := od) hd
      have same : upd H d (.frz od (.dK kvs)) = H := by
        funext z
        by_cases h : z = d
        · subst h; rw [upd_same, hH]
        · rw [upd_ne h]
      rw [same] at SL
      refine loop (b.lock d (.frz od (.dK kvs))) _ _ od _ bok SL upd_same (fun p vs h => SqT.le S.le h) ?_
      have fin : ∀ {F' : Hp} {ρ' : List T} {σ' : L2.St} {X' : List Tm} {H' : Hp}, SR c.W (b.lock d (.frz od (.dK kvs))) F' ρ' σ' X' H' → Inc (upd F d (.frz od (.dK kvs))) F' → SR c.W b (upd F' d (.dK kvs)) ρ' σ' X' H' ∧ Inc F (upd F' d (.dK kvs)) := fun {F' ρ' σ' X' H'} S' i' => by
        have z : H' d = some (.frz od (.dK kvs)) := by
          rcases S'.le d _ (i' d _ upd_same) with z | ⟨_, _, z, _⟩
          · exact z
          · cases z
        obtain ⟨s1, s2, s3⟩ := SR.free S hd (J := H') (fun a h => rfl) (by rw [z, hH]) (.inr z) S' i'
        exact ⟨s1, s2⟩
      cases o' with
      | nx ρ' => exact fun σ' F' H' S' i' => have f := fin S' i'; k σ' _ _ f.1 f.2
      | rt t ρ' => exact fun v σ' F' H' S' i' => have f := fin S' i'; k v σ' _ _ f.1 f.2
      | bk ρ' => exact fun σ' F' H' S' i' => have f := fin S' i'; k σ' _ _ f.1 f.2
      | ct ρ' => exact fun σ' F' H' S' i' => have f := fin S' i'; k σ' _ _ f.1 f.2
      | xc C ρ' => exact absurd rfl (hx C ρ')
  · refine .inr (loop b F H od D bok S hd (fun p vs h => SqT.le S.le h) k)
end
end Z

namespace Z
open PySem PySem.Spec PyProof.Rows L2
/-! ### texts joined, dicts copied, things sorted, the greatest -/
def strsOf : List D → Option (List Str)
  | [] => some []
  | .str x :: ds => (strsOf ds).map fun xs => x :: xs
  | _ => none
theorem strsOf_v {W : Wd} {F : Hp} : ∀ {ds : List D} {vs : List V} {xs : List Str}, Reps W F ds vs → strsOf ds = some xs → vs = xs.map V.str
  | [], _, _, r, e => by
    cases e
    exact r
  | d :: ds, _, _, ⟨v, vr, e1, r1, r2⟩, e => by
    subst e1
    cases d with
    | str x =>
      obtain ⟨ys, e2, e3⟩ := Option.map_eq_some_iff.mp (show (strsOf ds).map _ = _ from e)
      subst e3
      rw [strsOf_v r2 e2]
      exact congrArg (· :: ys.map V.str) r1
    | _ => cases e
theorem strsOf_map : ∀ (xs : List Str), strsOf (xs.map .str) = some xs
  | [] => rfl
  | x :: xs => by
    show (strsOf (xs.map .str)).map _ = _
    rw [strsOf_map xs]
    rfl
def gJoin (a b : T) : Option T := a.s?.bind fun s => b.sq?.bind fun ds => (strsOf ds).bind fun ys => if (ys.map (·.length)).sum + ys.length * s.length ≤ 16777216 then some (.f (.str (Txt.join s ys))) else none
section
variable {c : Ctx} {a e : Expr} {fa fb : List T → Option T} {apos pos : Pos}
theorem ev_join (ha : Ev c a fa) (he : Ev c e fb) (hs : ∀ j, starEach [e] (c.X j).env = [(false, eval e (c.X j).env)] := by intro _; rfl) (hbase : ∀ j, attributeBase a "join" (c.X j).env (eval a (c.X j).env) = eval a (c.X j).env := by intro _; rfl) (hline : (apos.endLine == pos.line) = true := by rfl) :
    Ev c (.Call (.Attribute a "join" apos) [e] [] pos) (f2 gJoin fa fb) := by
  obtain ⟨ta, pa, sa⟩ := ha
  obtain ⟨tb, pb, sb⟩ := he
  refine ⟨tM1 (fun x xs H Q => ∃ a p, ∃ ys : List Str, x = .str a ∧ xs = [.ref p] ∧ (SqL c.W.K H p (ys.map V.str) ∨ SqT c.W.K H p (ys.map V.str)) ∧
      (ys.map (·.length)).sum + ys.length * a.length ≤ 16777216 ∧ Q (.str (Txt.join a ys)) H) ta tb, fun j => by have h := pe_join (pa j) (pb j) (hs j) (hbase j) hline; rw [c.hK j] at h; exact h, ?_⟩
  intro b F ρ σ X H τ Q S e k
  unfold f2 at e
  obtain ⟨t1, e1, e⟩ := Option.bind_eq_some_iff.mp e
  obtain ⟨t2, e2, e⟩ := Option.bind_eq_some_iff.mp e
  unfold gJoin at e
  obtain ⟨s, e3, e⟩ := Option.bind_eq_some_iff.mp e
  obtain ⟨ds, e4, e⟩ := Option.bind_eq_some_iff.mp e
  obtain ⟨ys, e5, e⟩ := Option.bind_eq_some_iff.mp e
  split at e
  · rename_i hz
    cases e
    refine sa b F ρ σ X H _ _ S e1 fun x F1 H1 S1 i1 s1 r1 => ?_
    have hx := r1.str e3
    subst hx
    refine ⟨⟨s, rfl⟩, sb b F1 ρ σ X H1 _ _ S1 e2 fun y F2 H2 S2 i2 s2 r2 => ?_⟩
    obtain ⟨p, vs, ex, hs, q⟩ := r2.sq e4 S2.le
    subst ex
    rw [strsOf_v q e5] at hs
    exact ⟨s, p, ys, rfl, rfl, hs, hz, (k.mono (i1.trans i2) (s1.trans s2)).d S2 rfl⟩
  · cases e
end
section
variable {W : Wd} {c : Ctx}
/-! dict(d) -/
def rDictD : List V → Hp → VK → Prop := fun xs H Q => ∃ (a : Addr) (kvs : List (Key × V)), xs = [.ref a] ∧ Rd H a (.dK kvs) ∧ ∀ p, H p = none → Q (.ref p) (upd H p (.dK kvs))
def gDictOf (ts : List T) : Option T := match ts with
  | [t] => t.dk?.map fun p => .f (.dct p.1 p.2)
  | _ => none
theorem sn_dict : Sn W rDictD gDictOf := by
  intro b F ρ σ X H ts τ xs Q S r e k
  match ts, e with
  | [t], e =>
    obtain ⟨x, rfl, r1⟩ := rv1 r
    obtain ⟨⟨ks, ds⟩, e2, e⟩ := Option.map_eq_some_iff.mp (show t.dk?.map _ = some τ from e)
    subst e
    obtain ⟨p, kvs, ex, hp, hk, r2⟩ := r1.dk e2 S.le
    subst ex
    refine ⟨p, kvs, rfl, hp, fun q hq => ?_⟩
    obtain ⟨S2, i2, s2⟩ := S.laid (o := .dK kvs) hq
    exact (k.mono i2 s2).d S2 ⟨q, kvs, rfl, .inl upd_same, hk, r2.inc i2⟩
theorem callDict (j : c.J) : CallR (c.X j) (.type "dict") rDictD := call_dictD
/-! sorted(a dict of texts), sorted(a list of ints) -/
def isort (ns : List Int) : List Int := ns.mergeSort fun a b => decide (a ≤ b)
def sle (a b : Str) : Bool := !ltCps b.cps.toList a.cps.toList
def ssort (xs : List Str) : List Str := xs.mergeSort sle
theorem isort_eq {ns ms : List Int} (h1 : ms.Perm ns) (h2 : ms.Pairwise (· ≤ ·)) : ms = isort ns := by
  have h3 : (isort ns).Pairwise (· ≤ ·) := by
    have := List.pairwise_mergeSort (le := fun a b : Int => decide (a ≤ b)) (fun a b c h1 h2 => by simp at *; omega) (fun a b => by simp; omega) ns
    exact this.imp fun h => of_decide_eq_true h
  exact (h1.trans (List.mergeSort_perm ns _).symm).eq_of_pairwise (fun x y _ _ h1 h2 => Int.le_antisymm h1 h2) h2 h3
theorem sle_iff {a b : Str} : sle a b = true ↔ a.cps.toList ≤ b.cps.toList := by
  unfold sle
  rw [ltCps_eq]
  simp
theorem sle_trans (a b c : Str) (h1 : sle a b = true) (h2 : sle b c = true) : sle a c = true := by
  rw [sle_iff] at *
  exact List.le_trans h1 h2
theorem sle_total (a b : Str) : (sle a b || sle b a) = true := by
  rw [Bool.or_eq_true, sle_iff, sle_iff]
  exact List.le_total _ _
theorem sle_anti {a b : Str} (h1 : sle a b = true) (h2 : sle b a = true) : a = b := by
  rw [sle_iff] at *
  have := List.le_antisymm h1 h2
  cases a with
  | mk x => cases b with
    | mk y => exact congrArg Str.mk (Array.toList_inj.mp this)
theorem rising_pw : ∀ (p : Str) (l : List Str), risingS p l = true → (p :: l).Pairwise fun a b => sle a b = true
  | p, [], _ => by simp
  | p, x :: r, h => by
    have h' : (!ltCps x.cps.toList p.cps.toList && risingS x r) = true := h
    obtain ⟨h1, h2⟩ := Bool.and_eq_true_iff.mp h'
    have ih := rising_pw x r h2
    refine List.pairwise_cons.mpr ⟨fun y hy => ?_, ih⟩
    rcases List.mem_cons.mp hy with z | z
    · subst z; exact h1
    · exact sle_trans _ _ _ h1 (List.rel_of_pairwise_cons ih z)
theorem sorted_pw : ∀ (l : List Str), sortedS l = true → l.Pairwise fun a b => sle a b = true
  | [], _ => .nil
  | x :: r, h => rising_pw x r h
theorem ssort_eq {xs ys : List Str} (h1 : ys.Perm xs) (h2 : sortedS ys = true) : ys = ssort xs := by
  have h3 := List.pairwise_mergeSort (le := sle) sle_trans sle_total xs
  exact (h1.trans (List.mergeSort_perm xs _).symm).eq_of_pairwise (fun x y _ _ h1 h2 => sle_anti h1 h2) (sorted_pw ys h2) h3
def skeys : List Key → Option (List Str)
  | [] => some []
  | .inr x :: ks => (skeys ks).map fun xs => x :: xs
  | _ => none
theorem skeys_eq : ∀ {ks : List Key} {xs : List Str}, skeys ks = some xs → ks = xs.map Sum.inr
  | [], _, e => by cases e; rfl
  | .inr x :: ks, _, e => by
    obtain ⟨ys, e2, e3⟩ := Option.map_eq_some_iff.mp (show (skeys ks).map _ = _ from e)
    subst e3
    rw [skeys_eq e2]
    rfl
  | .inl _ :: _, _, e => by cases e
theorem skeys_map : ∀ (xs : List Str), skeys (xs.map Sum.inr) = some xs
  | [] => rfl
  | x :: xs => by
    show (skeys (xs.map Sum.inr)).map _ = _
    rw [skeys_map xs]
    rfl
def rSortD : List V → Hp → VK → Prop := fun xs H Q => ∃ (a : Addr) (kvs : List (Key × V)) (ks : List Str), xs = [.ref a] ∧ Rd H a (.dK kvs) ∧ kvs.map (·.1) = ks.map Sum.inr ∧ ks.length < 64 ∧
    ∀ ys p, ys.Perm ks → sortedS ys = true → H p = none → Q (.ref p) (upd H p (.lst (ys.map V.str)))
def gSortD (t : T) : Option T := t.dk?.bind fun p => (skeys p.1).bind fun ks => if ks.length < 64 then some (.f (.lst ((ssort ks).map .str))) else none
def gSortI (t : T) : Option T := t.ls?.bind fun ds => (intsOf ds).map fun ns => .f (.lst ((isort ns).map .int))
def gSortS (t : T) : Option T := t.ls?.bind fun ds => (strsOf ds).bind fun xs => if xs.length < 64 then some (.f (.lst ((ssort xs).map .str))) else none
def gSorted1 (t : T) : Option T := match gSortI t with
  | some x => some x
  | none => match gSortD t with
    | some x => some x
    | none => gSortS t
def gSorted (ts : List T) : Option T := match ts with
  | [t] => gSorted1 t
  | _ => none
def rSortX (K : PySem.W.Frag) : List V → Hp → VK → Prop := fun xs H Q => rSortedI K xs H Q ∨ rSortD xs H Q ∨ rSortedS K xs H Q
theorem sn_sorted : Sn W (rSortX W.K) gSorted := by
  intro b F ρ σ X H ts τ xs Q S r e k
  match ts, e with
  | [t], e =>
    obtain ⟨x, rfl, r1⟩ := rv1 r
    have e' : gSorted1 t = some τ := e
    clear e
    unfold gSorted1 at e'
    cases hI : gSortI t with
    | some z =>
      rw [hI] at e'
      cases e'
      obtain ⟨ds, e1, e2⟩ := Option.bind_eq_some_iff.mp hI
      obtain ⟨ns, e3, e4⟩ := Option.map_eq_some_iff.mp e2
      subst e4
      obtain ⟨p, vs, ex, hs, q⟩ := r1.ls e1 S.le
      subst ex
      rw [intsOf_eq e3] at q
      have hv : vs = ns.map V.int := Reps.ints q
      subst hv
      refine .inl ⟨p, ns, rfl, hs, fun ns' q' h1 h2 hq => ?_⟩
      rw [isort_eq h1 h2]
      exact k.lst S (Reps.of_ints _) q' hq
    | none =>
      rw [hI] at e'
      cases hD : gSortD t with
      | some z =>
        rw [hD] at e'
        cases e'
        obtain ⟨⟨ks, ds⟩, e1, e2⟩ := Option.bind_eq_some_iff.mp hD
        obtain ⟨xs, e3, e4⟩ := Option.bind_eq_some_iff.mp e2
        split at e4
        · rename_i hz
          cases e4
          obtain ⟨p, kvs, ex, hs, hk, q⟩ := r1.dk e1 S.le
          subst ex
          refine .inr (.inl ⟨p, kvs, xs, rfl, hs, hk.trans (skeys_eq e3), hz, fun ys q' h1 h2 hq => ?_⟩)
          rw [ssort_eq h1 h2]
          exact k.lst S (Reps.of_strs _) q' hq
        · cases e4
      | none =>
        rw [hD] at e'
        obtain ⟨ds, e1, e2⟩ := Option.bind_eq_some_iff.mp (show t.ls?.bind _ = some τ from e')
        obtain ⟨xs, e3, e4⟩ := Option.bind_eq_some_iff.mp e2
        split at e4
        · rename_i hz
          cases e4
          obtain ⟨p, vs, ex, hs, q⟩ := r1.ls e1 S.le
          subst ex
          rw [strsOf_v q e3] at hs
          refine .inr (.inr ⟨p, xs, rfl, hs, hz, fun ys q' h1 h2 hq => ?_⟩)
          rw [ssort_eq h1 h2]
          exact k.lst S (Reps.of_strs _) q' hq
        · cases e4
theorem callSorted (j : c.J) : CallR (c.X j) (.builtin "sorted") (rSortX c.W.K) := by
  have h := CallR_or (cr_sortedI (X := c.X j)) (CallR_or (call_sortedD (c.calm j)) (cr_sortedS (X := c.X j)))
  rw [c.hK j] at h
  exact h
/-! max(a list of ints) -/
def imax : List Int → Option Int
  | [] => none
  | n :: ns => some (ns.foldl (fun a b => max a b) n)
theorem foldl_max : ∀ (ns : List Int) (n : Int), (ns.foldl (fun a b => max a b) n ∈ n :: ns) ∧ ∀ y ∈ n :: ns, y ≤ ns.foldl (fun a b => max a b) n
  | [], n => ⟨by simp, fun y hy => by simp at hy; subst hy; exact Int.le_refl _⟩
  | m :: ns, n => by
    obtain ⟨h1, h2⟩ := foldl_max ns (max n m)
    refine ⟨?_, fun y hy => ?_⟩
    · rcases List.mem_cons.mp h1 with z | z
      · rw [List.foldl_cons, z]
        rcases Int.le_total n m with q | q
        · rw [Int.max_eq_right q]; simp
        · rw [Int.max_eq_left q]; simp
      · exact List.mem_cons_of_mem _ (List.mem_cons_of_mem _ z)
    · rw [List.foldl_cons]
      have h3 := h2 (max n m) List.mem_cons_self
      rcases List.mem_cons.mp hy with z | z
      · subst z; omega
      · rcases List.mem_cons.mp z with z | z
        · subst z; omega
        · exact h2 y (List.mem_cons_of_mem _ z)
theorem imax_eq {ns : List Int} {m k : Int} (h1 : m ∈ ns) (h2 : ∀ y ∈ ns, y ≤ m) (h3 : imax ns = some k) : m = k := by
  cases ns with
  | nil => cases h3
  | cons n ns =>
    cases h3
    obtain ⟨h4, h5⟩ := foldl_max ns n
    exact Int.le_antisymm (h5 m h1) (h2 _ h4)
def gMaxL (ts : List T) : Option T := match ts with
  | [t] => t.ls?.bind fun ds => (intsOf ds).bind fun ns => (imax ns).map fun m => .f (.int m)
  | _ => none
theorem sn_maxL : Sn W (rMax W.K) gMaxL := by
  intro b F ρ σ X H ts τ xs Q S r e k
  match ts, e with
  | [t], e =>
    obtain ⟨x, rfl, r1⟩ := rv1 r
    obtain ⟨ds, e1, e⟩ := Option.bind_eq_some_iff.mp (show t.ls?.bind _ = some τ from e)
    obtain ⟨ns, e2, e⟩ := Option.bind_eq_some_iff.mp e
    obtain ⟨m, e3, e⟩ := Option.map_eq_some_iff.mp e
    subst e
    obtain ⟨p, vs, ex, hs, q⟩ := r1.ls e1 S.le
    subst ex
    rw [intsOf_eq e2] at q
    have hv : vs = ns.map V.int := Reps.ints q
    subst hv
    refine ⟨p, ns, rfl, hs, ?_, fun m' h1 h2 => ?_⟩
    · cases ns with
      | nil => cases e3
      | cons n ns => simp
    · rw [imax_eq h1 h2 e3]
      exact k.d S rfl
theorem callMaxL (j : c.J) : CallR (c.X j) (.builtin "max") (rMax c.W.K) := by have h := cr_max (c.calm j); rw [c.hK j] at h; exact h
end
end Z


namespace Z
open PySem PySem.Spec PyProof.Rows L2
/-! ### a frame that begins now -/
section
variable {W : Wd} {b : Bs} {F H : Hp} {ρ : List T} {σ : L2.St} {X : List Tm}
theorem SR.rebase (S : SR W b F ρ σ X H) (hm : 0 < b.As.length) : ∃ b2 : Bs, b2.As.length = b.As.length ∧ b2.io = b.io ∧ SR W b2 F ρ σ X H ∧
    ∀ F' ρ' X' H', SR W b2 F' ρ' σ X' H' → Inc F F' → SR W b F' ρ' σ X' H' ∧
      ∀ (i C : Nat) (ns : List Str) (ts : List T) (a : Addr), ρ[i]? = some (T.o C ns ts) → σ[i]? = some (some (V.ref a)) → ∃ dx kvs kvs', H a = some (.ins (W.cl C) dx kvs) ∧ H' a = some (.ins (W.cl C) dx kvs') ∧ ∀ v, kvs.lookup (Str.ofString "endings") = some v → kvs'.lookup (Str.ofString "endings") = some v := by
  obtain ⟨A0, As', hA⟩ : ∃ A0 As', b.As = A0 :: As' := by
    cases h : b.As with
    | nil => rw [h] at hm; cases hm
    | cons a l => exact ⟨a, l, rfl⟩
  obtain ⟨le, f0, fn, kept, stab, pin, fps, xps, s1, s2, ⟨nd, ow⟩, lc1, lc2⟩ := S
  have lX : X.length = xps.length := by have := RelTs.lenA s2; simpa using this.2
  have mine : ∀ a ∈ fps.flatten ++ xps.flatten, b.H0 a = none ∨ a ∈ b.A := fun a ha => by
    rcases List.mem_append.mp ha with z | z
    · exact LocS.old lc1 z
    · exact LocX.old lX lc2 z
  have bA : ∀ a, a ∈ b.A ↔ a ∈ A0 ∨ a ∈ As'.flatten := fun a => by
    show a ∈ b.As.flatten ↔ _
    rw [hA, List.flatten_cons, List.mem_append]
  let b2 : Bs := ⟨H, F, (fps.flatten ++ xps.flatten) :: As', b.io⟩
  have b2A : ∀ a, a ∈ b2.A ↔ a ∈ fps.flatten ++ xps.flatten ∨ a ∈ As'.flatten := fun a => by
    show a ∈ ((fps.flatten ++ xps.flatten) :: As').flatten ↔ _
    rw [List.flatten_cons, List.mem_append]
  have live : ∀ a, H a = none → b.H0 a = none := fun a h => by
    cases e : b.H0 a with
    | none => rfl
    | some o =>
      by_cases q : a ∈ b.A
      · obtain ⟨u, h1, _⟩ := stab a o e q
        rw [h] at h1; cases h1
      · rw [kept a o e q] at h; cases h
  have conv : ∀ a, H a = none ∨ a ∈ b2.A → b.H0 a = none ∨ a ∈ b.A := fun a h => by
    rcases h with h | h
    · exact .inl (live a h)
    · rcases (b2A a).mp h with h | h
      · exact mine a h
      · exact .inr ((bA a).mpr (.inr h))
  refine ⟨b2, by rw [hA]; rfl, rfl, ⟨le, Inc.refl F, fun a o e => .inl e, fun a o e _ => e, fun a o e _ => ⟨o, e, Stb.refl o⟩, pin, fps, xps, s1, s2, ⟨nd, ow⟩, fun i f hf a ha => .inr ((b2A a).mpr (.inl (List.mem_append_left _ (List.mem_flatten.mpr ⟨f, List.mem_of_getElem? hf, ha⟩)))), LocX.any fun a ha => .inr ((b2A a).mpr (.inl (List.mem_append_right _ ha)))⟩, ?_⟩
  intro F' ρ' X' H' S' inc
  obtain ⟨le', f0', fn', kept', stab', pin', fps', xps', s1', s2', ow', lc1', lc2'⟩ := S'
  have lX' : X'.length = xps'.length := by have := RelTs.lenA s2'; simpa using this.2
  refine ⟨⟨le', f0.trans inc, fun a o e => ?_, fun a o e na => ?_, fun a o e ha => ?_, pin', fps', xps', s1', s2', ow', fun i f hf a ha => conv a (lc1' i f hf a ha), LocX.any fun a ha => conv a (LocX.old lX' lc2' ha)⟩, ?_⟩
  · rcases fn' a o e with z | z
    · exact fn a o z
    · exact .inr (conv a z)
  · have h1 := kept a o e na
    refine kept' a o h1 fun z => ?_
    rcases conv a (.inr z) with q | q
    · rw [q] at e; cases e
    · exact na q
  · obtain ⟨u, h1, h2⟩ := stab a o e ha
    by_cases z : a ∈ b2.A
    · obtain ⟨u', h3, h4⟩ := stab' a u h1 z
      exact ⟨u', h3, h2.trans h4⟩
    · exact ⟨u, kept' a u h1 z, h2⟩
  · intro i C ns ts a e1 e2
    obtain ⟨s, f, g1, g2, r⟩ := s1.get e1
    rw [e2] at g1
    cases g1
    obtain ⟨p, dx, kvs, fs, ep, ef, hp, hk, rs⟩ := r
    cases ep
    have ha : a ∈ b2.A := (b2A a).mpr (.inl (List.mem_append_left _ (List.mem_flatten.mpr ⟨f, List.mem_of_getElem? g2, by rw [ef]; exact List.mem_cons_self⟩)))
    obtain ⟨u, h1, h2⟩ := stab' a _ hp ha
    obtain ⟨kvs', h3, h4⟩ := h2 _ _ _ rfl
    subst h3
    exact ⟨dx, kvs, kvs', hp, h1, h4⟩
end
/-! ### o[k] = e, k with an effect, o an object's list that stays -/
def isEnd (π : List Sel) : Option Unit := match π with
  | [.at x] => if x = Str.ofString "endings" then some () else none
  | _ => none
def kSetE (i : Nat) (π : List Sel) (d : D) (r : Re) : Option Out := match r with
  | .ok t ρ1 => t.d?.bind fun q => (mutF i π (setT q d) ρ1).map .nx
  | .xc C ρ1 => some (.xc C ρ1)
def isObj : T → Bool
  | .o _ _ _ => true
  | _ => false
def sSetIxE (i : Nat) (fp : List T → Option (List Sel)) (fk : List T → Option Re) (fe : List T → Option T) : FS := fun ρ => (fe ρ).bind fun x => x.d?.bind fun d => (fp ρ).bind fun π => (isEnd π).bind fun _ => (ρ[i]?).bind fun t => (t.getP π).bind fun u => if isObj t = true ∧ owned u = true then (fk ρ).bind (kSetE i π d) else none
section
variable {c : Ctx} {e ek o : Expr} {fk : List T → Option Re} {fe : List T → Option T} {fp : List T → Option (List Sel)} {i : Nat} {pos pos' : Pos}
theorem sm_setIxE (hm : Nat.blt 0 c.P.m = true) (ho : Lo c o i fp) (hk : Eo c ek fk) (he : Ev c e fe)
    (hsw : ∀ j, swapsWithSole [.Subscript o ek pos'] e pos.line (c.X j).env = pure false := by intro _; rfl) (hw : ∀ j, swappedStores [.Subscript o ek pos'] e (c.X j).env = pure none := by intro _; rfl)
    (h1 : ∀ j, (assignEach [.Subscript o ek pos'] (c.X j).env).map (·.2) = [assign (.Subscript o ek pos') (c.X j).env] := by intro _; rfl)
    (ha : ∀ j v, assign (.Subscript o ek pos') (c.X j).env v = (do
      let ov ← holding [v] (eval o (c.X j).env)
      let iv ← holding [v, ov] (eval ek (c.X j).env)
      standAt pos'
      holding [v, ov, iv] (setItem ov iv v)
      release [v, ov, iv] []) := by intro _ _; rfl) : Sm c (.Assign [.Subscript o ek pos'] e pos) (sSetIxE i fp fk fe) := by
  obtain ⟨to, po, so⟩ := ho
  obtain ⟨te, pe, se⟩ := he
  obtain ⟨tk, pk, sk⟩ := hk
  refine ⟨tAsg te (L2.gSub to tk rSetU), fun j => ps_asg (pe j) (pg_sub (po j) (pk j) (set_U (c.hu1 j)) (ha j)) (hsw j) (hw j) (h1 j), ?_⟩
  intro b F ρ σ X H out D hb S eq k
  unfold sSetIxE at eq
  obtain ⟨x, e2, eq⟩ := Option.bind_eq_some_iff.mp eq
  obtain ⟨d, e3, eq⟩ := Option.bind_eq_some_iff.mp eq
  obtain ⟨π, e1, eq⟩ := Option.bind_eq_some_iff.mp eq
  obtain ⟨_, e4, eq⟩ := Option.bind_eq_some_iff.mp eq
  obtain ⟨t, e5, eq⟩ := Option.bind_eq_some_iff.mp eq
  obtain ⟨u, e6, eq⟩ := Option.bind_eq_some_iff.mp eq
  split at eq
  · rename_i hou
    obtain ⟨hobj, hown⟩ := hou
    obtain ⟨r, e7, e8⟩ := Option.bind_eq_some_iff.mp eq
    cases d_some e3
    have hπ : π = [.at (Str.ofString "endings")] := by
      unfold isEnd at e4
      split at e4
      · split at e4
        · rename_i h; rw [h]
        · cases e4
      · cases e4
    subst hπ
    refine se b F ρ σ X H _ _ S e2 fun y F1 H1 S1 i1 s1 r1 => ?_
    refine so b F1 ρ σ X H1 _ t u _ S1 e1 e5 e6 hown fun p v F2 H2 S2 i2 s2 hv hat => ?_
    have hm2 : 0 < b.As.length := by rw [hb.1]; exact Nat.le_of_ble_eq_true hm
    obtain ⟨b2, q1, q2, S3, q3⟩ := S2.rebase hm2
    obtain ⟨C, ns, ts, rfl⟩ : ∃ C ns ts, t = .o C ns ts := by
      cases t with
      | o C ns ts => exact ⟨C, ns, ts, rfl⟩
      | _ => cases hobj
    refine sk b2 F2 ρ σ X H2 r _ ⟨by rw [q1]; exact hb.1, by rw [q2]; exact hb.2⟩ S3 e7 ?_
    cases r with
    | xc C' ρ1 =>
      cases e8
      intro d' F' H' S' i'
      exact k d' σ F' H' (q3 F' ρ1 X H' S' i').1 ((i1.trans i2).trans i')
    | ok τ ρ1 =>
      obtain ⟨q, e9, e10⟩ := Option.bind_eq_some_iff.mp (show (τ.d?.bind fun q => (mutF i [.at (Str.ofString "endings")] (setT q d) ρ1).map Out.nx) = some out from e8)
      obtain ⟨ρ', e11, e12⟩ := Option.map_eq_some_iff.mp e10
      subst e12
      cases d_some e9
      intro w F' H' S' i'
      obtain ⟨a, C2, dx2, kvs2, w2, hva, ha1, ha2, ha3⟩ := hat
      obtain ⟨S4, q5⟩ := q3 F' ρ1 _ H' S' i'
      obtain ⟨dx, kvs, kvs', g1, g2, g3⟩ := q5 i C ns ts a e5 (by rw [hv, hva])
      rw [ha1] at g1
      cases g1
      have hat' : AtV H' v [.at (Str.ofString "endings")] p := ⟨a, _, dx2, kvs', w2, hva, g2, g3 _ ha2, ha3⟩
      exact S4.drop.setIx e11 hv hat' (Rep.inc i' (r1.ext i2 s2).rep) S4.top fun H5 S5 => k σ F' H5 S5 ((i1.trans i2).trans i')
  · cases eq
end
/-! ### an operator behind an effect; a thing made of nothing; a number of the module -/
def fE2 (g : T → T → Option T) (fo : List T → Option Re) (fb : List T → Option T) : List T → Option Re := fun ρ => (fo ρ).bind fun r => match r with
  | .ok t ρ1 => t.d?.bind fun d => (fb ρ1).bind fun y => (g (.f d) y).bind fun z => z.d?.map fun dz => .ok (.f dz) ρ1
  | .xc C ρ1 => some (.xc C ρ1)
theorem so_2l {W : Wd} {P : Sg} {E : L2.St → XK} {r2 : R2} {g : T → T → Option T} {ta tb : TE} {fo : List T → Option Re} {fb : List T → Option T} (hr : S2 W r2 g) (ha : So W P E ta fo) (hb : Sv W tb fb) : So W P E (tOp r2 ta tb) (fE2 g fo fb) := by
  intro b F ρ σ X H r Q hB S e p
  unfold fE2 at e
  obtain ⟨r1, e1, e2⟩ := Option.bind_eq_some_iff.mp e
  refine ha b F ρ σ X H r1 _ hB S e1 ?_
  cases r1 with
  | xc C ρ1 =>
    cases e2
    exact p
  | ok t ρ1 =>
    obtain ⟨d, e3, e2⟩ := Option.bind_eq_some_iff.mp (show (t.d?.bind fun d => (fb ρ1).bind fun y => (g (.f d) y).bind fun z => z.d?.map fun dz => Re.ok (.f dz) ρ1) = some r from e2)
    obtain ⟨y, e4, e2⟩ := Option.bind_eq_some_iff.mp e2
    obtain ⟨z, e5, e2⟩ := Option.bind_eq_some_iff.mp e2
    obtain ⟨dz, e6, e7⟩ := Option.map_eq_some_iff.mp e2
    subst e7
    cases d_some e3
    cases d_some e6
    intro v F1 H1 S1 i1
    have rt := S1.top
    refine hb b F1 ρ1 σ X H1 _ _ S1.drop e4 fun w F2 H2 S2 i2 s2 rw2 => ?_
    exact hr b F2 ρ1 σ X H2 (.f d) _ _ v w Q S2 ⟨[], rfl, Rep.inc i2 rt⟩ rw2 e5 fun v' F' H' S' i' s' r' => p v' F' H' (S'.push r'.rep) (i1.trans (i2.trans i'))
theorem eo_op {c : Ctx} {a e' : Expr} {fo : List T → Option Re} {fb : List T → Option T} {pos : Pos} {op : Operator} {rd : R2} {g : T → T → Option T} (hop : ∀ j, OpR (c.X j) (binaryOp op) rd) (hr : S2 c.W rd g) (ha : Eo c a fo) (hb : Ev c e' fb) : Eo c (.BinOp a op e' pos) (fE2 g fo fb) := by
  obtain ⟨ta, pa, sa⟩ := ha
  obtain ⟨tb, pb, sb⟩ := hb
  exact ⟨tOp rd ta tb, fun j => pe_op (hop j) (pa j) (pb j), so_2l hr sa sb⟩
theorem eo_sub {c : Ctx} {a e' : Expr} {fo : List T → Option Re} {fb : List T → Option T} {pos : Pos} (ha : Eo c a fo) (hb : Ev c e' fb) : Eo c (.BinOp a .Sub e' pos) (fE2 Z.gSub fo fb) := eo_op (fun _ => op_sub) s2_sub ha hb
theorem eo_add {c : Ctx} {a e' : Expr} {fo : List T → Option Re} {fb : List T → Option T} {pos : Pos} (ha : Eo c a fo) (hb : Ev c e' fb) : Eo c (.BinOp a .Add e' pos) (fE2 gAdd fo fb) := eo_op (fun j => by have h := op_addU (X := c.X j); rw [c.hK j] at h; exact h) s2_add ha hb
section
variable {c : Ctx} {x : Str} {p pos : Pos} {io : List Nat} {G : List T → Option Re} {k C : Nat} {CX : CXT}
theorem eo_make0 {E : XK} (M : ∀ j, ClM (c.X j).prog (c.X j).w c.W (c.X j).mg (c.X j).base CX k x C io G) (hk : k + 1 ≤ c.k) (hg : ∀ j, Gl (c.X j) x) (hx : ∀ j, Passes CX (c.X j) E) (hdb : (x == ("__debug__" : Str)) = false := by decide) : Eo c (.Call (.Name x p) [] [] pos) (fMake C io G aNil) := by
  refine ⟨tMake (c.W.cl C) (spF c.W io G) [] E tNil, fun j => ?_, so_make ?_⟩
  · obtain ⟨f, fd, ps, F, hm, hM, hb⟩ := M j
    have hKj := c.hK j
    exact pe_make0 (by rw [hKj]; exact hM) (by rw [hKj]; exact F) ((c.room j).mono hk) (hg j) hm (by rw [hKj]; exact hb) .nil (hx j) hdb
  · intro b F ρ σ X H τs Q S e k
    cases e
    exact k [] F H S (Inc.refl F) (Same.refl H) RelVs.nil
theorem ev_gc {x : Str} {i : Int} (hg : ∀ j, Gl (c.X j) x) (h : ∀ j, ∃ u, (c.X j).mg x = some u ∧ L2.RelV (.int i) u) (hd : (x == ("__debug__" : Str)) = false := by decide) : Ev c (.Name x pos) (fC (.int i)) :=
  ⟨_, fun j => pe_glob (hg j) (h j).choose_spec.1 (h j).choose_spec.2 hd, sv_C fun _ => rfl⟩
end
end Z

namespace Z
open PySem PySem.Spec PyProof.Rows L2
/-! ### two parameters, one thing -/
def AlOk (io : List Nat) (al : List (Nat × Nat)) (vs : List V) : Prop := ∀ q ∈ al, q.1 ∈ io ∧ q.2 ∈ io ∧ ∃ v, vs[q.1]? = some v ∧ vs[q.2]? = some v
def spFA (W : Wd) (io : List Nat) (al : List (Nat × Nat)) (G : List T → Option Re) : Sp := fun vs H Q E => AlOk io al vs ∧ spF W io G vs H Q E
section
variable {P : Program} {w : World} {W : Wd} {mg : Str → Option Value} {base : Heap}
theorem fnZA {x qual : Str} {st : Stmt} {f : Addr} {fd : FuncData} {N ps : List Str} {k : Nat} {io : List Nat} {al : List (Nat × Nat)} {fb : FS} (F : Fun W.K x qual st f fd) (S : FnScope N ps (defScope st)) (hN : ps.length ≤ N.length) (hio : ∀ i ∈ io, i < ps.length)
    (body : ∀ (cdv : Value) (A : Around) (outer : List Env) (s : Shared) (H : Hp) (E : XK) (hr : Room k (A.deeper (envOfC qual (defScope st) s.heap.objs.size f cdv))),
      Sms (ctx0 (P := P) (w := w) W (mg := mg) (base := base) S.nd (m := ps.length) (io := io) (al := al) (outer := outer) (H := H) (E := E) hr) (defBody st) fb) :
    FnOk P w W.K mg base CX0 (k + 1) f fd ps (spFA W io al (runF ps.length N.length io fb)) := by
  have len : ∀ vs H Q E, spFA W io al (runF ps.length N.length io fb) vs H Q E → vs.length = ps.length := by
    rintro vs H Q E ⟨_, F, ts, fps, r, _, rel, _, _, e, _⟩
    unfold runF at e
    split at e
    · rename_i hl
      have := RelTs.lenA rel
      omega
    · cases e
  refine F.ok S len fun cdv A outer s H vs Q E hr h => ?_
  obtain ⟨t, p, q⟩ := body cdv A outer s H E hr
  exact ⟨t, p (), spF_end h.1 rfl hN hio (len _ _ _ _ h) h.2 q⟩
structure ClA (P : Program) (w : World) (W : Wd) (mg : Str → Option Value) (base : Heap) (CX : CXT) (k : Nat) (x : Str) (io : List Nat) (al : List (Nat × Nat)) (G : List T → Option Re) : Prop where
  ex : ∃ f fd ps, FnOk P w W.K mg base CX k f fd ps (spFA W io al G) ∧ mg x = some (.ref f) ∧ PySem.W.keepIn W.K (.ref f) = true ∧ Binds W.K fd ps []
theorem ClA.mk' {CX : CXT} {k : Nat} {x : Str} {io : List Nat} {al : List (Nat × Nat)} {G : List T → Option Re} {f : Addr} {fd : FuncData} {ps : List Str} (h : FnOk P w W.K mg base CX k f fd ps (spFA W io al G)) (hm : mg x = some (.ref f)) (hk : PySem.W.keepIn W.K (.ref f) = true) (hb : Binds W.K fd ps []) : ClA P w W mg base CX k x io al G := ⟨f, fd, ps, h, hm, hk, hb⟩
end
def Ar.sl : Ar → Option Nat
  | .v _ => none
  | .s j => some j
  | .a j => some j
def sameS (as : List Ar) (i j : Nat) : Bool := match as[i]?, as[j]? with
  | some x, some y => match x.sl, y.sl with
    | some k, some l => k == l
    | _, _ => false
  | _, _ => false
def alR (io : List Nat) (al : List (Nat × Nat)) : Rs → Bool
  | .ok as _ => al.all fun q => io.contains q.1 && io.contains q.2 && sameS as q.1 q.2
  | .xc _ _ => true
theorem Args.at' {σ : L2.St} : ∀ {as : List Ar} {vs : List V} {i j : Nat} {x : Ar}, Args σ as vs → as[i]? = some x → x.sl = some j → ∃ v, vs[i]? = some v ∧ σ[j]? = some (some v)
  | [], _, _, _, _, _, e, _ => by simp at e
  | .v t :: r, _, 0, _, _, _, e, h => by cases e; cases h
  | .s k :: r, _, 0, _, _, ⟨v, vr, e1, g1, _⟩, e, h => by cases e; cases h; exact ⟨v, by rw [e1]; rfl, g1⟩
  | .a k :: r, _, 0, _, _, ⟨v, vr, e1, g1, _⟩, e, h => by cases e; cases h; exact ⟨v, by rw [e1]; rfl, g1⟩
  | .v t :: r, _, i + 1, _, _, ⟨v, vr, e1, g⟩, e, h => by
    obtain ⟨u, q1, q2⟩ := Args.at' (i := i) g (by simpa using e) h
    exact ⟨u, by rw [e1]; simpa using q1, q2⟩
  | .s k :: r, _, i + 1, _, _, ⟨v, vr, e1, _, g⟩, e, h => by
    obtain ⟨u, q1, q2⟩ := Args.at' (i := i) g (by simpa using e) h
    exact ⟨u, by rw [e1]; simpa using q1, q2⟩
  | .a k :: r, _, i + 1, _, _, ⟨v, vr, e1, _, g⟩, e, h => by
    obtain ⟨u, q1, q2⟩ := Args.at' (i := i) g (by simpa using e) h
    exact ⟨u, by rw [e1]; simpa using q1, q2⟩
theorem al_ok {σ : L2.St} {as : List Ar} {ρ : List T} {vs : List V} {io : List Nat} {al : List (Nat × Nat)} (h : alR io al (.ok as ρ) = true) (g : Args σ as vs) : AlOk io al vs := by
  intro q hq
  have h1 := List.all_eq_true.mp h q hq
  obtain ⟨h2, h3⟩ := Bool.and_eq_true_iff.mp h1
  obtain ⟨h4, h5⟩ := Bool.and_eq_true_iff.mp h2
  refine ⟨List.contains_iff_mem.mp h4, List.contains_iff_mem.mp h5, ?_⟩
  unfold sameS at h3
  split at h3
  · rename_i x y ex ey
    split at h3
    · rename_i k l hk hl
      have hkl : k = l := by simpa using h3
      subst hkl
      obtain ⟨v, a1, a2⟩ := g.at' ex hk
      obtain ⟨u, b1, b2⟩ := g.at' ey hl
      rw [a2] at b2
      cases b2
      exact ⟨v, a1, b1⟩
    · cases h3
  · cases h3
def fCallA (al : List (Nat × Nat)) (io : List Nat) (G : List T → Option Re) (fs : List T → Option Rs) : List T → Option Re := fun ρ => (fs ρ).bind fun r => if alR io al r = true then fCall io G (fun _ => some r) ρ else none
theorem so_callA {W : Wd} {P : Sg} {E : L2.St → XK} {E' : XK} {t : TA} {io : List Nat} {al : List (Nat × Nat)} {G : List T → Option Re} {fs : List T → Option Rs} (hE : ∀ σ, E σ = E') (h : Sa W P E t fs) : So W P E (tCall (spFA W io al G) [] E' t) (fCallA al io G fs) := by
  intro b F ρ σ X H r Q hb S e k
  unfold fCallA at e
  obtain ⟨r1, e1, e⟩ := Option.bind_eq_some_iff.mp e
  split at e
  · rename_i hal
    unfold fCall at e
    rw [Option.bind_some] at e
    refine h b F ρ σ X H r1 _ hb S e1 ?_
    cases r1 with
    | xc C ρ1 =>
      cases e
      exact k
    | ok as ρ1 =>
      intro vs F1 H1 S1 g1 i1
      obtain ⟨⟨ts, ρ2⟩, e2, e⟩ := Option.bind_eq_some_iff.mp e
      obtain ⟨S2, h1, h2⟩ := take_ok S1 g1 e2
      split at e
      · rename_i hio
        obtain ⟨r2, e3, e⟩ := Option.bind_eq_some_iff.mp e
        obtain ⟨xa, q1, q2, q3⟩ := S2.call
        rw [h1, h2] at q1
        rw [h2] at q3
        rw [List.append_nil]
        refine ⟨al_ok hal g1, F1, ts, xa, r2, S2.le, q1, q2, hio, e3, ?_⟩
        cases r2 with
        | ok τ us =>
          intro v F' H' R i2
          simp only at e
          split at e
          · rename_i hl
            cases e
            have S3 := q3 io us F' _ H' (fun x hx => by rw [List.mem_singleton.mp hx]) R
            exact k v F' H' (put_ok S3 g1 (take_len e2) hl) (i1.trans i2)
          · cases e
        | xc C us =>
          intro d F' H' R i2
          simp only at e
          split at e
          · rename_i hl
            cases e
            have S3 := q3 io us F' _ H' (fun x hx => by cases hx) R
            have S4 := put_ok (Z := []) S3 g1 (take_len e2) hl
            have := k d F' H' S4 (i1.trans i2)
            rw [hE σ] at this
            exact this
          · cases e
      · cases e
  · cases e
/-- a name's thing, handed over a second time -/
def bAl (i : Nat) (g : List T → Option Rs) : List T → Option Rs := fun ρ => match ρ[i]? with
  | none => none
  | some .un => none
  | some _ => (g ρ).map fun r => match r with
    | .ok as ρ2 => .ok (.a i :: as) ρ2
    | r => r
section
variable {c : Ctx} {a : Expr} {es : List Expr} {fs : List T → Option Rs} {x : Str} {p pos : Pos} {io : List Nat} {al : List (Nat × Nat)} {G : List T → Option Re} {k : Nat} {CX : CXT}
theorem ao_al (i : Nat) {pos : Pos} (hr : Ao c es fs) (hi : c.N[i]? = some x := by rfl) (hv : ∀ j, Vis (c.X j).env.scope x := by intro _; first | exact Or.inl rfl | exact Or.inr (Or.inl rfl) | exact Or.inr (Or.inr rfl)) (hs : ∀ j, starEach (.Name x pos :: es) (c.X j).env = (false, eval (.Name x pos) (c.X j).env) :: starEach es (c.X j).env := by intro _; rfl)
    (hd : (x == ("__debug__" : Str)) = false := by decide) (hcd : (x == ("__classdict__" : Str)) = false := by decide) : Ao c (.Name x pos :: es) (bAl i fs) := by
  obtain ⟨u, q, s'⟩ := hr
  refine ⟨_, fun j => pa_cons (pe_var (i := i) (by rw [c.hN j]; exact hi) (hv j) hd hcd) (q j) (hs j), ?_⟩
  intro b F ρ σ X H r Q hb S e k
  unfold bAl at e
  cases z : ρ[i]? with
  | none => rw [z] at e; cases e
  | some t =>
    have ht : t ≠ .un := by
      rintro rfl
      rw [z] at e
      cases e
    have e2 : ((fs ρ).map fun r => match r with
      | .ok as ρ2 => Rs.ok (.a i :: as) ρ2
      | r => r) = some r := by
      rw [z] at e
      cases t with
      | un => exact absurd rfl ht
      | _ => exact e
    obtain ⟨r2, e3, e4⟩ := Option.map_eq_some_iff.mp e2
    obtain ⟨s, fp, e1, rr⟩ := S.slot z
    cases s with
    | none => exact absurd rr.1 ht
    | some v =>
      refine ⟨v, e1, s' b F ρ σ X H r2 _ hb S e3 ?_⟩
      cases r2 with
      | ok as ρ2 =>
        subst e4
        intro vs F2 H2 S2 g2 i2
        exact k (v :: vs) F2 H2 S2 ⟨v, vs, rfl, e1, g2⟩ i2
      | xc C ρ2 =>
        subst e4
        exact k
theorem eo_callA {E : XK} (C : ∀ j, ClA (c.X j).prog (c.X j).w c.W (c.X j).mg (c.X j).base CX k x io al G) (hk : k ≤ c.k) (hg : ∀ j, Gl (c.X j) x) (hE : ∀ σ, c.E σ = E) (hx : ∀ j, Passes CX (c.X j) E) (ha : Ao c (a :: es) fs) (hdb : (x == ("__debug__" : Str)) = false := by decide)
    (he : ∀ j, starEach (a :: es) (c.X j).env = (false, eval a (c.X j).env) :: starEach es (c.X j).env := by intro _; rfl) (hpl : ∀ j, (backTo pos (starEach es (c.X j).env)).any (·.1) = false := by intro _; rfl) : Eo c (.Call (.Name x p) (a :: es) [] pos) (fCallA al io G fs) := by
  obtain ⟨t, q, s⟩ := ha
  refine ⟨tCall (spFA c.W io al G) [] E t, fun j => ?_, so_callA hE s⟩
  obtain ⟨f, fd, ps, h, hm, hkp, hb⟩ := C j
  have hKj := c.hK j
  exact pe_call (by rw [hKj]; exact h) ((c.room j).mono hk) (hg j) hm (by rw [hKj]; exact hkp) (by rw [hKj]; exact hb) .nil (hx j) (q j) hdb (he j) (hpl j)
end
/-! ### x[k] = e, x another name of slot i's thing -/
section
variable {c : Ctx} {e ek : Expr} {fk fe : List T → Option T} {x : Str} {pos pos' pos2 : Pos}
theorem sm_setIxA (i j : Nat) (hal : c.P.al.contains (i, j) = true) (hk : Ev c ek fk) (he : Ev c e fe) (hj : c.N[j]? = some x := by rfl) (hv : ∀ j, Vis (c.X j).env.scope x := by intro _; first | exact Or.inl rfl | exact Or.inr (Or.inl rfl) | exact Or.inr (Or.inr rfl)) (hd : (x == ("__debug__" : Str)) = false := by decide) (hcd : (x == ("__classdict__" : Str)) = false := by decide)
    (hsw : ∀ j, swapsWithSole [.Subscript (.Name x pos2) ek pos'] e pos.line (c.X j).env = pure false := by intro _; rfl) (hw : ∀ j, swappedStores [.Subscript (.Name x pos2) ek pos'] e (c.X j).env = pure none := by intro _; rfl)
    (h1 : ∀ j, (assignEach [.Subscript (.Name x pos2) ek pos'] (c.X j).env).map (·.2) = [assign (.Subscript (.Name x pos2) ek pos') (c.X j).env] := by intro _; rfl)
    (ha : ∀ j v, assign (.Subscript (.Name x pos2) ek pos') (c.X j).env v = (do
      let ov ← holding [v] (eval (.Name x pos2) (c.X j).env)
      let iv ← holding [v, ov] (eval ek (c.X j).env)
      standAt pos'
      holding [v, ov, iv] (setItem ov iv v)
      release [v, ov, iv] []) := by intro _ _; rfl) : Sm c (.Assign [.Subscript (.Name x pos2) ek pos'] e pos) (sSetIx i pHere fk fe) := by
  obtain ⟨te, pe, se⟩ := he
  obtain ⟨tk, pk, sk⟩ := hk
  refine ⟨tAsg te (L2.gSub (tVar j) tk rSetU), fun j => ps_asg (pe j) (pg_sub (pe_var (by rw [c.hN j]; exact hj) (hv j) hd hcd) (pk j) (set_U (c.hu1 j)) (ha j)) (hsw j) (hw j) (h1 j), ?_⟩
  intro b F ρ σ X H out D hb S eq k
  unfold sSetIx at eq
  obtain ⟨y, e2, eq⟩ := Option.bind_eq_some_iff.mp eq
  obtain ⟨d, e3, eq⟩ := Option.bind_eq_some_iff.mp eq
  obtain ⟨π, e1, eq⟩ := Option.bind_eq_some_iff.mp eq
  obtain ⟨z, e5, eq⟩ := Option.bind_eq_some_iff.mp eq
  obtain ⟨q, e6, eq⟩ := Option.bind_eq_some_iff.mp eq
  obtain ⟨ρ', e4, eq⟩ := Option.map_eq_some_iff.mp eq
  subst eq
  cases e1
  cases d_some e3
  cases d_some e6
  obtain ⟨tt, uu, g1, g2, g3⟩ := mutF_own e4 setT_own
  refine se b F ρ σ X H _ _ S e2 fun y F1 H1 S1 i1 s1 r1 => ?_
  obtain ⟨v, v1, v2⟩ := hb.2.2 (i, j) (List.contains_iff_mem.mp hal)
  have p1 := S1.pin _ v1
  have p2 := S1.pin _ v2
  refine ⟨v, p2, ?_⟩
  obtain ⟨s, fp, f1, f2⟩ := S1.slot g1
  rw [p1] at f1
  cases f1
  have g2' : tt = uu := by cases g2; rfl
  subst g2'
  obtain ⟨p, rfl⟩ := owned_ref f2 g3
  refine sk b F1 ρ σ X H1 _ _ S1 e5 fun w F3 H3 S3 i3 s3 r3 => ?_
  exact S3.setIx e4 p1 (show AtV H3 (.ref p) [] p from rfl) (r1.ext i3 s3).rep r3.rep fun H' S' => k σ F3 H' S' (i1.trans i3)
end
/-! ### a dict's copy of one's own -/
def mCopy (fa : List T → Option T) : List T → Option (T × List T) := fun ρ => (fa ρ).bind fun t => t.dk?.map fun p => (.dk p.1 p.2, ρ)
theorem em_copy {c : Ctx} {a : Expr} {fa : List T → Option T} {apos cpos : Pos} (ha : Ev c a fa) (hbase : ∀ j, attributeBase a "copy" (c.X j).env (eval a (c.X j).env) = eval a (c.X j).env := by intro _; rfl) (hline : (apos.endLine == cpos.line) = true := by rfl) : Em c (.Call (.Attribute a "copy" apos) [] [] cpos) (mCopy fa) := by
  obtain ⟨ta, pa, sa⟩ := ha
  refine ⟨tDM0 rDCopy ta, fun j => pe_dm0 PySem.F.slot_dict_copy PySem.F.type_dict_copy mtd_copy (pa j) (hbase j) hline, ?_⟩
  intro b F ρ σ X H τ ρ' Q S e k
  unfold mCopy at e
  obtain ⟨t, e1, e⟩ := Option.bind_eq_some_iff.mp e
  obtain ⟨⟨ks, ds⟩, e2, e⟩ := Option.map_eq_some_iff.mp e
  cases e
  refine sa b F ρ σ X H _ _ S e1 fun x F1 H1 S1 i1 s1 r1 => ?_
  obtain ⟨p, kvs, ex, hp, hk, r⟩ := r1.dk e2 S1.le
  subst ex
  refine ⟨⟨p, kvs, rfl, hp⟩, p, kvs, rfl, rfl, hp, fun q hq => ?_⟩
  exact k _ F1 _ (S1.own hq ⟨q, kvs, rfl, rfl, upd_same, hk, r⟩) i1 (s1.trans fun a u e => by rw [upd_ne (ne_of_none e hq)]; exact e)
/-! ### a dict without keys -/
def fD0 : List T → Option T := fun _ => some (.f (.dct [] []))
theorem ev_d0 {c : Ctx} {pos : Pos} : Ev c (.Dict [] [] pos) fD0 := by
  refine ⟨_, fun _ => pe_dnewK, ?_⟩
  intro b F ρ σ X H τ Q S e k
  cases e
  intro q hq
  obtain ⟨S2, i2, s2⟩ := S.laid (o := .dK []) hq
  exact (k.mono i2 s2).d S2 ⟨q, [], rfl, .inl upd_same, rfl, rfl⟩
end Z

namespace Z
open PySem PySem.Spec PyProof.Rows L2
/-! ### dicts whose keys are tuples of numbers -/
def V.num : V → Option Int
  | .int i => some i
  | .bl b => some (if b = true then 1 else 0)
  | _ => none
def numsV : List V → Option (List Int)
  | [] => some []
  | d :: ds => (V.num d).bind fun i => (numsV ds).map fun is => i :: is
theorem kH_eq {P : Program} {w : World} (ks : List Int) : tupleKeyHash (leafKind P w) (ks.map Leaf.num) = kH ks := by
  unfold tupleKeyHash kH
  rw [List.map_map]
  rfl
theorem items_num {P : Program} {w : World} : ∀ {ks : List Int} {vs : List V} {us : List Value}, Vals vs us → numsV vs = some ks → ItemsAre (leafKind P w) (ks.map Leaf.num) us
  | _, _, _, .nil, e => by cases e; exact .nil
  | _, _, _, @Paired.cons _ _ _ v u vs us h t, e => by
    obtain ⟨i, e1, e⟩ := Option.bind_eq_some_iff.mp e
    obtain ⟨is, e2, e⟩ := Option.map_eq_some_iff.mp e
    subst e
    refine .cons ?_ (items_num t e2)
    cases v with
    | int j => obtain ⟨t, rfl⟩ := (show ∃ t, u = Value.int j t from h); cases e1; exact decide_eq_true rfl
    | bl c => obtain rfl := (show u = Value.bool c from h); cases e1; exact decide_eq_true rfl
    | _ => cases e1
theorem nums_of {W : Wd} {F : Hp} : ∀ {ds : List D} {vs : List V} {ks : List Int}, Reps W F ds vs → numsOf ds = some ks → numsV vs = some ks
  | [], _, _, r, e => by cases e; obtain rfl := (show _ = [] from r); rfl
  | d :: ds, _, _, r, e => by
    obtain ⟨v, vr, rfl, a, b⟩ := r
    obtain ⟨i, e1, e⟩ := Option.bind_eq_some_iff.mp e
    obtain ⟨is, e2, e⟩ := Option.map_eq_some_iff.mp e
    subst e
    have hv : V.num v = some i := by
      cases d with
      | int j => obtain rfl := (show v = V.int j from a); cases e1; rfl
      | bl j => obtain rfl := (show v = V.bl j from a); cases e1; rfl
      | _ => cases e1
    show (V.num v).bind _ = _
    rw [hv, Option.bind_some, nums_of b e2]
    rfl
section
variable {X : Cx} {pins : List (Addr × Obj)} {σ : L2.St} {H : Hp} {s : Shared}
abbrev YV : List (List Int × Addr × V) → List (List Int × Addr × Value) → Prop := Paired fun (x : List Int × Addr × V) (y : List Int × Addr × Value) => x.1 = y.1 ∧ x.2.1 = y.2.1 ∧ L2.RelV x.2.2 y.2.2
def yk (y : List Int × Addr × Value) : List Leaf × Addr × Value := (y.1.map Leaf.num, y.2)
theorem num_inj : ∀ {a b : List Int}, a.map Leaf.num = b.map Leaf.num → a = b
  | [], [], _ => rfl
  | [], _ :: _, h => by cases h
  | _ :: _, [], h => by cases h
  | a :: as, b :: bs, h => by
    injection h with h1 h2
    injection h1 with h1
    rw [h1, num_inj h2]
theorem atKey_num (ys : List (List Int × Addr × Value)) (k : List Int) : (atKey (ys.map yk) (k.map Leaf.num)).isSome = (ys.map (·.1)).any fun q => decide (q = k) := by
  induction ys with
  | nil => rfl
  | cons y ys ih =>
    have e : decide ((yk y).1 = k.map Leaf.num) = decide (y.1 = k) := by
      by_cases h : y.1 = k
      · rw [decide_eq_true h, decide_eq_true (by show y.1.map Leaf.num = _; rw [h])]
      · rw [decide_eq_false h]; exact decide_eq_false fun q => h (num_inj q)
    simp only [List.map_cons, List.any_cons]
    unfold atKey at ih ⊢
    rw [List.find?_cons, e]
    cases decide (y.1 = k) with
    | true => rfl
    | false => rw [Bool.false_or]; exact ih
theorem YV.keys : ∀ {xs : List (List Int × Addr × V)} {ys : List (List Int × Addr × Value)}, YV xs ys → xs.map (·.1) = ys.map (·.1) := fun r => by
  induction r with
  | nil => rfl
  | cons h _ ih => rw [List.map_cons, List.map_cons, ih, h.1]
theorem key_num {q : Addr} {vs : List V} {ks : List Int} (I : Inv X pins σ H s) (h : SqT X.K H q vs) (e : numsV vs = some ks) : (tupleKind (leafKind X.prog X.w)).is s.heap (ks.map Leaf.num) q := by
  obtain ⟨its, r, ⟨o, h1, h2, n, h3⟩, _⟩ := I.tuple h
  exact ⟨o, its.toArray, n, h1, h2, h3, by simpa using items_num r e⟩
def Keyed (K : PySem.W.Frag) (H : Hp) (xs : List (List Int × Addr × V)) : Prop := ∀ x ∈ xs, ∃ vs, SqT K H x.2.1 vs ∧ numsV vs = some x.1
theorem dx_of {p : Addr} {xs : List (List Int × Addr × V)} (I : Inv X pins σ H s) (hp : H p = some (dxO p xs)) (hk : Keyed X.K H xs) : xs.length ≤ sizeLine ∧ (p == sysModules) = false ∧ ∃ ys, YV xs ys ∧ s.heap.DictOfH (tupleKind (leafKind X.prog X.w)) p (ys.map yk) := by
  obtain ⟨⟨z, hd, ys, r, o, es, ep, h1, h2, h3, h4, h5⟩, _⟩ := (show ObjOk X.prog X.w H s.heap p (dxO p xs) from I.hok p _ hp)
  refine ⟨z, hd, ys, r, o, es, ep, h1, h2, h3, ?_, ?_, ?_⟩
  · rw [h4, List.map_map]
    refine List.map_congr_left fun y _ => ?_
    show (⟨kH y.1, .ref y.2.1, y.2.2⟩ : DictEntry) = ⟨tupleKeyHash (leafKind X.prog X.w) (y.1.map Leaf.num), .ref y.2.1, y.2.2⟩
    rw [kH_eq]
  · intro x hx
    obtain ⟨y, hy, rfl⟩ := List.mem_map.mp hx
    have all : ∀ {l : List (List Int × Addr × V)} {m : List (List Int × Addr × Value)}, YV l m → Keyed X.K H l → ∀ y ∈ m, (tupleKind (leafKind X.prog X.w)).is s.heap (y.1.map Leaf.num) y.2.1 := by
      intro l m q
      induction q with
      | nil => intro _ x hx; exact nomatch hx
      | @cons a b as bs hq t ih =>
        intro hk x hx
        rcases List.mem_cons.mp hx with e | hx
        · subst e
          obtain ⟨vs, a1, a2⟩ := hk a List.mem_cons_self
          rw [← hq.1, ← hq.2.1]
          exact key_num I a1 a2
        · exact ih (fun x hx => hk x (List.mem_cons_of_mem _ hx)) x hx
    exact all r hk y hy
  · rw [List.map_map]
    have e : ((fun x : List Leaf × Addr × Value => x.1) ∘ yk) = (fun l : List Int => l.map Leaf.num) ∘ (fun y : List Int × Addr × Value => y.1) := rfl
    rw [e, ← List.map_map]
    exact List.Pairwise.map _ (fun a b h q => h (num_inj q)) h5
theorem dx_ok {P : Program} {w : World} {H' : Hp} {h' : Heap} {p : Addr} {xs : List (List Int × Addr × V)} {ys : List (List Int × Addr × Value)} (z : xs.length ≤ sizeLine) (hd : (p == sysModules) = false) (r : YV xs ys) (dd : h'.DictOfH (tupleKind (leafKind P w)) p (ys.map yk)) : ObjOk P w H' h' p (dxO p xs) := by
  obtain ⟨o, es, ep, h1, h2, h3, h4, _, h5⟩ := dd
  refine ⟨⟨z, hd, ys, r, o, es, ep, h1, h2, h3, ?_, ?_⟩, ⟨o, h1⟩, ?_⟩
  · rw [h4, List.map_map]
    refine List.map_congr_left fun y _ => ?_
    show (⟨tupleKeyHash (leafKind P w) (y.1.map Leaf.num), .ref y.2.1, y.2.2⟩ : DictEntry) = ⟨kH y.1, .ref y.2.1, y.2.2⟩
    rw [kH_eq]
  · rw [List.map_map] at h5
    have e : ((fun x : List Leaf × Addr × Value => x.1) ∘ yk) = (fun l : List Int => l.map Leaf.num) ∘ (fun y : List Int × Addr × Value => y.1) := rfl
    rw [e, ← List.map_map] at h5
    exact List.Pairwise.of_map (S := (· ≠ ·)) _ (fun a b h q => h (by rw [q])) h5
  · rintro a1 a2 ⟨z, hd, ys, r, o, es, ep, h1, h2, h3, h4, h5⟩ k
    exact ⟨z, hd, ys, r, o, es, ep, k _ h1, h2, h3, h4, h5⟩
end
/-! {} -/
def tDNewX : TE := fun _ H Q => ∀ p, H p = none → Q (.ref p) (upd H p (dxO p []))
theorem pe_dnewX {X : Cx} {pos : Pos} : PE X (.Dict [] [] pos) tDNewX := ⟨fun pins s σ H Q I h =>
  wpAny_Dict_empty ⟨.ref s.heap.objs.size, _, I.laid (a := s.heap.objs.size) (o := dxO s.heap.objs.size []) (t' := s.toks) (fun _ _ q => Heap.get?_push_of_some _ q) (Nat.le_refl _)
    (dx_ok (P := X.prog) (w := X.w) (ys := []) (Nat.zero_le _) (beq_eq_false_iff_ne.mpr (Ne.symm (Nat.ne_of_lt I.big))) .nil (Heap.DictOfH.new _)), rfl, h _ (I.hok.fresh (Nat.le_refl _))⟩⟩
def fNewX : List T → Option Re := fun ρ => some (.ok (.di [] []) ρ)
theorem eo_newx {c : Ctx} {pos : Pos} : Eo c (.Dict [] [] pos) fNewX := by
  refine ⟨_, fun _ => pe_dnewX, ?_⟩
  intro b F ρ σ X H r Q hb S e k
  cases e
  intro p hp
  exact k _ F _ (S.own hp ⟨p, [], rfl, rfl, upd_same, rfl, (fun _ h => nomatch h), rfl⟩) (Inc.refl F)
/-! in -/
def rInX (K : PySem.W.Frag) (neg : Bool) : R2 := fun y x H Q => ∃ p xs q vs ks, x = .ref p ∧ H p = some (dxO p xs) ∧ Keyed K H xs ∧ y = .ref q ∧ SqT K H q vs ∧ numsV vs = some ks ∧ Q (.bl (xor neg ((xs.map (·.1)).any fun z => decide (z = ks)))) H
theorem op_inX {X : Cx} (hu : X.A.units + 1 < cLine) : OpR X (compareOp .In) (rInX X.K false) := by
  intro pins s σ H x y v u Q I rx ry h
  obtain ⟨p, xs, q, vs, ks, rfl, hp, hk, rfl, hq, hn, Qq⟩ := h
  obtain rfl : v = Value.ref q := rx
  obtain rfl : u = Value.ref p := ry
  obtain ⟨z, hd, ys, r, dd⟩ := dx_of I hp hk
  refine wpAny_in_heap (tupleKind_room_in1 hu) (key_num I hq hn) hd dd ?_
  rw [atKey_num, ← r.keys]
  rw [Bool.false_xor] at Qq
  exact ⟨.bl _, H, I.tok _, rfl, Qq⟩
theorem op_notInX {X : Cx} (hu : X.A.units + 1 < cLine) : OpR X (compareOp .NotIn) (rInX X.K true) := by
  intro pins s σ H x y v u Q I rx ry h
  obtain ⟨p, xs, q, vs, ks, rfl, hp, hk, rfl, hq, hn, Qq⟩ := h
  obtain rfl : v = Value.ref q := rx
  obtain rfl : u = Value.ref p := ry
  obtain ⟨z, hd, ys, r, dd⟩ := dx_of I hp hk
  refine wpAny_notIn_heap (tupleKind_room_in1 hu) (key_num I hq hn) hd dd ?_
  rw [atKey_num, ← r.keys]
  rw [Bool.true_xor] at Qq
  exact ⟨.bl _, H, I.tok _, rfl, Qq⟩
def T.di? : T → Option (List (List Int) × List D) | .di ks ds => some (ks, ds) | _ => none
def gInX (neg : Bool) : T → T → Option T := fun a b => a.ts?.bind fun l => (numsOf l).bind fun k => b.di?.bind fun ds => some (.f (.bl (xor neg (ds.1.any fun q => decide (q = k)))))
theorem keyed_of {W : Wd} {F H : Hp} (le : Le F H) {xs : List (List Int × Addr × V)} (h : ∀ x ∈ xs, ∃ l, numsOf l = some x.1 ∧ Rep W F (.tup l) (.ref x.2.1)) : Keyed W.K H xs := fun x hx => by
  obtain ⟨l, e, p, vs, ep, s, q⟩ := h x hx
  cases ep
  exact ⟨vs, SqT.le le s, nums_of q e⟩
theorem s2_inX {W : Wd} (neg : Bool) : S2 W (rInX W.K neg) (gInX neg) := by
  intro b F ρ σ X H t1 t2 τ x y Q S r1 r2 e k
  unfold gInX at e
  obtain ⟨l, e1, e⟩ := Option.bind_eq_some_iff.mp e
  obtain ⟨ks, e2, e⟩ := Option.bind_eq_some_iff.mp e
  obtain ⟨⟨kk, ds⟩, e3, e⟩ := Option.bind_eq_some_iff.mp e
  cases e
  obtain ⟨q, vs, rfl, hs, rq⟩ := r1.ts e1 S.le
  cases t2 with
  | di k2 d2 =>
    cases e3
    obtain ⟨fp, p, xs, ep, _, hp, hk, hy, _⟩ := r2
    refine ⟨p, xs, q, vs, ks, ep, hp, keyed_of S.le hy, rfl, hs, nums_of rq e2, ?_⟩
    rw [hk]
    exact k.d S rfl
  | _ => cases e3
def gInZ := or2 gIn (gInX false)
def gNotInZ := or2 gNotIn (gInX true)
theorem c_inZ {c : Ctx} : CmpR c .In gInZ := ⟨_, fun j => by
    have h := OpR_or (op_inU (X := c.X j) (c.hu1 j)) (op_inX (X := c.X j) (c.hu1 j))
    rw [c.hK j] at h
    exact h, S2.or s2_in (s2_inX false)⟩
theorem c_notInZ {c : Ctx} : CmpR c .NotIn gNotInZ := ⟨_, fun j => by
    have h := OpR_or (op_notInU (X := c.X j) (c.hu1 j)) (op_notInX (X := c.X j) (c.hu1 j))
    rw [c.hK j] at h
    exact h, S2.or s2_notIn (s2_inX true)⟩
/-! d[k] = v, k new -/
def rSetX (K : PySem.W.Frag) : TSet := fun o i v H Q => ∃ p xs q vs ks, o = .ref p ∧ H p = some (dxO p xs) ∧ Keyed K H xs ∧ i = .ref q ∧ SqT K H q vs ∧ numsV vs = some ks ∧ ks ∉ xs.map (·.1) ∧ xs.length < sizeLine ∧ Q (upd H p (dxO p (xs ++ [(ks, q, v)])))
theorem set_X {X : Cx} (hu : X.A.units + 1 < cLine) : PSet X (rSetX X.K) := by
  intro pins s σ H o i v ov iv u Q I ro ri rv h
  obtain ⟨p, xs, q, vs, ks, rfl, hp, hk, rfl, hq, hn, hnew, hz, Qq⟩ := h
  obtain rfl : ov = Value.ref p := ro
  obtain rfl : iv = Value.ref q := ri
  obtain ⟨z, hd, ys, r, dd⟩ := dx_of I hp hk
  have hl : ys.length = xs.length := (Paired.length r).symm
  refine wpAny_setItem_heap (hsz := by rw [List.length_map, hl]; exact z) (tupleKind_room_in1 hu) (key_num I hq hn) dd fun h' dd' hs => ⟨_, ?_, Qq⟩
  have hno : atKey (ys.map yk) (ks.map Leaf.num) = none := by
    have e := atKey_num ys ks
    rw [← r.keys] at e
    have f : ((xs.map (·.1)).any fun q => decide (q = ks)) = false := by
      rw [List.any_eq_false]
      intro a ha q
      exact hnew (by rw [← of_decide_eq_true q]; exact ha)
    rw [f] at e
    cases hh : atKey (ys.map yk) (ks.map Leaf.num) with
    | none => rfl
    | some a => rw [hh] at e; cases e
  rw [storedH_new hno, show [(ks.map Leaf.num, q, u)] = [((ks, q, u) : List Int × Addr × Value)].map yk from rfl, ← List.map_append] at dd'
  have hr : YV (xs ++ [(ks, q, v)]) (ys ++ [(ks, q, u)]) := by
    clear hp hk hnew hz Qq z dd dd' hl hno
    induction r with
    | nil => exact .cons ⟨rfl, rfl, rv⟩ .nil
    | cons h _ ih => exact .cons h ih
  refine d_write I (by rw [hp]; exact True.intro) hs (let ⟨q, _, _, hq, _⟩ := dd'; ⟨q, hq⟩) (dx_ok (by rw [List.length_append]; exact hz) hd hr dd')
def keyD : D → Option (List Int)
  | .tup l => numsOf l
  | _ => none
def setX (k d : D) : T → Option T
  | .di ks ds => (keyD k).bind fun q => if q ∈ ks then none else if ks.length < sizeLine then some (.di (ks ++ [q]) (ds ++ [d])) else none
  | _ => none
def sSetX (i : Nat) (fp : List T → Option (List Sel)) (fk fe : List T → Option T) : FS := fun ρ => (fe ρ).bind fun x => x.d?.bind fun d => (fp ρ).bind fun π => (fk ρ).bind fun z => z.d?.bind fun q => (mutF i π (setX q d) ρ).map .nx
theorem setX_own {k d : D} (u u' : T) (h : setX k d u = some u') : owned u = true := by
  cases u with
  | un => cases h
  | f d => cases h
  | _ => rfl
theorem SR.setX {W : Wd} {b : Bs} {F : Hp} {ρ ρ' : List T} {σ : L2.St} {X : List Tm} {H : Hp} {i : Nat} {π : List Sel} {d q : D} {v y z : V} {p : Addr} (S : SR W b F ρ σ X H) (h : mutF i π (setX q d) ρ = some ρ') (hv : σ[i]? = some (some v)) (ha : AtV H v π p) (r : Rep W F d y) (rq : Rep W F q z)
    {Q : Hp → Prop} (k : ∀ H', SR W b F ρ' σ X H' → Q H') : rSetX W.K (.ref p) z y H Q := by
  obtain ⟨t, u, u', e1, e2, e3, rfl⟩ := mutF_some h
  cases u with
  | di ks ds =>
    obtain ⟨j, e4, e3⟩ := Option.bind_eq_some_iff.mp (show (keyD q).bind _ = some u' from e3)
    split at e3
    · cases e3
    rename_i hno
    split at e3
    · rename_i hl
      cases e3
      cases q with
      | tup l =>
        obtain ⟨fu, q1, q2, q3⟩ := S.mut (u' := .di (ks ++ [j]) (ds ++ [d])) e1 hv e2 ha
        obtain ⟨p', xs, ep, rfl, hp, hk, hy, rs⟩ := q1
        cases ep
        obtain ⟨a, vs, ez, hs, rq'⟩ := id rq
        subst ez
        refine ⟨p, xs, a, vs, j, rfl, hp, keyed_of S.le hy, rfl, SqT.le S.le hs, nums_of rq' e4, by rw [hk]; exact hno, by rw [← hk, List.length_map] at hl; exact hl, k _ (q3 _ _ hp (fun _ => fun _ _ _ e => nomatch e) (List.mem_singleton.mpr rfl) ⟨p, _, rfl, rfl, upd_same, ?_, ?_, ?_⟩)⟩
        · rw [List.map_append, hk]; rfl
        · intro x hx
          rcases List.mem_append.mp hx with hx | hx
          · exact hy x hx
          · cases List.mem_singleton.mp hx
            exact ⟨l, e4, rq⟩
        · rw [List.map_append]
          exact rs.append ⟨y, [], rfl, r, rfl⟩
      | _ => cases e4
    · cases e3
  | _ => cases e3
theorem sm_setX {c : Ctx} {e o ek : Expr} {i : Nat} {fp : List T → Option (List Sel)} {fe fk : List T → Option T} {pos pos' : Pos} (ho : Lo c o i fp) (hk : Ev c ek fk) (he : Ev c e fe)
    (hsw : ∀ j, swapsWithSole [.Subscript o ek pos'] e pos.line (c.X j).env = pure false := by intro _; rfl) (hw : ∀ j, swappedStores [.Subscript o ek pos'] e (c.X j).env = pure none := by intro _; rfl)
    (h1 : ∀ j, (assignEach [.Subscript o ek pos'] (c.X j).env).map (·.2) = [assign (.Subscript o ek pos') (c.X j).env] := by intro _; rfl)
    (ha : ∀ j v, assign (.Subscript o ek pos') (c.X j).env v = (do
      let ov ← holding [v] (eval o (c.X j).env)
      let iv ← holding [v, ov] (eval ek (c.X j).env)
      standAt pos'
      holding [v, ov, iv] (setItem ov iv v)
      release [v, ov, iv] []) := by intro _ _; rfl) : Sm c (.Assign [.Subscript o ek pos'] e pos) (sSetX i fp fk fe) := by
  obtain ⟨to, po, so⟩ := ho
  obtain ⟨te, pe, se⟩ := he
  obtain ⟨tk, pk, sk⟩ := hk
  refine ⟨tAsg te (L2.gSub to tk (rSetX c.W.K)), fun j => ps_asg (pe j) (pg_sub (po j) (pk j) (by have h := set_X (X := c.X j) (c.hu1 j); rw [c.hK j] at h; exact h) (ha j)) (hsw j) (hw j) (h1 j), ?_⟩
  intro b F ρ σ X H out D hb S eq k
  unfold sSetX at eq
  obtain ⟨x, e2, eq⟩ := Option.bind_eq_some_iff.mp eq
  obtain ⟨d, e3, eq⟩ := Option.bind_eq_some_iff.mp eq
  obtain ⟨π, e1, eq⟩ := Option.bind_eq_some_iff.mp eq
  obtain ⟨z, e5, eq⟩ := Option.bind_eq_some_iff.mp eq
  obtain ⟨q, e6, eq⟩ := Option.bind_eq_some_iff.mp eq
  obtain ⟨ρ', e4, eq⟩ := Option.map_eq_some_iff.mp eq
  subst eq
  cases d_some e3
  cases d_some e6
  obtain ⟨tt, uu, h1, h2, h3⟩ := mutF_own e4 setX_own
  refine se b F ρ σ X H _ _ S e2 fun y F1 H1 S1 i1 s1 r1 => ?_
  refine so b F1 ρ σ X H1 π tt uu _ S1 e1 h1 h2 h3 fun p v F2 H2 S2 i2 s2 hv hat => ?_
  refine sk b F2 ρ σ X H2 _ _ S2 e5 fun w F3 H3 S3 i3 s3 r3 => ?_
  exact S3.setX e4 hv (hat.same s3) ((r1.ext i2 s2).ext i3 s3).rep r3.rep fun H' S' => k σ F3 H' S' ((i1.trans i2).trans i3)
/-! list(a list, a tuple or a dict) -/
section
variable {W : Wd} {c : Ctx}
def rListK : List V → Hp → VK → Prop := fun xs H Q => ∃ (a : Addr) (kvs : List (Key × V)), xs = [.ref a] ∧ Rd H a (.dK kvs) ∧ ∀ p, H p = none → Q (.ref p) (upd H p (.lst (kvs.map fun kv => kV kv.1)))
def rListX (K : PySem.W.Frag) : List V → Hp → VK → Prop := fun xs H Q => (∃ p ys, xs = [.ref p] ∧ (SqL K H p ys ∨ SqT K H p ys) ∧ ∀ l, H l = none → Q (.ref l) (upd H l (.lst ys))) ∨ rListK xs H Q
def gListX (ts : List T) : Option T := match ts with
  | [t] => match t.sq? with
    | some ds => some (.f (.lst ds))
    | none => t.dk?.map fun p => .f (.lst (p.1.map kD))
  | _ => none
theorem keys_reps {W : Wd} {F : Hp} : ∀ kvs : List (Key × V), Reps W F ((kvs.map (·.1)).map kD) (kvs.map fun kv => kV kv.1)
  | [] => rfl
  | _ :: kvs => ⟨_, _, rfl, kD_rep, keys_reps kvs⟩
theorem sn_listX : Sn W (rListX W.K) gListX := by
  intro b F ρ σ X H ts τ xs Q S r e k
  match ts, e with
  | [t], e =>
    obtain ⟨x, rfl, r1⟩ := rv1 r
    have e' : (match t.sq? with | some ds => some (T.f (.lst ds)) | none => t.dk?.map fun p => T.f (.lst (p.1.map kD))) = some τ := e
    cases hq : t.sq? with
    | some ds =>
      rw [hq] at e'
      cases e'
      obtain ⟨p, vs, ex, hs, q⟩ := r1.sq hq S.le
      subst ex
      exact .inl ⟨p, vs, rfl, hs, k.lst S q⟩
    | none =>
      rw [hq] at e'
      obtain ⟨⟨ks, ds⟩, e2, e3⟩ := Option.map_eq_some_iff.mp e'
      subst e3
      obtain ⟨p, kvs, ex, hp, hk, r2⟩ := r1.dk e2 S.le
      subst ex
      subst hk
      exact .inr ⟨p, kvs, rfl, hp, k.lst S (keys_reps kvs)⟩
theorem callListX (j : c.J) : CallR (c.X j) (.type "list") (rListX c.W.K) := by
  have h := CallR_or (call_list_of (X := c.X j)) (call_listD (c.calm j))
  rw [c.hK j] at h
  exact h
end
end Z

namespace Z
open PySem PySem.Spec PyProof.Rows L2
/-! ### xs.reverse() -/
def revT : T → Option T
  | .l ds => some (.l ds.reverse)
  | _ => none
def sRev (i : Nat) (fp : List T → Option (List Sel)) : FS := fun ρ => (fp ρ).bind fun π => (mutF i π revT ρ).map .nx
section
variable {c : Ctx} {e o a : Expr} {es : List Expr} {i : Nat} {fp : List T → Option (List Sel)} {pos apos cpos : Pos}
theorem sm_rev (ho : Lo c o i fp) (hbase : ∀ j, attributeBase o "reverse" (c.X j).env (eval o (c.X j).env) = eval o (c.X j).env := by intro _; rfl) (hline : (apos.endLine == cpos.line) = true := by rfl)
    (hsw : ∀ j, swapsWith (.Call (.Attribute o "reverse" apos) [] [] cpos) none pos.line (c.X j).env = pure false := by intro _; rfl) : Sm c (.Expr (.Call (.Attribute o "reverse" apos) [] [] cpos) pos) (sRev i fp) := by
  obtain ⟨to, po, so⟩ := ho
  refine ⟨tDrop (tBM0 c.W.K "list" rReverse to), fun j => by
    have h := ps_expr (pe_bm0 (cpos := cpos) (apos := apos) PySem.F.plainAttrs_list PySem.F.slot_list_reverse PySem.F.type_list_reverse mt_reverse (po j) (hbase j) hline) (hsw j)
    rw [c.hK j] at h
    exact h, ?_⟩
  intro b F ρ σ X H out D hb S eq k
  unfold sRev at eq
  obtain ⟨π, e1, eq⟩ := Option.bind_eq_some_iff.mp eq
  obtain ⟨ρ', e2, eq⟩ := Option.map_eq_some_iff.mp eq
  subst eq
  obtain ⟨t, u, u', g1, g2, g3, rfl⟩ := mutF_some e2
  cases u with
  | l ds =>
    cases g3
    refine so b F ρ σ X H π t _ _ S e1 g1 g2 rfl fun p v F1 H1 S1 i1 s1 hv hat => ?_
    obtain ⟨fu, q1, q2, q3⟩ := S1.mut (u' := .l ds.reverse) g1 hv g2 hat
    obtain ⟨p', vs, ep, rfl, hp, rs⟩ := q1
    cases ep
    exact ⟨.inl ⟨rfl, vs, SqL.of hp⟩, p, vs, rfl, rfl, hp, k σ F1 _ (q3 _ _ hp (fun _ => Stb.lst) (List.mem_singleton.mpr rfl) ⟨p, _, rfl, rfl, upd_same, rs.rev⟩) i1⟩
  | _ => cases g3
/-! ### C(..).m(..): a method of a thing that has no name -/
def isObjT (C : Nat) (m : Str) : T → Bool
  | .o C' ns _ => decide (C' = C) && !ns.contains m
  | _ => false
def fMethT (C : Nat) (m : Str) (io : List Nat) (G : List T → Option Re) (fo : List T → Option Re) (fs : List T → Option Rs) : List T → Option Re := fun ρ => (fo ρ).bind fun r => match r with
  | .xc D ρ1 => some (.xc D ρ1)
  | .ok τ ρ1 => if isObjT C m τ = true then fCall io G (bCons (fun ρ => some (.ok τ ρ)) fs) ρ1 else none
theorem so_methT {W : Wd} {P : Sg} {E : L2.St → XK} {E' : XK} {to : TE} {t : TA} {C : Nat} {m : Str} {io : List Nat} {G : List T → Option Re} {fo : List T → Option Re} {fs : List T → Option Rs} (hE : ∀ σ, E σ = E') (ho : So W P E to fo) (h : Sa W P E t fs) :
    So W P E (tMeth (W.cl C) m (spF W io G) [] E' to t) (fMethT C m io G fo fs) := by
  intro b F ρ σ X H r Q hb S e k
  unfold fMethT at e
  obtain ⟨r0, e0, eA⟩ := Option.bind_eq_some_iff.mp e
  clear e
  refine ho b F ρ σ X H r0 _ hb S e0 ?_
  cases r0 with
  | xc D ρ1 =>
    cases eA
    exact k
  | ok τ ρ1 =>
    intro v0 F0 H0 S0 i0
    dsimp only at eA
    split at eA
    · rename_i hobj
      cases τ with
      | o C' ns ts0 =>
        obtain ⟨hC, hm⟩ := Bool.and_eq_true_iff.mp (show (decide (C' = C) && !ns.contains m) = true from hobj)
        have hC := of_decide_eq_true hC
        subst hC
        have hm : ns.contains m = false := by simpa using hm
        have S0' := S0
        obtain ⟨_, _, _, _, _, _, _, xps, _, s2, _, _, _⟩ := S0'
        obtain ⟨v1, vr1, f1, fr1, ev1, _, rt1, _⟩ := (show RelTs W F0 H0 (.o C' ns ts0 :: X.map (·.t)) (v0 :: X.map (·.v)) xps from s2)
        cases ev1
        obtain ⟨p, dx, kvs, fps, ep, _, hp, hk, _⟩ := rt1
        subst ep
        refine ⟨p, dx, kvs, rfl, hp, lookup_notin (by rw [hk]; exact hm), ?_⟩
        unfold fCall bCons at eA
        obtain ⟨r1, e1, e⟩ := Option.bind_eq_some_iff.mp eA
        clear eA
        obtain ⟨r1', e1', rfl⟩ := Option.map_eq_some_iff.mp (show (fs ρ1).map _ = some r1 from e1)
        refine h b F0 ρ1 σ (⟨none, .o C' ns ts0, .ref p⟩ :: X) H0 r1' _ hb S0 e1' ?_
        cases r1' with
        | xc C ρ1 =>
          cases e
          intro d F2 H2 S2 i2
          exact k d F2 H2 S2.drop (i0.trans i2)
        | ok as ρ2 =>
          intro vs F1 H1 S1 g1 i1
          have S1' : SR W b F1 ρ2 σ (Xv (.v (.o C' ns ts0) :: as) (.ref p :: vs) ++ X) H1 := S1.perm List.perm_middle
          have g1' : Args σ (.v (.o C' ns ts0) :: as) (.ref p :: vs) := ⟨_, _, rfl, g1⟩
          obtain ⟨⟨ts, ρ3⟩, e2, e⟩ := Option.bind_eq_some_iff.mp (show (takeF (.v (.o C' ns ts0) :: as) ρ2).bind _ = _ from e)
          obtain ⟨S2, h1, h2⟩ := take_ok S1' g1' e2
          split at e
          · rename_i hio
            obtain ⟨r2, e3, e⟩ := Option.bind_eq_some_iff.mp e
            obtain ⟨xa, q1, q2, q3⟩ := S2.call
            rw [h1, h2] at q1
            rw [h2] at q3
            rw [List.append_nil]
            refine ⟨F1, ts, xa, r2, S2.le, q1, q2, hio, e3, ?_⟩
            cases r2 with
            | ok τ us =>
              intro v F' H' R i2
              simp only at e
              split at e
              · rename_i hl
                cases e
                have S3 := q3 io us F' _ H' (fun x hx => by rw [List.mem_singleton.mp hx]) R
                exact k v F' H' (put_ok S3 g1' (take_len e2) hl) ((i0.trans i1).trans i2)
              · cases e
            | xc C us =>
              intro d F' H' R i2
              simp only at e
              split at e
              · rename_i hl
                cases e
                have S3 := q3 io us F' _ H' (fun x hx => by cases hx) R
                have S4 := put_ok (Z := []) S3 g1' (take_len e2) hl
                have := k d F' H' S4 ((i0.trans i1).trans i2)
                rw [hE σ] at this
                exact this
              · cases e
          · cases e
      | _ => cases hobj
    · cases eA

def plE (o : Expr) (env : Env) : Sem Bool := do return (← importBound o env).getD true
theorem eo_methT {m : Str} {io : List Nat} {G : List T → Option Re} {k C : Nat} {CX : CXT} {fo : List T → Option Re} {fs : List T → Option Rs} {E : XK} (M : ∀ j, ClT (c.X j).prog (c.X j).w c.W (c.X j).mg (c.X j).base CX k C m io G) (hk : k ≤ c.k) (hE : ∀ σ, c.E σ = E) (hx : ∀ j, Passes CX (c.X j) E) (hr : Eo c o fo) (ha : Ao c (a :: es) fs)
    (ht : ∀ i, eval (.Call (.Attribute o m apos) (a :: es) [] pos) (c.X i).env = (do
      let ov ← eval o (c.X i).env
      standAt apos.atName
      let (f, first) ← holding [ov] (getMethod ov m (plE o (c.X i).env))
      callWith pos f first (backTo pos (starEach (a :: es) (c.X i).env)) (backToKw pos (keywordEach [] (c.X i).env))) := by intro _; rfl)
    (he : ∀ j, starEach (a :: es) (c.X j).env = (false, eval a (c.X j).env) :: starEach es (c.X j).env := by intro _; rfl) (hpl : ∀ j, (backTo pos (starEach es (c.X j).env)).any (·.1) = false := by intro _; rfl) : Eo c (.Call (.Attribute o m apos) (a :: es) [] pos) (fMethT C m io G fo fs) := by
  obtain ⟨to, po, so⟩ := hr
  obtain ⟨t, q, s⟩ := ha
  refine ⟨tMeth (c.W.cl C) m (spF c.W io G) [] E to t, fun i => ?_, so_methT hE so s⟩
  obtain ⟨f, fd, ps, F, hC, hM, hb⟩ := M i
  have hKj := c.hK i
  exact pe_meth (po i) (by rw [hKj]; exact hC) (by rw [hKj]; exact hM) (by rw [hKj]; exact F) ((c.room i).mono hk) (by rw [hKj]; exact hb) .nil (hx i) (q i) (he i) (hpl i) (ht i)
/-! e[k], where e has an effect -/
theorem eo_ix {e' : Expr} {fo : List T → Option Re} {fb : List T → Option T} (ha : Eo c a fo) (hb : Ev c e' fb) (hs : PlainIx e' := by exact fun _ _ => rfl) : Eo c (.Subscript a e' pos) (fE2 gIx fo fb) := by
  obtain ⟨ta, pa, sa⟩ := ha
  obtain ⟨tb, pb, sb⟩ := hb
  refine ⟨_, fun j => pe_ix (by have h := ix_U (X := c.X j) (c.hu1 j); rw [c.hK j] at h; exact h) (pa j) (pb j) hs, so_2l s2_ix sa sb⟩
end
theorem s2_addI {W : Wd} : S2 W (rI0 fun i j => .int (i + j)) gAddI := s2_i0 fun _ _ _ => rfl
/-! ### a comprehension that goes over what a call with an effect answers -/
theorem ioOk_any {io : List Nat} : ∀ {ts : List T} {i : Nat}, ioOk [] i ts = true → ioOk io i ts = true
  | [], _, _ => rfl
  | t :: ts, i, h => by
    unfold ioOk at h ⊢
    rw [Bool.and_eq_true] at h
    have h1 : isF t = true := h.1
    rw [ioOk_any h.2, h1, Bool.or_true]
    rfl
theorem Cl.noio {P : Program} {w : World} {W : Wd} {mg : Str → Option Value} {base : Heap} {CX : CXT} {k : Nat} {x : Str} {io : List Nat} {G : List T → Option Re} (h : Cl P w W mg base CX k x io G) : Cl P w W mg base CX k x [] G := by
  obtain ⟨f, fd, ps, h, a, b, d⟩ := h
  refine ⟨f, fd, ps, h.imp ?_, a, b, d⟩
  rintro vs H Q E ⟨F, ts, fps, r, h1, h2, h3, h4, h5, h6⟩
  refine ⟨F, ts, fps, r, h1, h2, h3, ioOk_any h4, h5, ?_⟩
  cases r with
  | ok τ us => exact fun v F' H' S i => h6 v F' H' S.noio i
  | xc C us => exact fun d F' H' S i => h6 d F' H' S.noio i
def SipO (W : Wd) (P : Sg) (E : L2.St → XK) (wi : TI) (fo : List T → Option Re) : Prop :=
  ∀ b F ρ σ X H r R, Bok P b → SR W b F ρ σ X H → fo ρ = some r → (match r with
    | .ok (.f (.lst ds)) ρ1 => ∀ J F' H', SR W b F' ρ1 σ X H' → Inc F F' → Wk W F' J ds → R J H'
    | .xc C ρ1 => ∀ d F' H', SR W b F' ρ1 σ X H' → Inc F F' → E σ (.ref (W.cl C)) d H'
    | _ => False) → wi σ H R
theorem ipo_val {c : Ctx} {tg e : Expr} {fo : List T → Option Re} (he : Eo c e fo) : ∃ wi, (∀ j, PI (c.X j) tg e wi) ∧ SipO c.W c.P c.E wi fo := by
  obtain ⟨t, q, s⟩ := he
  refine ⟨_, fun j => pi_of (q j) (by have h := iv_U (X := c.X j) (tg := tg); rw [c.hK j] at h; exact h), ?_⟩
  intro b F ρ σ X H r R hb S eq k
  refine s b F ρ σ X H r _ hb S eq ?_
  cases r with
  | xc C ρ1 => exact k
  | ok τ ρ1 =>
    intro v F1 H1 S1 i1
    cases τ with
    | f d =>
      cases d with
      | lst l =>
        obtain ⟨a, vs, ex, hs, r⟩ := S1.top
        subst ex
        exact .inl ⟨a, rfl, ⟨vs, SqL.le S1.le hs⟩, k _ F1 H1 S1.drop i1 (wk_list hs r)⟩
      | _ => exact k.elim
    | _ => exact k.elim
theorem slc_tail {W : Wd} {J : It} {g : TG} {tt : TT} {te : TE} {vs : List Nat} {fg : T → List T → Option (List T)} {ft : List T → Option Bool} {fe : List T → Option T}
    (hg : Sgc W g fg vs) (hgw : ∀ t ρ ρ', fg t ρ = some ρ' → wipeR ρ' vs = wipeR ρ vs) (ht : Stv W tt ft) (he : Sv W te fe) {b : Bs} {F1 : Hp} {ρ : List T} {σ : L2.St} {X : List Tm} {H1 : Hp} {ds es : List D} {Q : VK} (S1 : SR W b F1 ρ σ X H1) (wk : Wk W F1 J ds) (hok : okW ρ vs = true) (e2 : lcF fg ft fe (wipeR ρ vs) ds = some es) (hz : es.length ≤ sizeLine)
    (k : ∀ D0 F' H', SR W b F' ρ σ (⟨none, .l es, .ref D0⟩ :: X) H' → Inc F1 F' → Q (.ref D0) H') : ∀ D, H1 D = none → ∃ Wt : Nat → Nat → Hp → Prop, (∃ m, Wt 0 m (upd H1 D (.lst []))) ∧ ∀ i m H, Wt i m H →
  (J.stop i H ∧ Q (.ref D) H) ∨ (J.go i H ∧ ∃ Nx : Hp → Prop, (∀ H', Nx H' → ∃ m', m' < m ∧ Wt (i + 1) m' H') ∧ ∀ x H', J.yld i H x H' → g x (L2.wipe σ vs) H' fun σ2 H2 => L2.wipe σ2 vs = L2.wipe σ vs ∧ tt σ2 H2 fun b H3 =>
    if b = true then te σ2 H3 fun y H4 => ∃ acc, H4 D = some (.lst acc) ∧ acc.length < sizeLine ∧ Nx (upd H4 D (.lst (acc ++ [y]))) else Nx H3) := by
  intro D0 hD
  have S2 : SR W b F1 ρ σ (⟨none, .l [], .ref D0⟩ :: X) (upd H1 D0 (.lst [])) := S1.own hD ⟨D0, [], rfl, rfl, upd_same, rfl⟩
  have s2 : Same H1 (upd H1 D0 (.lst [])) := fun a u e => by rw [upd_ne (ne_of_none e hD)]; exact e
  refine ⟨fun i m H' => m = ds.length - i ∧ i ≤ ds.length ∧ ∃ F' acc rest, SR W b F' ρ σ (⟨none, .l acc, .ref D0⟩ :: X) H' ∧ Inc F1 F' ∧ Same H1 H' ∧ lcF fg ft fe (wipeR ρ vs) (ds.drop i) = some rest ∧ acc ++ rest = es, ⟨ds.length, by simp, Nat.zero_le _, F1, [], es, S2, Inc.refl F1, s2, e2, rfl⟩, ?_⟩
  rintro i m H' ⟨rfl, hi2, F2, acc, rest, S3, i2, s3, e3, e4⟩
  by_cases hlt : i < ds.length
  · refine .inr ⟨wk.go i F2 H' i2 S3.le hlt, fun H'' => i + 1 ≤ ds.length ∧ ∃ F' acc rest, SR W b F' ρ σ (⟨none, .l acc, .ref D0⟩ :: X) H'' ∧ Inc F1 F' ∧ Same H1 H'' ∧ lcF fg ft fe (wipeR ρ vs) (ds.drop (i + 1)) = some rest ∧ acc ++ rest = es, fun H'' h => ⟨ds.length - (i + 1), by omega, rfl, h⟩, fun x H3 y => ?_⟩
    have hd : ds[i]? = some ds[i] := List.getElem?_eq_getElem hlt
    rw [List.drop_eq_getElem_cons hlt] at e3
    obtain ⟨ρ1, e5, e3⟩ := Option.bind_eq_some_iff.mp (show (fg (.f ds[i]) (wipeR ρ vs)).bind _ = some rest from e3)
    obtain ⟨c, e6, e3⟩ := Option.bind_eq_some_iff.mp e3
    -- the item
    obtain ⟨F3, S4, i3, s4⟩ : ∃ F3, SR W b F3 ρ σ (⟨none, .f ds[i], x⟩ :: ⟨none, .l acc, .ref D0⟩ :: X) H3 ∧ Inc F2 F3 ∧ Same H' H3 := by
      rcases wk.yld i F2 H' x H3 ds[i] i2 S3.le hd y with ⟨e, r⟩ | ⟨p, o, hp, e, ex, r⟩
      · subst e
        exact ⟨F2, S3.push r, Inc.refl F2, Same.refl _⟩
      · subst e ex
        obtain ⟨S', i', s'⟩ := S3.laid (o := o) hp
        exact ⟨_, S'.push (r i'), i', s'⟩
    have S5 := SR.wipes (b := b.noio) rfl vs S4.noio
    have S0 := S4.drop.noio
    refine hg b.noio F3 _ ρ1 _ _ H3 _ x _ S5 rfl e5 fun σ4 F4 H4 S6 i4 s5 hw => ?_
    have hw2 : L2.wipe σ4 vs = L2.wipe σ vs := by rw [hw, wipe_wipe σ vs vs fun v h => h]
    refine ⟨hw2, ?_⟩
    refine ht b.noio F4 ρ1 σ4 _ H4 c _ S6 e6 fun F5 H5 S7 i5 s6 => ?_
    have back : ∀ {F6 H6 Y}, SR W b.noio F6 ρ1 σ4 Y H6 → Inc F3 F6 → SR W b F6 ρ σ Y H6 := fun {F6 H6 Y} R ii => by
      have R1 := SR.wipes (b := b.noio) rfl vs R
      rw [hw2, hgw _ _ _ e5] at R1
      have hwR : wipeR (wipeR ρ vs) vs = wipeR ρ vs := by
        have key : ∀ (l l' : List Nat), (∀ v ∈ l', v ∈ l) → wipeR (wipeR ρ l') l = wipeR ρ l := by
          intro l l'
          induction l' with
          | nil => intro _; rfl
          | cons u l' ih =>
            intro h
            show wipeR ((wipeR ρ l').set u .un) l = _
            rw [wipeR_set (h u List.mem_cons_self)]
            exact ih fun v hv => h v (List.mem_cons_of_mem _ hv)
        exact key vs vs fun v h => h
      rw [hwR] at R1
      exact (SR.unwipes rfl S0 ii hok vs (fun v h => h) R1).io S4.pin
    cases c with
    | false =>
      simp only [Bool.false_eq_true, if_false] at e3 ⊢
      exact ⟨hlt, F5, acc, rest, back S7 (i4.trans i5), ((i2.trans i3).trans i4).trans i5, ((s3.trans s4).trans s5).trans s6, e3, e4⟩
    | true =>
      simp only [if_true] at e3 ⊢
      obtain ⟨t, e7, e3⟩ := Option.bind_eq_some_iff.mp e3
      obtain ⟨e, e8, e3⟩ := Option.bind_eq_some_iff.mp e3
      obtain ⟨r, e9, e3⟩ := Option.map_eq_some_iff.mp e3
      subst e3
      cases d_some e8
      refine he b.noio F5 ρ1 σ4 _ H5 _ _ S7 e7 fun w F6 H6 S8 i6 s7 r6 => ?_
      have S9 := back S8 ((i4.trans i5).trans i6)
      obtain ⟨us, hD6, hl6, S10⟩ := S9.topApp r6.rep
      have hlen : acc.length + (r.length + 1) ≤ sizeLine := by
        have := hz
        rw [← e4, List.length_append, List.length_cons] at this
        exact this
      refine ⟨us, hD6, by omega, hlt, F6, acc ++ [e], r, S10, (((i2.trans i3).trans i4).trans i5).trans i6, ?_, e9, by rw [List.append_assoc]; exact e4⟩
      have s10 := (((s3.trans s4).trans s5).trans s6).trans s7
      intro a u ea
      have : a ≠ D0 := fun z => by rw [z, hD] at ea; cases ea
      rw [upd_ne this]
      exact s10 a u ea
  · have hi3 : i = ds.length := by omega
    subst hi3
    rw [List.drop_length] at e3
    cases e3
    rw [List.append_nil] at e4
    subst e4
    refine .inl ⟨wk.stop F2 H' i2 S3.le, ?_⟩
    exact k D0 F2 H' S3 i2
def fLcO (vs : List Nat) (fo : List T → Option Re) (fg : T → List T → Option (List T)) (ft : List T → Option Bool) (fe : List T → Option T) : List T → Option Re := fun ρ => (fo ρ).bind fun r => match r with
  | .xc C ρ1 => some (.xc C ρ1)
  | .ok (.f (.lst ds)) ρ1 => if okW ρ1 vs = true then (lcF fg ft fe (wipeR ρ1 vs) ds).bind fun es => if es.length ≤ sizeLine then some (.ok (.l es) ρ1) else none else none
  | _ => none
theorem so_lcO {W : Wd} {P : Sg} {E : L2.St → XK} {wi : TI} {g : TG} {tt : TT} {te : TE} {vs : List Nat} {fo : List T → Option Re} {fg : T → List T → Option (List T)} {ft : List T → Option Bool} {fe : List T → Option T}
    (hi : SipO W P E wi fo) (hg : Sgc W g fg vs) (hgw : ∀ t ρ ρ', fg t ρ = some ρ' → wipeR ρ' vs = wipeR ρ vs) (ht : Stv W tt ft) (he : Sv W te fe) : So W P E (tLc wi g tt te vs) (fLcO vs fo fg ft fe) := by
  intro b F ρ σ X H r Q hb S e k
  unfold fLcO at e
  obtain ⟨r0, e0, e1⟩ := Option.bind_eq_some_iff.mp e
  refine hi b F ρ σ X H r0 _ hb S e0 ?_
  cases r0 with
  | xc C ρ1 => cases e1; exact k
  | ok τ ρ1 =>
    cases τ with
    | f d =>
      cases d with
      | lst ds =>
        intro J F1 H1 S1 i1 wk
        dsimp only at e1
        split at e1
        · rename_i hok
          obtain ⟨es, e2, e3⟩ := Option.bind_eq_some_iff.mp e1
          split at e3
          · rename_i hz
            cases e3
            exact slc_tail hg hgw ht he S1 wk hok e2 hz fun D0 F' H' S3 i3 => k _ F' H' S3 (i1.trans i3)
          · cases e3
        · cases e1
      | _ => cases e1
    | _ => cases e1
section
variable {c : Ctx} {elt tg iter : Expr} {ifs : List Expr} {scope : Scope} {pos spos : Pos} {fo : List T → Option Re} {fg : T → List T → Option (List T)} {ft : List T → Option Bool} {fe : List T → Option T}
theorem eo_lcO (own : List (Str × Nat)) (hi : Eo c iter fo) (hg : Gc (cB c scope) tg fg (own.map (·.2))) (ht : Tvs (cB c scope) ifs ft) (he : Ev (cB c scope) elt fe) (ok : ∀ j, blkC c.N (c.X j).env.scope scope own = true := by intro _; rfl)
    (hs : ∀ j x, foldedSetIterable iter (c.X j).env x = pure x := by intro _ _; rfl) : Eo c (.ListComp elt [⟨tg, iter, ifs, 0⟩] scope pos) (fLcO (own.map (·.2)) fo fg ft fe) := by
  obtain ⟨wi, pi, si⟩ := ipo_val (tg := tg) hi
  obtain ⟨g, pg, sg, wg⟩ := hg
  obtain ⟨tt, pt, st⟩ := ht
  obtain ⟨te, pe, se⟩ := he
  exact ⟨tLc wi g tt te (own.map (·.2)), fun j => pe_lc (c.calm j) (c.hNd j) (pi j) (blkOk_by (by rw [c.hN j]; exact ok j)) (fun s H C cl fp => pg (j, s, H, C, cl, fp)) (fun s H C cl fp => pt (j, s, H, C, cl, fp)) (fun s H C cl fp => pe (j, s, H, C, cl, fp)) (hs j), so_lcO si sg wg st se⟩
theorem sm_setLcO (i : Nat) {y : Str} {py : Pos} (own : List (Str × Nat)) (hi : Eo c iter fo) (hg : Gc (cB c scope) tg fg (own.map (·.2))) (ht : Tvs (cB c scope) ifs ft) (he : Ev (cB c scope) elt fe) (ok : ∀ j, blkC c.N (c.X j).env.scope scope own = true := by intro _; rfl)
    (hy : c.N[i]? = some y := by rfl) (hyl : ∀ j, (c.X j).env.scope.names.lookup y = some .local := by intro _; rfl) (hio : c.P.io.contains i = false := by rfl)
    (hsw : ∀ j, swapsWith (.ListComp elt [⟨tg, iter, ifs, 0⟩] scope pos) (some (.Name y py)) spos.line (c.X j).env = pure true := by intro _; rfl)
    (hs : ∀ j x, foldedSetIterable iter (c.X j).env x = pure x := by intro _ _; rfl) : Sm c (.Assign [.Name y py] (.ListComp elt [⟨tg, iter, ifs, 0⟩] scope pos) spos) (sSet i (fFz (fLcO (own.map (·.2)) fo fg ft fe))) := by
  obtain ⟨wi, pi, si⟩ := ipo_val (tg := tg) hi
  obtain ⟨g, pg, sg, wg⟩ := hg
  obtain ⟨tt, pt, st⟩ := ht
  obtain ⟨te, pe, se⟩ := he
  refine ⟨tAsg (tLc wi g tt te (own.map (·.2))) (gName i), fun j => ps_setLc (c.calm j) (c.hNd j) (by rw [c.hN j]; exact hy) (hyl j) (hsw j) (pi j) (blkOk_by (by rw [c.hN j]; exact ok j)) (fun s H C cl fp => pg (j, s, H, C, cl, fp)) (fun s H C cl fp => pt (j, s, H, C, cl, fp)) (fun s H C cl fp => pe (j, s, H, C, cl, fp)) (hs j), ?_⟩
  intro b F ρ σ X H o D hb S eq k
  unfold sSet fFz at eq
  obtain ⟨r, e1, eq⟩ := Option.map_eq_some_iff.mp eq
  obtain ⟨r', e2, e3⟩ := Option.bind_eq_some_iff.mp e1
  refine so_lcO (P := c.P) (E := c.E) si sg wg st se b F ρ σ X H r' _ hb S e2 ?_
  cases r' with
  | ok τ ρ1 =>
    obtain ⟨d, e4, e5⟩ := Option.map_eq_some_iff.mp e3
    subst e5 eq
    intro v F1 H1 S1 i1
    obtain ⟨F2, S2, i2⟩ := S1.frz rfl e4
    exact k _ F2 H1 (S2.store (.inl rfl) (.inl (notio hb (notin_of hio)))) (i1.trans i2)
  | xc C ρ1 =>
    cases e3
    subst eq
    exact fun d F' H' S' i' => k d σ F' H' S' i'
end
def kLcO2 (ρ : List T) (ok : Bool) (o : Option (List D)) : Option Re := if ok = true then o.bind fun es => if es.length ≤ sizeLine then some (.ok (.l es) ρ) else none else none
def kLcO (vs : List Nat) (fg : T → List T → Option (List T)) (ft : List T → Option Bool) (fe : List T → Option T) (o : Option Re) : Option Re := o.bind fun r => match r with
  | .xc C ρ1 => some (.xc C ρ1)
  | .ok (.f (.lst ds)) ρ1 => kLcO2 ρ1 (okW ρ1 vs) (lcF fg ft fe (wipeR ρ1 vs) ds)
  | _ => none
theorem wz_fLcO {vs : List Nat} {fo : List T → Option Re} {fg : T → List T → Option (List T)} {ft : List T → Option Bool} {fe : List T → Option T} {ρ : List T} : fLcO vs fo fg ft fe ρ = kLcO vs fg ft fe (fo ρ) := rfl
theorem kLcO_s {vs : List Nat} {fg : T → List T → Option (List T)} {ft : List T → Option Bool} {fe : List T → Option T} {ρ : List T} {ds : List D} : kLcO vs fg ft fe (some (.ok (.f (.lst ds)) ρ)) = kLcO2 ρ (okW ρ vs) (lcF fg ft fe (wipeR ρ vs) ds) := rfl
theorem kLcO2_s {ρ : List T} {es : List D} (h : es.length ≤ 4096) : kLcO2 ρ true (some es) = some (.ok (.l es) ρ) := by
  show (if es.length ≤ sizeLine then _ else _) = _
  exact if_pos (Nat.le_trans h (by decide))
end Z

namespace Z
open PySem L2
/-! ### what pure defs give -/
def val (r : Option Re) : Option D := match r with
  | some (.ok (.f d) _) => some d
  | _ => none
theorem val_some {d : D} {us : List T} : val (some (.ok (.f d) us)) = some d := rfl
theorem val_ex {r : Option Re} {d : D} (h : val r = some d) : ∃ us, r = some (.ok (.f d) us) := by
  unfold val at h
  split at h
  · cases h; exact ⟨_, rfl⟩
  · cases h
theorem fCallV_eq (G : List T → Option Re) (fs : List T → Option (List T)) (ρ : List T) : fCallV G fs ρ = (fs ρ).bind fun ts => (T.fzs ts).bind fun ds => (val (G (ds.map .f))).bind fun d => if (ts.all isF || d.atom) = true then some (.f d) else none := by
  unfold fCallV
  congr 1
  funext ts
  congr 1
  funext ds
  cases h : G (ds.map .f) with
  | none => rfl
  | some r =>
    cases r with
    | xc C us => rfl
    | ok t us => cases t <;> rfl
def oval (o : Option Out) (m : Nat) : Option D := match o with
  | some (.rt (.f d) ρ) => if m ≤ ρ.length then some d else none
  | some (.nx ρ) => if m ≤ ρ.length then some .non else none
  | _ => none
theorem val_run {m n : Nat} {io : List Nat} {fb : FS} {ts : List T} (h : ts.length = m) : val (runF m n io fb ts) = oval (fb (ts ++ List.replicate (n - m) .un)) m := by
  unfold runF
  rw [if_pos h]
  cases e : fb (ts ++ List.replicate (n - m) .un) with
  | none => rfl
  | some o =>
    cases o with
    | nx ρ =>
      show val (if _ then _ else _) = if _ then _ else _
      split <;> rfl
    | rt t ρ =>
      cases t with
      | f d =>
        show val (if _ then _ else _) = if _ then _ else _
        split <;> rfl
      | _ =>
        show val (if _ then _ else _) = none
        split <;> rfl
    | bk ρ => rfl
    | ct ρ => rfl
    | xc C ρ =>
      show val (if _ then _ else _) = none
      split <;> rfl
/-! ### on ints, texts -/
section
variable {i j : Int} {x y : Str} {a b : Bool} {ds es : List D}
@[simp] theorem gAdd_i : gAdd (.f (.int i)) (.f (.int j)) = some (.f (.int (i + j))) := rfl
@[simp] theorem gSub_i : gSub (.f (.int i)) (.f (.int j)) = some (.f (.int (i - j))) := rfl
@[simp] theorem gBAnd_i : gBAnd (.f (.int i)) (.f (.int j)) = some (.f (.int (Builtin.bitAnd i j))) := rfl
@[simp] theorem gBOr_i : gBOr (.f (.int i)) (.f (.int j)) = some (.f (.int (Builtin.bitOr i j))) := rfl
@[simp] theorem gBXor_i : gBXor (.f (.int i)) (.f (.int j)) = some (.f (.int (Builtin.bitXor i j))) := rfl
@[simp] theorem gLt_i : gLt (.f (.int i)) (.f (.int j)) = some (.f (.bl (decide (i < j)))) := rfl
@[simp] theorem gLe_i : gLe (.f (.int i)) (.f (.int j)) = some (.f (.bl (decide (i ≤ j)))) := rfl
@[simp] theorem gGt_i : gGt (.f (.int i)) (.f (.int j)) = some (.f (.bl (decide (j < i)))) := rfl
@[simp] theorem gGe_i : gGe (.f (.int i)) (.f (.int j)) = some (.f (.bl (decide (j ≤ i)))) := rfl
theorem vdec_int : decide (V.int i = V.int j) = decide (i = j) := by
  by_cases h : i = j
  · subst h; simp
  · have : ¬ V.int i = V.int j := fun e => h (V.int.inj e)
    rw [decide_eq_false this, decide_eq_false h]
theorem vdec_str : decide (V.str x = V.str y) = decide (x = y) := by
  by_cases h : x = y
  · subst h; simp
  · have : ¬ V.str x = V.str y := fun e => h (V.str.inj e)
    rw [decide_eq_false this, decide_eq_false h]
theorem vdec_bl : decide (V.bl a = V.bl b) = decide (a = b) := by
  by_cases h : a = b
  · subst h; simp
  · have : ¬ V.bl a = V.bl b := fun e => h (V.bl.inj e)
    rw [decide_eq_false this, decide_eq_false h]
@[simp] theorem gEq_i : gEq (.f (.int i)) (.f (.int j)) = some (.f (.bl (decide (i = j)))) := by
  show some (T.f (.bl (xor false (decide (V.int i = V.int j))))) = _
  rw [Bool.false_xor, vdec_int]
@[simp] theorem gEq_s : gEq (.f (.str x)) (.f (.str y)) = some (.f (.bl (decide (x = y)))) := by
  show some (T.f (.bl (xor false (decide (V.str x = V.str y))))) = _
  rw [Bool.false_xor, vdec_str]
@[simp] theorem gEq_b : gEq (.f (.bl a)) (.f (.bl b)) = some (.f (.bl (decide (a = b)))) := by
  show some (T.f (.bl (xor false (decide (V.bl a = V.bl b))))) = _
  rw [Bool.false_xor, vdec_bl]
@[simp] theorem gEq_is : gEq (.f (.int i)) (.f (.str y)) = some (.f (.bl false)) := rfl
@[simp] theorem gEq_si : gEq (.f (.str x)) (.f (.int j)) = some (.f (.bl false)) := rfl
@[simp] theorem gNe_i : gNe (.f (.int i)) (.f (.int j)) = some (.f (.bl (!decide (i = j)))) := by
  show some (T.f (.bl (xor true (decide (V.int i = V.int j))))) = _
  rw [Bool.true_xor, vdec_int]
@[simp] theorem gNe_s : gNe (.f (.str x)) (.f (.str y)) = some (.f (.bl (!decide (x = y)))) := by
  show some (T.f (.bl (xor true (decide (V.str x = V.str y))))) = _
  rw [Bool.true_xor, vdec_str]
@[simp] theorem gNe_b : gNe (.f (.bl a)) (.f (.bl b)) = some (.f (.bl (!decide (a = b)))) := by
  show some (T.f (.bl (xor true (decide (V.bl a = V.bl b))))) = _
  rw [Bool.true_xor, vdec_bl]
@[simp] theorem gNe_is : gNe (.f (.int i)) (.f (.str y)) = some (.f (.bl true)) := rfl
@[simp] theorem gNe_si : gNe (.f (.str x)) (.f (.int j)) = some (.f (.bl true)) := rfl
@[simp] theorem gNeg_i : gNeg (.f (.int i)) = some (.f (.int (-i))) := rfl
theorem gI_ok {C : Int → Int → Bool} {g : Int → Int → D} (h : C i j = true) : gI C g (.f (.int i)) (.f (.int j)) = some (.f (g i j)) := by
  show (if C i j = true then _ else none) = _
  rw [if_pos h]
theorem gMod_ok (h : 0 < j) : gMod (.f (.int i)) (.f (.int j)) = some (.f (.int (i % j))) := gI_ok (decide_eq_true h)
theorem log2_small {n : Nat} {k : Nat} (h : n < 2 ^ (k + 1)) : n.log2 < k + 1 := by
  by_cases h0 : n = 0
  · subst h0; simp [Nat.log2_zero]
  · exact (Nat.log2_lt h0).mpr h
theorem gDiv_ok (h : 0 < j) (h2 : j.natAbs < 2 ^ 8999) : gDiv (.f (.int i)) (.f (.int j)) = some (.f (.int (i / j))) := gI_ok (by
  unfold divC
  rw [Bool.and_eq_true]
  exact ⟨decide_eq_true h, decide_eq_true (Nat.lt_succ_of_lt (log2_small h2))⟩)
theorem gMul_ok (h : i.natAbs.log2 + j.natAbs.log2 < 130000000) : gMul (.f (.int i)) (.f (.int j)) = some (.f (.int (i * j))) := gI_ok (decide_eq_true h)
theorem gMul_small (h : i.natAbs < 2 ^ 1000) (h2 : j.natAbs < 2 ^ 1000) : gMul (.f (.int i)) (.f (.int j)) = some (.f (.int (i * j))) := gMul_ok (by
  have a := log2_small (k := 999) h
  have b := log2_small (k := 999) h2
  omega)
theorem gShl_ok (h : 0 ≤ j) (h1 : j ≤ 1000000) (h2 : i.natAbs < 2 ^ 64) : gShl (.f (.int i)) (.f (.int j)) = some (.f (.int (i * 2 ^ j.toNat))) := gI_ok (by
  unfold powC
  rw [Bool.and_eq_true, Bool.and_eq_true]
  exact ⟨⟨decide_eq_true h, decide_eq_true h1⟩, decide_eq_true h2⟩)
theorem gPow_ok (h : 0 ≤ j) (h1 : j ≤ 1000000) (h2 : i.natAbs < 2 ^ 64) : gPow (.f (.int i)) (.f (.int j)) = some (.f (.int (i ^ j.toNat))) := gI_ok (by
  unfold powC
  rw [Bool.and_eq_true, Bool.and_eq_true]
  exact ⟨⟨decide_eq_true h, decide_eq_true h1⟩, decide_eq_true h2⟩)
theorem gShr_ok (h : 0 ≤ j) : gShr (.f (.int i)) (.f (.int j)) = some (.f (.int (i / 2 ^ j.toNat))) := gI_ok (decide_eq_true h)
@[simp] theorem gInt1_i : gInt1 [.f (.int i)] = some (.f (.int i)) := rfl
@[simp] theorem gInt1_b : gInt1 [.f (.bl a)] = some (.f (.int (if a = true then 1 else 0))) := rfl
@[simp] theorem gMax2_i : gMax2 [.f (.int i), .f (.int j)] = some (.f (.int (if j > i then j else i))) := rfl
@[simp] theorem gMin2_i : gMin2 [.f (.int i), .f (.int j)] = some (.f (.int (if j < i then j else i))) := rfl
@[simp] theorem gLen_l : gLen [.f (.lst ds)] = some (.f (.int ds.length)) := rfl
@[simp] theorem gLen_t : gLen [.f (.tup ds)] = some (.f (.int ds.length)) := rfl
@[simp] theorem gLen_o : gLen [.l ds] = some (.f (.int ds.length)) := rfl
theorem gIx_l (h : atI ds i = some d) : gIx (.f (.lst ds)) (.f (.int i)) = some (.f d) := by
  show ((((atI ds i).map T.f).orElse fun _ => none).orElse fun _ => _) = _
  rw [h]
  rfl
theorem gIx_t (h : atI ds i = some d) : gIx (.f (.tup ds)) (.f (.int i)) = some (.f d) := by
  show ((((atI ds i).map T.f).orElse fun _ => none).orElse fun _ => _) = _
  rw [h]
  rfl
theorem gIx_o (h : atI ds i = some d) : gIx (.l ds) (.f (.int i)) = some (.f d) := by
  show ((((atI ds i).map T.f).orElse fun _ => none).orElse fun _ => _) = _
  rw [h]
  rfl
end
end Z

namespace Z
open PySem L2
/-! ### walking: forms without binders, so that simp only goes on only with what is reached -/
section
variable {ρ ρ1 : List T} {d e : D} {ds es : List D} {t x y : T} {i n m : Nat} {b : Bool} {f g : FS} {fa fb fc : List T → Option T}
def nn (r : Option T) : Option T := match r with
  | some .un => none
  | r => r
theorem wz_var : fVar i ρ = nn ρ[i]? := by unfold fVar nn; rfl
theorem nn_f : nn (some (.f d)) = some (.f d) := rfl
theorem nn_l : nn (some (.l ds)) = some (.l ds) := rfl
theorem nn_dk {ks} : nn (some (.dk ks ds)) = some (.dk ks ds) := rfl
theorem nn_ll {ts} : nn (some (.ll ts)) = some (.ll ts) := rfl
theorem nn_tu {ts} : nn (some (.tu ts)) = some (.tu ts) := rfl
theorem nn_o {C ns ts} : nn (some (.o C ns ts)) = some (.o C ns ts) := rfl
def mvK (i : Nat) (ρ : List T) (r : Option T) : Option Re := match r with
  | some .un => none
  | some t => some (.ok t (ρ.set i .un))
  | none => none
theorem wz_mv : fMv i ρ = mvK i ρ ρ[i]? := by unfold fMv mvK; rfl
theorem mvK_f : mvK i ρ (some (.f d)) = some (.ok (.f d) (ρ.set i .un)) := rfl
theorem mvK_l : mvK i ρ (some (.l ds)) = some (.ok (.l ds) (ρ.set i .un)) := rfl
theorem mvK_dk {ks} : mvK i ρ (some (.dk ks ds)) = some (.ok (.dk ks ds) (ρ.set i .un)) := rfl
theorem mvK_ll {ts} : mvK i ρ (some (.ll ts)) = some (.ok (.ll ts) (ρ.set i .un)) := rfl
theorem mvK_tu {ts} : mvK i ρ (some (.tu ts)) = some (.ok (.tu ts) (ρ.set i .un)) := rfl
theorem mvK_o {C ns ts} : mvK i ρ (some (.o C ns ts)) = some (.ok (.o C ns ts) (ρ.set i .un)) := rfl
def k1 (g : T → Option T) (o : Option T) : Option T := o.bind g
theorem wz_f1 {g} : f1 g fa ρ = k1 g (fa ρ) := rfl
theorem k1_s {g} : k1 g (some x) = g x := rfl
def k2 (g : T → T → Option T) (o p : Option T) : Option T := o.bind fun x => p.bind fun y => g x y
theorem wz_f2 {g} : f2 g fa fb ρ = k2 g (fa ρ) (fb ρ) := rfl
theorem k2_s {g} : k2 g (some x) (some y) = g x y := rfl
def kN (g : List T → Option T) (o : Option (List T)) : Option T := o.bind g
theorem wz_fN {g fs} : fN g fs ρ = kN g (fs ρ) := rfl
theorem kN_s {g ts} : kN g (some ts) = g ts := rfl
theorem wz_fC : fC d ρ = some (.f d) := rfl
theorem wz_aNil : aNil ρ = some [] := rfl
def kCons (o : Option T) (p : Option (List T)) : Option (List T) := o.bind fun x => p.map fun xs => x :: xs
theorem wz_aCons {fs} : aCons fa fs ρ = kCons (fa ρ) (fs ρ) := rfl
theorem kCons_s {ts} : kCons (some x) (some ts) = some (x :: ts) := rfl
def kT (o : Option T) : Option Bool := o.bind T.b?
theorem wz_fT : fT fa ρ = kT (fa ρ) := rfl
theorem kT_s : kT (some (.f (.bl b))) = some b := rfl
def kAnd (gb : List T → Option Bool) (ρ : List T) (o : Option Bool) : Option Bool := o.bind fun x => if x = true then gb ρ else some false
def kOr (gb : List T → Option Bool) (ρ : List T) (o : Option Bool) : Option Bool := o.bind fun x => if x = true then some true else gb ρ
def kNot (o : Option Bool) : Option Bool := o.map (!·)
theorem wz_tAnd {ga gb} : tAndF ga gb ρ = kAnd gb ρ (ga ρ) := rfl
theorem wz_tOr {ga gb} : tOrF ga gb ρ = kOr gb ρ (ga ρ) := rfl
theorem wz_tNot {ga} : tNotF ga ρ = kNot (ga ρ) := rfl
theorem kAnd_t {gb} : kAnd gb ρ (some true) = gb ρ := rfl
theorem kAnd_f {gb} : kAnd gb ρ (some false) = some false := rfl
theorem kOr_t {gb} : kOr gb ρ (some true) = some true := rfl
theorem kOr_f {gb} : kOr gb ρ (some false) = gb ρ := rfl
theorem kNot_s : kNot (some b) = some (!b) := rfl
def kIf (fa fb : List T → Option T) (ρ : List T) (o : Option Bool) : Option T := o.bind fun x => if x = true then fa ρ else fb ρ
theorem wz_fIf {g} : fIf g fa fb ρ = kIf fa fb ρ (g ρ) := rfl
theorem kIf_t : kIf fa fb ρ (some true) = fa ρ := rfl
theorem kIf_f : kIf fa fb ρ (some false) = fb ρ := rfl
theorem wz_fAnd : fAnd fa fb ρ = kIf fb (fC (.bl false)) ρ (kT (fa ρ)) := rfl
theorem wz_fOr : fOr fa fb ρ = kIf (fC (.bl true)) fb ρ (kT (fa ρ)) := rfl
def kBl (o : Option Bool) : Option T := o.map fun x => .f (.bl x)
theorem kBl_s : kBl (some b) = some (.f (.bl b)) := rfl
theorem wz_fNot : fNot fa ρ = kBl (kNot (kT (fa ρ))) := by
  show (fT fa ρ).map _ = _
  show (kT (fa ρ)).map _ = _
  cases kT (fa ρ) <;> rfl
def kLift (ρ : List T) (o : Option T) : Option Re := o.bind fun t => t.d?.map fun d => .ok (.f d) ρ
theorem wz_lift : lift fa ρ = kLift ρ (fa ρ) := rfl
theorem kLift_s : kLift ρ (some (.f d)) = some (.ok (.f d) ρ) := rfl
def kFz (r : Option Re) : Option Re := r.bind fun r => match r with
  | .ok t ρ' => t.fz.map fun d => .ok (.f d) ρ'
  | r => some r
theorem wz_fFz {fo} : fFz fo ρ = kFz (fo ρ) := by
  unfold fFz kFz
  cases fo ρ with
  | none => rfl
  | some r => cases r <;> rfl
theorem kFz_f : kFz (some (.ok (.f d) ρ)) = some (.ok (.f d) ρ) := rfl
theorem kFz_l : kFz (some (.ok (.l ds) ρ)) = some (.ok (.f (.lst ds)) ρ) := rfl
theorem kFz_dk {ks} : kFz (some (.ok (.dk ks ds) ρ)) = some (.ok (.f (.dct ks ds)) ρ) := rfl
theorem wz_sNil : sNil ρ = some (.nx ρ) := rfl
def kSeq (g : FS) (o : Option Out) : Option Out := o.bind fun o => match o with
  | .nx ρ1 => g ρ1
  | o => some o
theorem wz_sSeq : sSeq f g ρ = kSeq g (f ρ) := by
  unfold sSeq kSeq
  cases f ρ with
  | none => rfl
  | some r => cases r <;> rfl
theorem kSeq_nx : kSeq g (some (.nx ρ)) = g ρ := rfl
theorem kSeq_rt : kSeq g (some (.rt t ρ)) = some (.rt t ρ) := rfl
theorem kSeq_bk : kSeq g (some (.bk ρ)) = some (.bk ρ) := rfl
theorem kSeq_ct : kSeq g (some (.ct ρ)) = some (.ct ρ) := rfl
theorem kSeq_xc {C} : kSeq g (some (.xc C ρ)) = some (.xc C ρ) := rfl
def kSet (i : Nat) (o : Option Re) : Option Out := o.map fun r => match r with
  | .ok t ρ1 => .nx (ρ1.set i t)
  | .xc C ρ1 => .xc C ρ1
theorem wz_sSet {fo} : sSet i fo ρ = kSet i (fo ρ) := by
  unfold sSet kSet
  cases fo ρ with
  | none => rfl
  | some r => cases r <;> rfl
theorem kSet_s : kSet i (some (.ok t ρ)) = some (.nx (ρ.set i t)) := rfl
def kEx (o : Option Re) : Option Out := o.map fun r => match r with
  | .ok t ρ1 => .nx ρ1
  | .xc C ρ1 => .xc C ρ1
theorem wz_sExpr {fo} : sExpr fo ρ = kEx (fo ρ) := by
  unfold sExpr kEx
  cases fo ρ with
  | none => rfl
  | some r => cases r <;> rfl
theorem kEx_s : kEx (some (.ok t ρ)) = some (.nx ρ) := rfl
def kRet (o : Option Re) : Option Out := o.map fun r => match r with
  | .ok t ρ1 => .rt t ρ1
  | .xc C ρ1 => .xc C ρ1
theorem wz_sRet {fo} : sRet fo ρ = kRet (fo ρ) := by
  unfold sRet kRet
  cases fo ρ with
  | none => rfl
  | some r => cases r <;> rfl
theorem kRet_s : kRet (some (.ok t ρ)) = some (.rt t ρ) := rfl
theorem wz_sRetN : sRetN ρ = some (.rt (.f .non) ρ) := rfl
theorem wz_sBk : sBk ρ = some (.bk ρ) := rfl
theorem wz_sCt : sCt ρ = some (.ct ρ) := rfl
def kLiB (ρ : List T) (o : Option Bool) : Option Rb := o.map fun x => .ok x ρ
theorem wz_liftB {h} : liftB h ρ = kLiB ρ (h ρ) := rfl
theorem kLiB_s : kLiB ρ (some b) = some (.ok b ρ) := rfl
def kTst (r : Option Re) : Option Rb := r.bind fun r => match r with
  | .ok t ρ1 => t.b?.map fun x => .ok x ρ1
  | .xc C ρ1 => some (.xc C ρ1)
theorem wz_oTest {fo} : oTest fo ρ = kTst (fo ρ) := by
  unfold oTest kTst
  cases fo ρ with
  | none => rfl
  | some r => cases r <;> rfl
theorem kTst_s : kTst (some (.ok (.f (.bl b)) ρ)) = some (.ok b ρ) := rfl
def kONot (r : Option Rb) : Option Rb := r.map fun r => match r with
  | .ok x ρ1 => .ok (!x) ρ1
  | r => r
theorem wz_oNot {ga} : oNot ga ρ = kONot (ga ρ) := by
  unfold oNot kONot
  cases ga ρ with
  | none => rfl
  | some r => cases r <;> rfl
theorem kONot_s : kONot (some (.ok b ρ)) = some (.ok (!b) ρ) := rfl
def kIfS (f g : FS) (r : Option Rb) : Option Out := r.bind fun r => match r with
  | .ok x ρ1 => if x = true then f ρ1 else g ρ1
  | .xc C ρ1 => some (.xc C ρ1)
theorem wz_sIf {h} : sIf h f g ρ = kIfS f g (h ρ) := by
  unfold sIf kIfS
  cases h ρ with
  | none => rfl
  | some r => cases r <;> rfl
theorem kIfS_t : kIfS f g (some (.ok true ρ)) = f ρ := rfl
theorem kIfS_f : kIfS f g (some (.ok false ρ)) = g ρ := rfl
theorem kIfS_d {p : Prop} [Decidable p] : kIfS f g (some (.ok (decide p) ρ)) = if p then f ρ else g ρ := by
  by_cases h : p
  · rw [decide_eq_true h, if_pos h]; rfl
  · rw [decide_eq_false h, if_neg h]; rfl
/-! calls -/
def kV (o : Option D) : Option T := o.map .f
theorem kV_s : kV (some d) = some (.f d) := rfl
def kCall (G : List T → Option Re) (o : Option (List T)) : Option T := o.bind fun ts => (T.fzs ts).bind fun ds => (val (G (ds.map .f))).bind fun d => if (ts.all isF || d.atom) = true then some (.f d) else none
theorem wz_fCallV {G fs} : fCallV G fs ρ = kCall G (fs ρ) := fCallV_eq G fs ρ
theorem fzs_f : ∀ (ds : List D), T.fzs (ds.map .f) = some ds
  | [] => rfl
  | d :: ds => by
    show (T.fz (.f d)).bind (fun d => (T.fzs (ds.map .f)).map fun ds => d :: ds) = _
    rw [fzs_f ds]
    rfl
theorem all_f : ∀ (ds : List D), (ds.map T.f).all isF = true
  | [] => rfl
  | d :: ds => by
    show (isF (.f d) && (ds.map T.f).all isF) = true
    rw [all_f ds]
    rfl
theorem kCall_m {G} : kCall G (some (ds.map T.f)) = kV (val (G (ds.map T.f))) := by
  show (T.fzs (ds.map T.f)).bind _ = _
  rw [fzs_f]
  show (val (G (ds.map .f))).bind _ = _
  rw [all_f]
  cases val (G (ds.map .f)) <;> rfl
theorem kCall_0 {G} : kCall G (some []) = kV (val (G [])) := kCall_m (ds := [])
theorem kCall_1 {G d1} : kCall G (some [.f d1]) = kV (val (G [.f d1])) := kCall_m (ds := [d1])
theorem kCall_2 {G d1 d2} : kCall G (some [.f d1, .f d2]) = kV (val (G [.f d1, .f d2])) := kCall_m (ds := [d1, d2])
theorem kCall_3 {G d1 d2 d3} : kCall G (some [.f d1, .f d2, .f d3]) = kV (val (G [.f d1, .f d2, .f d3])) := kCall_m (ds := [d1, d2, d3])
theorem kCall_4 {G d1 d2 d3 d4} : kCall G (some [.f d1, .f d2, .f d3, .f d4]) = kV (val (G [.f d1, .f d2, .f d3, .f d4])) := kCall_m (ds := [d1, d2, d3, d4])
theorem kCall_5 {G d1 d2 d3 d4 d5} : kCall G (some [.f d1, .f d2, .f d3, .f d4, .f d5]) = kV (val (G [.f d1, .f d2, .f d3, .f d4, .f d5])) := kCall_m (ds := [d1, d2, d3, d4, d5])
theorem kCall_6 {G d1 d2 d3 d4 d5 d6} : kCall G (some [.f d1, .f d2, .f d3, .f d4, .f d5, .f d6]) = kV (val (G [.f d1, .f d2, .f d3, .f d4, .f d5, .f d6])) := kCall_m (ds := [d1, d2, d3, d4, d5, d6])
theorem kCall_7 {G d1 d2 d3 d4 d5 d6 d7} : kCall G (some [.f d1, .f d2, .f d3, .f d4, .f d5, .f d6, .f d7]) = kV (val (G [.f d1, .f d2, .f d3, .f d4, .f d5, .f d6, .f d7])) := kCall_m (ds := [d1, d2, d3, d4, d5, d6, d7])
/-- owned things lent to a def that answers with an atom -/
theorem kCall_g {G ts} (h : T.fzs ts = some ds) (hv : val (G (ds.map .f)) = some d) (ha : d.atom = true) : kCall G (some ts) = some (.f d) := by
  show (T.fzs ts).bind _ = _
  rw [h]
  show (val (G (ds.map .f))).bind _ = _
  rw [hv]
  show (if _ then _ else _) = _
  rw [if_pos (by rw [ha, Bool.or_true])]
/-! displays -/
def kDisp (o : Option (List (Key × D))) : Option T := o.bind fun kds => if kds.length ≤ 15 then some (.f (.dct (dmerge [] [] kds).1 (dmerge [] [] kds).2)) else none
theorem wz_fDispD {h} : fDispD h ρ = kDisp (h ρ) := rfl
theorem kDisp_s {kds : List (Key × D)} (h : kds.length ≤ 15) : kDisp (some kds) = some (.f (.dct (dmerge [] [] kds).1 (dmerge [] [] kds).2)) := if_pos h
theorem wz_pNil : pNil ρ = some [] := rfl
def kPair (ok ov : Option T) (o : Option (List (Key × D))) : Option (List (Key × D)) := ok.bind fun k => k.key?.bind fun k => ov.bind fun v => v.d?.bind fun d => o.map fun r => (k, d) :: r
theorem wz_pCons {h} : pCons fa fb h ρ = kPair (fa ρ) (fb ρ) (h ρ) := rfl
theorem kPair_s {x : Str} {r} : kPair (some (.f (.str x))) (some (.f d)) (some r) = some ((.inr x, d) :: r) := rfl
theorem kPair_i {x : Int} {r} : kPair (some (.f (.int x))) (some (.f d)) (some r) = some ((.inl x, d) :: r) := rfl
def kNl (ρ : List T) (o : Option (List D)) : Option Re := o.bind fun ds => if ds.length ≤ sizeLine then some (.ok (.l ds) ρ) else none
def kNl' (ρ : List T) (o : Option (List T)) : Option Re := o.bind fun ts => kNl ρ (deep ts)
theorem wz_fNewL {fs} : fNewL fs ρ = kNl' ρ (fs ρ) := rfl
theorem kNl'_s {ts} : kNl' ρ (some ts) = kNl ρ (deep ts) := rfl
theorem kNl_s (h : ds.length ≤ 16777216) : kNl ρ (some ds) = some (.ok (.l ds) ρ) := if_pos h
theorem wz_fNewD : fNewD ρ = some (.ok (.dk [] []) ρ) := rfl
/-! loops -/
def kFor (fg : T → List T → Option (List T)) (fb : FS) (r : Option Ri) : Option Out := r.bind fun r => match r with
  | .ok ds ρ1 => forF fg fb ds ρ1
  | .xc C ρ1 => some (.xc C ρ1)
theorem wz_sFor {fi fg fb} : sFor fi fg fb ρ = kFor fg fb (fi ρ) := by
  unfold sFor kFor
  cases fi ρ with
  | none => rfl
  | some r => cases r <;> rfl
theorem kFor_s {fg fb} : kFor fg fb (some (.ok ds ρ)) = forF fg fb ds ρ := rfl
theorem for_nil {fg fb} : forF fg fb [] ρ = some (.nx ρ) := rfl
def kBody (fg : T → List T → Option (List T)) (fb : FS) (ds : List D) (o : Option Out) : Option Out := o.bind fun o => match o with
  | .nx ρ2 => forF fg fb ds ρ2
  | .ct ρ2 => forF fg fb ds ρ2
  | .bk ρ2 => some (.nx ρ2)
  | o => some o
def kTgt (fg : T → List T → Option (List T)) (fb : FS) (ds : List D) (o : Option (List T)) : Option Out := o.bind fun ρ1 => kBody fg fb ds (fb ρ1)
theorem for_cons {fg fb} : forF fg fb (d :: ds) ρ = kTgt fg fb ds (fg (.f d) ρ) := by
  show (fg (.f d) ρ).bind _ = (fg (.f d) ρ).bind _
  cases fg (.f d) ρ with
  | none => rfl
  | some ρ1 =>
    show (fb ρ1).bind _ = (fb ρ1).bind _
    cases fb ρ1 with
    | none => rfl
    | some o => cases o <;> rfl
theorem kTgt_s {fg fb} : kTgt fg fb ds (some ρ) = kBody fg fb ds (fb ρ) := rfl
theorem kBody_nx {fg fb} : kBody fg fb ds (some (.nx ρ)) = forF fg fb ds ρ := rfl
theorem kBody_ct {fg fb} : kBody fg fb ds (some (.ct ρ)) = forF fg fb ds ρ := rfl
theorem kBody_bk {fg fb} : kBody fg fb ds (some (.bk ρ)) = some (.nx ρ) := rfl
theorem kBody_rt {fg fb} : kBody fg fb ds (some (.rt t ρ)) = some (.rt t ρ) := rfl
theorem kBody_xc {fg fb C} : kBody fg fb ds (some (.xc C ρ)) = some (.xc C ρ) := rfl
/-- a loop that runs to its end -/
theorem for_inv {fg : T → List T → Option (List T)} {fb : FS} (P : List D → List T → Prop)
    (step : ∀ d ds ρ, P (d :: ds) ρ → ∃ ρ1 ρ2, fg (.f d) ρ = some ρ1 ∧ (fb ρ1 = some (.nx ρ2) ∨ fb ρ1 = some (.ct ρ2)) ∧ P ds ρ2) :
    ∀ {ds : List D} {ρ : List T}, P ds ρ → ∃ ρ', forF fg fb ds ρ = some (.nx ρ') ∧ P [] ρ'
  | [], ρ, h => ⟨ρ, rfl, h⟩
  | d :: ds, ρ, h => by
    obtain ⟨ρ1, ρ2, e1, e2, h2⟩ := step d ds ρ h
    obtain ⟨ρ', e3, h3⟩ := for_inv P step h2
    refine ⟨ρ', ?_, h3⟩
    rw [for_cons, e1, kTgt_s]
    rcases e2 with e2 | e2
    · rw [e2, kBody_nx, e3]
    · rw [e2, kBody_ct, e3]
def kIt (r : Option Re) : Option Ri := r.bind fun r => match r with
  | .ok t ρ1 => t.d?.bind fun d => d.its.map fun ds => .ok ds ρ1
  | .xc C ρ1 => some (.xc C ρ1)
theorem wz_iVal {fo} : iVal fo ρ = kIt (fo ρ) := by
  unfold iVal kIt
  cases fo ρ with
  | none => rfl
  | some r => cases r <;> rfl
theorem kIt_l : kIt (some (.ok (.f (.lst ds)) ρ)) = some (.ok ds ρ) := rfl
theorem kIt_t : kIt (some (.ok (.f (.tup ds)) ρ)) = some (.ok ds ρ) := rfl
theorem kIt_s {z : Str} : kIt (some (.ok (.f (.str z)) ρ)) = some (.ok (signs z) ρ) := rfl
def kI1 (g : List D → List D) (ρ : List T) (o : Option (List T)) : Option Ri := o.bind fun ts => match ts with
  | [.f (.lst ds)] => some (.ok (g ds) ρ)
  | _ => none
theorem wz_iL1 {g fs} : iL1 g fs ρ = kI1 g ρ (fs ρ) := by
  unfold iL1 kI1
  rfl
theorem kI1_s {g} : kI1 g ρ (some [.f (.lst ds)]) = some (.ok (g ds) ρ) := rfl
def kI2 (g : List D → List D → List D) (ρ : List T) (o : Option (List T)) : Option Ri := o.bind fun ts => match ts with
  | [.f (.lst ds), .f (.lst es)] => some (.ok (g ds es) ρ)
  | _ => none
theorem wz_iL2 {g fs} : iL2 g fs ρ = kI2 g ρ (fs ρ) := by
  unfold iL2 kI2
  rfl
theorem kI2_s {g} : kI2 g ρ (some [.f (.lst ds), .f (.lst es)]) = some (.ok (g ds es) ρ) := rfl
def kR1 (ρ : List T) (o : Option (List T)) : Option Ri := o.bind fun ts => match ts with
  | [.f (.int n)] => if -(2 ^ 62) ≤ n ∧ n < 2 ^ 62 then some (.ok (rangeD 0 n.toNat) ρ) else none
  | _ => none
theorem wz_iR1 {fs} : iR1 fs ρ = kR1 ρ (fs ρ) := by
  unfold iR1 kR1
  rfl
theorem kR1_s {k : Int} (h : -(2 ^ 62) ≤ k ∧ k < 2 ^ 62) : kR1 ρ (some [.f (.int k)]) = some (.ok (rangeD 0 k.toNat) ρ) := if_pos h
def kR2 (ρ : List T) (o : Option (List T)) : Option Ri := o.bind fun ts => match ts with
  | [.f (.int m), .f (.int n)] => if -(2 ^ 62) ≤ m ∧ m < 2 ^ 62 ∧ -(2 ^ 62) ≤ n ∧ n < 2 ^ 62 then some (.ok (rangeD m (n - m).toNat) ρ) else none
  | _ => none
theorem wz_iR2 {fs} : iR2 fs ρ = kR2 ρ (fs ρ) := by
  unfold iR2 kR2
  rfl
theorem kR2_s {j k : Int} (h : -(2 ^ 62) ≤ j ∧ j < 2 ^ 62 ∧ -(2 ^ 62) ≤ k ∧ k < 2 ^ 62) : kR2 ρ (some [.f (.int j), .f (.int k)]) = some (.ok (rangeD j (k - j).toNat) ρ) := if_pos h
theorem rangeD_zero {j : Int} : rangeD j 0 = [] := rfl
theorem rangeD_succ {j : Int} : rangeD j (n + 1) = .int j :: rangeD (j + 1) n := by
  unfold rangeD
  rw [List.range_succ_eq_map, List.map_cons, List.map_map]
  congr 1
  · simp
  · refine List.map_congr_left fun a _ => ?_
    show D.int (j + ((a + 1 : Nat) : Int)) = D.int (j + 1 + (a : Int))
    congr 1
    omega
/-! targets -/
theorem wz_gSet : gSet i t ρ = some (ρ.set i t) := rfl
theorem wz_gsNil : gsNil [] ρ = some ρ := rfl
def kGs (g : List T → List T → Option (List T)) (ts : List T) (o : Option (List T)) : Option (List T) := o.bind fun ρ1 => g ts ρ1
theorem wz_gsCons {h g ts} : gsCons h g (t :: ts) ρ = kGs g ts (h t ρ) := rfl
theorem kGs_s {g ts} : kGs g ts (some ρ) = g ts ρ := rfl
theorem wz_gTupT {h} (e : ds.length = n) : gTupT n h (.f (.tup ds)) ρ = h (ds.map .f) ρ := if_pos e
/-! ends -/
theorem oval_rt (m : Nat) (d : D) (ρ : List T) (h : m ≤ ρ.length) : oval (some (.rt (.f d) ρ)) m = some d := if_pos h
theorem oval_nx (m : Nat) (ρ : List T) (h : m ≤ ρ.length) : oval (some (.nx ρ)) m = some .non := if_pos h
/-! values -/
theorem gIx_ds {ks z} (h : dAt ks ds (.inr z) = some d) : gIx (.f (.dct ks ds)) (.f (.str z)) = some (.f d) := by
  show (Option.orElse none fun _ => _) = _
  show (Option.orElse none fun _ => (dAt ks ds (.inr z)).map T.f) = _
  rw [h]
  rfl
theorem gIx_di {ks} {z : Int} (h : dAt ks ds (.inl z) = some d) : gIx (.f (.dct ks ds)) (.f (.int z)) = some (.f d) := by
  show (Option.orElse none fun _ => _) = _
  show (Option.orElse none fun _ => (dAt ks ds (.inl z)).map T.f) = _
  rw [h]
  rfl
theorem deep_nil : deep [] = some [] := rfl
def kDc (d : D) (o : Option (List D)) : Option (List D) := o.map fun ds => d :: ds
theorem deep_f {ts} : deep (.f d :: ts) = kDc d (deep ts) := rfl
theorem kDc_s : kDc d (some ds) = some (d :: ds) := rfl
theorem deep_map : ∀ (ds : List D), deep (ds.map .f) = some ds
  | [] => rfl
  | d :: ds => by
    show kDc d (deep (ds.map .f)) = _
    rw [deep_map ds]
    rfl
def kTp (o : Option (List D)) : Option T := o.bind fun ds => if ds.length ≤ sizeLine then some (.f (.tup ds)) else none
theorem wz_gTup {ts} : Z.gTup ts = kTp (deep ts) := rfl
theorem kTp_s (h : ds.length ≤ 16777216) : kTp (some ds) = some (.f (.tup ds)) := if_pos h
def kLs (o : Option (List D)) : Option T := o.bind fun ds => if ds.length ≤ sizeLine then some (.f (.lst ds)) else none
theorem wz_gLst {ts} : gLst ts = kLs (deep ts) := rfl
theorem kLs_s (h : ds.length ≤ 16777216) : kLs (some ds) = some (.f (.lst ds)) := if_pos h
theorem atI_of {α : Type} {xs : List α} {i : Int} {a : α} (h0 : 0 ≤ i) (h : xs[i.toNat]? = some a) : atI xs i = some a := by
  have hl : i.toNat < xs.length := by
    rcases Nat.lt_or_ge i.toNat xs.length with z | z
    · exact z
    · rw [List.getElem?_eq_none z] at h; cases h
  unfold atI ixN
  rw [if_pos h0, if_pos (by omega)]
  exact h
theorem atI_nat {α : Type} {xs : List α} {i : Nat} {a : α} (h : xs[i]? = some a) : atI xs (i : Int) = some a := atI_of (by omega) (by simpa using h)
theorem cutD_take {α : Type} {xs : List α} {k : Nat} : cutD xs none (some (k : Int)) = xs.take k := by
  unfold cutD
  rw [HT.sIx_none, HT.sIx_nat, List.drop_zero, Nat.sub_zero]
  rcases Nat.le_total k xs.length with h | h
  · rw [Nat.min_eq_left h]
  · rw [Nat.min_eq_right h, List.take_length, List.take_of_length_le h]
theorem cutD_drop {α : Type} {xs : List α} {k : Nat} : cutD xs (some (k : Int)) none = xs.drop k := by
  unfold cutD
  rw [HT.sIx_none, HT.sIx_nat]
  rcases Nat.le_total k xs.length with h | h
  · rw [Nat.min_eq_left h, List.take_of_length_le (by rw [List.length_drop]; exact Nat.le_refl _)]
  · rw [Nat.min_eq_right h, List.drop_of_length_le (Nat.le_refl _), List.drop_of_length_le h]
    simp
theorem gSl_l {lo hi} : gSl (.f (.lst ds)) lo hi = some (.f (.lst (cutD ds lo hi))) := rfl
theorem gSl_o {lo hi} : gSl (.l ds) lo hi = some (.f (.lst (cutD ds lo hi))) := rfl
def kS00 (o : Option T) : Option T := o.bind fun t => gSl t none none
def kS10 (o p : Option T) : Option T := o.bind fun t => p.bind fun x => x.i?.bind fun i => gSl t (some i) none
def kS01 (o p : Option T) : Option T := o.bind fun t => p.bind fun x => x.i?.bind fun i => gSl t none (some i)
def kS11 (o p q : Option T) : Option T := o.bind fun t => p.bind fun x => x.i?.bind fun i => q.bind fun y => y.i?.bind fun j => gSl t (some i) (some j)
theorem wz_sl00 : fSl fa none none ρ = kS00 (fa ρ) := rfl
theorem wz_sl10 : fSl fa (some fb) none ρ = kS10 (fa ρ) (fb ρ) := rfl
theorem wz_sl01 : fSl fa none (some fb) ρ = kS01 (fa ρ) (fb ρ) := rfl
theorem wz_sl11 : fSl fa (some fb) (some fc) ρ = kS11 (fa ρ) (fb ρ) (fc ρ) := rfl
theorem kS00_s : kS00 (some t) = gSl t none none := rfl
theorem kS10_s {i : Int} : kS10 (some t) (some (.f (.int i))) = gSl t (some i) none := rfl
theorem kS01_s {i : Int} : kS01 (some t) (some (.f (.int i))) = gSl t none (some i) := rfl
theorem kS11_s {i j : Int} : kS11 (some t) (some (.f (.int i))) (some (.f (.int j))) = gSl t (some i) (some j) := rfl
def gIsi (n : String) (t : T) : Option T := t.ty.bind fun m => (kitB m n).map fun b => .f (.bl b)
theorem wz_fIsi {n : String} : fIsi n fa ρ = k1 (gIsi n) (fa ρ) := rfl
theorem kitB_ii : kitB "int" "int" = some true := by decide +kernel
theorem kitB_ib : kitB "int" "bool" = some false := by decide +kernel
theorem kitB_nl : kitB "NoneType" "list" = some false := by decide +kernel
theorem kitB_ll : kitB "list" "list" = some true := by decide +kernel
theorem kitB_tt : kitB "tuple" "tuple" = some true := by decide +kernel
theorem kitB_ss : kitB "str" "str" = some true := by decide +kernel
theorem kitB_bb : kitB "bool" "bool" = some true := by decide +kernel
theorem kitB_tl : kitB "tuple" "list" = some false := by decide +kernel
theorem kitB_dd : kitB "dict" "dict" = some true := by decide +kernel
theorem gIsi_ii {i : Int} : gIsi "int" (.f (.int i)) = some (.f (.bl true)) := congrArg (Option.map fun b => T.f (.bl b)) kitB_ii
theorem gIsi_ib {i : Int} : gIsi "bool" (.f (.int i)) = some (.f (.bl false)) := congrArg (Option.map fun b => T.f (.bl b)) kitB_ib
theorem gIsi_ll : gIsi "list" (.f (.lst ds)) = some (.f (.bl true)) := congrArg (Option.map fun b => T.f (.bl b)) kitB_ll
theorem gIsi_lo : gIsi "list" (.l ds) = some (.f (.bl true)) := congrArg (Option.map fun b => T.f (.bl b)) kitB_ll
theorem gIsi_tt : gIsi "tuple" (.f (.tup ds)) = some (.f (.bl true)) := congrArg (Option.map fun b => T.f (.bl b)) kitB_tt
theorem gIsi_ss {i : Str} : gIsi "str" (.f (.str i)) = some (.f (.bl true)) := congrArg (Option.map fun b => T.f (.bl b)) kitB_ss
theorem gIsi_bb {i : Bool} : gIsi "bool" (.f (.bl i)) = some (.f (.bl true)) := congrArg (Option.map fun b => T.f (.bl b)) kitB_bb
theorem gIsi_dd {ks} : gIsi "dict" (.f (.dct ks ds)) = some (.f (.bl true)) := congrArg (Option.map fun b => T.f (.bl b)) kitB_dd
theorem gCat_l (h : ds.length + es.length ≤ 16777216) : gAdd (.f (.lst ds)) (.f (.lst es)) = some (.f (.lst (ds ++ es))) := by
  show (Option.orElse none fun _ => Option.orElse none fun _ => Option.orElse (if ds.length + es.length ≤ sizeLine then some (T.f (.lst (ds ++ es))) else none) fun _ => _) = _
  rw [if_pos (show ds.length + es.length ≤ sizeLine from h)]
  rfl
theorem gCat_s {x y : Str} (h : x.length + y.length ≤ 16777216) : gAdd (.f (.str x)) (.f (.str y)) = some (.f (.str (x ++ y))) := by
  show (Option.orElse none fun _ => Option.orElse (if x.length + y.length ≤ sizeLine then some (T.f (.str (x ++ y))) else none) fun _ => _) = _
  rw [if_pos (show x.length + y.length ≤ sizeLine from h)]
  rfl
theorem dec01 {p : Prop} [Decidable p] : (if decide p = true then (1 : Int) else 0) = if p then 1 else 0 := by
  by_cases h : p
  · rw [decide_eq_true h, if_pos h]; rfl
  · rw [decide_eq_false h, if_neg h]; rfl
end
end Z

namespace Z
open PySem L2
/-! ### rules with number conditions, for a walk that discharges them -/
section
variable {i j : Int} {x y : Str} {a b : Bool} {ds es : List D} {d e : D} {ρ : List T}
theorem str_inj {a b : String} : (Str.ofString a = Str.ofString b) = (a = b) := propext ⟨fun h => by
  rw [Str.ofString_eq_toList, Str.ofString_eq_toList] at h
  injection h with h
  have h2 : a.toList.map Char.toNat = b.toList.map Char.toNat := by simpa using h
  have h3 := (List.map_inj_right (fun x y e => Char.ext (UInt32.toNat_inj.mp e))).mp h2
  exact String.ext h3, fun h => by rw [h]⟩
theorem pow8999 : (10 : Nat) ^ 60 < 2 ^ 8999 := by
  have h : (2 : Nat) ^ 200 ≤ 2 ^ 8999 := Nat.pow_le_pow_right (by decide) (by decide)
  exact Nat.lt_of_lt_of_le (by decide) h
theorem pow1000 : (10 : Nat) ^ 60 < 2 ^ 1000 := by
  have h : (2 : Nat) ^ 200 ≤ 2 ^ 1000 := Nat.pow_le_pow_right (by decide) (by decide)
  exact Nat.lt_of_lt_of_le (by decide) h
theorem gDiv_o (h : 0 < j) (h2 : j ≤ 1000000000000000000000000000000000000000000000000000000000000) : gDiv (.f (.int i)) (.f (.int j)) = some (.f (.int (i / j))) := gDiv_ok h (Nat.lt_of_le_of_lt (by show j.natAbs ≤ 10 ^ 60; omega) pow8999)
theorem gMul_o (h1 : -1000000000000000000000000000000000000000000000000000000000000 ≤ i) (h2 : i ≤ 1000000000000000000000000000000000000000000000000000000000000) (h3 : -1000000000000000000000000000000000000000000000000000000000000 ≤ j) (h4 : j ≤ 1000000000000000000000000000000000000000000000000000000000000) : gMul (.f (.int i)) (.f (.int j)) = some (.f (.int (i * j))) :=
  gMul_small (Nat.lt_of_le_of_lt (by show i.natAbs ≤ 10 ^ 60; omega) pow1000) (Nat.lt_of_le_of_lt (by show j.natAbs ≤ 10 ^ 60; omega) pow1000)
theorem gShl_o (h : 0 ≤ j) (h1 : j ≤ 1000000) : gShl (.f (.int 1)) (.f (.int j)) = some (.f (.int (2 ^ j.toNat))) := by
  rw [gShl_ok h h1 (by decide), Int.one_mul]
theorem gShr_o (h : 0 ≤ j) : gShr (.f (.int i)) (.f (.int j)) = some (.f (.int (i / 2 ^ j.toNat))) := gShr_ok h
def kVT (o : Option D) : Option T := o.map T.f
theorem kVT_s : kVT (some d) = some (.f d) := rfl
theorem or2_none {g h : T → T → Option T} {s t : T} (e : g s t = none) : or2 g h s t = h s t := by
  unfold or2
  rw [e]
  rfl
theorem or2_r {g h : T → T → Option T} {s t : T} (e : h s t = none) : or2 g h s t = g s t := by
  unfold or2
  rw [e]
  cases g s t <;> rfl
theorem gIx_lst : gIx (.f (.lst ds)) (.f (.int i)) = kVT (atI ds i) := by
  unfold gIx
  rw [or2_r rfl, or2_r rfl]
  rfl
theorem gIx_own : gIx (.l ds) (.f (.int i)) = kVT (atI ds i) := by
  unfold gIx
  rw [or2_r rfl, or2_r rfl]
  rfl
theorem gIx_tup : gIx (.f (.tup ds)) (.f (.int i)) = kVT (atI ds i) := by
  unfold gIx
  rw [or2_r rfl, or2_r rfl]
  rfl
theorem gIx_dct {ks} : gIx (.f (.dct ks ds)) (.f (.str x)) = kVT (dAt ks ds (.inr x)) := by
  unfold gIx
  rw [or2_none rfl]
  rfl
theorem gIx_dcti {ks} : gIx (.f (.dct ks ds)) (.f (.int i)) = kVT (dAt ks ds (.inl i)) := by
  unfold gIx
  rw [or2_none rfl]
  rfl
theorem gIx_odct {ks} : gIx (.dk ks ds) (.f (.str x)) = kVT (dAt ks ds (.inr x)) := by
  unfold gIx
  rw [or2_none rfl]
  rfl
theorem gIx_odcti {ks} : gIx (.dk ks ds) (.f (.int i)) = kVT (dAt ks ds (.inl i)) := by
  unfold gIx
  rw [or2_none rfl]
  rfl
theorem atI_pos {α : Type} {xs : List α} (h : 0 ≤ i) : atI xs i = xs[i.toNat]? := by
  unfold atI ixN
  rw [if_pos h]
  by_cases hl : i < xs.length
  · rw [if_pos hl]; rfl
  · rw [if_neg hl]
    show none = _
    rw [List.getElem?_eq_none (by omega)]
theorem atI_neg {α : Type} {xs : List α} (h : i < 0) (h2 : -(xs.length : Int) ≤ i) : atI xs i = xs[(i + xs.length).toNat]? := by
  unfold atI ixN
  rw [if_neg (by omega), if_pos h2]
  rfl
theorem dAt_cons {k q : Key} {ks : List Key} : dAt (k :: ks) (d :: ds) q = if k = q then some d else dAt ks ds q := rfl
theorem gTupT1 {h a} : gTupT 1 h (.f (.tup [a])) ρ = h [.f a] ρ := rfl
theorem gTupT2 {h a b} : gTupT 2 h (.f (.tup [a, b])) ρ = h [.f a, .f b] ρ := rfl
theorem gTupT3 {h a b c} : gTupT 3 h (.f (.tup [a, b, c])) ρ = h [.f a, .f b, .f c] ρ := rfl
theorem gTupT4 {h a b c d} : gTupT 4 h (.f (.tup [a, b, c, d])) ρ = h [.f a, .f b, .f c, .f d] ρ := rfl
theorem gTupT5 {h a b c d e} : gTupT 5 h (.f (.tup [a, b, c, d, e])) ρ = h [.f a, .f b, .f c, .f d, .f e] ρ := rfl
/-! None -/
theorem gIsNn_i {neg : Bool} : gIsNn neg (.f (.int i)) = some (.f (.bl (xor neg false))) := rfl
theorem gIsNn_s {neg : Bool} : gIsNn neg (.f (.str x)) = some (.f (.bl (xor neg false))) := rfl
theorem gIsNn_b {neg : Bool} : gIsNn neg (.f (.bl a)) = some (.f (.bl (xor neg false))) := rfl
theorem gIsNn_n {neg : Bool} : gIsNn neg (.f .non) = some (.f (.bl (xor neg true))) := rfl
theorem gIsNn_l {neg : Bool} : gIsNn neg (.f (.lst ds)) = some (.f (.bl (xor neg false))) := rfl
theorem gIsNn_t {neg : Bool} : gIsNn neg (.f (.tup ds)) = some (.f (.bl (xor neg false))) := rfl
theorem gIsNn_d {neg : Bool} {ks} : gIsNn neg (.f (.dct ks ds)) = some (.f (.bl (xor neg false))) := rfl
theorem gIsNn_o {neg : Bool} : gIsNn neg (.l ds) = some (.f (.bl (xor neg false))) := rfl
theorem gIsNn_od {neg : Bool} {ks} : gIsNn neg (.dk ks ds) = some (.f (.bl (xor neg false))) := rfl
theorem wz_fIsN {neg : Bool} {fa} : fIsN neg fa ρ = k1 (gIsNn neg) (fa ρ) := rfl
/-! chains -/
def kChain (g h : T → T → Option T) (fd : List T → Option T) (ρ : List T) (oa ob : Option T) : Option T := oa.bind fun x => ob.bind fun y => (g x y).bind fun z => z.b?.bind fun k => if k = true then (fd ρ).bind fun w => h y w else some (.f (.bl false))
theorem wz_fChain {g h fa fb fd} : fChain g h fa fb fd ρ = kChain g h fd ρ (fa ρ) (fb ρ) := rfl
def kCh1 (h : T → T → Option T) (fd : List T → Option T) (ρ : List T) (y : T) (o : Option T) : Option T := o.bind fun z => z.b?.bind fun k => if k = true then (fd ρ).bind fun w => h y w else some (.f (.bl false))
theorem kChain_s {g h fd x y} : kChain g h fd ρ (some x) (some y) = kCh1 h fd ρ y (g x y) := rfl
theorem kCh1_t {h fd y} : kCh1 h fd ρ y (some (.f (.bl true))) = k2 h (some y) (fd ρ) := rfl
theorem kCh1_f {h fd y} : kCh1 h fd ρ y (some (.f (.bl false))) = some (.f (.bl false)) := rfl
/-! ends of turns -/
def Wn0 (Q : List T → Prop) (R : Out → Prop) : Option Out → Prop
  | some (.nx ρ) => Q ρ
  | some (.ct ρ) => Q ρ
  | some (.bk ρ) => R (.nx ρ)
  | some (.rt t ρ) => R (.rt t ρ)
  | some (.xc C ρ) => R (.xc C ρ)
  | none => False
structure Wn (Q : List T → Prop) (R : Out → Prop) (o : Option Out) : Prop where
  go : Wn0 Q R o
def kTurn (fb : FS) (o : Option (List T)) : Option Out := o.bind fb
theorem kTurn_s {fb} : kTurn fb (some ρ) = fb ρ := rfl
/-- a loop: P what stands ahead of each turn, R how it may end otherwise -/
theorem for_wp {fg : T → List T → Option (List T)} {fb : FS} (P : List D → List T → Prop) (R : Out → Prop) (step : ∀ d ds ρ, P (d :: ds) ρ → Wn (P ds) R (kTurn fb (fg (.f d) ρ))) :
    ∀ {ds : List D} {ρ : List T}, P ds ρ → ∃ o, forF fg fb ds ρ = some o ∧ ((∃ ρ', o = .nx ρ' ∧ P [] ρ') ∨ R o)
  | [], ρ, h => ⟨.nx ρ, rfl, .inl ⟨ρ, rfl, h⟩⟩
  | d :: ds, ρ, h => by
    have s := step d ds ρ h
    rw [for_cons]
    cases e1 : fg (.f d) ρ with
    | none => rw [e1] at s; exact s.go.elim
    | some ρ1 =>
      rw [e1, kTurn_s] at s
      rw [kTgt_s]
      cases e2 : fb ρ1 with
      | none => rw [e2] at s; exact s.go.elim
      | some o =>
        rw [e2] at s
        cases o with
        | nx ρ2 => rw [kBody_nx]; exact for_wp P R step s.go
        | ct ρ2 => rw [kBody_ct]; exact for_wp P R step s.go
        | bk ρ2 => rw [kBody_bk]; exact ⟨_, rfl, .inr s.go⟩
        | rt t ρ2 => rw [kBody_rt]; exact ⟨_, rfl, .inr s.go⟩
        | xc C ρ2 => rw [kBody_xc]; exact ⟨_, rfl, .inr s.go⟩
theorem for_all {fg : T → List T → Option (List T)} {fb : FS} (P : List D → List T → Prop) (step : ∀ d ds ρ, P (d :: ds) ρ → Wn (P ds) (fun _ => False) (kTurn fb (fg (.f d) ρ))) {ds : List D} {ρ : List T} (h : P ds ρ) : ∃ ρ', forF fg fb ds ρ = some (.nx ρ') ∧ P [] ρ' := by
  obtain ⟨o, e, ⟨ρ', rfl, h'⟩ | h'⟩ := for_wp P (fun _ => False) step h
  · exact ⟨ρ', e, h'⟩
  · exact h'.elim
theorem Wn_of {o : Option Out} {Q R} {ρ' : List T} (h : o = some (.nx ρ')) (hq : Q ρ') : Wn Q R o := ⟨by rw [h]; exact hq⟩
theorem Wn_of_rt {o : Option Out} {Q R t} {ρ' : List T} (h : o = some (.rt t ρ')) (hq : R (.rt t ρ')) : Wn Q R o := ⟨by rw [h]; exact hq⟩
theorem Wn_of_ct {o : Option Out} {Q R} {ρ' : List T} (h : o = some (.ct ρ')) (hq : Q ρ') : Wn Q R o := ⟨by rw [h]; exact hq⟩
theorem Wn_of_bk {o : Option Out} {Q R} {ρ' : List T} (h : o = some (.bk ρ')) (hq : R (.nx ρ')) : Wn Q R o := ⟨by rw [h]; exact hq⟩
/-- what a def answers -/
def Vd (Q : D → Prop) (m : Nat) (o : Option Out) : Prop := ∃ d, oval o m = some d ∧ Q d
theorem oval_rt' {m : Nat} {d : D} (h : m ≤ ρ.length) : oval (some (.rt (.f d) ρ)) m = some d := if_pos h
theorem oval_nx' {m : Nat} (h : m ≤ ρ.length) : oval (some (.nx ρ)) m = some .non := if_pos h
end
end Z

namespace Z
open PySem L2
/-! ### walking: lists made, things changed in place -/
section
variable {ρ ρ1 : List T} {d e : D} {ds es : List D} {t x y : T} {i n m : Nat} {b : Bool} {f g : FS} {fa fb fc fe fk : List T → Option T} {vs : List Nat} {q : Int} {z : Str}
variable {fi : List T → Option (List D)} {fg : T → List T → Option (List T)} {ft : List T → Option Bool}
def okV (o : Option T) : Bool := match o with
  | none => true
  | some .un => true
  | some (.f _) => true
  | _ => false
theorem okW_nil : okW ρ [] = true := rfl
theorem okW_cons {v : Nat} : okW ρ (v :: vs) = (okV ρ[v]? && okW ρ vs) := by
  unfold okW okV
  rw [List.all_cons]
  try rfl
theorem okV_n : okV none = true := rfl
theorem okV_u : okV (some .un) = true := rfl
theorem okV_f : okV (some (.f d)) = true := rfl
theorem wipeR_nil : wipeR ρ [] = ρ := rfl
theorem wipeR_cons {v : Nat} : wipeR ρ (v :: vs) = (wipeR ρ vs).set v .un := rfl
def kLc (fg : T → List T → Option (List T)) (ft : List T → Option Bool) (fe : List T → Option T) (ρ0 : List T) (o : Option (List D)) : Option T := o.bind fun ds => kLs (lcF fg ft fe ρ0 ds)
def kLcB (b : Bool) (o : Option T) : Option T := if b = true then o else none
theorem wz_fLc : fLc vs fi fg ft fe ρ = kLcB (okW ρ vs) (kLc fg ft fe (wipeR ρ vs) (fi ρ)) := rfl
theorem kLcB_t {o} : kLcB true o = o := rfl
theorem kLc_s : kLc fg ft fe ρ (some ds) = kLs (lcF fg ft fe ρ ds) := rfl
def kL3 (rest : Option (List D)) (o : Option T) : Option (List D) := o.bind fun t => t.d?.bind fun e => rest.map fun r => e :: r
def kL2 (fe : List T → Option T) (rest : Option (List D)) (ρ1 : List T) (o : Option Bool) : Option (List D) := o.bind fun b => if b = true then kL3 rest (fe ρ1) else rest
def kL1 (ft : List T → Option Bool) (fe : List T → Option T) (rest : Option (List D)) (o : Option (List T)) : Option (List D) := o.bind fun ρ1 => kL2 fe rest ρ1 (ft ρ1)
theorem lcF_nil : lcF fg ft fe ρ [] = some [] := rfl
theorem lcF_cons : lcF fg ft fe ρ (d :: ds) = kL1 ft fe (lcF fg ft fe ρ ds) (fg (.f d) ρ) := rfl
theorem kL1_s {rest} : kL1 ft fe rest (some ρ1) = kL2 fe rest ρ1 (ft ρ1) := rfl
theorem kL2_t {rest} : kL2 fe rest ρ1 (some true) = kL3 rest (fe ρ1) := rfl
theorem kL2_f {rest} : kL2 fe rest ρ1 (some false) = rest := rfl
theorem kL2_d {rest} {p : Prop} [Decidable p] : kL2 fe rest ρ1 (some (decide p)) = if p then kL3 rest (fe ρ1) else rest := by
  by_cases h : p
  · rw [decide_eq_true h, if_pos h]; rfl
  · rw [decide_eq_false h, if_neg h]; rfl
theorem kL3_s : kL3 (some ds) (some (.f d)) = some (d :: ds) := rfl
theorem tYes_s : tYesF ρ = some true := rfl
/-- one turn -/
def lcT (fg : T → List T → Option (List T)) (ft : List T → Option Bool) (fe : List T → Option T) (ρ0 : List T) (d : D) : Option (List D) := kL1 ft fe (some []) (fg (.f d) ρ0)
theorem wz_lcT : lcT fg ft fe ρ d = kL1 ft fe (some []) (fg (.f d) ρ) := rfl
theorem lcF_of {α : Type} {φ : α → D} {G : α → List D} : ∀ {as : List α}, (∀ a ∈ as, lcT fg ft fe ρ (φ a) = some (G a)) → lcF fg ft fe ρ (as.map φ) = some (as.flatMap G)
  | [], _ => rfl
  | a :: as, h => by
    have h1 := h a List.mem_cons_self
    have h2 := lcF_of (as := as) fun b hb => h b (List.mem_cons_of_mem _ hb)
    rw [List.map_cons, lcF_cons, h2, List.flatMap_cons]
    unfold lcT at h1
    cases e1 : fg (.f (φ a)) ρ with
    | none => rw [e1] at h1; cases h1
    | some ρ1 =>
      rw [e1, kL1_s] at h1
      rw [kL1_s]
      cases e2 : ft ρ1 with
      | none => rw [e2] at h1; cases h1
      | some c =>
        rw [e2] at h1
        cases c with
        | false => rw [kL2_f] at h1 ⊢; rw [← Option.some.inj h1]; rfl
        | true =>
          rw [kL2_t] at h1 ⊢
          cases e3 : fe ρ1 with
          | none => rw [e3] at h1; cases h1
          | some t =>
            rw [e3] at h1
            cases t with
            | f dd =>
              rw [kL3_s] at h1 ⊢
              rw [← Option.some.inj h1]
              rfl
            | _ => cases h1
def kJV (o : Option T) : Option (List D) := o.bind fun t => match t with
  | .f d => d.its
  | _ => none
theorem wz_jVal : jVal fa ρ = kJV (fa ρ) := by unfold jVal kJV; rfl
theorem kJV_l : kJV (some (.f (.lst ds))) = some ds := rfl
theorem kJV_t : kJV (some (.f (.tup ds))) = some ds := rfl
theorem kJV_s : kJV (some (.f (.str z))) = some (signs z) := rfl
def kJ1 (g : List D → List D) (o : Option (List T)) : Option (List D) := o.bind fun ts => match ts with
  | [.f (.lst ds)] => some (g ds)
  | _ => none
theorem wz_jL1 {g fs} : jL1 g fs ρ = kJ1 g (fs ρ) := by unfold jL1 kJ1; rfl
theorem kJ1_s {g} : kJ1 g (some [.f (.lst ds)]) = some (g ds) := rfl
def kJ2 (g : List D → List D → List D) (o : Option (List T)) : Option (List D) := o.bind fun ts => match ts with
  | [.f (.lst ds), .f (.lst es)] => some (g ds es)
  | _ => none
theorem wz_jL2 {g fs} : jL2 g fs ρ = kJ2 g (fs ρ) := by unfold jL2 kJ2; rfl
theorem kJ2_s {g} : kJ2 g (some [.f (.lst ds), .f (.lst es)]) = some (g ds es) := rfl
def kJR1 (o : Option (List T)) : Option (List D) := o.bind fun ts => match ts with
  | [.f (.int n)] => if -(2 ^ 62) ≤ n ∧ n < 2 ^ 62 then some (rangeD 0 n.toNat) else none
  | _ => none
theorem wz_jR1 {fs} : jR1 fs ρ = kJR1 (fs ρ) := by unfold jR1 kJR1; rfl
theorem kJR1_s {k : Int} (h : -(2 ^ 62) ≤ k ∧ k < 2 ^ 62) : kJR1 (some [.f (.int k)]) = some (rangeD 0 k.toNat) := if_pos h
def kJR2 (o : Option (List T)) : Option (List D) := o.bind fun ts => match ts with
  | [.f (.int m), .f (.int n)] => if -(2 ^ 62) ≤ m ∧ m < 2 ^ 62 ∧ -(2 ^ 62) ≤ n ∧ n < 2 ^ 62 then some (rangeD m (n - m).toNat) else none
  | _ => none
theorem wz_jR2 {fs} : jR2 fs ρ = kJR2 (fs ρ) := by unfold jR2 kJR2; rfl
theorem kJR2_s {j k : Int} (h : -(2 ^ 62) ≤ j ∧ j < 2 ^ 62 ∧ -(2 ^ 62) ≤ k ∧ k < 2 ^ 62) : kJR2 (some [.f (.int j), .f (.int k)]) = some (rangeD j (k - j).toNat) := if_pos h
/-! places -/
theorem wz_pHere : pHere ρ = some [] := rfl
def kMu (i : Nat) (ρ : List T) (o : Option T) : Option (List T) := o.map fun u => ρ.set i u
theorem kMu_s : kMu i ρ (some t) = some (ρ.set i t) := rfl
theorem mutF_here {g : T → Option T} : mutF i [] g ρ = kMu i ρ (k1 g ρ[i]?) := by
  unfold mutF kMu k1
  cases ρ[i]? <;> rfl
def kNx (o : Option (List T)) : Option Out := o.map .nx
theorem kNx_s : kNx (some ρ) = some (.nx ρ) := rfl
def kApp (i : Nat) (ρ : List T) (π : Option (List Sel)) (o : Option T) : Option Out := π.bind fun π => o.bind fun x => x.d?.bind fun d => kNx (mutF i π (appT d) ρ)
theorem wz_sApp {fp} : sApp i fp fe ρ = kApp i ρ (fp ρ) (fe ρ) := rfl
theorem kApp_s {π} : kApp i ρ (some π) (some (.f d)) = kNx (mutF i π (appT d) ρ) := rfl
theorem appT_l (h : ds.length < 16777216) : appT d (.l ds) = some (.l (ds ++ [d])) := if_pos h
def kSI (i : Nat) (ρ : List T) (o : Option T) (π : Option (List Sel)) (k : Option T) : Option Out := o.bind fun x => x.d?.bind fun d => π.bind fun π => k.bind fun z => z.d?.bind fun q => kNx (mutF i π (setT q d) ρ)
theorem wz_sSetIx {fp} : sSetIx i fp fk fe ρ = kSI i ρ (fe ρ) (fp ρ) (fk ρ) := rfl
theorem kSI_s {π} {q : D} : kSI i ρ (some (.f d)) (some π) (some (.f q)) = kNx (mutF i π (setT q d) ρ) := rfl
theorem setT_l (h0 : 0 ≤ q) (h : q < ds.length) : setT (.int q) d (.l ds) = some (.l (ds.set q.toNat d)) := by
  show (ixN ds.length q).map _ = _
  unfold ixN
  rw [if_pos h0, if_pos h]
  rfl
theorem setT_ds {ks : List Key} (h : ks.length < 16777216) : setT (.str z) d (.dk ks ds) = some (.dk (dput ks ds (.inr z) d).1 (dput ks ds (.inr z) d).2) := if_pos h
theorem setT_di {ks : List Key} (h : ks.length < 16777216) : setT (.int q) d (.dk ks ds) = some (.dk (dput ks ds (.inl q) d).1 (dput ks ds (.inl q) d).2) := if_pos h
/-! becoming deep -/
def kF2 (i : Nat) (ρ : List T) (o : Option T) : Option (List T) := match o with
  | some .un => some ρ
  | some t => t.fz.map fun d => ρ.set i (.f d)
  | none => none
theorem wz_fzS : fzS i ρ = kF2 i ρ ρ[i]? := by unfold fzS kF2; rfl
theorem kF2_u : kF2 i ρ (some .un) = some ρ := rfl
theorem kF2_f : kF2 i ρ (some (.f d)) = some (ρ.set i (.f d)) := rfl
theorem kF2_l : kF2 i ρ (some (.l ds)) = some (ρ.set i (.f (.lst ds))) := rfl
theorem kF2_d {ks} : kF2 i ρ (some (.dk ks ds)) = some (ρ.set i (.f (.dct ks ds))) := rfl
def kFS (f : FS) (o : Option (List T)) : Option Out := o.bind f
theorem wz_sFz : sFz i f ρ = kFS f (fzS i ρ) := rfl
theorem kFS_s : kFS f (some ρ) = f ρ := rfl
/-! in -/
def lstD (l : List Str) : List D := l.map .str
theorem any_v {z : Str} : ∀ (l : List Str), inV (.str z) ((l.map D.str).map D.v) = decide (z ∈ l)
  | [] => rfl
  | a :: l => by
    have ih := any_v (z := z) l
    unfold inV at ih ⊢
    rw [List.map_cons, List.map_cons, List.any_cons, ih]
    rw [show eqV (D.str a).v (V.str z) = decide (a = z) from rfl]
    by_cases h : a = z
    · subst h; simp
    · have h' : z ≠ a := fun e => h e.symm
      simp [h, h']
theorem flat_strs : ∀ (l : List Str), (l.map D.str).all flatD = true
  | [] => rfl
  | a :: l => by rw [List.map_cons, List.all_cons, flat_strs l]; rfl
theorem any_i {z : Int} : ∀ (l : List Int), inV (.int z) ((l.map D.int).map D.v) = decide (z ∈ l)
  | [] => rfl
  | a :: l => by
    have ih := any_i (z := z) l
    unfold inV at ih ⊢
    rw [List.map_cons, List.map_cons, List.any_cons, ih]
    rw [show eqV (D.int a).v (V.int z) = decide (a = z) from rfl]
    by_cases h : a = z
    · subst h; simp
    · have h' : z ≠ a := fun e => h e.symm
      simp [h, h']
theorem flat_ints : ∀ (l : List Int), (l.map D.int).all flatD = true
  | [] => rfl
  | a :: l => by rw [List.map_cons, List.all_cons, flat_ints l]; rfl
theorem gIn_of {neg : Bool} {w : V} {t u : T} {ds : List D} (h1 : t.v? = some w) (h2 : u.sq? = some ds) (h3 : ds.all flatD = true) : gInQ neg t u = some (.f (.bl (xor neg (inV w (ds.map D.v))))) := by
  unfold gInQ
  rw [h1, h2]
  show (if ds.all flatD = true then _ else none) = _
  rw [if_pos h3]
theorem or2_some {g h : T → T → Option T} {s t u : T} (e : g s t = some u) : or2 g h s t = some u := by
  unfold or2
  rw [e]
  rfl
theorem gIn_ss {l : List Str} : gIn (.f (.str z)) (.f (.lst (l.map D.str))) = some (.f (.bl (decide (z ∈ l)))) := by
  rw [show gIn (.f (.str z)) (.f (.lst (l.map D.str))) = _ from or2_some (gIn_of (neg := false) rfl rfl (flat_strs l)), any_v, Bool.false_xor]
theorem gIn_ii {l : List Int} : gIn (.f (.int q)) (.f (.lst (l.map D.int))) = some (.f (.bl (decide (q ∈ l)))) := by
  rw [show gIn (.f (.int q)) (.f (.lst (l.map D.int))) = _ from or2_some (gIn_of (neg := false) rfl rfl (flat_ints l)), any_i, Bool.false_xor]
theorem gNotIn_ss {l : List Str} : gNotIn (.f (.str z)) (.f (.lst (l.map D.str))) = some (.f (.bl (!decide (z ∈ l)))) := by
  rw [show gNotIn (.f (.str z)) (.f (.lst (l.map D.str))) = _ from or2_some (gIn_of (neg := true) rfl rfl (flat_strs l)), any_v, Bool.true_xor]
theorem gNotIn_ii {l : List Int} : gNotIn (.f (.int q)) (.f (.lst (l.map D.int))) = some (.f (.bl (!decide (q ∈ l)))) := by
  rw [show gNotIn (.f (.int q)) (.f (.lst (l.map D.int))) = _ from or2_some (gIn_of (neg := true) rfl rfl (flat_ints l)), any_i, Bool.true_xor]
-- nosimp lcF_of
-- nosimp any_v
-- nosimp any_i
-- nosimp flat_strs
-- nosimp flat_ints
-- nosimp gIn_of
-- nosimp or2_some
end
/-! == of alike deep things -/
mutual
def D.fine : D → Nat → Bool
  | .non, _ => true
  | .bl _, _ => true
  | .int _, _ => true
  | .str x, _ => PyData.canLay0 (.str x)
  | .tup l, n => decide (0 < n) && D.fines l (n - 1)
  | .lst l, n => decide (0 < n) && D.fines l (n - 1)
  | .dct _ _, _ => false
  | .obj _ _ _, _ => false
def D.fines : List D → Nat → Bool
  | [], _ => true
  | d :: ds, n => D.fine d n && D.fines ds n
end
mutual
theorem D.fine_py : ∀ (d : D) (n : Nat), d.fine n = true → ∃ p, d.py = some p ∧ p.canLay0 = true ∧ p.depth ≤ n
  | .non, n, _ => ⟨_, rfl, rfl, Nat.zero_le _⟩
  | .bl _, n, _ => ⟨_, rfl, rfl, Nat.zero_le _⟩
  | .int _, n, _ => ⟨_, rfl, rfl, Nat.zero_le _⟩
  | .str x, n, h => ⟨_, rfl, h, Nat.zero_le _⟩
  | .tup l, n, h => by
    have h' : (decide (0 < n) && D.fines l (n - 1)) = true := h
    rw [Bool.and_eq_true, decide_eq_true_eq] at h'
    obtain ⟨ps, e, q1, q2⟩ := D.fines_py l (n - 1) h'.2
    refine ⟨.tuple ps, by show (D.pys l).map _ = _; rw [e]; rfl, q1, ?_⟩
    show PyData.depthAll ps + 1 ≤ n
    omega
  | .lst l, n, h => by
    have h' : (decide (0 < n) && D.fines l (n - 1)) = true := h
    rw [Bool.and_eq_true, decide_eq_true_eq] at h'
    obtain ⟨ps, e, q1, q2⟩ := D.fines_py l (n - 1) h'.2
    refine ⟨.list ps, by show (D.pys l).map _ = _; rw [e]; rfl, q1, ?_⟩
    show PyData.depthAll ps + 1 ≤ n
    omega
  | .dct _ _, _, h => by cases h
  | .obj _ _ _, _, h => by cases h
theorem D.fines_py : ∀ (l : List D) (n : Nat), D.fines l n = true → ∃ ps, D.pys l = some ps ∧ PyData.canLayAll0 ps = true ∧ PyData.depthAll ps ≤ n
  | [], n, _ => ⟨[], rfl, rfl, Nat.zero_le _⟩
  | d :: ds, n, h => by
    have h' : (D.fine d n && D.fines ds n) = true := h
    rw [Bool.and_eq_true] at h'
    obtain ⟨p, e, q1, q2⟩ := D.fine_py d n h'.1
    obtain ⟨ps, e2, q3, q4⟩ := D.fines_py ds n h'.2
    refine ⟨p :: ps, ?_, ?_, ?_⟩
    · show (D.py d).bind _ = _
      rw [e]
      show (D.pys ds).map _ = _
      rw [e2]
      rfl
    · show (p.canLay0 && PyData.canLayAll0 ps) = true
      rw [q1, q3]
      rfl
    · show max p.depth (PyData.depthAll ps) ≤ n
      omega
end
theorem shaped_fine {d : D} (h : d.fine 64 = true) : ∃ p, d.py = some p ∧ SeqAt.shaped p = true ∧ PyData.eqv p p = true := by
  obtain ⟨p, e, q1, q2⟩ := D.fine_py d 64 h
  refine ⟨p, e, ?_, SeqAt.eqv_refl p q1⟩
  show (p.canLay0 && decide (p.depth ≤ 64)) = true
  rw [q1, decide_eq_true q2]
  rfl
theorem gEqD_refl {d : D} {s t : T} (neg : Bool) (h1 : s.vd = some d) (h2 : t.vd = some d) (h : d.fine 64 = true) : gEqD neg s t = some (.f (.bl (xor neg true))) := by
  obtain ⟨p, e, q1, q2⟩ := shaped_fine h
  unfold gEqD
  rw [h1, h2]
  show ((d.py).bind fun p => (d.py).bind fun q => _) = _
  rw [e]
  show (if _ then _ else _) = _
  rw [if_pos ⟨q1, q1⟩, q2]
theorem gEq_refl_l {ds : List D} (h : D.fines ds 63 = true) : gEq (.f (.lst ds)) (.f (.lst ds)) = some (.f (.bl true)) := by
  unfold gEq
  rw [or2_none rfl]
  exact gEqD_refl false rfl rfl h
theorem gEq_refl_t {ds : List D} (h : D.fines ds 63 = true) : gEq (.f (.tup ds)) (.f (.tup ds)) = some (.f (.bl true)) := by
  unfold gEq
  rw [or2_none rfl]
  exact gEqD_refl false rfl rfl h
theorem gNe_refl_l {ds : List D} (h : D.fines ds 63 = true) : gNe (.f (.lst ds)) (.f (.lst ds)) = some (.f (.bl false)) := by
  unfold gNe
  rw [or2_none rfl]
  exact gEqD_refl true rfl rfl h
theorem gNe_refl_t {ds : List D} (h : D.fines ds 63 = true) : gNe (.f (.tup ds)) (.f (.tup ds)) = some (.f (.bl false)) := by
  unfold gNe
  rw [or2_none rfl]
  exact gEqD_refl true rfl rfl h
theorem fines_of {α : Type} {φ : α → D} {n : Nat} : ∀ {as : List α}, (∀ a ∈ as, (φ a).fine n = true) → D.fines (as.map φ) n = true
  | [], _ => rfl
  | a :: as, h => by
    show (D.fine (φ a) n && D.fines (as.map φ) n) = true
    rw [h a List.mem_cons_self, fines_of fun b hb => h b (List.mem_cons_of_mem _ hb)]
    rfl
section
variable {i j : Int} {x y : Str} {a b : Bool} {ds es : List D}
theorem gEq_sn : gEq (.f (.str x)) (.f .non) = some (.f (.bl false)) := rfl
theorem gEq_ns : gEq (.f .non) (.f (.str x)) = some (.f (.bl false)) := rfl
theorem gEq_in : gEq (.f (.int i)) (.f .non) = some (.f (.bl false)) := rfl
theorem gEq_ni : gEq (.f .non) (.f (.int i)) = some (.f (.bl false)) := rfl
theorem gEq_nn : gEq (.f .non) (.f .non) = some (.f (.bl true)) := rfl
theorem gNe_sn : gNe (.f (.str x)) (.f .non) = some (.f (.bl true)) := rfl
theorem gNe_ns : gNe (.f .non) (.f (.str x)) = some (.f (.bl true)) := rfl
theorem gNe_in : gNe (.f (.int i)) (.f .non) = some (.f (.bl true)) := rfl
theorem gNe_ni : gNe (.f .non) (.f (.int i)) = some (.f (.bl true)) := rfl
theorem gNe_nn : gNe (.f .non) (.f .non) = some (.f (.bl false)) := rfl
end
/-! sums and picks -/
theorem intsOf_map : ∀ (ns : List Int), intsOf (ns.map D.int) = some ns
  | [] => rfl
  | n :: ns => by
    show (intsOf (ns.map D.int)).map _ = _
    rw [intsOf_map ns]
    rfl
theorem gSum_l {ns : List Int} : gSum [.f (.lst (ns.map D.int))] = some (.f (.int ns.sum)) := by
  show (intsOf (ns.map D.int)).map _ = _
  rw [intsOf_map]
  rfl
theorem gList_l {ds : List D} : gList [.f (.lst ds)] = some (.f (.lst ds)) := rfl
theorem gList_t {ds : List D} : gList [.f (.tup ds)] = some (.f (.lst ds)) := rfl
theorem gTuple_l {ds : List D} : gTuple [.f (.lst ds)] = some (.f (.tup ds)) := rfl
theorem gTuple_t {ds : List D} : gTuple [.f (.tup ds)] = some (.f (.tup ds)) := rfl
theorem pick {α : Type} {xs : List α} (hn : 0 < xs.length) (z : Int) : ∃ x ∈ xs, 0 ≤ z % xs.length ∧ ∀ {β : Type} (f : α → β), (xs.map f)[(z % xs.length).toNat]? = some (f x) := by
  have h0 : 0 ≤ z % (xs.length : Int) := Int.emod_nonneg _ (by omega)
  have h1 : z % (xs.length : Int) < xs.length := Int.emod_lt_of_pos _ (by omega)
  have h2 : (z % (xs.length : Int)).toNat < xs.length := by omega
  refine ⟨xs[(z % (xs.length : Int)).toNat], List.getElem_mem h2, h0, fun f => ?_⟩
  rw [List.getElem?_map, List.getElem?_eq_getElem h2]
  rfl
-- nosimp shaped_fine
-- nosimp gEqD_refl
-- nosimp gEq_refl_l
-- nosimp gEq_refl_t
-- nosimp gNe_refl_l
-- nosimp gNe_refl_t
-- nosimp fines_of
-- nosimp intsOf_map
-- nosimp pick
-- nosimp D.fine_py
-- nosimp D.fines_py
end Z

namespace Z
open PySem L2
/-! ### walking: objects, methods, things of one's own -/
section
variable {ρ ρ1 ρ2 : List T} {d e : D} {ds es : List D} {t x y u : T} {ts us : List T} {i n m C : Nat} {b : Bool} {f g : FS} {fa fb fc fe fk fd : List T → Option T} {nm z : Str} {ns : List Str} {ks : List Key} {π : List Sel} {s : Sel}
  {fp : List T → Option (List Sel)} {fm : List T → Option (T × List T)} {fms : List T → Option (List T × List T)} {fo : List T → Option Re} {fr : List T → Option Rs} {G : List T → Option Re} {io : List Nat} {as : List Ar} {fs : List T → Option (List T)}
theorem atN_nil : atN [] [] z = none := rfl
theorem atN_cons : atN (nm :: ns) (t :: ts) z = if nm = z then some t else atN ns ts z := rfl
theorem atD_nil : atD [] [] z = none := rfl
theorem atD_cons : atD (nm :: ns) (d :: ds) z = if nm = z then some d else atD ns ds z := rfl
theorem setN_cons : setN (nm :: ns) (t :: ts) z u = if nm = z then u :: ts else t :: setN ns ts z u := rfl
theorem sub_o : (T.o C ns ts).sub (.at z) = atN ns ts z := rfl
theorem sub_l : (T.ll ts).sub (.ix n) = ts[n]? := rfl
theorem sub_t : (T.tu ts).sub (.ix n) = ts[n]? := rfl
theorem upd_o : (T.o C ns ts).upd (.at z) u = .o C ns (setN ns ts z u) := rfl
theorem upd_l : (T.ll ts).upd (.ix n) u = .ll (ts.set n u) := rfl
theorem upd_t : (T.tu ts).upd (.ix n) u = .tu (ts.set n u) := rfl
def kGp (π : List Sel) (o : Option T) : Option T := o.bind fun t => t.getP π
theorem getP_nil : t.getP [] = some t := by cases t <;> rfl
theorem getP_cons : t.getP (s :: π) = kGp π (t.sub s) := by cases t <;> rfl
theorem kGp_s : kGp π (some t) = t.getP π := rfl
def kPp (t : T) (s : Sel) (π : List Sel) (u : T) (o : Option T) : T := match o with
  | some t1 => t.upd s (t1.putP π u)
  | none => t
theorem putP_nil : t.putP [] u = u := by cases t <;> rfl
theorem putP_cons : t.putP (s :: π) u = kPp t s π u (t.sub s) := by cases t <;> (unfold T.putP kPp; rfl)
theorem kPp_s {t1 : T} : kPp t s π u (some t1) = t.upd s (t1.putP π u) := rfl
/-! attributes -/
def kNn (o : Option T) : Option T := o.bind fun t => match t with
  | .un => none
  | t => some t
theorem kNn_f : kNn (some (.f d)) = some (.f d) := rfl
theorem kNn_l : kNn (some (.l ds)) = some (.l ds) := rfl
theorem kNn_dk : kNn (some (.dk ks ds)) = some (.dk ks ds) := rfl
theorem gAtt_f : gAtt C z (.f (.obj C ns ds)) = kVT (atD ns ds z) := if_pos rfl
theorem gAtt_o : gAtt C z (.o C ns ts) = kNn (atN ns ts z) := if_pos rfl
def kPA3 (z : Str) (π : List Sel) (o : Option T) : Option (List Sel) := o.map fun _ => π ++ [.at z]
def kPA2 (C : Nat) (z : Str) (π : List Sel) (o : Option T) : Option (List Sel) := o.bind fun u => match u with
  | .o C' ns ts => if C' = C then kPA3 z π (atN ns ts z) else none
  | _ => none
def kPA (C : Nat) (z : Str) (o : Option T) (p : Option (List Sel)) : Option (List Sel) := p.bind fun π => kPA2 C z π (kGp π o)
theorem wz_pAt : pAt C z i fp ρ = kPA C z ρ[i]? (fp ρ) := by unfold pAt kPA kPA2 kPA3 kGp; rfl
theorem kPA_s {o : Option T} : kPA C z o (some π) = kPA2 C z π (kGp π o) := rfl
theorem kPA2_s : kPA2 C z π (some (.o C ns ts)) = kPA3 z π (atN ns ts z) := if_pos rfl
theorem kPA3_s : kPA3 z π (some t) = some (π ++ [.at z]) := rfl
def kPI4 (π : List Sel) (o : Option Nat) : Option (List Sel) := o.map fun n => π ++ [.ix n]
def kPI3 (π : List Sel) (l : Nat) (k : Option T) : Option (List Sel) := k.bind fun k => k.i?.bind fun j => kPI4 π (ixN l j)
def kPI2 (π : List Sel) (k : Option T) (o : Option T) : Option (List Sel) := o.bind fun u => u.tsq?.bind fun ts => kPI3 π ts.length k
def kPI (k : Option T) (o : Option T) (p : Option (List Sel)) : Option (List Sel) := p.bind fun π => kPI2 π k (kGp π o)
theorem wz_pIx : pIx fk i fp ρ = kPI (fk ρ) ρ[i]? (fp ρ) := by unfold pIx kPI kPI2 kPI3 kPI4 kGp; rfl
theorem kPI_s {k o : Option T} : kPI k o (some π) = kPI2 π k (kGp π o) := rfl
theorem kPI2_l {k : Option T} : kPI2 π k (some (.ll ts)) = kPI3 π ts.length k := rfl
theorem kPI2_t {k : Option T} : kPI2 π k (some (.tu ts)) = kPI3 π ts.length k := rfl
theorem kPI3_s {j : Int} : kPI3 π n (some (.f (.int j))) = kPI4 π (ixN n j) := rfl
theorem kPI4_s : kPI4 π (some n) = some (π ++ [.ix n]) := rfl
theorem ixN_pos {l : Nat} {j : Int} (h : 0 ≤ j) (h2 : j < l) : ixN l j = some j.toNat := by unfold ixN; rw [if_pos h, if_pos (by omega)]
theorem ixN_neg {l : Nat} {j : Int} (h : j < 0) (h2 : -(l : Int) ≤ j) : ixN l j = some (j + l).toNat := by
  unfold ixN
  rw [if_neg (by omega)]
  first
    | rw [if_pos (by omega)]; done
    | (rw [if_pos (by omega)]; congr 1; omega)
def kM2 (i : Nat) (ρ : List T) (π : List Sel) (t : T) (o : Option T) : Option (List T) := o.map fun u' => ρ.set i (t.putP π u')
def kM1 (i : Nat) (ρ : List T) (π : List Sel) (g : T → Option T) (o : Option T) : Option (List T) := o.bind fun t => kM2 i ρ π t (k1 g (t.getP π))
theorem mutF_at {g : T → Option T} : mutF i (s :: π) g ρ = kM1 i ρ (s :: π) g ρ[i]? := by
  unfold mutF kM1 kM2 k1
  cases ρ[i]? with
  | none => rfl
  | some t =>
    show ((t.getP (s :: π)).bind fun u => (g u).map _) = ((t.getP (s :: π)).bind g).map _
    cases t.getP (s :: π) <;> rfl
theorem kM1_s {g : T → Option T} : kM1 i ρ π g (some t) = kM2 i ρ π t (k1 g (t.getP π)) := rfl
theorem kM2_s : kM2 i ρ π t (some u) = some (ρ.set i (t.putP π u)) := rfl
def kSAt (C : Nat) (z : Str) (i : Nat) (ρ : List T) (o : Option T) (p : Option (List Sel)) : Option Out := o.bind fun x => x.d?.bind fun d => p.bind fun π => kNx (mutF i π (attT C z d) ρ)
theorem wz_sAtt : sAtt C z i fp fe ρ = kSAt C z i ρ (fe ρ) (fp ρ) := rfl
theorem kSAt_s : kSAt C z i ρ (some (.f d)) (some π) = kNx (mutF i π (attT C z d) ρ) := rfl
def kAt (C : Nat) (ns : List Str) (ts : List T) (z : Str) (d : D) (o : Option T) : Option T := match o with
  | none => some (.o C (ns ++ [z]) (ts ++ [.f d]))
  | some (.f _) => if z = Str.ofString "endings" then none else some (.o C ns (setN ns ts z (.f d)))
  | _ => none
theorem attT_o (h : ns.length < 1000) : attT C z d (.o C ns ts) = kAt C ns ts z d (atN ns ts z) := by
  exact if_pos ⟨rfl, h⟩
theorem kAt_n : kAt C ns ts z d none = some (.o C (ns ++ [z]) (ts ++ [.f d])) := rfl
theorem kAt_f : kAt C ns ts z d (some (.f e)) = if z = Str.ofString "endings" then none else some (.o C ns (setN ns ts z (.f d))) := rfl
def kSAM (C : Nat) (z : Str) (i : Nat) (fp : List T → Option (List Sel)) (o : Option (T × List T)) : Option Out := o.bind fun q => (fp q.2).bind fun π => kNx (mutF i π (attM C z q.1) q.2)
def kSAM2 (C : Nat) (z : Str) (i : Nat) (t : T) (ρ : List T) (p : Option (List Sel)) : Option Out := p.bind fun π => kNx (mutF i π (attM C z t) ρ)
theorem wz_sAttM : sAttM C z i fp fm ρ = kSAM C z i fp (fm ρ) := rfl
theorem kSAM_s : kSAM C z i fp (some (t, ρ)) = kSAM2 C z i t ρ (fp ρ) := rfl
theorem kSAM2_s : kSAM2 C z i t ρ (some π) = kNx (mutF i π (attM C z t) ρ) := rfl
def kAM (C : Nat) (ns : List Str) (ts : List T) (z : Str) (t : T) (o : Option T) : Option T := match o with
  | none => some (.o C (ns ++ [z]) (ts ++ [t]))
  | _ => none
theorem attM_o (h : ns.length < 1000) : attM C z t (.o C ns ts) = kAM C ns ts z t (atN ns ts z) := by
  show (if C = C ∧ ns.length < 1000 ∧ (atN ns ts z).isNone = true then _ else _) = _
  cases atN ns ts z with
  | none => exact if_pos ⟨rfl, h, rfl⟩
  | some q => exact if_neg fun z => by cases z.2.2
theorem kAM_n : kAM C ns ts z t none = some (.o C (ns ++ [z]) (ts ++ [t])) := rfl
def kAG5 (C : Nat) (z : Str) (i : Nat) (ρ : List T) (π : List Sel) (o : Option T) : Option Out := o.bind fun z' => z'.d?.bind fun d => kNx (mutF i π (attT C z d) ρ)
def kAG2 (C : Nat) (z : Str) (i : Nat) (ρ : List T) (h : T → T → Option T) (x : Option T) (π : List Sel) (o : Option T) : Option Out := o.bind fun u => kAG5 C z i ρ π (k2 h (gAtt C z u) x)
def kAG (C : Nat) (z : Str) (i : Nat) (ρ : List T) (h : T → T → Option T) (x : Option T) (o : Option T) (p : Option (List Sel)) : Option Out := p.bind fun π => kAG2 C z i ρ h x π (kGp π o)
theorem wz_sAttAug {h : T → T → Option T} : sAttAug C z i fp h fe ρ = kAG C z i ρ h (fe ρ) ρ[i]? (fp ρ) := by
  unfold sAttAug kAG kAG2 kAG5 kGp k2
  cases fp ρ with
  | none => rfl
  | some π =>
    cases q : (ρ[i]?.bind fun t => t.getP π) with
    | none => simp only [Option.bind_some, q, Option.bind_none]
    | some u =>
      simp only [Option.bind_some, q]
      cases gAtt C z u with
      | none => rfl
      | some a => cases fe ρ with
        | none => rfl
        | some x => cases h a x <;> rfl
theorem kAG_s {h : T → T → Option T} {x o : Option T} : kAG C z i ρ h x o (some π) = kAG2 C z i ρ h x π (kGp π o) := rfl
theorem kAG2_s {h : T → T → Option T} {x : Option T} : kAG2 C z i ρ h x π (some u) = kAG5 C z i ρ π (k2 h (gAtt C z u) x) := rfl
theorem kAG5_s : kAG5 C z i ρ π (some (.f d)) = kNx (mutF i π (attT C z d) ρ) := rfl
/-! own values -/
def kME (o : Option (T × List T)) : Option Re := o.map fun p => .ok p.1 p.2
theorem wz_mE : mE fm ρ = kME (fm ρ) := rfl
theorem kME_s : kME (some (t, ρ)) = some (.ok t ρ) := rfl
def kMP (ρ : List T) (o : Option T) : Option (T × List T) := o.bind fun t => t.d?.map fun d => (.f d, ρ)
theorem wz_mP : mP fe ρ = kMP ρ (fe ρ) := rfl
theorem kMP_s : kMP ρ (some (.f d)) = some (.f d, ρ) := rfl
def kMV (i : Nat) (ρ : List T) (o : Option T) : Option (T × List T) := match o with
  | some .un => none
  | some t => some (t, ρ.set i .un)
  | none => none
theorem wz_mV : mV i ρ = kMV i ρ ρ[i]? := by unfold mV kMV; rfl
theorem kMV_f : kMV i ρ (some (.f d)) = some (.f d, ρ.set i .un) := rfl
theorem kMV_l : kMV i ρ (some (.l ds)) = some (.l ds, ρ.set i .un) := rfl
theorem kMV_dk : kMV i ρ (some (.dk ks ds)) = some (.dk ks ds, ρ.set i .un) := rfl
theorem kMV_ll : kMV i ρ (some (.ll ts)) = some (.ll ts, ρ.set i .un) := rfl
theorem kMV_tu : kMV i ρ (some (.tu ts)) = some (.tu ts, ρ.set i .un) := rfl
theorem kMV_o : kMV i ρ (some (.o C ns ts)) = some (.o C ns ts, ρ.set i .un) := rfl
theorem wz_msNil : msNil ρ = some ([], ρ) := rfl
def kMs2 (t : T) (o : Option (List T × List T)) : Option (List T × List T) := o.map fun q => (t :: q.1, q.2)
def kMs (g : List T → Option (List T × List T)) (o : Option (T × List T)) : Option (List T × List T) := o.bind fun p => kMs2 p.1 (g p.2)
theorem wz_msCons : msCons fm fms ρ = kMs fms (fm ρ) := rfl
theorem kMs_s : kMs fms (some (t, ρ)) = kMs2 t (fms ρ) := rfl
theorem kMs2_s : kMs2 t (some (ts, ρ)) = some (t :: ts, ρ) := rfl
def kMTup (o : Option (List T × List T)) : Option (T × List T) := o.bind fun p => if p.1.length ≤ sizeLine then some (.tu p.1, p.2) else none
def kMLst (o : Option (List T × List T)) : Option (T × List T) := o.bind fun p => if p.1.length ≤ sizeLine then some (.ll p.1, p.2) else none
theorem wz_mTup : mTup fms ρ = kMTup (fms ρ) := rfl
theorem wz_mLst : mLst fms ρ = kMLst (fms ρ) := rfl
theorem kMTup_s (h : ts.length ≤ 16777216) : kMTup (some (ts, ρ)) = some (.tu ts, ρ) := if_pos h
theorem kMLst_s (h : ts.length ≤ 16777216) : kMLst (some (ts, ρ)) = some (.ll ts, ρ) := if_pos h
def kMN2 (ρ : List T) (o : Option (List D)) : Option (T × List T) := o.bind fun ds => if ds.length ≤ sizeLine then some (.l ds, ρ) else none
def kMN (ρ : List T) (o : Option (List T)) : Option (T × List T) := o.bind fun ts => kMN2 ρ (deep ts)
theorem wz_mNew : mNew fs ρ = kMN ρ (fs ρ) := rfl
theorem kMN_s : kMN ρ (some ts) = kMN2 ρ (deep ts) := rfl
theorem kMN2_s (h : ds.length ≤ 16777216) : kMN2 ρ (some ds) = some (.l ds, ρ) := if_pos h
theorem wz_mNewD : mNewD ρ = some (.dk [] [], ρ) := rfl
def kMPt3 (i : Nat) (ρ : List T) (π : List Sel) (t0 : T) (o : Option T) : Option (T × List T) := o.bind fun u => if owned u = true then some (u, ρ.set i (t0.putP π .un)) else none
def kMPt2 (i : Nat) (ρ : List T) (π : List Sel) (o : Option T) : Option (T × List T) := o.bind fun t0 => kMPt3 i ρ π t0 (t0.getP π)
def kMPt (i : Nat) (ρ : List T) (p : Option (List Sel)) : Option (T × List T) := p.bind fun π => kMPt2 i ρ π ρ[i]?
theorem wz_mPart : mPart i fp ρ = kMPt i ρ (fp ρ) := rfl
theorem kMPt_s : kMPt i ρ (some π) = kMPt2 i ρ π ρ[i]? := rfl
theorem kMPt2_s : kMPt2 i ρ π (some t) = kMPt3 i ρ π t (t.getP π) := rfl
theorem kMPt3_l : kMPt3 i ρ π t (some (.l ds)) = some (.l ds, ρ.set i (t.putP π .un)) := rfl
theorem kMPt3_d : kMPt3 i ρ π t (some (.dk ks ds)) = some (.dk ks ds, ρ.set i (t.putP π .un)) := rfl
def kMC3 (ρ : List T) (r : Option Re) : Option (T × List T) := r.bind fun r => match r with
  | .ok τ _ => some (τ, ρ)
  | _ => none
def kMC2 (G : List T → Option Re) (ρ : List T) (o : Option (List D)) : Option (T × List T) := o.bind fun ds => kMC3 ρ (G (ds.map .f))
def kMC (G : List T → Option Re) (ρ : List T) (o : Option (List T)) : Option (T × List T) := o.bind fun ts => kMC2 G ρ (deep ts)
theorem wz_mCall : mCall G fs ρ = kMC G ρ (fs ρ) := by unfold mCall kMC kMC2 kMC3; rfl
theorem kMC_s : kMC G ρ (some ts) = kMC2 G ρ (deep ts) := rfl
theorem kMC2_s : kMC2 G ρ (some ds) = kMC3 ρ (G (ds.map .f)) := rfl
theorem kMC3_s : kMC3 ρ (some (.ok t ρ1)) = some (t, ρ) := rfl
def kMCa2 (ρ : List T) (o : Option (List D)) : Option (T × List T) := o.map fun ds => (.l ds, ρ)
def kMCa (ρ : List T) (o p : Option T) : Option (T × List T) := o.bind fun a => p.bind fun b => kMCa2 ρ (gCatO a b)
theorem wz_mCat : mCat fa fb ρ = kMCa ρ (fa ρ) (fb ρ) := rfl
theorem kMCa_s : kMCa ρ (some x) (some y) = kMCa2 ρ (gCatO x y) := rfl
theorem kMCa2_s : kMCa2 ρ (some ds) = some (.l ds, ρ) := rfl
theorem gCatO_ol (h : ds.length + es.length ≤ 16777216) : gCatO (.l ds) (.f (.lst es)) = some (ds ++ es) := if_pos h
theorem gCatO_ll (h : ds.length + es.length ≤ 16777216) : gCatO (.f (.lst ds)) (.f (.lst es)) = some (ds ++ es) := if_pos h
theorem gCatO_lo (h : ds.length + es.length ≤ 16777216) : gCatO (.f (.lst ds)) (.l es) = some (ds ++ es) := if_pos h
theorem gCat_ol (h : ds.length + es.length ≤ 16777216) : gAdd (.l ds) (.f (.lst es)) = some (.f (.lst (ds ++ es))) := by
  show (Option.orElse none fun _ => Option.orElse none fun _ => Option.orElse (if ds.length + es.length ≤ sizeLine then some (T.f (.lst (ds ++ es))) else none) fun _ => _) = _
  rw [if_pos (show ds.length + es.length ≤ sizeLine from h)]
  rfl
theorem gCat_lo (h : ds.length + es.length ≤ 16777216) : gAdd (.f (.lst ds)) (.l es) = some (.f (.lst (ds ++ es))) := by
  show (Option.orElse none fun _ => Option.orElse none fun _ => Option.orElse (if ds.length + es.length ≤ sizeLine then some (T.f (.lst (ds ++ es))) else none) fun _ => _) = _
  rw [if_pos (show ds.length + es.length ≤ sizeLine from h)]
  rfl
theorem gCat_oo (h : ds.length + es.length ≤ 16777216) : gAdd (.l ds) (.l es) = some (.f (.lst (ds ++ es))) := by
  show (Option.orElse none fun _ => Option.orElse none fun _ => Option.orElse (if ds.length + es.length ≤ sizeLine then some (T.f (.lst (ds ++ es))) else none) fun _ => _) = _
  rw [if_pos (show ds.length + es.length ≤ sizeLine from h)]
  rfl
def kMLc (ρ : List T) (o : Option T) : Option (T × List T) := o.bind fun t => match t with
  | .f (.lst es) => some (.l es, ρ)
  | _ => none
theorem wz_mLc {vs : List Nat} {fi fg ft} : mLc vs fi fg ft fe ρ = kMLc ρ (fLc vs fi fg ft fe ρ) := by unfold mLc kMLc; rfl
theorem kMLc_s : kMLc ρ (some (.f (.lst es))) = some (.l es, ρ) := rfl
def kAM3 (i : Nat) (π : List Sel) (o : Option (T × List T)) : Option Out := o.bind fun q => kNx (mutF i π (appM q.1) q.2)
def kAM2 (i : Nat) (fm : List T → Option (T × List T)) (ρ : List T) (π : List Sel) (o : Option T) : Option Out := o.bind fun u0 => if isLst u0 = true then kAM3 i π (fm ρ) else none
def kAM1 (i : Nat) (fm : List T → Option (T × List T)) (ρ : List T) (p : Option (List Sel)) : Option Out := p.bind fun π => kAM2 i fm ρ π (kGp π ρ[i]?)
theorem wz_sAppM : sAppM i fp fm ρ = kAM1 i fm ρ (fp ρ) := by unfold sAppM kAM1 kAM2 kAM3 kGp kNx; rfl
theorem kAM1_s : kAM1 i fm ρ (some π) = kAM2 i fm ρ π (kGp π ρ[i]?) := rfl
theorem kAM2_l : kAM2 i fm ρ π (some (.l ds)) = kAM3 i π (fm ρ) := rfl
theorem kAM2_ll : kAM2 i fm ρ π (some (.ll ts)) = kAM3 i π (fm ρ) := rfl
theorem kAM3_s : kAM3 i π (some (t, ρ)) = kNx (mutF i π (appM t) ρ) := rfl
theorem appM_ll (h : ts.length < 16777216) : appM t (.ll ts) = some (.ll (ts ++ [t])) := if_pos h
/-! pop, targets -/
def kPop4 (i : Nat) (ρ : List T) (π : List Sel) (t0 : T) (o : Option (T × T)) : Option Re := o.map fun q => .ok q.1 (ρ.set i (t0.putP π q.2))
def kPop3 (i : Nat) (ρ : List T) (π : List Sel) (t0 : T) (o : Option T) : Option Re := o.bind fun u => kPop4 i ρ π t0 (popT u)
def kPop2 (i : Nat) (ρ : List T) (π : List Sel) (o : Option T) : Option Re := o.bind fun t0 => kPop3 i ρ π t0 (t0.getP π)
def kPop (i : Nat) (ρ : List T) (p : Option (List Sel)) : Option Re := p.bind fun π => kPop2 i ρ π ρ[i]?
theorem wz_fPop : fPop i fp ρ = kPop i ρ (fp ρ) := rfl
theorem kPop_s : kPop i ρ (some π) = kPop2 i ρ π ρ[i]? := rfl
theorem kPop2_s : kPop2 i ρ π (some t) = kPop3 i ρ π t (t.getP π) := rfl
theorem kPop3_s : kPop3 i ρ π t (some u) = kPop4 i ρ π t (popT u) := rfl
theorem kPop4_s {q : T × T} : kPop4 i ρ π t (some q) = some (.ok q.1 (ρ.set i (t.putP π q.2))) := rfl
theorem popT_l : popT (.l (ds ++ [d])) = some (.f d, .l ds) := by
  show ((ds ++ [d]).getLast?.map fun x => (T.f x, T.l (ds ++ [d]).dropLast)) = _
  rw [List.getLast?_append]
  simp
theorem popT_tu : popT (.ll (ts ++ [.tu us])) = some (.tu us, .ll ts) := by
  show ((ts ++ [T.tu us]).getLast?.bind fun t => _) = _
  rw [List.getLast?_append]
  simp
theorem popT_lf : popT (.ll (ts ++ [.f d])) = some (.f d, .ll ts) := by
  show ((ts ++ [T.f d]).getLast?.bind fun t => _) = _
  rw [List.getLast?_append]
  simp
theorem gTupM2 {h x y} : gTupM 2 h (.f (.tup [x, y])) ρ = h [.f x, .f y] ρ := rfl
theorem gTupM3 {h x y w} : gTupM 3 h (.f (.tup [x, y, w])) ρ = h [.f x, .f y, .f w] ρ := rfl
theorem gTupM4 {h x y w v} : gTupM 4 h (.f (.tup [x, y, w, v])) ρ = h [.f x, .f y, .f w, .f v] ρ := rfl
theorem gTupN2 {h x y} : gTupM 2 h (.tu [x, y]) ρ = h [x, y] ρ := rfl
theorem gTupN3 {h x y w} : gTupM 3 h (.tu [x, y, w]) ρ = h [x, y, w] ρ := rfl
theorem gTupN4 {h x y w v} : gTupM 4 h (.tu [x, y, w, v]) ρ = h [x, y, w, v] ρ := rfl
def kAsg (fg : T → List T → Option (List T)) (r : Option Re) : Option Out := r.bind fun r => match r with
  | .ok t ρ1 => kNx (fg t ρ1)
  | .xc C ρ1 => some (.xc C ρ1)
theorem wz_sAsg {fg} : sAsg fg fo ρ = kAsg fg (fo ρ) := by unfold sAsg kAsg kNx; rfl
theorem kAsg_s {fg} : kAsg fg (some (.ok t ρ)) = kNx (fg t ρ) := rfl
/-! calls that change what they are lent -/
theorem wz_bNil : bNil ρ = some (.ok [] ρ) := rfl
def kBC2 (t : T) (o : Option Rs) : Option Rs := o.map fun r => match r with
    | .ok as ρ2 => .ok (.v t :: as) ρ2
    | r => r
def kBC (g : List T → Option Rs) (o : Option Re) : Option Rs := o.bind fun r => match r with
  | .ok t ρ1 => kBC2 t (g ρ1)
  | .xc C ρ1 => some (.xc C ρ1)
theorem wz_bCons : bCons fo fr ρ = kBC fr (fo ρ) := by unfold bCons kBC kBC2; rfl
theorem kBC_s : kBC fr (some (.ok t ρ)) = kBC2 t (fr ρ) := rfl
theorem kBC2_s : kBC2 t (some (.ok as ρ)) = some (.ok (.v t :: as) ρ) := rfl
def kBS2 (i : Nat) (o : Option Rs) : Option Rs := o.map fun r => match r with
    | .ok as ρ2 => .ok (.s i :: as) ρ2
    | r => r
def kBS (i : Nat) (g : List T → Option Rs) (ρ : List T) (o : Option T) : Option Rs := match o with
  | none => none
  | some .un => none
  | some _ => kBS2 i (g ρ)
theorem wz_bSlot : bSlot i fr ρ = kBS i fr ρ ρ[i]? := by
  unfold bSlot kBS bSlot0 kBS2
  cases ρ[i]? with
  | none => rfl
  | some t => cases t <;> rfl
theorem kBS_f : kBS i fr ρ (some (.f d)) = kBS2 i (fr ρ) := rfl
theorem kBS_l : kBS i fr ρ (some (.l ds)) = kBS2 i (fr ρ) := rfl
theorem kBS_dk : kBS i fr ρ (some (.dk ks ds)) = kBS2 i (fr ρ) := rfl
theorem kBS_ll : kBS i fr ρ (some (.ll ts)) = kBS2 i (fr ρ) := rfl
theorem kBS_tu : kBS i fr ρ (some (.tu ts)) = kBS2 i (fr ρ) := rfl
theorem kBS_o : kBS i fr ρ (some (.o C ns ts)) = kBS2 i (fr ρ) := rfl
theorem kBS2_s : kBS2 i (some (.ok as ρ)) = some (.ok (.s i :: as) ρ) := rfl
theorem take_nil : takeF [] ρ = some ([], ρ) := rfl
def kTk (t : T) (o : Option (List T × List T)) : Option (List T × List T) := o.map fun p => (t :: p.1, p.2)
theorem take_v : takeF (.v t :: as) ρ = kTk t (takeF as ρ) := rfl
def kTs (as : List Ar) (j : Nat) (ρ : List T) (o : Option T) : Option (List T × List T) := match o with
    | none => none
    | some .un => none
    | some t => kTk t (takeF as (ρ.set j .un))
theorem take_s : takeF (.s i :: as) ρ = kTs as i ρ ρ[i]? := by
  rw [takeF]
  unfold kTs kTk
  cases ρ[i]? with
  | none => rfl
  | some t => cases t <;> rfl
theorem kTs_f : kTs as i ρ (some (.f d)) = kTk (.f d) (takeF as (ρ.set i .un)) := rfl
theorem kTs_l : kTs as i ρ (some (.l ds)) = kTk (.l ds) (takeF as (ρ.set i .un)) := rfl
theorem kTs_dk : kTs as i ρ (some (.dk ks ds)) = kTk (.dk ks ds) (takeF as (ρ.set i .un)) := rfl
theorem kTs_ll : kTs as i ρ (some (.ll ts)) = kTk (.ll ts) (takeF as (ρ.set i .un)) := rfl
theorem kTs_tu : kTs as i ρ (some (.tu ts)) = kTk (.tu ts) (takeF as (ρ.set i .un)) := rfl
theorem kTs_o : kTs as i ρ (some (.o C ns ts)) = kTk (.o C ns ts) (takeF as (ρ.set i .un)) := rfl
theorem kTk_s : kTk t (some (ts, ρ)) = some (t :: ts, ρ) := rfl
theorem put_nil : putF [] us ρ = ρ := by cases us <;> rfl
theorem put_v : putF (.v t :: as) (u :: us) ρ = putF as us ρ := rfl
theorem put_s : putF (.s i :: as) (u :: us) ρ = putF as us (ρ.set i u) := rfl
def kCl3 (as : List Ar) (ρ : List T) (r : Option Re) : Option Re := r.bind fun r => match r with
    | .ok τ us => if us.length = as.length then some (.ok τ (putF as us ρ)) else none
    | .xc C us => if us.length = as.length then some (.xc C (putF as us ρ)) else none
def kIo (b : Bool) (o : Option Re) : Option Re := if b = true then o else none
def kCl2 (io : List Nat) (G : List T → Option Re) (as : List Ar) (o : Option (List T × List T)) : Option Re := o.bind fun p => kCl3 as p.2 (kIo (ioOk io 0 p.1) (G p.1))
def kCl (io : List Nat) (G : List T → Option Re) (o : Option Rs) : Option Re := o.bind fun r => match r with
  | .xc C ρ1 => some (.xc C ρ1)
  | .ok as ρ1 => kCl2 io G as (takeF as ρ1)
theorem wz_fCall : fCall io G fr ρ = kCl io G (fr ρ) := by
  unfold fCall kCl kCl2 kCl3 kIo
  cases fr ρ with
  | none => rfl
  | some r => cases r with
    | xc C ρ1 => rfl
    | ok as ρ1 =>
      show ((takeF as ρ1).bind _) = ((takeF as ρ1).bind _)
      cases takeF as ρ1 with
      | none => rfl
      | some p =>
        simp only [Option.bind_some]
        by_cases h : ioOk io 0 p.1 = true
        · rw [if_pos h, if_pos h]
          all_goals (rcases G p.1 with _ | r <;> first | rfl | (cases r <;> rfl))
        · rw [if_neg h, if_neg h]
          all_goals rfl
theorem kCl_s : kCl io G (some (.ok as ρ)) = kCl2 io G as (takeF as ρ) := rfl
theorem kCl2_s : kCl2 io G as (some (ts, ρ)) = kCl3 as ρ (kIo (ioOk io 0 ts) (G ts)) := rfl
theorem kIo_t {o : Option Re} : kIo true o = o := rfl
theorem kCl3_s (h : us.length = as.length) : kCl3 as ρ (some (.ok t us)) = some (.ok t (putF as us ρ)) := if_pos h
theorem ioOk_nil : ioOk io n [] = true := rfl
theorem ioOk_cons : ioOk io n (t :: ts) = ((io.contains n || isF t) && ioOk io (n + 1) ts) := rfl
theorem isF_f : isF (.f d) = true := rfl
theorem cont_nil {j : Nat} : ([] : List Nat).contains j = false := rfl
theorem cont_cons {j : Nat} {l : List Nat} : (i :: l).contains j = (decide (j = i) || l.contains j) := by
  rw [List.contains_cons]
  by_cases h : j = i
  · subst h; simp
  · rw [decide_eq_false h, beq_eq_false_iff_ne.mpr h]
theorem conS_nil : ([] : List Str).contains z = false := rfl
theorem conS_cons : (nm :: ns).contains z = (decide (z = nm) || ns.contains z) := by
  rw [List.contains_cons]
  by_cases h : z = nm
  · subst h; simp
  · rw [decide_eq_false h, beq_eq_false_iff_ne.mpr h]
def kMt2 (b : Bool) (o : Option Re) : Option Re := if b = true then none else o
def kMt (C : Nat) (m : Str) (io : List Nat) (G : List T → Option Re) (fr : List T → Option Rs) (ρ : List T) (o : Option T) : Option Re := match o with
  | some (.o C' ns _) => if C' = C ∧ ns.contains m = false then fCall io G fr ρ else none
  | _ => none
theorem wz_fMeth : fMeth C z i io G fr ρ = kMt C z io G (bSlot i fr) ρ ρ[i]? := by unfold fMeth kMt; rfl
theorem kMt_s : kMt C z io G fr ρ (some (.o C ns ts)) = kMt2 (ns.contains z) (fCall io G fr ρ) := by
  show (if C = C ∧ ns.contains z = false then _ else _) = _
  unfold kMt2
  cases ns.contains z
  · rw [if_pos ⟨rfl, rfl⟩]; rfl
  · rw [if_neg (fun q => by cases q.2)]; rfl
theorem kMt2_f {o : Option Re} : kMt2 false o = o := rfl
def kMv2 (b : Bool) (o : Option T) : Option T := if b = true then none else o
def kMv (C : Nat) (m : Str) (i : Nat) (G : List T → Option Re) (fs : List T → Option (List T)) (ρ : List T) (o : Option T) : Option T := match o with
  | some (.o C' ns _) => if C' = C ∧ ns.contains m = false then fCallV G (aCons (fVar i) fs) ρ else none
  | some (.f (.obj C' ns _)) => if C' = C ∧ ns.contains m = false then fCallV G (aCons (fVar i) fs) ρ else none
  | _ => none
theorem wz_fMethV : fMethV C z i G fs ρ = kMv C z i G fs ρ ρ[i]? := by unfold fMethV kMv; rfl
theorem kMv_o : kMv C z i G fs ρ (some (.o C ns ts)) = kMv2 (ns.contains z) (fCallV G (aCons (fVar i) fs) ρ) := by
  show (if C = C ∧ ns.contains z = false then _ else _) = _
  unfold kMv2
  cases ns.contains z
  · rw [if_pos ⟨rfl, rfl⟩]; rfl
  · rw [if_neg (fun q => by cases q.2)]; rfl
theorem kMv_f : kMv C z i G fs ρ (some (.f (.obj C ns ds))) = kMv2 (ns.contains z) (fCallV G (aCons (fVar i) fs) ρ) := by
  show (if C = C ∧ ns.contains z = false then _ else _) = _
  unfold kMv2
  cases ns.contains z
  · rw [if_pos ⟨rfl, rfl⟩]; rfl
  · rw [if_neg (fun q => by cases q.2)]; rfl
theorem kMv2_f {o : Option T} : kMv2 false o = o := rfl
/-! own things read by a call that answers with an atom -/
def kCO2 (o : Option D) : Option T := o.bind fun d => if d.atom = true then some (.f d) else none
def kCO (G : List T → Option Re) (o : Option (List D)) : Option T := o.bind fun ds => kCO2 (val (G (ds.map .f)))
theorem kCall_own {t : T} {ts : List T} (h : (t :: ts).all isF = false) : kCall G (some (t :: ts)) = kCO G (T.fzs (t :: ts)) := by
  unfold kCO kCO2
  show (T.fzs (t :: ts)).bind _ = _
  cases T.fzs (t :: ts) with
  | none => rfl
  | some ds =>
    show (val (G (ds.map .f))).bind _ = (val (G (ds.map .f))).bind _
    rw [h]
    simp only [Bool.false_or]
theorem kCall_o : kCall G (some (.o C ns ts :: us)) = kCO G (T.fzs (.o C ns ts :: us)) := kCall_own rfl
theorem kCall_l : kCall G (some (.l ds :: us)) = kCO G (T.fzs (.l ds :: us)) := kCall_own rfl
theorem kCall_dk : kCall G (some (.dk ks ds :: us)) = kCO G (T.fzs (.dk ks ds :: us)) := kCall_own rfl
theorem kCall_tu : kCall G (some (.tu ts :: us)) = kCO G (T.fzs (.tu ts :: us)) := kCall_own rfl
theorem kCall_ll : kCall G (some (.ll ts :: us)) = kCO G (T.fzs (.ll ts :: us)) := kCall_own rfl
theorem kCall_f1 : kCall G (some [.f d, .dk ks ds]) = kCO G (T.fzs [.f d, .dk ks ds]) := kCall_own rfl
theorem kCall_f2 : kCall G (some [.f d, .l ds]) = kCO G (T.fzs [.f d, .l ds]) := kCall_own rfl
theorem kCO_s : kCO G (some ds) = kCO2 (val (G (ds.map .f))) := rfl
theorem kCO2_i {j : Int} : kCO2 (some (.int j)) = some (.f (.int j)) := rfl
theorem kCO2_b : kCO2 (some (.bl b)) = some (.f (.bl b)) := rfl
theorem kCO2_s : kCO2 (some (.str z)) = some (.f (.str z)) := rfl
theorem fzs_nil : T.fzs [] = some [] := rfl
def kFs (o : Option D) (p : Option (List D)) : Option (List D) := o.bind fun d => p.map fun ds => d :: ds
theorem fzs_cons : T.fzs (t :: ts) = kFs t.fz (T.fzs ts) := rfl
theorem kFs_s : kFs (some d) (some ds) = some (d :: ds) := rfl
theorem fz_f : (T.f d).fz = some d := rfl
theorem fz_l : (T.l ds).fz = some (.lst ds) := rfl
theorem fz_dk : (T.dk ks ds).fz = some (.dct ks ds) := rfl
def kFo (C : Nat) (ns : List Str) (o : Option (List D)) : Option D := o.map (.obj C ns)
def kFt (o : Option (List D)) : Option D := o.map .tup
def kFl (o : Option (List D)) : Option D := o.map .lst
theorem fz_o : (T.o C ns ts).fz = kFo C ns (T.fzs ts) := by unfold kFo; rw [T.fz]
theorem fz_tu : (T.tu ts).fz = kFt (T.fzs ts) := by unfold kFt; rw [T.fz]
theorem fz_ll : (T.ll ts).fz = kFl (T.fzs ts) := by unfold kFl; rw [T.fz]
theorem kFo_s : kFo C ns (some ds) = some (.obj C ns ds) := rfl
theorem kFt_s : kFt (some ds) = some (.tup ds) := rfl
theorem kFl_s : kFl (some ds) = some (.lst ds) := rfl
def kFz2 (i : Nat) (ρ : List T) (o : Option D) : Option (List T) := o.map fun d => ρ.set i (.f d)
theorem kF2_o : kF2 i ρ (some (.o C ns ts)) = kFz2 i ρ (T.o C ns ts).fz := rfl
theorem kF2_tu : kF2 i ρ (some (.tu ts)) = kFz2 i ρ (T.tu ts).fz := rfl
theorem kF2_ll : kF2 i ρ (some (.ll ts)) = kFz2 i ρ (T.ll ts).fz := rfl
theorem kFz2_s : kFz2 i ρ (some d) = some (ρ.set i (.f d)) := rfl
def kFzR (ρ : List T) (o : Option D) : Option Re := o.map fun d => .ok (.f d) ρ
theorem kFz_o : kFz (some (.ok (.o C ns ts) ρ)) = kFzR ρ (T.o C ns ts).fz := rfl
theorem kFz_tu : kFz (some (.ok (.tu ts) ρ)) = kFzR ρ (T.tu ts).fz := rfl
theorem kFz_ll : kFz (some (.ok (.ll ts) ρ)) = kFzR ρ (T.ll ts).fz := rfl
theorem kFzR_s : kFzR ρ (some d) = some (.ok (.f d) ρ) := rfl
theorem wz_fzR : fzR G ts = kFz (G ts) := by
  unfold fzR kFz
  cases G ts with
  | none => rfl
  | some r => cases r <;> rfl
theorem val_ok : val (some (.ok (.f d) ρ)) = some d := rfl
/-! making -/
def kMk4 (ρ : List T) (o : Option T) : Option Re := o.map fun u => .ok u ρ
def kMk3 (b : Bool) (o : Option Re) : Option T := if b = true then o.bind fun r => match r with
  | .ok (.f .non) (u :: _) => some u
  | _ => none
  else none
def kMk2 (C : Nat) (io : List Nat) (G : List T → Option Re) (ρ : List T) (o : Option (List D)) : Option Re := o.bind fun ds => kMk4 ρ (mkF C io G ds)
def kMk (C : Nat) (io : List Nat) (G : List T → Option Re) (ρ : List T) (o : Option (List T)) : Option Re := o.bind fun ts => kMk2 C io G ρ (deep ts)
theorem wz_fMake : fMake C io G fs ρ = kMk C io G ρ (fs ρ) := rfl
theorem kMk_s : kMk C io G ρ (some ts) = kMk2 C io G ρ (deep ts) := rfl
theorem kMk2_s : kMk2 C io G ρ (some ds) = kMk4 ρ (mkF C io G ds) := rfl
theorem wz_mkF : mkF C io G ds = kMk3 (ioOk io 0 (.o C [] [] :: ds.map .f)) (G (.o C [] [] :: ds.map .f)) := rfl
theorem kMk3_t : kMk3 true (some (.ok (.f .non) (u :: us))) = some u := rfl
theorem kMk4_s : kMk4 ρ (some u) = some (.ok u ρ) := rfl
/-! tests with effects -/
def kOAnd (h : List T → Option Rb) (o : Option Rb) : Option Rb := o.bind fun r => match r with
  | .ok true ρ1 => h ρ1
  | r => some r
def kOOr (h : List T → Option Rb) (o : Option Rb) : Option Rb := o.bind fun r => match r with
  | .ok false ρ1 => h ρ1
  | r => some r
theorem wz_oAnd {h k : List T → Option Rb} : oAnd h k ρ = kOAnd k (h ρ) := by unfold oAnd kOAnd; rfl
theorem wz_oOr {h k : List T → Option Rb} : oOr h k ρ = kOOr k (h ρ) := by unfold oOr kOOr; rfl
theorem kOAnd_t {k : List T → Option Rb} : kOAnd k (some (.ok true ρ)) = k ρ := rfl
theorem kOAnd_f {k : List T → Option Rb} : kOAnd k (some (.ok false ρ)) = some (.ok false ρ) := rfl
theorem kOOr_f {k : List T → Option Rb} : kOOr k (some (.ok false ρ)) = k ρ := rfl
theorem kOOr_t {k : List T → Option Rb} : kOOr k (some (.ok true ρ)) = some (.ok true ρ) := rfl
theorem wz_sAug {h : T → T → Option T} : sAug i h fe ρ = kSet i (lift (f2 h (fVar i) fe) ρ) := wz_sSet
theorem gAddI_i {p q : Int} : gAddI (.f (.int p)) (.f (.int q)) = some (.f (.int (p + q))) := rfl
/-! dicts -/
def kG3 (o p q : Option T) : Option T := o.bind fun a => p.bind fun k => q.bind fun d => gGet a k d
theorem wz_fGet : fGet fa fk fd ρ = kG3 (fa ρ) (fk ρ) (fd ρ) := rfl
theorem kG3_s : kG3 (some t) (some x) (some y) = gGet t x y := rfl
theorem gGet_f : gGet (.f (.dct ks ds)) (.f (.str z)) (.f d) = some (.f ((dAt ks ds (.inr z)).getD d)) := rfl
theorem gGet_o : gGet (.dk ks ds) (.f (.str z)) (.f d) = some (.f ((dAt ks ds (.inr z)).getD d)) := rfl
theorem gCopy_f : gCopy (.f (.dct ks ds)) = some (.f (.dct ks ds)) := rfl
theorem gCopy_o : gCopy (.dk ks ds) = some (.f (.dct ks ds)) := rfl
def kClr (i : Nat) (h : T → Option T) (ρ : List T) (p : Option (List Sel)) : Option Out := p.bind fun π => kNx (mutF i π h ρ)
theorem wz_sClr {h : T → Option T} : sClr i fp h ρ = kClr i h ρ (fp ρ) := rfl
theorem kClr_s {h : T → Option T} : kClr i h ρ (some π) = kNx (mutF i π h ρ) := rfl
theorem clrT_s : clrT (.dk ks ds) = some (.dk [] []) := rfl
theorem gRevL_l : gRevL (.f (.lst ds)) = some (.f (.lst ds.reverse)) := rfl
theorem gRevL_o : gRevL (.l ds) = some (.f (.lst ds.reverse)) := rfl
theorem gVals_f : gVals (.f (.dct ks ds)) = some (.f (.lst ds)) := rfl
theorem gVals_o : gVals (.dk ks ds) = some (.f (.lst ds)) := rfl
theorem kNn_ll : kNn (some (.ll ts)) = some (.ll ts) := rfl
theorem kNn_tu : kNn (some (.tu ts)) = some (.tu ts) := rfl
theorem kNn_o : kNn (some (.o C ns ts)) = some (.o C ns ts) := rfl
theorem gIx_ll {j : Int} : gIx (.ll ts) (.f (.int j)) = kNn (atI ts j) := by
  unfold gIx
  rw [or2_r rfl, or2_none rfl]
  show ((atI ts j).bind fun t => match t with | .un => none | t => some t) = _
  unfold kNn
  rfl
theorem gIx_tu {j : Int} : gIx (.tu ts) (.f (.int j)) = kNn (atI ts j) := by
  unfold gIx
  rw [or2_r rfl, or2_none rfl]
  show ((atI ts j).bind fun t => match t with | .un => none | t => some t) = _
  unfold kNn
  rfl
theorem gLen_ll : gLen [.ll ts] = some (.f (.int ts.length)) := rfl
theorem gLen_tu : gLen [.tu ts] = some (.f (.int ts.length)) := rfl
theorem gLen_dk : gLen [.dk ks ds] = some (.f (.int ks.length)) := rfl
theorem gLen_df : gLen [.f (.dct ks ds)] = some (.f (.int ks.length)) := rfl
/-! a def whole, and what it hands back -/
def kRun (m : Nat) (io : List Nat) (ts : List T) (o : Option Out) : Option Re := o.bind fun o => match o with
  | .rt τ ρ => if m ≤ ρ.length then some (.ok τ (outs io 0 ts ρ)) else none
  | .nx ρ => if m ≤ ρ.length then some (.ok (.f .non) (outs io 0 ts ρ)) else none
  | .xc C ρ => if m ≤ ρ.length then some (.xc C (outs io 0 ts ρ)) else none
  | _ => none
theorem run_of {fb : FS} (h : ts.length = m) : runF m n io fb ts = kRun m io ts (fb (ts ++ List.replicate (n - m) .un)) := if_pos h
theorem kRun_rt (h : m ≤ ρ.length) : kRun m io ts (some (.rt t ρ)) = some (.ok t (outs io 0 ts ρ)) := if_pos h
theorem kRun_nx (h : m ≤ ρ.length) : kRun m io ts (some (.nx ρ)) = some (.ok (.f .non) (outs io 0 ts ρ)) := if_pos h
theorem outs_nil : outs io n [] ρ = [] := by cases ρ <;> rfl
def kOut (b : Bool) (x y : T) : T := if b = true then x else y
theorem outs_cons : outs io n (t :: ts) (u :: ρ) = kOut (io.contains n) u t :: outs io (n + 1) ts ρ := by
  unfold kOut
  show (if n ∈ io then u else t) :: outs io (n + 1) ts ρ = _
  congr 1
  by_cases h : n ∈ io
  · rw [if_pos h, if_pos (List.contains_iff_mem.mpr h)]
  · rw [if_neg h, if_neg (fun q => h (List.contains_iff_mem.mp q))]
theorem kOut_t : kOut true x y = x := rfl
theorem kOut_f : kOut false x y = y := rfl
end
-- nosimp kCall_own
-- nosimp run_of
theorem last_n {α : Type} {A : List α} {x : α} : (-1 + ((A ++ [x]).length : Int)).toNat = A.length := by
  rw [List.length_append]
  simp
  omega
theorem last_g {α : Type} {A : List α} {x : α} : (A ++ [x])[A.length]? = some x := by simp
theorem last_s {α : Type} {A : List α} {x y : α} : (A ++ [x]).set A.length y = A ++ [y] := by
  rw [List.set_append_right _ _ (Nat.le_refl _)]
  simp
theorem cast1 : ((1 : Nat) : Int) = 1 := rfl
theorem cast2 : ((2 : Nat) : Int) = 2 := rfl
theorem cast3 : ((3 : Nat) : Int) = 3 := rfl
theorem cast4 : ((4 : Nat) : Int) = 4 := rfl
theorem cast5 : ((5 : Nat) : Int) = 5 := rfl
theorem cast6 : ((6 : Nat) : Int) = 6 := rfl
theorem cast7 : ((7 : Nat) : Int) = 7 := rfl
theorem cast8 : ((8 : Nat) : Int) = 8 := rfl
theorem cast9 : ((9 : Nat) : Int) = 9 := rfl
theorem cast10 : ((10 : Nat) : Int) = 10 := rfl
theorem cast11 : ((11 : Nat) : Int) = 11 := rfl
theorem cast12 : ((12 : Nat) : Int) = 12 := rfl
/-! while -/
section
variable {ρ ρ1 : List T} {t : T} {n : Nat} {ft : List T → Option Rb} {fb : FS}
def kW2 (ft : List T → Option Rb) (fb : FS) (n : Nat) (o : Option Out) : Option Out := o.bind fun o => match o with
      | .nx ρ2 => whileF ft fb n ρ2
      | .ct ρ2 => whileF ft fb n ρ2
      | .bk ρ2 => some (.nx ρ2)
      | o => some o
def kW1 (ft : List T → Option Rb) (fb : FS) (n : Nat) (o : Option Rb) : Option Out := o.bind fun r => match r with
    | .xc C ρ1 => some (.xc C ρ1)
    | .ok false ρ1 => some (.nx ρ1)
    | .ok true ρ1 => kW2 ft fb n (fb ρ1)
theorem while_step : whileF ft fb (n + 1) ρ = kW1 ft fb n (ft ρ) := by
  rw [whileF]
  unfold kW1 kW2
  cases ft ρ with
  | none => rfl
  | some r => cases r with
    | xc C ρ1 => rfl
    | ok b ρ1 => cases b with
      | false => rfl
      | true =>
        simp only [Option.bind_some]
        all_goals (rcases fb ρ1 with _ | o <;> first | rfl | (cases o <;> rfl))
theorem wz_sWhile {m : Nat} : sWhile (fun _ => m) ft fb ρ = whileF ft fb m ρ := rfl
theorem kW1_f : kW1 ft fb n (some (.ok false ρ)) = some (.nx ρ) := rfl
theorem kW1_t : kW1 ft fb n (some (.ok true ρ)) = kW2 ft fb n (fb ρ) := rfl
theorem kW2_nx : kW2 ft fb n (some (.nx ρ)) = whileF ft fb n ρ := rfl
theorem kW2_ct : kW2 ft fb n (some (.ct ρ)) = whileF ft fb n ρ := rfl
theorem kW2_bk : kW2 ft fb n (some (.bk ρ)) = some (.nx ρ) := rfl
theorem kW2_rt : kW2 ft fb n (some (.rt t ρ)) = some (.rt t ρ) := rfl
end
-- nosimp while_step
/-! ### texts joined, dicts copied and walked, things sorted -/
section
variable {ρ : List T} {ds : List D} {ks : List Key} {t : T} {fa : List T → Option T}
theorem gJoin_l {z : Str} {xs : List Str} (h : (xs.map (·.length)).sum + xs.length * z.length ≤ 16777216) : gJoin (.f (.str z)) (.f (.lst (xs.map D.str))) = some (.f (.str (Txt.join z xs))) := by
  show (strsOf (xs.map D.str)).bind _ = _
  rw [strsOf_map]
  exact if_pos h
theorem gDictOf_f : gDictOf [.f (.dct ks ds)] = some (.f (.dct ks ds)) := rfl
theorem gDictOf_o : gDictOf [.dk ks ds] = some (.f (.dct ks ds)) := rfl
theorem gSorted_d {xs : List Str} (h : xs.length < 64) : gSorted [.f (.dct (xs.map Sum.inr) ds)] = some (.f (.lst ((ssort xs).map D.str))) := by
  have e : gSortD (.f (.dct (xs.map Sum.inr) ds)) = some (.f (.lst ((ssort xs).map D.str))) := by
    show (skeys (xs.map Sum.inr)).bind _ = _
    rw [skeys_map]
    exact if_pos h
  show gSorted1 (.f (.dct (xs.map Sum.inr) ds)) = _
  unfold gSorted1
  rw [show gSortI (.f (.dct (xs.map Sum.inr) ds)) = none from rfl, e]
theorem gSorted_i {ns : List Int} : gSorted [.f (.lst (ns.map D.int))] = some (.f (.lst ((isort ns).map D.int))) := by
  have e : gSortI (.f (.lst (ns.map D.int))) = some (.f (.lst ((isort ns).map D.int))) := by
    show (intsOf (ns.map D.int)).map _ = _
    rw [intsOf_map]
    rfl
  show gSorted1 (.f (.lst (ns.map D.int))) = _
  unfold gSorted1
  rw [e]
theorem gMaxL_l {ns : List Int} : gMaxL [.f (.lst (ns.map D.int))] = (imax ns).map fun m => .f (.int m) := by
  show (intsOf (ns.map D.int)).bind _ = _
  rw [intsOf_map]
  rfl
def kTix (k : Int) (o : Option T) : Option T := o.bind fun t => match t with
  | .f (.tup ds) => (atI ds k).map .f
  | _ => none
theorem wz_fTix {k : Int} : fTix k fa ρ = kTix k (fa ρ) := by unfold fTix kTix; rfl
theorem kTix_s {k : Int} : kTix k (some (.f (.tup ds))) = kV (atI ds k) := rfl
def kNoX (o : Option Out) : Option Out := o.bind noX
theorem kNoX_nx : kNoX (some (.nx ρ)) = some (.nx ρ) := rfl
theorem kNoX_rt : kNoX (some (.rt t ρ)) = some (.rt t ρ) := rfl
def kForK (fg : T → List T → Option (List T)) (fb : FS) (ρ : List T) (o : Option T) : Option Out := o.bind fun t => match t with
  | .f (.dct ks _) => kNoX (forF fg fb (ks.map kD) ρ)
  | _ => none
theorem wz_sForK {fg fb} : sForK fa fg fb ρ = kForK fg fb ρ (fa ρ) := by unfold sForK kForK; rfl
theorem kForK_s {fg fb} : kForK fg fb ρ (some (.f (.dct ks ds))) = kNoX (forF fg fb (ks.map kD) ρ) := rfl
end
/-! ### operators behind effects, stores by such keys, things handed over twice -/
section
variable {ρ ρ1 : List T} {d q : D} {ds : List D} {t u : T} {ts us : List T} {ns : List Str} {i j k C : Nat} {io : List Nat} {al : List (Nat × Nat)} {G : List T → Option Re} {fr : List T → Option Rs} {fo fk : List T → Option Re} {fb fe : List T → Option T} {fp : List T → Option (List Sel)} {as : List Ar}
def kE2 (g : T → T → Option T) (fb : List T → Option T) (o : Option Re) : Option Re := o.bind fun r => match r with
  | .ok t ρ1 => t.d?.bind fun d => (fb ρ1).bind fun y => (g (.f d) y).bind fun z => z.d?.map fun dz => .ok (.f dz) ρ1
  | .xc C ρ1 => some (.xc C ρ1)
theorem wz_fE2 {g} : fE2 g fo fb ρ = kE2 g fb (fo ρ) := by
  unfold fE2 kE2
  cases fo ρ with
  | none => rfl
  | some r => cases r <;> rfl
theorem kE2_s {g} : kE2 g fb (some (.ok (.f d) ρ1)) = kLift ρ1 (k2 g (some (.f d)) (fb ρ1)) := by
  show ((fb ρ1).bind _) = _
  unfold kLift k2
  cases fb ρ1 with
  | none => rfl
  | some y => rfl
def kSE (i : Nat) (fk : List T → Option Re) (ρ : List T) (x : Option T) (p : Option (List Sel)) : Option Out := x.bind fun x => x.d?.bind fun d => p.bind fun π => (isEnd π).bind fun _ => (ρ[i]?).bind fun t => (t.getP π).bind fun u => if isObj t = true ∧ owned u = true then (fk ρ).bind (kSetE i π d) else none
theorem wz_sSetIxE : sSetIxE i fp fk fe ρ = kSE i fk ρ (fe ρ) (fp ρ) := rfl
def kSE2 (i : Nat) (fk : List T → Option Re) (d : D) (ρ : List T) (o : Option T) : Option Out := o.bind fun t => (t.getP [.at (Str.ofString "endings")]).bind fun u => if isObj t = true ∧ owned u = true then (fk ρ).bind (kSetE i [.at (Str.ofString "endings")] d) else none
theorem kSE_s : kSE i fk ρ (some (.f d)) (some [.at (Str.ofString "endings")]) = kSE2 i fk d ρ ρ[i]? := rfl
def kSE3 (i : Nat) (fk : List T → Option Re) (d : D) (ρ : List T) (o : Option T) : Option Out := o.bind fun u => if owned u = true then (fk ρ).bind (kSetE i [.at (Str.ofString "endings")] d) else none
theorem kSE2_s : kSE2 i fk d ρ (some (.o C ns ts)) = kSE3 i fk d ρ (atN ns ts (Str.ofString "endings")) := by
  unfold kSE2 kSE3
  rw [Option.bind_some, getP_cons, sub_o]
  cases atN ns ts (Str.ofString "endings") with
  | none => rfl
  | some u =>
    show (if isObj (T.o C ns ts) = true ∧ owned u = true then _ else _) = _
    by_cases h : owned u = true
    · exact (if_pos ⟨rfl, h⟩).trans (if_pos h).symm
    · exact (if_neg fun z => h z.2).trans (if_neg h).symm
def kSE4 (i : Nat) (d : D) (o : Option Re) : Option Out := o.bind (kSetE i [.at (Str.ofString "endings")] d)
theorem kSE3_l : kSE3 i fk d ρ (some (.l ds)) = kSE4 i d (fk ρ) := rfl
theorem kSE4_s : kSE4 i d (some (.ok (.f q) ρ1)) = kNx (mutF i [.at (Str.ofString "endings")] (setT q d) ρ1) := rfl
def kAl2 (i : Nat) (o : Option Rs) : Option Rs := o.map fun r => match r with
    | .ok as ρ2 => .ok (.a i :: as) ρ2
    | r => r
def kAl (i : Nat) (g : List T → Option Rs) (ρ : List T) (o : Option T) : Option Rs := match o with
  | none => none
  | some .un => none
  | some _ => kAl2 i (g ρ)
theorem wz_bAl : bAl i fr ρ = kAl i fr ρ ρ[i]? := by
  unfold bAl kAl kAl2
  cases ρ[i]? with
  | none => rfl
  | some t => cases t <;> rfl
theorem kAl_dk {ks} : kAl i fr ρ (some (.dk ks ds)) = kAl2 i (fr ρ) := rfl
theorem kAl2_s : kAl2 i (some (.ok as ρ)) = some (.ok (.a i :: as) ρ) := rfl
theorem take_a : takeF (.a i :: as) ρ = kTk .un (takeF as ρ) := rfl
theorem put_a : putF (.a i :: as) (u :: us) ρ = putF as us ρ := rfl
def kCA (al : List (Nat × Nat)) (io : List Nat) (G : List T → Option Re) (o : Option Rs) : Option Re := o.bind fun r => if alR io al r = true then kCl io G (some r) else none
theorem wz_fCallA : fCallA al io G fr ρ = kCA al io G (fr ρ) := by
  unfold fCallA kCA
  cases fr ρ with
  | none => rfl
  | some r =>
    show (if alR io al r = true then _ else _) = (if alR io al r = true then _ else _)
    rw [wz_fCall]
theorem kCA_do {t1 t5 : T} : kCA [(1, 2)] [1, 2, 3] G (some (.ok [.v t1, .s i, .a i, .s k, .v t5] ρ)) = kCl [1, 2, 3] G (some (.ok [.v t1, .s i, .a i, .s k, .v t5] ρ)) := by
  refine if_pos ?_
  show (([1, 2, 3].contains 1 && [1, 2, 3].contains 2 && (i == i)) && true) = true
  rw [beq_self_eq_true]
  rfl
theorem isF_un : isF .un = false := rfl
end
/-! ### a copy of one's own -/
section
variable {ρ : List T} {ds : List D} {ks : List Key} {fa : List T → Option T}
theorem wz_fD0 : fD0 ρ = some (.f (.dct [] [])) := rfl
def kCp (ρ : List T) (o : Option T) : Option (T × List T) := o.bind fun t => t.dk?.map fun p => (.dk p.1 p.2, ρ)
theorem wz_mCopy : mCopy fa ρ = kCp ρ (fa ρ) := rfl
theorem kCp_f : kCp ρ (some (.f (.dct ks ds))) = some (.dk ks ds, ρ) := rfl
theorem kCp_o : kCp ρ (some (.dk ks ds)) = some (.dk ks ds, ρ) := rfl
end
/-! ### dicts whose keys are tuples of numbers -/
section
variable {ρ : List T} {d q : D} {ds : List D} {i : Nat} {fe fk : List T → Option T} {fp : List T → Option (List Sel)} {ks : List (List Int)} {l : List Bool}
def b2i (b : Bool) : Int := if b = true then 1 else 0
theorem nn_dix : nn (some (.di ks ds)) = some (.di ks ds) := rfl
theorem wz_fNewX : fNewX ρ = some (.ok (.di [] []) ρ) := rfl
theorem nums_bl : ∀ l : List Bool, numsOf (l.map D.bl) = some (l.map b2i)
  | [] => rfl
  | b :: l => by
    show ((D.bl b).num).bind _ = _
    rw [show (D.bl b).num = some (b2i b) from rfl, Option.bind_some, nums_bl l]
    rfl
theorem any_k (k : List Int) : (ks.any fun q => decide (q = k)) = decide (k ∈ ks) := by
  by_cases h : k ∈ ks
  · rw [decide_eq_true h, List.any_eq_true]
    exact ⟨k, h, decide_eq_true rfl⟩
  · rw [decide_eq_false h, List.any_eq_false]
    intro a ha q
    exact h (by rw [← of_decide_eq_true q]; exact ha)
theorem gInZ_b : gInZ (.f (.tup (l.map D.bl))) (.di ks ds) = some (.f (.bl (decide (l.map b2i ∈ ks)))) := by
  show (numsOf (l.map D.bl)).bind (fun k => some (T.f (.bl (xor false (ks.any fun q => decide (q = k)))))) = _
  rw [nums_bl, Option.bind_some, any_k, Bool.false_xor]
theorem gNotInZ_b : gNotInZ (.f (.tup (l.map D.bl))) (.di ks ds) = some (.f (.bl (!decide (l.map b2i ∈ ks)))) := by
  show (numsOf (l.map D.bl)).bind (fun k => some (T.f (.bl (xor true (ks.any fun q => decide (q = k)))))) = _
  rw [nums_bl, Option.bind_some, any_k, Bool.true_xor]
def kSX (i : Nat) (ρ : List T) (o : Option T) (π : Option (List Sel)) (k : Option T) : Option Out := o.bind fun x => x.d?.bind fun d => π.bind fun π => k.bind fun z => z.d?.bind fun q => kNx (mutF i π (setX q d) ρ)
theorem wz_sSetX : sSetX i fp fk fe ρ = kSX i ρ (fe ρ) (fp ρ) (fk ρ) := rfl
theorem kSX_s {π : List Sel} : kSX i ρ (some (.f d)) (some π) (some (.f q)) = kNx (mutF i π (setX q d) ρ) := rfl
theorem setX_b (h : l.map b2i ∉ ks) (hz : ks.length < 16777216) : setX (.tup (l.map D.bl)) d (.di ks ds) = some (.di (ks ++ [l.map b2i]) (ds ++ [d])) := by
  show (numsOf (l.map D.bl)).bind (fun q => if q ∈ ks then none else if ks.length < sizeLine then some (T.di (ks ++ [q]) (ds ++ [d])) else none) = _
  rw [nums_bl, Option.bind_some, if_neg h]
  exact if_pos hz
end
/-! list(a dict) -/
section
variable {ds : List D} {ks : List Key}
theorem gListX_l : gListX [.f (.lst ds)] = some (.f (.lst ds)) := rfl
theorem gListX_t : gListX [.f (.tup ds)] = some (.f (.lst ds)) := rfl
theorem gListX_d : gListX [.f (.dct ks ds)] = some (.f (.lst (ks.map kD))) := rfl
end
-- nosimp any_k
-- nosimp nums_bl
-- nosimp gJoin_l
-- nosimp gSorted_d
-- nosimp gSorted_i
-- nosimp gMaxL_l
end Z

namespace Z
open PySem L2
/-! ### loops by the place -/
section
variable {fg : T → List T → Option (List T)} {fb : FS}
theorem for_idx (ds : List D) (P : Nat → List T → Prop) (R : Out → Prop) (step : ∀ i d ρ, ds[i]? = some d → P i ρ → Wn (P (i + 1)) R (kTurn fb (fg (.f d) ρ))) {ρ : List T} (h : P 0 ρ) :
    ∃ o, forF fg fb ds ρ = some o ∧ ((∃ ρ', o = .nx ρ' ∧ P ds.length ρ') ∨ R o) := by
  obtain ⟨o, e, h⟩ := for_wp (fg := fg) (fb := fb) (fun l ρ => ∃ i, l = ds.drop i ∧ i ≤ ds.length ∧ P i ρ) R (by
    rintro d l ρ ⟨i, e, hi, hp⟩
    have hlt : i < ds.length := by
      rcases Nat.lt_or_ge i ds.length with z | z
      · exact z
      · rw [List.drop_of_length_le z] at e; cases e
    rw [List.drop_eq_getElem_cons hlt] at e
    have e1 := (List.cons.inj e).1
    have e2 := (List.cons.inj e).2
    have s := step i d ρ (by rw [e1]; exact List.getElem?_eq_getElem hlt) hp
    generalize kTurn fb (fg (.f d) ρ) = o at s ⊢
    refine ⟨?_⟩
    have s := s.go
    cases o with
    | none => exact s
    | some o => cases o with
      | nx ρ2 => exact ⟨i + 1, e2, hlt, s⟩
      | ct ρ2 => exact ⟨i + 1, e2, hlt, s⟩
      | _ => exact s) (ds := ds) (ρ := ρ) ⟨0, rfl, Nat.zero_le _, h⟩
  refine ⟨o, e, h.imp (fun ⟨ρ', e1, i, e2, hi, hp⟩ => ⟨ρ', e1, ?_⟩) id⟩
  have : i = ds.length := by
    rcases Nat.lt_or_ge i ds.length with z | z
    · rw [List.drop_eq_getElem_cons z] at e2; cases e2
    · omega
  rw [← this]
  exact hp
theorem for_idxN (ds : List D) (P : Nat → List T → Prop) (step : ∀ i d ρ, ds[i]? = some d → P i ρ → Wn (P (i + 1)) (fun _ => False) (kTurn fb (fg (.f d) ρ))) {ρ : List T} (h : P 0 ρ) :
    ∃ ρ', forF fg fb ds ρ = some (.nx ρ') ∧ P ds.length ρ' := by
  obtain ⟨o, e, ⟨ρ', rfl, h⟩ | h⟩ := for_idx ds P (fun _ => False) step h
  · exact ⟨ρ', e, h⟩
  · exact h.elim
theorem rangeD_len {lo : Int} {n : Nat} : (rangeD lo n).length = n := by unfold rangeD; rw [List.length_map, List.length_range]
theorem rangeD_at {lo : Int} {n i : Nat} {d : D} (h : (rangeD lo n)[i]? = some d) : i < n ∧ d = .int (lo + i) := by
  unfold rangeD at h
  rw [List.getElem?_map] at h
  obtain ⟨j, e, e2⟩ := Option.map_eq_some_iff.mp h
  have hl := (List.getElem?_eq_some_iff.mp e).1
  rw [List.length_range] at hl
  rw [List.getElem?_range hl] at e
  cases e
  exact ⟨hl, e2.symm⟩
theorem enumD_at : ∀ {ds : List D} {k i : Nat} {d : D}, (enumD k ds)[i]? = some d → ∃ x, ds[i]? = some x ∧ d = .tup [.int ((k + i : Nat) : Int), x]
  | [], _, _, _, h => by simp [enumD] at h
  | x :: ds, k, 0, d, h => ⟨x, rfl, by simpa [enumD] using h.symm⟩
  | x :: ds, k, i + 1, d, h => by
    have h' : (enumD (k + 1) ds)[i]? = some d := by simpa [enumD] using h
    obtain ⟨y, e, r⟩ := enumD_at h'
    exact ⟨y, by simpa using e, by rw [r, show k + 1 + i = k + (i + 1) by omega]⟩
theorem map_at {α : Type} {φ : α → D} {xs : List α} {i : Nat} {d : D} (h : (xs.map φ)[i]? = some d) : ∃ a, xs[i]? = some a ∧ d = φ a := by
  rw [List.getElem?_map] at h
  obtain ⟨a, e, e2⟩ := Option.map_eq_some_iff.mp h
  exact ⟨a, e, e2.symm⟩
theorem at_map {α : Type} {φ : α → D} {xs : List α} {i : Nat} {a : α} (h : xs[i]? = some a) : (xs.map φ)[i]? = some (φ a) := by
  rw [List.getElem?_map, h]
  rfl
/-- over range(n) -/
theorem for_range (n : Nat) (P : Nat → List T → Prop) (step : ∀ (i : Nat) ρ, i < n → P i ρ → Wn (P (i + 1)) (fun _ => False) (kTurn fb (fg (.f (.int (i : Int))) ρ))) {ρ : List T} (h : P 0 ρ) :
    ∃ ρ', forF fg fb (rangeD 0 n) ρ = some (.nx ρ') ∧ P n ρ' := by
  obtain ⟨ρ', e, q⟩ := for_idxN (fg := fg) (fb := fb) (rangeD 0 n) P (fun i d ρ hd hp => by
    obtain ⟨hi, rfl⟩ := rangeD_at hd
    rw [Int.zero_add]
    exact step i ρ hi hp) h
  rw [rangeD_len] at q
  exact ⟨ρ', e, q⟩
/-- over a list's items -/
theorem for_map {α : Type} {φ : α → D} (xs : List α) (P : Nat → List T → Prop) (step : ∀ (i : Nat) a ρ, xs[i]? = some a → P i ρ → Wn (P (i + 1)) (fun _ => False) (kTurn fb (fg (.f (φ a)) ρ))) {ρ : List T} (h : P 0 ρ) :
    ∃ ρ', forF fg fb (xs.map φ) ρ = some (.nx ρ') ∧ P xs.length ρ' := by
  obtain ⟨ρ', e, q⟩ := for_idxN (fg := fg) (fb := fb) (xs.map φ) P (fun i d ρ hd hp => by
    obtain ⟨a, ha, rfl⟩ := map_at hd
    exact step i a ρ ha hp) h
  rw [List.length_map] at q
  exact ⟨ρ', e, q⟩
theorem for_enum {α : Type} {φ : α → D} (xs : List α) (P : Nat → List T → Prop) (step : ∀ (i : Nat) a ρ, xs[i]? = some a → P i ρ → Wn (P (i + 1)) (fun _ => False) (kTurn fb (fg (.f (.tup [.int (i : Int), φ a])) ρ))) {ρ : List T} (h : P 0 ρ) :
    ∃ ρ', forF fg fb (enumD 0 (xs.map φ)) ρ = some (.nx ρ') ∧ P xs.length ρ' := by
  obtain ⟨ρ', e, q⟩ := for_idxN (fg := fg) (fb := fb) (enumD 0 (xs.map φ)) P (fun i d ρ hd hp => by
    obtain ⟨x, hx, rfl⟩ := enumD_at hd
    obtain ⟨a, ha, rfl⟩ := map_at hx
    rw [Nat.zero_add]
    exact step i a ρ ha hp) h
  rw [enumD_len, List.length_map] at q
  exact ⟨ρ', e, q⟩
end
end Z

set_option maxHeartbeats 4000000
set_option exponentiation.threshold 3000
namespace K
open PySem PySem.Spec PyProof.Rows L2 Z
def top (i : Nat) : Stmt := PySem.Challenge.pw_deedloom_k77_idle_deeds.main.body.getD i (.Pass ⟨0, 0, 0, 0⟩)
structure Bi (mg : Str → Option Value) : Prop where
  isinstance_ : mg "isinstance" = none
  str_ : mg "str" = none
  list_ : mg "list" = none
  len_ : mg "len" = none
  reversed_ : mg "reversed" = none
  int_ : mg "int" = none
  bool_ : mg "bool" = none
  range_ : mg "range" = none
  enumerate_ : mg "enumerate" = none
  sorted_ : mg "sorted" = none
structure Ob (W : Wd) : Prop where
  c0 : Cls W.K (W.cl 0)
  c1 : Cls W.K (W.cl 1)
  n0_rows : NoAttr W.K (W.cl 0) "rows"
  n0_boxes : NoAttr W.K (W.cl 0) "boxes"
  n0_ins : NoAttr W.K (W.cl 0) "ins"
  n0_width : NoAttr W.K (W.cl 0) "width"
  n1_many : NoAttr W.K (W.cl 1) "many"
abbrev s_reads : Stmt := top 1
theorem sc_reads : FnScope ["deed", "operands", "operand"] ["deed"] (defScope s_reads) := ⟨rfl, rfl, rfl, by decide +kernel, rfl, by decide +kernel, by decide +kernel⟩
def m_reads_1 : List T → Option T := fVar 2
def n_reads_1 : List T → Option Bool := fT (fIsi "str" (fVar 2))
def b_reads : FS := sSeq (sSet 1 (lift (fSl (fVar 0) (some (fC (.int 2))) none))) (sSeq (sIf (liftB (fT (f2 gEq (f2 gIx (fVar 0) (fC (.int 0))) (fC (.str "tell"))))) (sSet 1 (lift (fSl (fVar 0) (some (fC (.int 1))) none))) (sNil)) (sRet (lift (fLc [2] (jVal (fVar 1)) (gSet 2) (n_reads_1) (m_reads_1)))))
def g_reads : List T → Option Re := runF 1 3 [] b_reads
theorem ok_reads {P : Program} {w : World} {W : Wd} {mg : Str → Option Value} {base : Heap} {f : Addr} {fd : FuncData} (F : Fun W.K "reads" "reads" s_reads f fd) (B : Bi mg) (O : Ob W) : FnOk P w W.K mg base CX0 1 f fd ["deed"] (spF W [] g_reads) :=
  fnZ F sc_reads (by decide) (by decide) fun _ _ _ _ _ _ hr =>
  sms_cons (sm_s 1 (evo (ev_sl10 (ev_v 0) (ev_int)))) (sms_cons (sm_if (tvo (tv_c c_eq (ev_ix (ev_v 0) (ev_int)) (ev_str))) (sms_one (sm_s 1 (evo (ev_sl10 (ev_v 0) (ev_int))))) (sms_nil)) (sms_one (sm_ret (evo (ev_lc [("operand", 2)] (ip_val (ev_v 1)) (gc_n 2) (tvs_one (tv_val (ev_isi (by intro _; rfl) (fun _ => B.isinstance_) (ev_v 2) (by intro _; rfl) (fun _ => B.str_) (by decide +kernel)) (by intro _ _; rfl))) (ev_v 2))))))
abbrev s_writes : Stmt := top 2
theorem sc_writes : FnScope ["deed"] ["deed"] (defScope s_writes) := ⟨rfl, rfl, rfl, by decide +kernel, rfl, by decide +kernel, by decide +kernel⟩
def b_writes : FS := sSeq (sIf (liftB (fT (f2 gEq (f2 gIx (fVar 0) (fC (.int 0))) (fC (.str "tell"))))) (sRet (lift (fC .non))) (sNil)) (sRet (lift (f2 gIx (fVar 0) (fC (.int 1)))))
def g_writes : List T → Option Re := runF 1 1 [] b_writes
theorem ok_writes {P : Program} {w : World} {W : Wd} {mg : Str → Option Value} {base : Heap} {f : Addr} {fd : FuncData} (F : Fun W.K "writes" "writes" s_writes f fd) (B : Bi mg) (O : Ob W) : FnOk P w W.K mg base CX0 1 f fd ["deed"] (spF W [] g_writes) :=
  fnZ F sc_writes (by decide) (by decide) fun _ _ _ _ _ _ hr =>
  sms_cons (sm_if (tvo (tv_c c_eq (ev_ix (ev_v 0) (ev_int)) (ev_str))) (sms_one (sm_ret (evo (ev_non)))) (sms_nil)) (sms_one (sm_ret (evo (ev_ix (ev_v 0) (ev_int)))))
abbrev s_copied : Stmt := top 4
theorem sc_copied : FnScope ["rows", "found", "row"] ["rows"] (defScope s_copied) := ⟨rfl, rfl, rfl, by decide +kernel, rfl, by decide +kernel, by decide +kernel⟩
def l_copied_1 (r_copied : List T → Option Re) : FS := sIf (liftB (fT (f2 gEq (f2 gIx (fVar 2) (fC (.int 0))) (fC (.str "if"))))) (sApp 1 (pHere) (fN gTup (aCons (fC (.str "if")) (aCons (f2 gIx (fVar 2) (fC (.int 1))) (aCons (fCallV r_copied (aCons (f2 gIx (fVar 2) (fC (.int 2))) (aNil))) (aCons (fCallV r_copied (aCons (f2 gIx (fVar 2) (fC (.int 3))) (aNil))) (aNil))))))) (sIf (liftB (fT (f2 gEq (f2 gIx (fVar 2) (fC (.int 0))) (fC (.str "while"))))) (sApp 1 (pHere) (fN gTup (aCons (fC (.str "while")) (aCons (f2 gIx (fVar 2) (fC (.int 1))) (aCons (fCallV r_copied (aCons (f2 gIx (fVar 2) (fC (.int 2))) (aNil))) (aNil)))))) (sApp 1 (pHere) (fVar 2)))
def b_copied (r_copied : List T → Option Re) : FS := sSeq (sSet 1 (mE (mNew (aNil)))) (sSeq (sFor (iVal (lift (fVar 0))) (gSet 2) (l_copied_1 r_copied)) (sRet (fFz (fMv 1))))
def g_copied : Nat → List T → Option Re
  | 0 => fun _ => none
  | n + 1 => runF 1 3 [] (b_copied (g_copied n))
theorem ok_copied {P : Program} {w : World} {W : Wd} {mg : Str → Option Value} {base : Heap} {f_copied : Addr} {d_copied : FuncData} (F_copied : Fun W.K "copied" "copied" s_copied f_copied d_copied) (b_copied_ : Binds W.K d_copied ["rows"] []) (m_copied : mg "copied" = some (.ref f_copied)) (k_copied : PySem.W.keepIn W.K (.ref f_copied) = true) (B : Bi mg) (O : Ob W) : ∀ n, FnOk P w W.K mg base CX0 (1 + n) f_copied d_copied ["rows"] (spF W [] (g_copied n)) := by
  intro n
  induction n with
  | zero => exact fn_none
  | succ n ih =>
    have C_copied : Cl P w W mg base CX0 (1 + n) "copied" [] (g_copied n) := .mk' ih m_copied k_copied b_copied_
    exact fnZ F_copied sc_copied (by decide) (by decide) fun _ _ _ _ _ _ hr =>
    sms_cons (sm_s 1 (emo (em_new (av_nil)))) (sms_cons (sm_for (fun _ => PassesOwn.never) (iw_val (evo (ev_v 0))) (gt_n 2) (sms_one (sm_if (tvo (tv_c c_eq (ev_ix (ev_v 2) (ev_int)) (ev_str))) (sms_one (sm_app (lo_v 1) (ev_tup (av_cons (ev_str) (av_cons (ev_ix (ev_v 2) (ev_int)) (av_cons (ev_call (fun _ => C_copied) (Nat.le_refl _) (by intro _; rfl) (E := E0) (fun _ => pass0') (av_cons (ev_ix (ev_v 2) (ev_int)) (av_nil))) (av_cons (ev_call (fun _ => C_copied) (Nat.le_refl _) (by intro _; rfl) (E := E0) (fun _ => pass0') (av_cons (ev_ix (ev_v 2) (ev_int)) (av_nil))) (av_nil)))))))) (sms_one (sm_if (tvo (tv_c c_eq (ev_ix (ev_v 2) (ev_int)) (ev_str))) (sms_one (sm_app (lo_v 1) (ev_tup (av_cons (ev_str) (av_cons (ev_ix (ev_v 2) (ev_int)) (av_cons (ev_call (fun _ => C_copied) (Nat.le_refl _) (by intro _; rfl) (E := E0) (fun _ => pass0') (av_cons (ev_ix (ev_v 2) (ev_int)) (av_nil))) (av_nil))))))) (sms_one (sm_app (lo_v 1) (ev_v 2)))))))) (sms_one (sm_ret (eo_fz (eo_m 1)))))
abbrev s_Program_init : Stmt := inClass (top 5) 0
theorem sc_Program_init : FnScope ["self", "width", "ins", "others", "rows"] ["self", "width", "ins", "others", "rows"] (defScope s_Program_init) := ⟨rfl, rfl, rfl, by decide +kernel, rfl, by decide +kernel, by decide +kernel⟩
def b_Program_init : FS := sSeq (sAtt 0 "width" 0 (pHere) (fVar 1)) (sSeq (sAtt 0 "ins" 0 (pHere) (fN gList (aCons (fVar 2) (aNil)))) (sSeq (sAtt 0 "boxes" 0 (pHere) (f2 gAdd (fN gList (aCons (fVar 2) (aNil))) (fN gList (aCons (fVar 3) (aNil))))) (sAtt 0 "rows" 0 (pHere) (fCallV (g_copied 24) (aCons (fVar 4) (aNil))))))
def g_Program_init : List T → Option Re := runF 5 5 [0] b_Program_init
theorem ok_Program_init {P : Program} {w : World} {W : Wd} {mg : Str → Option Value} {base : Heap} {f : Addr} {fd : FuncData} (F : Fun W.K "__init__" "Program.__init__" s_Program_init f fd) (B : Bi mg) (O : Ob W) (C_copied : Cl P w W mg base CX0 25 "copied" [] (g_copied 24)) : FnOk P w W.K mg base CX0 26 f fd ["self", "width", "ins", "others", "rows"] (spF W [0] g_Program_init) :=
  fnZ F sc_Program_init (by decide) (by decide) fun _ _ _ _ _ _ hr =>
  sms_cons (sm_att O.c0 O.n0_width (lo_v 0) (ev_v 1)) (sms_cons (sm_att O.c0 O.n0_ins (lo_v 0) (ev_callTy (fun j => callList j) sn_list (by intro _; rfl) (fun _ => B.list_) (by decide +kernel) (av_cons (ev_v 2) (av_nil)))) (sms_cons (sm_att O.c0 O.n0_boxes (lo_v 0) (ev_add (ev_callTy (fun j => callList j) sn_list (by intro _; rfl) (fun _ => B.list_) (by decide +kernel) (av_cons (ev_v 2) (av_nil))) (ev_callTy (fun j => callList j) sn_list (by intro _; rfl) (fun _ => B.list_) (by decide +kernel) (av_cons (ev_v 3) (av_nil))))) (sms_one (sm_att O.c0 O.n0_rows (lo_v 0) (ev_call (fun _ => C_copied) (Nat.le_of_ble_eq_true rfl) (by intro _; rfl) (E := E0) (fun _ => pass0') (av_cons (ev_v 4) (av_nil)))))))
abbrev s_live_ahead : Stmt := top 7
theorem sc_live_ahead : FnScope ["row", "live", "name", "found", "box"] ["row", "live"] (defScope s_live_ahead) := ⟨rfl, rfl, rfl, by decide +kernel, rfl, by decide +kernel, by decide +kernel⟩
def l_live_ahead_1 : FS := sSetIx 3 (pHere) (fVar 4) (fC (.bl true))
def l_live_ahead_2 : FS := sIf (liftB (fT (f2 gNe (fVar 4) (fVar 2)))) (sSetIx 3 (pHere) (fVar 4) (fC (.bl true))) (sNil)
def b_live_ahead : FS := sSeq (sSet 2 (lift (fCallV g_writes (aCons (fVar 0) (aNil))))) (sSeq (sSet 3 (mE (mNewD))) (sSeq (sForK (fVar 1) (gSet 4) (l_live_ahead_2)) (sSeq (sFor (iVal (lift (fCallV g_reads (aCons (fVar 0) (aNil))))) (gSet 4) (l_live_ahead_1)) (sRet (fFz (fMv 3))))))
def g_live_ahead : List T → Option Re := runF 2 5 [] b_live_ahead
theorem ok_live_ahead {P : Program} {w : World} {W : Wd} {mg : Str → Option Value} {base : Heap} {f : Addr} {fd : FuncData} (F : Fun W.K "live_ahead" "live_ahead" s_live_ahead f fd) (B : Bi mg) (O : Ob W) (C_reads : Cl P w W mg base CX0 1 "reads" [] g_reads) (C_writes : Cl P w W mg base CX0 1 "writes" [] g_writes) : FnOk P w W.K mg base CX0 2 f fd ["row", "live"] (spF W [] g_live_ahead) :=
  fnZ F sc_live_ahead (by decide) (by decide) fun _ _ _ _ _ _ hr =>
  sms_cons (sm_s 2 (evo (ev_call (fun _ => C_writes) (Nat.le_of_ble_eq_true rfl) (by intro _; rfl) (E := E0) (fun _ => pass0') (av_cons (ev_v 0) (av_nil))))) (sms_cons (sm_s 3 (emo (em_newd))) (sms_cons (sm_forK (fun _ => PassesOwn.never) (pk_v 1) (gt_n 4) (sms_one (sm_if (tvo (tv_c c_ne (ev_v 4) (ev_v 2))) (sms_one (sm_setIx (lo_v 3) (ev_v 4) (ev_bl))) (sms_nil)))) (sms_cons (sm_for (fun _ => PassesOwn.never) (iw_val (evo (ev_call (fun _ => C_reads) (Nat.le_of_ble_eq_true rfl) (by intro _; rfl) (E := E0) (fun _ => pass0') (av_cons (ev_v 0) (av_nil))))) (gt_n 4) (sms_one (sm_setIx (lo_v 3) (ev_v 4) (ev_bl)))) (sms_one (sm_ret (eo_fz (eo_m 3)))))))
abbrev s_both : Stmt := top 8
theorem sc_both : FnScope ["one", "other", "found", "box"] ["one", "other"] (defScope s_both) := ⟨rfl, rfl, rfl, by decide +kernel, rfl, by decide +kernel, by decide +kernel⟩
def l_both_1 : FS := sSetIx 2 (pHere) (fVar 3) (fC (.bl true))
def b_both : FS := sSeq (sSet 2 (mE (mCopy (fVar 0)))) (sSeq (sForK (fVar 1) (gSet 3) (l_both_1)) (sRet (fFz (fMv 2))))
def g_both : List T → Option Re := runF 2 4 [] b_both
theorem ok_both {P : Program} {w : World} {W : Wd} {mg : Str → Option Value} {base : Heap} {f : Addr} {fd : FuncData} (F : Fun W.K "both" "both" s_both f fd) (B : Bi mg) (O : Ob W) : FnOk P w W.K mg base CX0 1 f fd ["one", "other"] (spF W [] g_both) :=
  fnZ F sc_both (by decide) (by decide) fun _ _ _ _ _ _ hr =>
  sms_cons (sm_s 2 (emo (em_copy (ev_v 0)))) (sms_cons (sm_forK (fun _ => PassesOwn.never) (pk_v 1) (gt_n 3) (sms_one (sm_setIx (lo_v 2) (ev_v 3) (ev_bl)))) (sms_one (sm_ret (eo_fz (eo_m 2)))))
abbrev s_Trimmer_init : Stmt := inClass (top 9) 0
theorem sc_Trimmer_init : FnScope ["self"] ["self"] (defScope s_Trimmer_init) := ⟨rfl, rfl, rfl, by decide +kernel, rfl, by decide +kernel, by decide +kernel⟩
def b_Trimmer_init : FS := sAtt 1 "many" 0 (pHere) (fC (.int 0))
def g_Trimmer_init : List T → Option Re := runF 1 1 [0] b_Trimmer_init
theorem ok_Trimmer_init {P : Program} {w : World} {W : Wd} {mg : Str → Option Value} {base : Heap} {f : Addr} {fd : FuncData} (F : Fun W.K "__init__" "Trimmer.__init__" s_Trimmer_init f fd) (B : Bi mg) (O : Ob W) : FnOk P w W.K mg base CX0 1 f fd ["self"] (spF W [0] g_Trimmer_init) :=
  fnZ F sc_Trimmer_init (by decide) (by decide) fun _ _ _ _ _ _ hr =>
  sms_one (sm_att O.c1 O.n1_many (lo_v 0) (ev_int))
abbrev s_Trimmer_deed : Stmt := inClass (top 9) 1
theorem sc_Trimmer_deed : FnScope ["self", "row", "live", "kept"] ["self", "row", "live", "kept"] (defScope s_Trimmer_deed) := ⟨rfl, rfl, rfl, by decide +kernel, rfl, by decide +kernel, by decide +kernel⟩
def b_Trimmer_deed : FS := sSeq (sIf (liftB (tAndF (fT (fIsN true (fCallV g_writes (aCons (fVar 1) (aNil))))) (fT (f2 gNotIn (fCallV g_writes (aCons (fVar 1) (aNil))) (fVar 2))))) (sAttAug 1 "many" 0 (pHere) gAddI (fC (.int 1))) (sApp 3 (pHere) (fVar 1))) (sRet (lift (fCallV g_live_ahead (aCons (fVar 1) (aCons (fVar 2) (aNil))))))
def g_Trimmer_deed : List T → Option Re := runF 4 4 [0, 3] b_Trimmer_deed
theorem ok_Trimmer_deed {P : Program} {w : World} {W : Wd} {mg : Str → Option Value} {base : Heap} {f : Addr} {fd : FuncData} (F : Fun W.K "deed" "Trimmer.deed" s_Trimmer_deed f fd) (B : Bi mg) (O : Ob W) (C_live_ahead : Cl P w W mg base CX0 2 "live_ahead" [] g_live_ahead) (C_writes : Cl P w W mg base CX0 1 "writes" [] g_writes) : FnOk P w W.K mg base CX0 3 f fd ["self", "row", "live", "kept"] (spF W [0, 3] g_Trimmer_deed) :=
  fnZ F sc_Trimmer_deed (by decide) (by decide) fun _ _ _ _ _ _ hr =>
  sms_cons (sm_if (tvo (wvt (wv_and (tv_notN (ev_call (fun _ => C_writes) (Nat.le_of_ble_eq_true rfl) (by intro _; rfl) (E := E0) (fun _ => pass0') (av_cons (ev_v 1) (av_nil)))) (wv_and1 (tv_c c_notIn (ev_call (fun _ => C_writes) (Nat.le_of_ble_eq_true rfl) (by intro _; rfl) (E := E0) (fun _ => pass0') (av_cons (ev_v 1) (av_nil))) (ev_v 2)))))) (sms_one (sm_attAug (fun _ => in_add) s2_addI O.c1 O.n1_many (lo_v 0) (ev_int))) (sms_one (sm_app (lo_v 3) (ev_v 1)))) (sms_one (sm_ret (evo (ev_call (fun _ => C_live_ahead) (Nat.le_of_ble_eq_true rfl) (by intro _; rfl) (E := E0) (fun _ => pass0') (av_cons (ev_v 1) (av_cons (ev_v 2) (av_nil)))))))
abbrev s_Trimmer_choice : Stmt := inClass (top 9) 2
theorem sc_Trimmer_choice : FnScope ["self", "row", "live", "kept", "ones", "first", "others", "second"] ["self", "row", "live", "kept"] (defScope s_Trimmer_choice) := ⟨rfl, rfl, rfl, by decide +kernel, rfl, by decide +kernel, by decide +kernel⟩
def b_Trimmer_choice (r_Trimmer_back : List T → Option Re) : FS := sSeq (sAsg (gTupM 2 (gsCons (gSet 4) (gsCons (gSet 5) (gsNil)))) (fMeth 1 "back" 0 [0] r_Trimmer_back (bCons (lift (f2 gIx (fVar 1) (fC (.int 2)))) (bCons (lift (fVar 2)) (bNil))))) (sSeq (sAsg (gTupM 2 (gsCons (gSet 6) (gsCons (gSet 7) (gsNil)))) (fMeth 1 "back" 0 [0] r_Trimmer_back (bCons (lift (f2 gIx (fVar 1) (fC (.int 3)))) (bCons (lift (fVar 2)) (bNil))))) (sSeq (sIf (liftB (fT (f2 gGt (f2 gAdd (fN gLen (aCons (fVar 4) (aNil))) (fN gLen (aCons (fVar 6) (aNil)))) (fC (.int 0))))) (sApp 3 (pHere) (fN gTup (aCons (fC (.str "if")) (aCons (f2 gIx (fVar 1) (fC (.int 1))) (aCons (fVar 4) (aCons (fVar 6) (aNil))))))) (sNil)) (sRet (lift (fCallV g_both (aCons (fCallV g_both (aCons (fVar 5) (aCons (fVar 7) (aNil)))) (aCons (fDispD (pCons (f2 gIx (fVar 1) (fC (.int 1))) (fC (.bl true)) (pNil))) (aNil))))))))
abbrev s_Trimmer_loop : Stmt := inClass (top 9) 3
theorem sc_Trimmer_loop : FnScope ["self", "row", "live", "kept", "found", "counted", "rows", "many", "inner"] ["self", "row", "live", "kept"] (defScope s_Trimmer_loop) := ⟨rfl, rfl, rfl, by decide +kernel, rfl, by decide +kernel, by decide +kernel⟩
def l_Trimmer_loop_1t (r_Trimmer_back : List T → Option Re) : List T → Option Rb := liftB (fT (f2 gLt (fVar 7) (fN gLen (aCons (fVar 4) (aNil)))))
def l_Trimmer_loop_1 (r_Trimmer_back : List T → Option Re) : FS := sSeq (sSet 7 (lift (fN gLen (aCons (fVar 4) (aNil))))) (sSeq (sAtt 1 "many" 0 (pHere) (fVar 5)) (sSeq (sAsg (gTupM 2 (gsCons (gSet 6) (gsCons (gSet 8) (gsNil)))) (fMeth 1 "back" 0 [0] r_Trimmer_back (bCons (lift (f2 gIx (fVar 1) (fC (.int 2)))) (bCons (lift (fVar 4)) (bNil))))) (sSet 4 (lift (fCallV g_both (aCons (fVar 4) (aCons (fVar 8) (aNil))))))))
def b_Trimmer_loop (r_Trimmer_back : List T → Option Re) : FS := sSeq (sSet 4 (lift (fCallV g_both (aCons (fVar 2) (aCons (fDispD (pCons (f2 gIx (fVar 1) (fC (.int 1))) (fC (.bl true)) (pNil))) (aNil)))))) (sSeq (sSet 5 (lift (f1 (gAtt 1 "many") (fVar 0)))) (sSeq (sSet 6 (lift (fN gLst (aNil)))) (sSeq (sSet 7 (lift (f1 gNeg (fC (.int 1))))) (sSeq (sWhile (fun _ => 1000000) (l_Trimmer_loop_1t r_Trimmer_back) (l_Trimmer_loop_1 r_Trimmer_back)) (sSeq (sApp 3 (pHere) (fN gTup (aCons (fC (.str "while")) (aCons (f2 gIx (fVar 1) (fC (.int 1))) (aCons (fVar 6) (aNil)))))) (sRet (lift (fVar 4))))))))
abbrev s_Trimmer_back : Stmt := inClass (top 9) 4
theorem sc_Trimmer_back : FnScope ["self", "rows", "live", "kept", "row"] ["self", "rows", "live"] (defScope s_Trimmer_back) := ⟨rfl, rfl, rfl, by decide +kernel, rfl, by decide +kernel, by decide +kernel⟩
def l_Trimmer_back_1 (r_Trimmer_choice r_Trimmer_loop : List T → Option Re) : FS := sIf (liftB (fT (f2 gEq (f2 gIx (fVar 4) (fC (.int 0))) (fC (.str "if"))))) (sSet 2 (fFz (fMeth 1 "choice" 0 [0, 3] r_Trimmer_choice (bCons (lift (fVar 4)) (bCons (lift (fVar 2)) (bSlot 3 (bNil))))))) (sIf (liftB (fT (f2 gEq (f2 gIx (fVar 4) (fC (.int 0))) (fC (.str "while"))))) (sSet 2 (fFz (fMeth 1 "loop" 0 [0, 3] r_Trimmer_loop (bCons (lift (fVar 4)) (bCons (lift (fVar 2)) (bSlot 3 (bNil))))))) (sSet 2 (fFz (fMeth 1 "deed" 0 [0, 3] g_Trimmer_deed (bCons (lift (fVar 4)) (bCons (lift (fVar 2)) (bSlot 3 (bNil))))))))
def b_Trimmer_back (r_Trimmer_choice r_Trimmer_loop : List T → Option Re) : FS := sSeq (sSet 3 (mE (mNew (aNil)))) (sSeq (sFor (iL1 List.reverse (aCons (fVar 1) (aNil))) (gSet 4) (l_Trimmer_back_1 r_Trimmer_choice r_Trimmer_loop)) (sSeq (sRev 3 (pHere)) (sFz 3 (sRet (lift (fN gTup (aCons (fVar 3) (aCons (fVar 2) (aNil)))))))))
mutual
def g_Trimmer_choice : Nat → List T → Option Re
  | 0 => fun _ => none
  | n + 1 => runF 4 8 [0, 3] (b_Trimmer_choice (g_Trimmer_back n))
def g_Trimmer_loop : Nat → List T → Option Re
  | 0 => fun _ => none
  | n + 1 => runF 4 9 [0, 3] (b_Trimmer_loop (g_Trimmer_back n))
def g_Trimmer_back : Nat → List T → Option Re
  | 0 => fun _ => none
  | n + 1 => runF 3 5 [0] (b_Trimmer_back (g_Trimmer_choice n) (g_Trimmer_loop n))
end
theorem ok_Trimmer_choice {P : Program} {w : World} {W : Wd} {mg : Str → Option Value} {base : Heap} {f_Trimmer_choice : Addr} {d_Trimmer_choice : FuncData} (F_Trimmer_choice : Fun W.K "choice" "Trimmer.choice" s_Trimmer_choice f_Trimmer_choice d_Trimmer_choice) (b_Trimmer_choice_ : Binds W.K d_Trimmer_choice ["self", "row", "live", "kept"] []) (m_Trimmer_choice : Meth W.K (W.cl 1) "choice" f_Trimmer_choice) {f_Trimmer_loop : Addr} {d_Trimmer_loop : FuncData} (F_Trimmer_loop : Fun W.K "loop" "Trimmer.loop" s_Trimmer_loop f_Trimmer_loop d_Trimmer_loop) (b_Trimmer_loop_ : Binds W.K d_Trimmer_loop ["self", "row", "live", "kept"] []) (m_Trimmer_loop : Meth W.K (W.cl 1) "loop" f_Trimmer_loop) {f_Trimmer_back : Addr} {d_Trimmer_back : FuncData} (F_Trimmer_back : Fun W.K "back" "Trimmer.back" s_Trimmer_back f_Trimmer_back d_Trimmer_back) (b_Trimmer_back_ : Binds W.K d_Trimmer_back ["self", "rows", "live"] []) (m_Trimmer_back : Meth W.K (W.cl 1) "back" f_Trimmer_back) (B : Bi mg) (O : Ob W) (C_both : Cl P w W mg base CX0 1 "both" [] g_both) (C_Trimmer_deed : ClT P w W mg base CX0 3 1 "deed" [0, 3] g_Trimmer_deed) : ∀ n, FnOk P w W.K mg base CX0 (4 + n) f_Trimmer_choice d_Trimmer_choice ["self", "row", "live", "kept"] (spF W [0, 3] (g_Trimmer_choice n)) ∧ FnOk P w W.K mg base CX0 (4 + n) f_Trimmer_loop d_Trimmer_loop ["self", "row", "live", "kept"] (spF W [0, 3] (g_Trimmer_loop n)) ∧ FnOk P w W.K mg base CX0 (4 + n) f_Trimmer_back d_Trimmer_back ["self", "rows", "live"] (spF W [0] (g_Trimmer_back n)) := by
  intro n
  induction n with
  | zero => exact ⟨fn_none, fn_none, fn_none⟩
  | succ n ih =>
    have C_Trimmer_choice : ClT P w W mg base CX0 (4 + n) 1 "choice" [0, 3] (g_Trimmer_choice n) := .mk' ih.1 O.c1 m_Trimmer_choice b_Trimmer_choice_
    have C_Trimmer_loop : ClT P w W mg base CX0 (4 + n) 1 "loop" [0, 3] (g_Trimmer_loop n) := .mk' ih.2.1 O.c1 m_Trimmer_loop b_Trimmer_loop_
    have C_Trimmer_back : ClT P w W mg base CX0 (4 + n) 1 "back" [0] (g_Trimmer_back n) := .mk' ih.2.2 O.c1 m_Trimmer_back b_Trimmer_back_
    refine ⟨?_, ?_, ?_⟩
    · exact fnZ F_Trimmer_choice sc_Trimmer_choice (by decide) (by decide) fun _ _ _ _ _ _ hr =>
    sms_cons (sm_asg (eo_meth 0 (fun _ => C_Trimmer_back) (Nat.le_refl _) (fun _ => rfl) (fun _ => pass0') (ao_cons (evo (ev_ix (ev_v 1) (ev_int))) (ao_cons (evo (ev_v 2)) (ao_nil)))) (gt_tupM (gts_cons (gt_n 4) (gts_cons (gt_n 5) (gts_nil))))) (sms_cons (sm_asg (eo_meth 0 (fun _ => C_Trimmer_back) (Nat.le_refl _) (fun _ => rfl) (fun _ => pass0') (ao_cons (evo (ev_ix (ev_v 1) (ev_int))) (ao_cons (evo (ev_v 2)) (ao_nil)))) (gt_tupM (gts_cons (gt_n 6) (gts_cons (gt_n 7) (gts_nil))))) (sms_cons (sm_if (tvo (tv_c c_gt (ev_add (ev_callB (fun j => callLen j) sn_len (by intro _; rfl) (fun _ => B.len_) (by decide +kernel) (av_cons (ev_v 4) (av_nil))) (ev_callB (fun j => callLen j) sn_len (by intro _; rfl) (fun _ => B.len_) (by decide +kernel) (av_cons (ev_v 6) (av_nil)))) (ev_int))) (sms_one (sm_app (lo_v 3) (ev_tup (av_cons (ev_str) (av_cons (ev_ix (ev_v 1) (ev_int)) (av_cons (ev_v 4) (av_cons (ev_v 6) (av_nil)))))))) (sms_nil)) (sms_one (sm_ret (evo (ev_call (fun _ => C_both) (Nat.le_trans (by decide : 1 ≤ 4) (Nat.le_add_right 4 n)) (by intro _; rfl) (E := E0) (fun _ => pass0') (av_cons (ev_call (fun _ => C_both) (Nat.le_trans (by decide : 1 ≤ 4) (Nat.le_add_right 4 n)) (by intro _; rfl) (E := E0) (fun _ => pass0') (av_cons (ev_v 5) (av_cons (ev_v 7) (av_nil)))) (av_cons (ev_disp (dp_cons (ev_ix (ev_v 1) (ev_int)) (ev_bl) (dp_nil)) rfl rfl (by decide) (by decide)) (av_nil)))))))))
    · exact fnZ F_Trimmer_loop sc_Trimmer_loop (by decide) (by decide) fun _ _ _ _ _ _ hr =>
    sms_cons (sm_s 4 (evo (ev_call (fun _ => C_both) (Nat.le_trans (by decide : 1 ≤ 4) (Nat.le_add_right 4 n)) (by intro _; rfl) (E := E0) (fun _ => pass0') (av_cons (ev_v 2) (av_cons (ev_disp (dp_cons (ev_ix (ev_v 1) (ev_int)) (ev_bl) (dp_nil)) rfl rfl (by decide) (by decide)) (av_nil)))))) (sms_cons (sm_s 5 (evo (ev_att O.c1 O.n1_many (ev_v 0)))) (sms_cons (sm_s 6 (evo (ev_lst (av_nil)))) (sms_cons (sm_s 7 (evo (ev_neg (ev_int)))) (sms_cons (sm_while (fun _ => 1000000) (fun _ => PassesOwn.never) (tvo (tv_c c_lt (ev_v 7) (ev_callB (fun j => callLen j) sn_len (by intro _; rfl) (fun _ => B.len_) (by decide +kernel) (av_cons (ev_v 4) (av_nil))))) (sms_cons (sm_s 7 (evo (ev_callB (fun j => callLen j) sn_len (by intro _; rfl) (fun _ => B.len_) (by decide +kernel) (av_cons (ev_v 4) (av_nil))))) (sms_cons (sm_att O.c1 O.n1_many (lo_v 0) (ev_v 5)) (sms_cons (sm_asg (eo_meth 0 (fun _ => C_Trimmer_back) (Nat.le_refl _) (fun _ => rfl) (fun _ => pass0') (ao_cons (evo (ev_ix (ev_v 1) (ev_int))) (ao_cons (evo (ev_v 4)) (ao_nil)))) (gt_tupM (gts_cons (gt_n 6) (gts_cons (gt_n 8) (gts_nil))))) (sms_one (sm_s 4 (evo (ev_call (fun _ => C_both) (Nat.le_trans (by decide : 1 ≤ 4) (Nat.le_add_right 4 n)) (by intro _; rfl) (E := E0) (fun _ => pass0') (av_cons (ev_v 4) (av_cons (ev_v 8) (av_nil))))))))))) (sms_cons (sm_app (lo_v 3) (ev_tup (av_cons (ev_str) (av_cons (ev_ix (ev_v 1) (ev_int)) (av_cons (ev_v 6) (av_nil)))))) (sms_one (sm_ret (evo (ev_v 4)))))))))
    · exact fnZ F_Trimmer_back sc_Trimmer_back (by decide) (by decide) fun _ _ _ _ _ _ hr =>
    sms_cons (sm_s 3 (emo (em_new (av_nil)))) (sms_cons (sm_for (fun _ => PassesOwn.never) (iw_rev (by intro _; rfl) (fun _ => B.reversed_) (av_cons (ev_v 1) (av_nil))) (gt_n 4) (sms_one (sm_if (tvo (tv_c c_eq (ev_ix (ev_v 4) (ev_int)) (ev_str))) (sms_one (sm_s 2 (eo_fz (eo_meth 0 (fun _ => C_Trimmer_choice) (Nat.le_refl _) (fun _ => rfl) (fun _ => pass0') (ao_cons (evo (ev_v 4)) (ao_cons (evo (ev_v 2)) (ao_s 3 (ao_nil)))))))) (sms_one (sm_if (tvo (tv_c c_eq (ev_ix (ev_v 4) (ev_int)) (ev_str))) (sms_one (sm_s 2 (eo_fz (eo_meth 0 (fun _ => C_Trimmer_loop) (Nat.le_refl _) (fun _ => rfl) (fun _ => pass0') (ao_cons (evo (ev_v 4)) (ao_cons (evo (ev_v 2)) (ao_s 3 (ao_nil)))))))) (sms_one (sm_s 2 (eo_fz (eo_meth 0 (fun _ => C_Trimmer_deed) (Nat.le_trans (by decide : 3 ≤ 4) (Nat.le_add_right 4 n)) (fun _ => rfl) (fun _ => pass0') (ao_cons (evo (ev_v 4)) (ao_cons (evo (ev_v 2)) (ao_s 3 (ao_nil))))))))))))) (sms_cons (sm_rev (lo_v 3)) (sms_fz 3 (sms_one (sm_ret (evo (ev_tup (av_cons (ev_v 3) (av_cons (ev_v 2) (av_nil))))))))))
abbrev s_idle_deeds : Stmt := top 10
theorem sc_idle_deeds : FnScope ["program", "trimmer"] ["program"] (defScope s_idle_deeds) := ⟨rfl, rfl, rfl, by decide +kernel, rfl, by decide +kernel, by decide +kernel⟩
def b_idle_deeds : FS := sSeq (sSet 1 (fMake 1 [0] g_Trimmer_init aNil)) (sSeq (sExpr (fMeth 1 "back" 1 [0] (g_Trimmer_back 24) (bCons (lift (f1 (gAtt 0 "rows") (fVar 0))) (bCons (lift (fD0)) (bNil))))) (sFz 1 (sRet (lift (f1 (gAtt 1 "many") (fVar 1))))))
def g_idle_deeds : List T → Option Re := runF 1 2 [] b_idle_deeds
theorem ok_idle_deeds {P : Program} {w : World} {W : Wd} {mg : Str → Option Value} {base : Heap} {f : Addr} {fd : FuncData} (F : Fun W.K "idle_deeds" "idle_deeds" s_idle_deeds f fd) (B : Bi mg) (O : Ob W) (C_Trimmer_back : ClT P w W mg base CX0 28 1 "back" [0] (g_Trimmer_back 24)) (C_Trimmer_init : ClM P w W mg base CX0 1 "Trimmer" 1 [0] g_Trimmer_init) : FnOk P w W.K mg base CX0 29 f fd ["program"] (spF W [] g_idle_deeds) :=
  fnZ F sc_idle_deeds (by decide) (by decide) fun _ _ _ _ _ _ hr =>
  sms_cons (sm_s 1 (eo_make0 (fun _ => C_Trimmer_init) (Nat.le_of_ble_eq_true rfl) (by intro _; rfl) (E := E0) (fun _ => pass0'))) (sms_cons (sm_expr (eo_meth 1 (fun _ => C_Trimmer_back) (Nat.le_of_ble_eq_true rfl) (fun _ => rfl) (fun _ => pass0') (ao_cons (evo (ev_att O.c0 O.n0_rows (ev_v 0))) (ao_cons (evo (ev_d0)) (ao_nil))))) (sms_fz 1 (sms_one (sm_ret (evo (ev_att O.c1 O.n1_many (ev_v 1)))))))
abbrev s_law_whole : Stmt := top 12
theorem sc_law_whole : FnScope ["_law_found"] ["_law_found"] (defScope s_law_whole) := ⟨rfl, rfl, rfl, by decide +kernel, rfl, by decide +kernel, by decide +kernel⟩
def b_law_whole : FS := sRet (lift (fAnd (fIsi "int" (fVar 0)) (fNot (fIsi "bool" (fVar 0)))))
def g_law_whole : List T → Option Re := runF 1 1 [] b_law_whole
theorem ok_law_whole {P : Program} {w : World} {W : Wd} {mg : Str → Option Value} {base : Heap} {f : Addr} {fd : FuncData} (F : Fun W.K "_law_whole" "_law_whole" s_law_whole f fd) (B : Bi mg) (O : Ob W) : FnOk P w W.K mg base CX0 1 f fd ["_law_found"] (spF W [] g_law_whole) :=
  fnZ F sc_law_whole (by decide) (by decide) fun _ _ _ _ _ _ hr =>
  sms_one (sm_ret (evo (ev_and (ev_isi (by intro _; rfl) (fun _ => B.isinstance_) (ev_v 0) (by intro _; rfl) (fun _ => B.int_) (by decide +kernel)) (ev_one (ev_not (ev_isi (by intro _; rfl) (fun _ => B.isinstance_) (ev_v 0) (by intro _; rfl) (fun _ => B.bool_) (by decide +kernel)))))))
abbrev s_law_mixed : Stmt := top 13
theorem sc_law_mixed : FnScope ["_law_cell", "_law_k", "_law_number"] ["_law_cell", "_law_k"] (defScope s_law_mixed) := ⟨rfl, rfl, rfl, by decide +kernel, rfl, by decide +kernel, by decide +kernel⟩
def b_law_mixed : FS := sSeq (sIf (liftB (fT (f2 gGe (fVar 0) (f2 gPow (fC (.int 10)) (fC (.int 40)))))) (sRet (lift (f2 gMod (f2 gDiv (f2 gSub (fVar 0) (f2 gPow (fC (.int 10)) (fC (.int 40)))) (f2 gShl (fC (.int 1)) (f2 gMul (fC (.int 100)) (f2 gMod (fVar 1) (fC (.int 60)))))) (f2 gShl (fC (.int 1)) (fC (.int 100)))))) (sNil)) (sSeq (sSet 2 (lift (f2 gMod (f2 gMul (f2 gAdd (f2 gAdd (f2 gAdd (f2 gMul (fVar 0) (fVar 0)) (f2 gMul (fC (.int 3)) (fVar 0))) (f2 gMul (fC (.int 7919)) (fVar 1))) (fC (.int 1))) (fC (.int 48271))) (fC (.int 2147483629))))) (sRet (lift (f2 gMod (f2 gAdd (f2 gMul (fVar 2) (fVar 2)) (fC (.int 7))) (fC (.int 2147483587))))))
def g_law_mixed : List T → Option Re := runF 2 3 [] b_law_mixed
theorem ok_law_mixed {P : Program} {w : World} {W : Wd} {mg : Str → Option Value} {base : Heap} {f : Addr} {fd : FuncData} (F : Fun W.K "_law_mixed" "_law_mixed" s_law_mixed f fd) (B : Bi mg) (O : Ob W) : FnOk P w W.K mg base CX0 1 f fd ["_law_cell", "_law_k"] (spF W [] g_law_mixed) :=
  fnZ F sc_law_mixed (by decide) (by decide) fun _ _ _ _ _ _ hr =>
  sms_cons (sm_if (tvo (tv_c c_ge (ev_v 0) (ev_pow (ev_int) (ev_int)))) (sms_one (sm_ret (evo (ev_mod (ev_div (ev_sub (ev_v 0) (ev_pow (ev_int) (ev_int))) (ev_shl (ev_int) (ev_mul (ev_int) (ev_mod (ev_v 1) (ev_int))))) (ev_shl (ev_int) (ev_int)))))) (sms_nil)) (sms_cons (sm_s 2 (evo (ev_mod (ev_mul (ev_add (ev_add (ev_add (ev_mul (ev_v 0) (ev_v 0)) (ev_mul (ev_int) (ev_v 0))) (ev_mul (ev_int) (ev_v 1))) (ev_int)) (ev_int)) (ev_int)))) (sms_one (sm_ret (evo (ev_mod (ev_add (ev_mul (ev_v 2) (ev_v 2)) (ev_int)) (ev_int))))))
abbrev s_law_names : Stmt := top 14
theorem sc_law_names : FnScope ["_law_cell", "_law_letters", "_law_mixed_here", "_law_size", "_law_place", "_law_names_here", "_law_k", "_law_name", "_law_j", "_law_at"] ["_law_cell"] (defScope s_law_names) := ⟨rfl, rfl, rfl, by decide +kernel, rfl, by decide +kernel, by decide +kernel⟩
def l_law_names_2 : FS := sSeq (sSet 9 (lift (f2 gAdd (f2 gAdd (f2 gDiv (fVar 2) (fC (.int 36))) (f2 gMul (fVar 8) (fVar 8))) (f2 gMul (fN gInt1 (aCons (f2 gEq (fVar 8) (fVar 4)) (aNil))) (fVar 6))))) (sSet 7 (lift (f2 gAdd (fVar 7) (f2 gIx (fVar 1) (f2 gMod (fVar 9) (fC (.int 26)))))))
def l_law_names_1 : FS := sSeq (sSet 7 (lift (fC (.str "")))) (sSeq (sFor (iR1 (aCons (fVar 3) (aNil))) (gSet 8) (l_law_names_2)) (sApp 5 (pHere) (fVar 7)))
def b_law_names : FS := sSeq (sSet 1 (lift (fC (.str "abcdefghijklmnopqrstuvwxyz")))) (sSeq (sSet 2 (lift (fCallV g_law_mixed (aCons (fVar 0) (aCons (fC (.int 3)) (aNil)))))) (sSeq (sSet 3 (lift (f2 gAdd (fC (.int 1)) (f2 gMod (fVar 2) (fC (.int 6)))))) (sSeq (sSet 4 (lift (f2 gMod (f2 gDiv (fVar 2) (fC (.int 6))) (fVar 3)))) (sSeq (sSet 5 (mE (mNew (aNil)))) (sSeq (sFor (iR1 (aCons (fC (.int 8)) (aNil))) (gSet 6) (l_law_names_1)) (sSeq (sIf (liftB (fT (f2 gEq (f2 gMod (f2 gDiv (fVar 2) (fC (.int 1000))) (fC (.int 5))) (fC (.int 1))))) (sSet 5 (mE (mNew (aCons (fC (.str "tell")) (aCons (fC (.str "end")) (aCons (fC (.str "if")) (aCons (fC (.str "in")) (aCons (fC (.str "box")) (aCons (fC (.str "while")) (aCons (fC (.str "else")) (aCons (fC (.str "plus")) (aNil)))))))))))) (sNil)) (sRet (fFz (fMv 5)))))))))
def g_law_names : List T → Option Re := runF 1 10 [] b_law_names
theorem ok_law_names {P : Program} {w : World} {W : Wd} {mg : Str → Option Value} {base : Heap} {f : Addr} {fd : FuncData} (F : Fun W.K "_law_names" "_law_names" s_law_names f fd) (B : Bi mg) (O : Ob W) (C_law_mixed : Cl P w W mg base CX0 1 "_law_mixed" [] g_law_mixed) : FnOk P w W.K mg base CX0 2 f fd ["_law_cell"] (spF W [] g_law_names) :=
  fnZ F sc_law_names (by decide) (by decide) fun _ _ _ _ _ _ hr =>
  sms_cons (sm_s 1 (evo (ev_str))) (sms_cons (sm_s 2 (evo (ev_call (fun _ => C_law_mixed) (Nat.le_of_ble_eq_true rfl) (by intro _; rfl) (E := E0) (fun _ => pass0') (av_cons (ev_v 0) (av_cons (ev_int) (av_nil)))))) (sms_cons (sm_s 3 (evo (ev_add (ev_int) (ev_mod (ev_v 2) (ev_int))))) (sms_cons (sm_s 4 (evo (ev_mod (ev_div (ev_v 2) (ev_int)) (ev_v 3)))) (sms_cons (sm_s 5 (emo (em_new (av_nil)))) (sms_cons (sm_for (fun _ => PassesOwn.never) (iw_range1 (by intro _; rfl) (fun _ => B.range_) (av_cons (ev_int) (av_nil))) (gt_n 6) (sms_cons (sm_s 7 (evo (ev_str))) (sms_cons (sm_for (fun _ => PassesOwn.never) (iw_range1 (by intro _; rfl) (fun _ => B.range_) (av_cons (ev_v 3) (av_nil))) (gt_n 8) (sms_cons (sm_s 9 (evo (ev_add (ev_add (ev_div (ev_v 2) (ev_int)) (ev_mul (ev_v 8) (ev_v 8))) (ev_mul (ev_callTy (fun _ => call_int1) sn_int1 (by intro _; rfl) (fun _ => B.int_) (by decide +kernel) (av_cons (ev_c c_eq (ev_v 8) (ev_v 4)) (av_nil))) (ev_v 6))))) (sms_one (sm_s 7 (evo (ev_add (ev_v 7) (ev_ix (ev_v 1) (ev_mod (ev_v 9) (ev_int))))))))) (sms_one (sm_app (lo_v 5) (ev_v 7)))))) (sms_cons (sm_if (tvo (tv_c c_eq (ev_mod (ev_div (ev_v 2) (ev_int)) (ev_int)) (ev_int))) (sms_one (sm_s 5 (emo (em_new (av_cons (ev_str) (av_cons (ev_str) (av_cons (ev_str) (av_cons (ev_str) (av_cons (ev_str) (av_cons (ev_str) (av_cons (ev_str) (av_cons (ev_str) (av_nil))))))))))))) (sms_nil)) (sms_one (sm_ret (eo_fz (eo_m 5))))))))))
abbrev s_law_operand : Stmt := top 15
theorem sc_law_operand : FnScope ["_law_mixed_here", "_law_names_here", "_law_width"] ["_law_mixed_here", "_law_names_here", "_law_width"] (defScope s_law_operand) := ⟨rfl, rfl, rfl, by decide +kernel, rfl, by decide +kernel, by decide +kernel⟩
def b_law_operand : FS := sSeq (sIf (liftB (tAndF (fT (f2 gGt (f2 gMod (fVar 0) (fC (.int 3))) (fC (.int 0)))) (fT (f2 gGt (fN gLen (aCons (fVar 1) (aNil))) (fC (.int 0)))))) (sRet (lift (f2 gIx (fVar 1) (f2 gMod (f2 gDiv (fVar 0) (fC (.int 3))) (fN gLen (aCons (fVar 1) (aNil))))))) (sNil)) (sRet (lift (f2 gMod (f2 gDiv (fVar 0) (fC (.int 3))) (f2 gShl (fC (.int 1)) (fVar 2)))))
def g_law_operand : List T → Option Re := runF 3 3 [] b_law_operand
theorem ok_law_operand {P : Program} {w : World} {W : Wd} {mg : Str → Option Value} {base : Heap} {f : Addr} {fd : FuncData} (F : Fun W.K "_law_operand" "_law_operand" s_law_operand f fd) (B : Bi mg) (O : Ob W) : FnOk P w W.K mg base CX0 1 f fd ["_law_mixed_here", "_law_names_here", "_law_width"] (spF W [] g_law_operand) :=
  fnZ F sc_law_operand (by decide) (by decide) fun _ _ _ _ _ _ hr =>
  sms_cons (sm_if (tvo (wvt (wv_and (tv_c c_gt (ev_mod (ev_v 0) (ev_int)) (ev_int)) (wv_and1 (tv_c c_gt (ev_callB (fun j => callLen j) sn_len (by intro _; rfl) (fun _ => B.len_) (by decide +kernel) (av_cons (ev_v 1) (av_nil))) (ev_int)))))) (sms_one (sm_ret (evo (ev_ix (ev_v 1) (ev_mod (ev_div (ev_v 0) (ev_int)) (ev_callB (fun j => callLen j) sn_len (by intro _; rfl) (fun _ => B.len_) (by decide +kernel) (av_cons (ev_v 1) (av_nil)))))))) (sms_nil)) (sms_one (sm_ret (evo (ev_mod (ev_div (ev_v 0) (ev_int)) (ev_shl (ev_int) (ev_v 2))))))
abbrev s_law_deed : Stmt := top 16
theorem sc_law_deed : FnScope ["_law_mixed_here", "_law_names_here", "_law_width", "_law_one", "_law_name", "_law_op"] ["_law_mixed_here", "_law_names_here", "_law_width"] (defScope s_law_deed) := ⟨rfl, rfl, rfl, by decide +kernel, rfl, by decide +kernel, by decide +kernel⟩
def b_law_deed : FS := sSeq (sSet 3 (lift (fCallV g_law_operand (aCons (f2 gDiv (fVar 0) (fC (.int 16))) (aCons (fVar 1) (aCons (fVar 2) (aNil))))))) (sSeq (sIf (liftB (tOrF (fT (f2 gEq (f2 gMod (fVar 0) (fC (.int 9))) (fC (.int 0)))) (fT (f2 gEq (fN gLen (aCons (fVar 1) (aNil))) (fC (.int 0)))))) (sRet (lift (fN gTup (aCons (fC (.str "tell")) (aCons (fVar 3) (aNil)))))) (sNil)) (sSeq (sSet 4 (lift (f2 gIx (fVar 1) (f2 gMod (f2 gDiv (fVar 0) (fC (.int 7))) (fN gLen (aCons (fVar 1) (aNil))))))) (sSeq (sIf (liftB (fT (f2 gEq (f2 gMod (fVar 0) (fC (.int 9))) (fC (.int 1))))) (sRet (lift (fN gTup (aCons (fC (.str "copy")) (aCons (fVar 4) (aCons (fVar 3) (aNil))))))) (sNil)) (sSeq (sSet 5 (lift (f2 gIx (fN gLst (aCons (fC (.str "plus")) (aCons (fC (.str "less")) (aCons (fC (.str "and")) (aCons (fC (.str "or")) (aCons (fC (.str "xor")) (aCons (fC (.str "below")) (aCons (fC (.str "same")) (aNil))))))))) (f2 gSub (f2 gMod (fVar 0) (fC (.int 9))) (fC (.int 2)))))) (sRet (lift (fN gTup (aCons (fVar 5) (aCons (fVar 4) (aCons (fVar 3) (aCons (fCallV g_law_operand (aCons (f2 gDiv (fVar 0) (fC (.int 1009))) (aCons (fVar 1) (aCons (fVar 2) (aNil))))) (aNil))))))))))))
def g_law_deed : List T → Option Re := runF 3 6 [] b_law_deed
theorem ok_law_deed {P : Program} {w : World} {W : Wd} {mg : Str → Option Value} {base : Heap} {f : Addr} {fd : FuncData} (F : Fun W.K "_law_deed" "_law_deed" s_law_deed f fd) (B : Bi mg) (O : Ob W) (C_law_operand : Cl P w W mg base CX0 1 "_law_operand" [] g_law_operand) : FnOk P w W.K mg base CX0 2 f fd ["_law_mixed_here", "_law_names_here", "_law_width"] (spF W [] g_law_deed) :=
  fnZ F sc_law_deed (by decide) (by decide) fun _ _ _ _ _ _ hr =>
  sms_cons (sm_s 3 (evo (ev_call (fun _ => C_law_operand) (Nat.le_of_ble_eq_true rfl) (by intro _; rfl) (E := E0) (fun _ => pass0') (av_cons (ev_div (ev_v 0) (ev_int)) (av_cons (ev_v 1) (av_cons (ev_v 2) (av_nil))))))) (sms_cons (sm_if (tvo (wvt (wv_or (tv_c c_eq (ev_mod (ev_v 0) (ev_int)) (ev_int)) (wv_or1 (tv_c c_eq (ev_callB (fun j => callLen j) sn_len (by intro _; rfl) (fun _ => B.len_) (by decide +kernel) (av_cons (ev_v 1) (av_nil))) (ev_int)))))) (sms_one (sm_ret (evo (ev_tup (av_cons (ev_str) (av_cons (ev_v 3) (av_nil))))))) (sms_nil)) (sms_cons (sm_s 4 (evo (ev_ix (ev_v 1) (ev_mod (ev_div (ev_v 0) (ev_int)) (ev_callB (fun j => callLen j) sn_len (by intro _; rfl) (fun _ => B.len_) (by decide +kernel) (av_cons (ev_v 1) (av_nil))))))) (sms_cons (sm_if (tvo (tv_c c_eq (ev_mod (ev_v 0) (ev_int)) (ev_int))) (sms_one (sm_ret (evo (ev_tup (av_cons (ev_str) (av_cons (ev_v 4) (av_cons (ev_v 3) (av_nil)))))))) (sms_nil)) (sms_cons (sm_s 5 (evo (ev_ix (ev_lst (av_cons (ev_str) (av_cons (ev_str) (av_cons (ev_str) (av_cons (ev_str) (av_cons (ev_str) (av_cons (ev_str) (av_cons (ev_str) (av_nil))))))))) (ev_sub (ev_mod (ev_v 0) (ev_int)) (ev_int))))) (sms_one (sm_ret (evo (ev_tup (av_cons (ev_v 5) (av_cons (ev_v 4) (av_cons (ev_v 3) (av_cons (ev_call (fun _ => C_law_operand) (Nat.le_of_ble_eq_true rfl) (by intro _; rfl) (E := E0) (fun _ => pass0') (av_cons (ev_div (ev_v 0) (ev_int)) (av_cons (ev_v 1) (av_cons (ev_v 2) (av_nil))))) (av_nil)))))))))))))
abbrev s_law_into : Stmt := top 17
theorem sc_law_into : FnScope ["_law_stack", "_law_row"] ["_law_stack", "_law_row"] (defScope s_law_into) := ⟨rfl, rfl, rfl, by decide +kernel, rfl, by decide +kernel, by decide +kernel⟩
def b_law_into : FS := sApp 0 (pIx (fC (.int 1)) 0 (pIx (f1 gNeg (fC (.int 1))) 0 (pHere))) (fVar 1)
def g_law_into : List T → Option Re := runF 2 2 [0] b_law_into
theorem ok_law_into {P : Program} {w : World} {W : Wd} {mg : Str → Option Value} {base : Heap} {f : Addr} {fd : FuncData} (F : Fun W.K "_law_into" "_law_into" s_law_into f fd) (B : Bi mg) (O : Ob W) : FnOk P w W.K mg base CX0 1 f fd ["_law_stack", "_law_row"] (spF W [0] g_law_into) :=
  fnZ F sc_law_into (by decide) (by decide) fun _ _ _ _ _ _ hr =>
  sms_one (sm_app (lo_ix (lo_ix (lo_v 0) (ev_neg (ev_int))) (ev_int)) (ev_v 1))
abbrev s_law_closed : Stmt := top 18
theorem sc_law_closed : FnScope ["_law_stack", "_law_kind", "_law_rows", "_law_name", "_law_ones"] ["_law_stack"] (defScope s_law_closed) := ⟨rfl, rfl, rfl, by decide +kernel, rfl, by decide +kernel, by decide +kernel⟩
def b_law_closed : FS := sSeq (sAsg (gTupM 4 (gsCons (gSet 1) (gsCons (gSet 2) (gsCons (gSet 3) (gsCons (gSet 4) (gsNil)))))) (fPop 0 (pHere))) (sFz 4 (sFz 3 (sFz 2 (sFz 1 (sIf (liftB (fT (f2 gEq (fVar 1) (fC (.str "while"))))) (sExpr (fCall [0] g_law_into (bSlot 0 (bCons (lift (fN gTup (aCons (fC (.str "while")) (aCons (fVar 3) (aCons (fVar 2) (aNil)))))) (bNil))))) (sIf (liftB (fT (f2 gEq (fVar 1) (fC (.str "if"))))) (sExpr (fCall [0] g_law_into (bSlot 0 (bCons (lift (fN gTup (aCons (fC (.str "if")) (aCons (fVar 3) (aCons (fVar 2) (aCons (fN gLst (aNil)) (aNil))))))) (bNil))))) (sExpr (fCall [0] g_law_into (bSlot 0 (bCons (lift (fN gTup (aCons (fC (.str "if")) (aCons (fVar 3) (aCons (fVar 4) (aCons (fVar 2) (aNil))))))) (bNil)))))))))))
def g_law_closed : List T → Option Re := runF 1 5 [0] b_law_closed
theorem ok_law_closed {P : Program} {w : World} {W : Wd} {mg : Str → Option Value} {base : Heap} {f : Addr} {fd : FuncData} (F : Fun W.K "_law_closed" "_law_closed" s_law_closed f fd) (B : Bi mg) (O : Ob W) (C_law_into : Cl P w W mg base CX0 1 "_law_into" [0] g_law_into) : FnOk P w W.K mg base CX0 2 f fd ["_law_stack"] (spF W [0] g_law_closed) :=
  fnZ F sc_law_closed (by decide) (by decide) fun _ _ _ _ _ _ hr =>
  sms_cons (sm_asg (eo_pop (lo_v 0)) (gt_tupM (gts_cons (gt_n 1) (gts_cons (gt_n 2) (gts_cons (gt_n 3) (gts_cons (gt_n 4) (gts_nil))))))) (sms_fz 4 (sms_fz 3 (sms_fz 2 (sms_fz 1 (sms_one (sm_if (tvo (tv_c c_eq (ev_v 1) (ev_str))) (sms_one (sm_expr (eo_call (fun _ => C_law_into) (Nat.le_of_ble_eq_true rfl) (by intro _; rfl) (fun _ => rfl) (fun _ => pass0') (ao_s 0 (ao_cons (evo (ev_tup (av_cons (ev_str) (av_cons (ev_v 3) (av_cons (ev_v 2) (av_nil)))))) (ao_nil)))))) (sms_one (sm_if (tvo (tv_c c_eq (ev_v 1) (ev_str))) (sms_one (sm_expr (eo_call (fun _ => C_law_into) (Nat.le_of_ble_eq_true rfl) (by intro _; rfl) (fun _ => rfl) (fun _ => pass0') (ao_s 0 (ao_cons (evo (ev_tup (av_cons (ev_str) (av_cons (ev_v 3) (av_cons (ev_v 2) (av_cons (ev_lst (av_nil)) (av_nil))))))) (ao_nil)))))) (sms_one (sm_expr (eo_call (fun _ => C_law_into) (Nat.le_of_ble_eq_true rfl) (by intro _; rfl) (fun _ => rfl) (fun _ => pass0') (ao_s 0 (ao_cons (evo (ev_tup (av_cons (ev_str) (av_cons (ev_v 3) (av_cons (ev_v 4) (av_cons (ev_v 2) (av_nil))))))) (ao_nil))))))))))))))
abbrev s_law_program : Stmt := top 19
theorem sc_law_program : FnScope ["_law_cells", "_law_names_here", "_law_width", "_law_most", "_law_stack", "_law_many", "_law_k", "_law_cell", "_law_mixed_here", "_law_way", "_law_kind", "_law_rows", "_law_name", "_law_ones"] ["_law_cells", "_law_names_here", "_law_width", "_law_most"] (defScope s_law_program) := ⟨rfl, rfl, rfl, by decide +kernel, rfl, by decide +kernel, by decide +kernel⟩
def l_law_program_1t : List T → Option Rb := liftB (fT (f2 gGt (fN gLen (aCons (fVar 4) (aNil))) (fC (.int 1))))
def l_law_program_1 : FS := sExpr (fCall [0] g_law_closed (bSlot 4 (bNil)))
def l_law_program_2 : FS := sSeq (sSet 8 (lift (fCallV g_law_mixed (aCons (fVar 7) (aCons (fVar 6) (aNil)))))) (sSeq (sSet 9 (lift (f2 gMod (fVar 8) (fC (.int 12))))) (sIf (liftB (tAndF (fT (f2 gLt (fVar 9) (fC (.int 2)))) (fT (f2 gGt (fN gLen (aCons (fVar 4) (aNil))) (fC (.int 1)))))) (sIf (liftB (tAndF (fT (f2 gEq (fVar 9) (fC (.int 0)))) (fT (f2 gEq (f2 gIx (f2 gIx (fVar 4) (f1 gNeg (fC (.int 1)))) (fC (.int 0))) (fC (.str "if")))))) (sSeq (sAsg (gTupM 4 (gsCons (gSet 10) (gsCons (gSet 11) (gsCons (gSet 12) (gsCons (gSet 13) (gsNil)))))) (fPop 4 (pHere))) (sFz 13 (sFz 12 (sFz 11 (sFz 10 (sAppM 4 (pHere) (mTup (msCons (mP (fC (.str "else"))) (msCons (mNew (aNil)) (msCons (mP (fVar 12)) (msCons (mP (fVar 11)) (msNil)))))))))))) (sExpr (fCall [0] g_law_closed (bSlot 4 (bNil))))) (sIf (liftB (fT (f2 gLt (fVar 5) (fVar 3)))) (sSeq (sSet 5 (lift (f2 gAdd (fVar 5) (fC (.int 1))))) (sIf (liftB (tAndF (fT (f2 gLt (fVar 9) (fC (.int 5)))) (tAndF (fT (f2 gLt (fN gLen (aCons (fVar 4) (aNil))) (fC (.int 9)))) (fT (f2 gGt (fN gLen (aCons (fVar 1) (aNil))) (fC (.int 0))))))) (sAppM 4 (pHere) (mTup (msCons (mP (f2 gIx (fN gLst (aCons (fC (.str "if")) (aCons (fC (.str "while")) (aCons (fC (.str "if")) (aNil))))) (f2 gSub (fVar 9) (fC (.int 2))))) (msCons (mNew (aNil)) (msCons (mP (f2 gIx (fVar 1) (f2 gMod (f2 gDiv (fVar 8) (fC (.int 12))) (fN gLen (aCons (fVar 1) (aNil)))))) (msCons (mNew (aNil)) (msNil))))))) (sExpr (fCall [0] g_law_into (bSlot 4 (bCons (lift (fCallV g_law_deed (aCons (f2 gDiv (fVar 8) (fC (.int 12))) (aCons (fVar 1) (aCons (fVar 2) (aNil)))))) (bNil))))))) (sNil))))
def b_law_program : FS := sSeq (sSet 4 (mE (mLst (msCons (mTup (msCons (mP (fC (.str "all"))) (msCons (mNew (aNil)) (msCons (mP (fC (.str ""))) (msCons (mNew (aNil)) (msNil)))))) (msNil))))) (sSeq (sSet 5 (lift (fC (.int 0)))) (sSeq (sFor (iL1 (enumD 0) (aCons (fVar 0) (aNil))) (gTupT 2 (gsCons (gSet 6) (gsCons (gSet 7) (gsNil)))) (l_law_program_2)) (sSeq (sWhile (fun _ => 1000000) (l_law_program_1t) (l_law_program_1)) (sFz 4 (sRet (lift (f2 gIx (f2 gIx (fVar 4) (fC (.int 0))) (fC (.int 1)))))))))
def g_law_program : List T → Option Re := runF 4 14 [] b_law_program
theorem ok_law_program {P : Program} {w : World} {W : Wd} {mg : Str → Option Value} {base : Heap} {f : Addr} {fd : FuncData} (F : Fun W.K "_law_program" "_law_program" s_law_program f fd) (B : Bi mg) (O : Ob W) (C_law_closed : Cl P w W mg base CX0 2 "_law_closed" [0] g_law_closed) (C_law_deed : Cl P w W mg base CX0 2 "_law_deed" [] g_law_deed) (C_law_into : Cl P w W mg base CX0 1 "_law_into" [0] g_law_into) (C_law_mixed : Cl P w W mg base CX0 1 "_law_mixed" [] g_law_mixed) : FnOk P w W.K mg base CX0 3 f fd ["_law_cells", "_law_names_here", "_law_width", "_law_most"] (spF W [] g_law_program) :=
  fnZ F sc_law_program (by decide) (by decide) fun _ _ _ _ _ _ hr =>
  sms_cons (sm_s 4 (emo (em_lst (ams_cons (em_tup (ams_cons (em_p (ev_str)) (ams_cons (em_new (av_nil)) (ams_cons (em_p (ev_str)) (ams_cons (em_new (av_nil)) (ams_nil)))))) (ams_nil))))) (sms_cons (sm_s 5 (evo (ev_int))) (sms_cons (sm_for (fun _ => PassesOwn.never) (iw_enum (by intro _; rfl) (fun _ => B.enumerate_) (av_cons (ev_v 0) (av_nil))) (gt_tup (gts_cons (gt_n 6) (gts_cons (gt_n 7) (gts_nil)))) (sms_cons (sm_s 8 (evo (ev_call (fun _ => C_law_mixed) (Nat.le_of_ble_eq_true rfl) (by intro _; rfl) (E := E0) (fun _ => pass0') (av_cons (ev_v 7) (av_cons (ev_v 6) (av_nil)))))) (sms_cons (sm_s 9 (evo (ev_mod (ev_v 8) (ev_int)))) (sms_one (sm_if (tvo (wvt (wv_and (tv_c c_lt (ev_v 9) (ev_int)) (wv_and1 (tv_c c_gt (ev_callB (fun j => callLen j) sn_len (by intro _; rfl) (fun _ => B.len_) (by decide +kernel) (av_cons (ev_v 4) (av_nil))) (ev_int)))))) (sms_one (sm_if (tvo (wvt (wv_and (tv_c c_eq (ev_v 9) (ev_int)) (wv_and1 (tv_c c_eq (ev_ix (ev_ix (ev_v 4) (ev_neg (ev_int))) (ev_int)) (ev_str)))))) (sms_cons (sm_asg (eo_pop (lo_v 4)) (gt_tupM (gts_cons (gt_n 10) (gts_cons (gt_n 11) (gts_cons (gt_n 12) (gts_cons (gt_n 13) (gts_nil))))))) (sms_fz 13 (sms_fz 12 (sms_fz 11 (sms_fz 10 (sms_one (sm_appM (lo_v 4) (em_tup (ams_cons (em_p (ev_str)) (ams_cons (em_new (av_nil)) (ams_cons (em_p (ev_v 12)) (ams_cons (em_p (ev_v 11)) (ams_nil))))))))))))) (sms_one (sm_expr (eo_call (fun _ => C_law_closed) (Nat.le_of_ble_eq_true rfl) (by intro _; rfl) (fun _ => rfl) (fun _ => pass0') (ao_s 4 (ao_nil))))))) (sms_one (sm_if (tvo (tv_c c_lt (ev_v 5) (ev_v 3))) (sms_cons (sm_s 5 (evo (ev_add (ev_v 5) (ev_int)))) (sms_one (sm_if (tvo (wvt (wv_and (tv_c c_lt (ev_v 9) (ev_int)) (wv_and (tv_c c_lt (ev_callB (fun j => callLen j) sn_len (by intro _; rfl) (fun _ => B.len_) (by decide +kernel) (av_cons (ev_v 4) (av_nil))) (ev_int)) (wv_and1 (tv_c c_gt (ev_callB (fun j => callLen j) sn_len (by intro _; rfl) (fun _ => B.len_) (by decide +kernel) (av_cons (ev_v 1) (av_nil))) (ev_int))))))) (sms_one (sm_appM (lo_v 4) (em_tup (ams_cons (em_p (ev_ix (ev_lst (av_cons (ev_str) (av_cons (ev_str) (av_cons (ev_str) (av_nil))))) (ev_sub (ev_v 9) (ev_int)))) (ams_cons (em_new (av_nil)) (ams_cons (em_p (ev_ix (ev_v 1) (ev_mod (ev_div (ev_v 8) (ev_int)) (ev_callB (fun j => callLen j) sn_len (by intro _; rfl) (fun _ => B.len_) (by decide +kernel) (av_cons (ev_v 1) (av_nil)))))) (ams_cons (em_new (av_nil)) (ams_nil)))))))) (sms_one (sm_expr (eo_call (fun _ => C_law_into) (Nat.le_of_ble_eq_true rfl) (by intro _; rfl) (fun _ => rfl) (fun _ => pass0') (ao_s 4 (ao_cons (evo (ev_call (fun _ => C_law_deed) (Nat.le_of_ble_eq_true rfl) (by intro _; rfl) (E := E0) (fun _ => pass0') (av_cons (ev_div (ev_v 8) (ev_int)) (av_cons (ev_v 1) (av_cons (ev_v 2) (av_nil)))))) (ao_nil))))))))) (sms_nil)))))))) (sms_cons (sm_while (fun _ => 1000000) (fun _ => PassesOwn.never) (tvo (tv_c c_gt (ev_callB (fun j => callLen j) sn_len (by intro _; rfl) (fun _ => B.len_) (by decide +kernel) (av_cons (ev_v 4) (av_nil))) (ev_int))) (sms_one (sm_expr (eo_call (fun _ => C_law_closed) (Nat.le_of_ble_eq_true rfl) (by intro _; rfl) (fun _ => rfl) (fun _ => pass0') (ao_s 4 (ao_nil)))))) (sms_fz 4 (sms_one (sm_ret (evo (ev_ix (ev_ix (ev_v 4) (ev_int)) (ev_int)))))))))
abbrev s_law_reads : Stmt := top 20
theorem sc_law_reads : FnScope ["_law_deed_here", "_law_operands", "_law_one"] ["_law_deed_here"] (defScope s_law_reads) := ⟨rfl, rfl, rfl, by decide +kernel, rfl, by decide +kernel, by decide +kernel⟩
def m_law_reads_1 : List T → Option T := fVar 2
def n_law_reads_1 : List T → Option Bool := fT (fIsi "str" (fVar 2))
def b_law_reads : FS := sSeq (sSet 1 (lift (fSl (fVar 0) (some (fC (.int 2))) none))) (sSeq (sIf (liftB (fT (f2 gEq (f2 gIx (fVar 0) (fC (.int 0))) (fC (.str "tell"))))) (sSet 1 (lift (fSl (fVar 0) (some (fC (.int 1))) none))) (sNil)) (sRet (lift (fLc [2] (jVal (fVar 1)) (gSet 2) (n_law_reads_1) (m_law_reads_1)))))
def g_law_reads : List T → Option Re := runF 1 3 [] b_law_reads
theorem ok_law_reads {P : Program} {w : World} {W : Wd} {mg : Str → Option Value} {base : Heap} {f : Addr} {fd : FuncData} (F : Fun W.K "_law_reads" "_law_reads" s_law_reads f fd) (B : Bi mg) (O : Ob W) : FnOk P w W.K mg base CX0 1 f fd ["_law_deed_here"] (spF W [] g_law_reads) :=
  fnZ F sc_law_reads (by decide) (by decide) fun _ _ _ _ _ _ hr =>
  sms_cons (sm_s 1 (evo (ev_sl10 (ev_v 0) (ev_int)))) (sms_cons (sm_if (tvo (tv_c c_eq (ev_ix (ev_v 0) (ev_int)) (ev_str))) (sms_one (sm_s 1 (evo (ev_sl10 (ev_v 0) (ev_int))))) (sms_nil)) (sms_one (sm_ret (evo (ev_lc [("_law_one", 2)] (ip_val (ev_v 1)) (gc_n 2) (tvs_one (tv_val (ev_isi (by intro _; rfl) (fun _ => B.isinstance_) (ev_v 2) (by intro _; rfl) (fun _ => B.str_) (by decide +kernel)) (by intro _ _; rfl))) (ev_v 2))))))
abbrev s_law_nodes : Stmt := top 21
theorem sc_law_nodes : FnScope ["_law_rows", "_law_nodes_here", "_law_behind", "_law_row", "_law_at", "_law_body", "_law_ones", "_law_others", "_law_name"] ["_law_rows", "_law_nodes_here", "_law_behind"] (defScope s_law_nodes) := ⟨rfl, rfl, rfl, by decide +kernel, rfl, by decide +kernel, by decide +kernel⟩
def l_law_nodes_1 (r_law_nodes : List T → Option Re) : FS := sIf (liftB (fT (f2 gEq (f2 gIx (fVar 3) (fC (.int 0))) (fC (.str "while"))))) (sSeq (sSet 4 (lift (fN gLen (aCons (fVar 1) (aNil))))) (sSeq (sApp 1 (pHere) (fC .non)) (sSeq (sSet 5 (fFz (fCall [1] r_law_nodes (bCons (lift (f2 gIx (fVar 3) (fC (.int 2)))) (bSlot 1 (bCons (lift (fVar 4)) (bNil))))))) (sSeq (sSetIx 1 (pHere) (fVar 4) (fN gTup (aCons (fN gLst (aCons (f2 gIx (fVar 3) (fC (.int 1))) (aNil))) (aCons (fC .non) (aCons (fN gLst (aCons (fVar 5) (aCons (fVar 2) (aNil)))) (aNil)))))) (sSet 2 (lift (fVar 4))))))) (sIf (liftB (fT (f2 gEq (f2 gIx (fVar 3) (fC (.int 0))) (fC (.str "if"))))) (sSeq (sSet 6 (fFz (fCall [1] r_law_nodes (bCons (lift (f2 gIx (fVar 3) (fC (.int 2)))) (bSlot 1 (bCons (lift (fVar 2)) (bNil))))))) (sSeq (sSet 7 (fFz (fCall [1] r_law_nodes (bCons (lift (f2 gIx (fVar 3) (fC (.int 3)))) (bSlot 1 (bCons (lift (fVar 2)) (bNil))))))) (sSeq (sApp 1 (pHere) (fN gTup (aCons (fN gLst (aCons (f2 gIx (fVar 3) (fC (.int 1))) (aNil))) (aCons (fC .non) (aCons (fN gLst (aCons (fVar 6) (aCons (fVar 7) (aNil)))) (aNil)))))) (sSet 2 (lift (f2 gSub (fN gLen (aCons (fVar 1) (aNil))) (fC (.int 1)))))))) (sSeq (sSet 8 (lift (fC .non))) (sSeq (sIf (liftB (fT (f2 gNe (f2 gIx (fVar 3) (fC (.int 0))) (fC (.str "tell"))))) (sSet 8 (lift (f2 gIx (fVar 3) (fC (.int 1))))) (sNil)) (sSeq (sApp 1 (pHere) (fN gTup (aCons (fCallV g_law_reads (aCons (fVar 3) (aNil))) (aCons (fVar 8) (aCons (fN gLst (aCons (fVar 2) (aNil))) (aNil)))))) (sSet 2 (lift (f2 gSub (fN gLen (aCons (fVar 1) (aNil))) (fC (.int 1)))))))))
def b_law_nodes (r_law_nodes : List T → Option Re) : FS := sSeq (sFor (iVal (lift (f1 gRevL (fVar 0)))) (gSet 3) (l_law_nodes_1 r_law_nodes)) (sRet (lift (fVar 2)))
def g_law_nodes : Nat → List T → Option Re
  | 0 => fun _ => none
  | n + 1 => runF 3 9 [1] (b_law_nodes (g_law_nodes n))
theorem ok_law_nodes {P : Program} {w : World} {W : Wd} {mg : Str → Option Value} {base : Heap} {f_law_nodes : Addr} {d_law_nodes : FuncData} (F_law_nodes : Fun W.K "_law_nodes" "_law_nodes" s_law_nodes f_law_nodes d_law_nodes) (b_law_nodes_ : Binds W.K d_law_nodes ["_law_rows", "_law_nodes_here", "_law_behind"] []) (m_law_nodes : mg "_law_nodes" = some (.ref f_law_nodes)) (k_law_nodes : PySem.W.keepIn W.K (.ref f_law_nodes) = true) (B : Bi mg) (O : Ob W) (C_law_reads : Cl P w W mg base CX0 1 "_law_reads" [] g_law_reads) : ∀ n, FnOk P w W.K mg base CX0 (2 + n) f_law_nodes d_law_nodes ["_law_rows", "_law_nodes_here", "_law_behind"] (spF W [1] (g_law_nodes n)) := by
  intro n
  induction n with
  | zero => exact fn_none
  | succ n ih =>
    have C_law_nodes : Cl P w W mg base CX0 (2 + n) "_law_nodes" [1] (g_law_nodes n) := .mk' ih m_law_nodes k_law_nodes b_law_nodes_
    exact fnZ F_law_nodes sc_law_nodes (by decide) (by decide) fun _ _ _ _ _ _ hr =>
    sms_cons (sm_for (fun _ => PassesOwn.never) (iw_val (evo (ev_revL (ev_v 0)))) (gt_n 3) (sms_one (sm_if (tvo (tv_c c_eq (ev_ix (ev_v 3) (ev_int)) (ev_str))) (sms_cons (sm_s 4 (evo (ev_callB (fun j => callLen j) sn_len (by intro _; rfl) (fun _ => B.len_) (by decide +kernel) (av_cons (ev_v 1) (av_nil))))) (sms_cons (sm_app (lo_v 1) (ev_non)) (sms_cons (sm_s 5 (eo_fz (eo_call (fun _ => C_law_nodes) (Nat.le_refl _) (by intro _; rfl) (fun _ => rfl) (fun _ => pass0') (ao_cons (evo (ev_ix (ev_v 3) (ev_int))) (ao_s 1 (ao_cons (evo (ev_v 4)) (ao_nil))))))) (sms_cons (sm_setIx (lo_v 1) (ev_v 4) (ev_tup (av_cons (ev_lst (av_cons (ev_ix (ev_v 3) (ev_int)) (av_nil))) (av_cons (ev_non) (av_cons (ev_lst (av_cons (ev_v 5) (av_cons (ev_v 2) (av_nil)))) (av_nil)))))) (sms_one (sm_s 2 (evo (ev_v 4)))))))) (sms_one (sm_if (tvo (tv_c c_eq (ev_ix (ev_v 3) (ev_int)) (ev_str))) (sms_cons (sm_s 6 (eo_fz (eo_call (fun _ => C_law_nodes) (Nat.le_refl _) (by intro _; rfl) (fun _ => rfl) (fun _ => pass0') (ao_cons (evo (ev_ix (ev_v 3) (ev_int))) (ao_s 1 (ao_cons (evo (ev_v 2)) (ao_nil))))))) (sms_cons (sm_s 7 (eo_fz (eo_call (fun _ => C_law_nodes) (Nat.le_refl _) (by intro _; rfl) (fun _ => rfl) (fun _ => pass0') (ao_cons (evo (ev_ix (ev_v 3) (ev_int))) (ao_s 1 (ao_cons (evo (ev_v 2)) (ao_nil))))))) (sms_cons (sm_app (lo_v 1) (ev_tup (av_cons (ev_lst (av_cons (ev_ix (ev_v 3) (ev_int)) (av_nil))) (av_cons (ev_non) (av_cons (ev_lst (av_cons (ev_v 6) (av_cons (ev_v 7) (av_nil)))) (av_nil)))))) (sms_one (sm_s 2 (evo (ev_sub (ev_callB (fun j => callLen j) sn_len (by intro _; rfl) (fun _ => B.len_) (by decide +kernel) (av_cons (ev_v 1) (av_nil))) (ev_int)))))))) (sms_cons (sm_s 8 (evo (ev_non))) (sms_cons (sm_if (tvo (tv_c c_ne (ev_ix (ev_v 3) (ev_int)) (ev_str))) (sms_one (sm_s 8 (evo (ev_ix (ev_v 3) (ev_int))))) (sms_nil)) (sms_cons (sm_app (lo_v 1) (ev_tup (av_cons (ev_call (fun _ => C_law_reads) (Nat.le_trans (by decide : 1 ≤ 2) (Nat.le_add_right 2 n)) (by intro _; rfl) (E := E0) (fun _ => pass0') (av_cons (ev_v 3) (av_nil))) (av_cons (ev_v 8) (av_cons (ev_lst (av_cons (ev_v 2) (av_nil))) (av_nil)))))) (sms_one (sm_s 2 (evo (ev_sub (ev_callB (fun j => callLen j) sn_len (by intro _; rfl) (fun _ => B.len_) (by decide +kernel) (av_cons (ev_v 1) (av_nil))) (ev_int))))))))))))) (sms_one (sm_ret (evo (ev_v 2))))
abbrev s_law_out : Stmt := top 22
theorem sc_law_out : FnScope ["_law_node", "_law_live", "_law_found", "_law_ahead", "_law_name"] ["_law_node", "_law_live"] (defScope s_law_out) := ⟨rfl, rfl, rfl, by decide +kernel, rfl, by decide +kernel, by decide +kernel⟩
def m_law_out_1 : List T → Option T := fVar 4
def n_law_out_1 : List T → Option Bool := fT (f2 gNotIn (fVar 4) (fVar 2))
def l_law_out_1 : FS := sIf (liftB (fT (f2 gGe (fVar 3) (fC (.int 0))))) (sSet 2 (lift (f2 gAdd (fVar 2) (fLc [4] (jVal (f2 gIx (fVar 1) (fVar 3))) (gSet 4) (n_law_out_1) (m_law_out_1))))) (sNil)
def b_law_out : FS := sSeq (sSet 2 (lift (fN gLst (aNil)))) (sSeq (sFor (iVal (lift (f2 gIx (fVar 0) (fC (.int 2))))) (gSet 3) (l_law_out_1)) (sRet (lift (fVar 2))))
def g_law_out : List T → Option Re := runF 2 5 [1] b_law_out
theorem ok_law_out {P : Program} {w : World} {W : Wd} {mg : Str → Option Value} {base : Heap} {f : Addr} {fd : FuncData} (F : Fun W.K "_law_out" "_law_out" s_law_out f fd) (B : Bi mg) (O : Ob W) : FnOk P w W.K mg base CX0 1 f fd ["_law_node", "_law_live"] (spF W [1] g_law_out) :=
  fnZ F sc_law_out (by decide) (by decide) fun _ _ _ _ _ _ hr =>
  sms_cons (sm_s 2 (evo (ev_lst (av_nil)))) (sms_cons (sm_for (fun _ => PassesOwn.never) (iw_val (evo (ev_ix (ev_v 0) (ev_int)))) (gt_n 3) (sms_one (sm_if (tvo (tv_c c_ge (ev_v 3) (ev_int))) (sms_one (sm_s 2 (evo (ev_add (ev_v 2) (ev_lc [("_law_name", 4)] (ip_val (ev_ix (ev_v 1) (ev_v 3))) (gc_n 4) (tvs_one (tv_c c_notIn (ev_v 4) (ev_v 2))) (ev_v 4)))))) (sms_nil)))) (sms_one (sm_ret (evo (ev_v 2)))))
abbrev s_law_idle : Stmt := top 23
theorem sc_law_idle : FnScope ["_law_rows", "_law_nodes_here", "_law_live", "_law_turned", "_law_at", "_law_node", "_law_found", "_law_name"] ["_law_rows"] (defScope s_law_idle) := ⟨rfl, rfl, rfl, by decide +kernel, rfl, by decide +kernel, by decide +kernel⟩
def m_law_idle_1 : List T → Option T := fVar 5
def n_law_idle_1 : List T → Option Bool := tAndF (fT (fIsN true (f2 gIx (fVar 5) (fC (.int 1))))) (fT (f2 gNotIn (f2 gIx (fVar 5) (fC (.int 1))) (fCallV g_law_out (aCons (fVar 5) (aCons (fVar 2) (aNil))))))
def m_law_idle_2 : List T → Option T := fVar 7
def n_law_idle_2 : List T → Option Bool := fT (f2 gNotIn (fVar 7) (fVar 6))
def m_law_idle_3 : List T → Option T := fVar 7
def n_law_idle_3 : List T → Option Bool := fT (f2 gNe (fVar 7) (f2 gIx (fVar 5) (fC (.int 1))))
def l_law_idle_2 : FS := sSeq (sSet 6 (fFz (fLcO [7] (fCall [1] g_law_out (bCons (lift (fVar 5)) (bSlot 2 (bNil)))) (gSet 7) (n_law_idle_3) (m_law_idle_3)))) (sSeq (sSet 6 (lift (fN gSorted (aCons (f2 gAdd (fVar 6) (fLc [7] (jVal (f2 gIx (fVar 5) (fC (.int 0)))) (gSet 7) (n_law_idle_2) (m_law_idle_2))) (aNil))))) (sIf (liftB (fT (f2 gNe (fVar 6) (f2 gIx (fVar 2) (fVar 4))))) (sSeq (sSetIx 2 (pHere) (fVar 4) (fVar 6)) (sSet 3 (lift (fC (.bl true))))) (sNil)))
def l_law_idle_1t : List T → Option Rb := liftB (fT (fVar 3))
def l_law_idle_1 : FS := sSeq (sSet 3 (lift (fC (.bl false)))) (sFor (iL1 (enumD 0) (aCons (fVar 1) (aNil))) (gTupT 2 (gsCons (gSet 4) (gsCons (gSet 5) (gsNil)))) (l_law_idle_2))
def m_law_idle_4 : List T → Option T := fN gLst (aNil)
def b_law_idle : FS := sSeq (sSet 1 (mE (mNew (aNil)))) (sSeq (sExpr (fCall [1] (g_law_nodes 24) (bCons (lift (fVar 0)) (bSlot 1 (bCons (lift (f1 gNeg (fC (.int 1)))) (bNil)))))) (sFz 1 (sSeq (sSet 2 (mE (mLc [5] (jVal (fVar 1)) (gSet 5) (tYesF) (m_law_idle_4)))) (sSeq (sSet 3 (lift (fC (.bl true)))) (sSeq (sWhile (fun _ => 1000000) (l_law_idle_1t) (l_law_idle_1)) (sFz 2 (sRet (lift (fN gLen (aCons (fLc [5] (jVal (fVar 1)) (gSet 5) (n_law_idle_1) (m_law_idle_1)) (aNil)))))))))))
def g_law_idle : List T → Option Re := runF 1 8 [] b_law_idle
theorem ok_law_idle {P : Program} {w : World} {W : Wd} {mg : Str → Option Value} {base : Heap} {f : Addr} {fd : FuncData} (F : Fun W.K "_law_idle" "_law_idle" s_law_idle f fd) (B : Bi mg) (O : Ob W) (C_law_out : Cl P w W mg base CX0 1 "_law_out" [1] g_law_out) (C_law_nodes : Cl P w W mg base CX0 26 "_law_nodes" [1] (g_law_nodes 24)) : FnOk P w W.K mg base CX0 27 f fd ["_law_rows"] (spF W [] g_law_idle) :=
  fnZ F sc_law_idle (by decide) (by decide) fun _ _ _ _ _ _ hr =>
  sms_cons (sm_s 1 (emo (em_new (av_nil)))) (sms_cons (sm_expr (eo_call (fun _ => C_law_nodes) (Nat.le_of_ble_eq_true rfl) (by intro _; rfl) (fun _ => rfl) (fun _ => pass0') (ao_cons (evo (ev_v 0)) (ao_s 1 (ao_cons (evo (ev_neg (ev_int))) (ao_nil)))))) (sms_fz 1 (sms_cons ((by first | exact sm_setLcM 2 [("_law_node", 5)] (ip_val (ev_v 1)) (gc_n 5) (tvs_nil) (ev_lst (av_nil)) | exact sm_s 2 (emo (em_lc [("_law_node", 5)] (ip_val (ev_v 1)) (gc_n 5) (tvs_nil) (ev_lst (av_nil)))))) (sms_cons (sm_s 3 (evo (ev_bl))) (sms_cons (sm_while (fun _ => 1000000) (fun _ => PassesOwn.never) (tvo (tv_val (ev_v 3) (by intro _ _; rfl))) (sms_cons (sm_s 3 (evo (ev_bl))) (sms_one (sm_for (fun _ => PassesOwn.never) (iw_enum (by intro _; rfl) (fun _ => B.enumerate_) (av_cons (ev_v 1) (av_nil))) (gt_tup (gts_cons (gt_n 4) (gts_cons (gt_n 5) (gts_nil)))) (sms_cons ((by first | exact sm_setLcO 6 [("_law_name", 7)] (eo_call (fun _ => C_law_out) (Nat.le_of_ble_eq_true rfl) (by intro _; rfl) (fun _ => rfl) (fun _ => pass0') (ao_cons (evo (ev_v 5)) (ao_s 2 (ao_nil)))) (gc_n 7) (tvs_one (tv_c c_ne (ev_v 7) (ev_ix (ev_v 5) (ev_int)))) (ev_v 7) | exact sm_s 6 (eo_fz (eo_lcO [("_law_name", 7)] (eo_call (fun _ => C_law_out) (Nat.le_of_ble_eq_true rfl) (by intro _; rfl) (fun _ => rfl) (fun _ => pass0') (ao_cons (evo (ev_v 5)) (ao_s 2 (ao_nil)))) (gc_n 7) (tvs_one (tv_c c_ne (ev_v 7) (ev_ix (ev_v 5) (ev_int)))) (ev_v 7))))) (sms_cons (sm_s 6 (evo (ev_callB (fun j => callSorted j) sn_sorted (by intro _; rfl) (fun _ => B.sorted_) (by decide +kernel) (av_cons (ev_add (ev_v 6) (ev_lc [("_law_name", 7)] (ip_val (ev_ix (ev_v 5) (ev_int))) (gc_n 7) (tvs_one (tv_c c_notIn (ev_v 7) (ev_v 6))) (ev_v 7))) (av_nil))))) (sms_one (sm_if (tvo (tv_c c_ne (ev_v 6) (ev_ix (ev_v 2) (ev_v 4)))) (sms_cons (sm_setIx (lo_v 2) (ev_v 4) (ev_v 6)) (sms_one (sm_s 3 (evo (ev_bl))))) (sms_nil))))))))) (sms_fz 2 (sms_one (sm_ret (evo (ev_callB (fun j => callLen j) sn_len (by intro _; rfl) (fun _ => B.len_) (by decide +kernel) (av_cons (ev_lc [("_law_node", 5)] (ip_val (ev_v 1)) (gc_n 5) (tvs_one (wvt (wv_and (tv_notN (ev_ix (ev_v 5) (ev_int))) (wv_and1 (tv_c c_notIn (ev_ix (ev_v 5) (ev_int)) (ev_call (fun _ => C_law_out.noio) (Nat.le_of_ble_eq_true rfl) (by intro _; rfl) (E := E0) (fun _ => pass0') (av_cons (ev_v 5) (av_cons (ev_v 2) (av_nil))))))))) (ev_v 5)) (av_nil))))))))))))
abbrev s_law : Stmt := top 24
theorem sc_law : FnScope ["_law_script", "_law_cells", "_law_first", "_law_width", "_law_ins", "_law_others", "_law_rows", "_law_found"] ["_law_script"] (defScope s_law) := ⟨rfl, rfl, rfl, by decide +kernel, rfl, by decide +kernel, by decide +kernel⟩
def b_law : FS := sSeq (sSet 1 (lift (fSl (fVar 0) (some (fC (.int 1))) (some (fC (.int 63)))))) (sSeq (sSet 2 (lift (fC (.int 3)))) (sSeq (sIf (liftB (fT (f2 gGt (fN gLen (aCons (fVar 0) (aNil))) (fC (.int 0))))) (sSet 2 (lift (f2 gIx (fVar 0) (fC (.int 0))))) (sNil)) (sSeq (sSet 3 (lift (f2 gAdd (fC (.int 1)) (f2 gMod (fVar 2) (fC (.int 8)))))) (sSeq (sSet 4 (lift (fSl (fCallV g_law_names (aCons (fVar 2) (aNil))) none (some (f2 gMod (f2 gDiv (fVar 2) (fC (.int 8))) (fC (.int 4))))))) (sSeq (sSet 5 (lift (fSl (fCallV g_law_names (aCons (fVar 2) (aNil))) (some (fC (.int 4))) (some (f2 gAdd (fC (.int 4)) (f2 gMod (f2 gDiv (fVar 2) (fC (.int 32))) (fC (.int 5)))))))) (sSeq (sSet 6 (lift (fCallV g_law_program (aCons (fVar 1) (aCons (f2 gAdd (fVar 4) (fVar 5)) (aCons (fVar 3) (aCons (fC (.int 40)) (aNil)))))))) (sSeq (sSet 7 (fFz (fCall [] g_idle_deeds (bCons (fFz (fMake 0 [0] g_Program_init (aCons (fVar 3) (aCons (fVar 4) (aCons (fVar 5) (aCons (fVar 6) (aNil))))))) (bNil))))) (sRet (lift (fAnd (fCallV g_law_whole (aCons (fVar 7) (aNil))) (f2 gEq (fVar 7) (fCallV g_law_idle (aCons (fVar 6) (aNil))))))))))))))
def g_law : List T → Option Re := runF 1 8 [] b_law
theorem ok_law {P : Program} {w : World} {W : Wd} {mg : Str → Option Value} {base : Heap} {f : Addr} {fd : FuncData} (F : Fun W.K "law" "law" s_law f fd) (B : Bi mg) (O : Ob W) (C_law_whole : Cl P w W mg base CX0 1 "_law_whole" [] g_law_whole) (C_law_idle : Cl P w W mg base CX0 27 "_law_idle" [] g_law_idle) (C_Program_init : ClM P w W mg base CX0 26 "Program" 0 [0] g_Program_init) (C_idle_deeds : Cl P w W mg base CX0 29 "idle_deeds" [] g_idle_deeds) (C_law_program : Cl P w W mg base CX0 3 "_law_program" [] g_law_program) (C_law_names : Cl P w W mg base CX0 2 "_law_names" [] g_law_names) : FnOk P w W.K mg base CX0 30 f fd ["_law_script"] (spF W [] g_law) :=
  fnZ F sc_law (by decide) (by decide) fun _ _ _ _ _ _ hr =>
  sms_cons (sm_s 1 (evo (ev_sl11 (ev_v 0) (ev_int) (ev_int)))) (sms_cons (sm_s 2 (evo (ev_int))) (sms_cons (sm_if (tvo (tv_c c_gt (ev_callB (fun j => callLen j) sn_len (by intro _; rfl) (fun _ => B.len_) (by decide +kernel) (av_cons (ev_v 0) (av_nil))) (ev_int))) (sms_one (sm_s 2 (evo (ev_ix (ev_v 0) (ev_int))))) (sms_nil)) (sms_cons (sm_s 3 (evo (ev_add (ev_int) (ev_mod (ev_v 2) (ev_int))))) (sms_cons (sm_s 4 (evo (ev_sl01 (ev_call (fun _ => C_law_names) (Nat.le_of_ble_eq_true rfl) (by intro _; rfl) (E := E0) (fun _ => pass0') (av_cons (ev_v 2) (av_nil))) (ev_mod (ev_div (ev_v 2) (ev_int)) (ev_int))))) (sms_cons (sm_s 5 (evo (ev_sl11 (ev_call (fun _ => C_law_names) (Nat.le_of_ble_eq_true rfl) (by intro _; rfl) (E := E0) (fun _ => pass0') (av_cons (ev_v 2) (av_nil))) (ev_int) (ev_add (ev_int) (ev_mod (ev_div (ev_v 2) (ev_int)) (ev_int)))))) (sms_cons (sm_s 6 (evo (ev_call (fun _ => C_law_program) (Nat.le_of_ble_eq_true rfl) (by intro _; rfl) (E := E0) (fun _ => pass0') (av_cons (ev_v 1) (av_cons (ev_add (ev_v 4) (ev_v 5)) (av_cons (ev_v 3) (av_cons (ev_int) (av_nil)))))))) (sms_cons (sm_s 7 (eo_fz (eo_call (fun _ => C_idle_deeds) (Nat.le_of_ble_eq_true rfl) (by intro _; rfl) (fun _ => rfl) (fun _ => pass0') (ao_cons (eo_fz (eo_make (fun _ => C_Program_init) (Nat.le_of_ble_eq_true rfl) (by intro _; rfl) (E := E0) (fun _ => pass0') (av_cons (ev_v 3) (av_cons (ev_v 4) (av_cons (ev_v 5) (av_cons (ev_v 6) (av_nil))))))) (ao_nil))))) (sms_one (sm_ret (evo (ev_and (ev_call (fun _ => C_law_whole) (Nat.le_of_ble_eq_true rfl) (by intro _; rfl) (E := E0) (fun _ => pass0') (av_cons (ev_v 7) (av_nil))) (ev_one (ev_c c_eq (ev_v 7) (ev_call (fun _ => C_law_idle) (Nat.le_of_ble_eq_true rfl) (by intro _; rfl) (E := E0) (fun _ => pass0') (av_cons (ev_v 6) (av_nil))))))))))))))))
theorem all_mk {l : PySem.W.OpenLaw} {w : World} {K : PySem.W.Frag} {h : Heap} {mg : Str → Option Value} {fa f1 f2 f3 f4 f5 f6 f7 f8 f9 f10 f11 f12 f13 f14 f15 f16 f17 f18 f19 f20 f21 f22 f23 f24 f25 C0 C1 : Addr} (X : K.In h) (G : h.Ns mainGlobals mg) (hfa : mg "law" = some (.ref fa))
    {od1 an1 od2 an2 od3 an3 od4 an4 od5 an5 od6 an6 od7 an7 od8 an8 od9 an9 od10 an10 od11 an11 od12 an12 od13 an13 od14 an14 od15 an15 od16 an16 od17 an17 od18 an18 od19 an19 od20 an20 od21 an21 od22 an22 od23 an23 od24 an24 od25 an25 : Option Addr} {sl1 sl2 sl3 sl4 sl5 sl6 sl7 sl8 sl9 sl10 sl11 sl12 sl13 sl14 sl15 sl16 sl17 sl18 sl19 sl20 sl21 sl22 sl23 sl24 sl25 : Array (Option Value)} {oc1 kV1 dc1 pm1 cd1 ct1 oc2 kV2 dc2 pm2 cd2 ct2 oc3 kV3 dc3 pm3 cd3 ct3 oc4 kV4 dc4 pm4 cd4 ct4 oc5 kV5 dc5 pm5 cd5 ct5 oc6 kV6 dc6 pm6 cd6 ct6 oc7 kV7 dc7 pm7 cd7 ct7 oc8 kV8 dc8 pm8 cd8 ct8 oc9 kV9 dc9 pm9 cd9 ct9 oc10 kV10 dc10 pm10 cd10 ct10 oc11 kV11 dc11 pm11 cd11 ct11 oc12 kV12 dc12 pm12 cd12 ct12 oc13 kV13 dc13 pm13 cd13 ct13 oc14 kV14 dc14 pm14 cd14 ct14 oc15 kV15 dc15 pm15 cd15 ct15 oc16 kV16 dc16 pm16 cd16 ct16 oc17 kV17 dc17 pm17 cd17 ct17 oc18 kV18 dc18 pm18 cd18 ct18 oc19 kV19 dc19 pm19 cd19 ct19 oc20 kV20 dc20 pm20 cd20 ct20 oc21 kV21 dc21 pm21 cd21 ct21 oc22 kV22 dc22 pm22 cd22 ct22 oc23 kV23 dc23 pm23 cd23 ct23 oc24 kV24 dc24 pm24 cd24 ct24 oc25 kV25 dc25 pm25 cd25 ct25 : Value}
    (x0 : PySem.W.nsIn K mainGlobals "Program" = some (some (.ref C0))) (pg0 : PySem.W.plainGet K C0 Str.empty = true) (hd0 : PySem.W.hasDictIn K C0 = true) (po0 : PySem.W.plainOver K C0 = true) (sa0 : PySem.W.findIn K (.ref C0) "__setattr__" = some (some (.builtin "object.__setattr__"))) (mk0 : PySem.W.makesIn K C0 = true) (kc0 : PySem.W.keepIn K (.ref C0) = true)
    (x1 : PySem.W.nsIn K mainGlobals "Trimmer" = some (some (.ref C1))) (pg1 : PySem.W.plainGet K C1 Str.empty = true) (hd1 : PySem.W.hasDictIn K C1 = true) (po1 : PySem.W.plainOver K C1 = true) (sa1 : PySem.W.findIn K (.ref C1) "__setattr__" = some (some (.builtin "object.__setattr__"))) (mk1 : PySem.W.makesIn K C1 = true) (kc1 : PySem.W.keepIn K (.ref C1) = true)
    (n0_rows : PySem.W.findIn K (.ref C0) "rows" = some none)
    (n0_boxes : PySem.W.findIn K (.ref C0) "boxes" = some none)
    (n0_ins : PySem.W.findIn K (.ref C0) "ins" = some none)
    (n0_width : PySem.W.findIn K (.ref C0) "width" = some none)
    (n1_many : PySem.W.findIn K (.ref C1) "many" = some none)
    (a1 : PySem.W.nsIn K mainGlobals "reads" = some (some (.ref f1)))
    (l1 : K.lookup f1 = some ⟨oc1, od1, .func (PySem.W.fnOf "reads" "reads" (defArgs s_reads) (defBody s_reads) (defScope s_reads) .none kV1 dc1 pm1 an1 cd1 ct1), sl1⟩) (c1 : PySem.W.codeIn K cd1 "reads" = true) (k1 : PySem.W.keepIn K (.ref f1) = true)
    (a2 : PySem.W.nsIn K mainGlobals "writes" = some (some (.ref f2)))
    (l2 : K.lookup f2 = some ⟨oc2, od2, .func (PySem.W.fnOf "writes" "writes" (defArgs s_writes) (defBody s_writes) (defScope s_writes) .none kV2 dc2 pm2 an2 cd2 ct2), sl2⟩) (c2 : PySem.W.codeIn K cd2 "writes" = true) (k2 : PySem.W.keepIn K (.ref f2) = true)
    (a3 : PySem.W.nsIn K mainGlobals "copied" = some (some (.ref f3)))
    (l3 : K.lookup f3 = some ⟨oc3, od3, .func (PySem.W.fnOf "copied" "copied" (defArgs s_copied) (defBody s_copied) (defScope s_copied) .none kV3 dc3 pm3 an3 cd3 ct3), sl3⟩) (c3 : PySem.W.codeIn K cd3 "copied" = true) (k3 : PySem.W.keepIn K (.ref f3) = true)
    (a4 : PySem.W.findIn K (.ref C0) "__init__" = some (some (.ref f4))) (i4 : PySem.W.isFn K (.ref f4) = true)
    (l4 : K.lookup f4 = some ⟨oc4, od4, .func (PySem.W.fnOf "__init__" "Program.__init__" (defArgs s_Program_init) (defBody s_Program_init) (defScope s_Program_init) .none kV4 dc4 pm4 an4 cd4 ct4), sl4⟩) (c4 : PySem.W.codeIn K cd4 "Program.__init__" = true) (k4 : PySem.W.keepIn K (.ref f4) = true)
    (a5 : PySem.W.nsIn K mainGlobals "live_ahead" = some (some (.ref f5)))
    (l5 : K.lookup f5 = some ⟨oc5, od5, .func (PySem.W.fnOf "live_ahead" "live_ahead" (defArgs s_live_ahead) (defBody s_live_ahead) (defScope s_live_ahead) .none kV5 dc5 pm5 an5 cd5 ct5), sl5⟩) (c5 : PySem.W.codeIn K cd5 "live_ahead" = true) (k5 : PySem.W.keepIn K (.ref f5) = true)
    (a6 : PySem.W.nsIn K mainGlobals "both" = some (some (.ref f6)))
    (l6 : K.lookup f6 = some ⟨oc6, od6, .func (PySem.W.fnOf "both" "both" (defArgs s_both) (defBody s_both) (defScope s_both) .none kV6 dc6 pm6 an6 cd6 ct6), sl6⟩) (c6 : PySem.W.codeIn K cd6 "both" = true) (k6 : PySem.W.keepIn K (.ref f6) = true)
    (a7 : PySem.W.findIn K (.ref C1) "__init__" = some (some (.ref f7))) (i7 : PySem.W.isFn K (.ref f7) = true)
    (l7 : K.lookup f7 = some ⟨oc7, od7, .func (PySem.W.fnOf "__init__" "Trimmer.__init__" (defArgs s_Trimmer_init) (defBody s_Trimmer_init) (defScope s_Trimmer_init) .none kV7 dc7 pm7 an7 cd7 ct7), sl7⟩) (c7 : PySem.W.codeIn K cd7 "Trimmer.__init__" = true) (k7 : PySem.W.keepIn K (.ref f7) = true)
    (a8 : PySem.W.findIn K (.ref C1) "deed" = some (some (.ref f8))) (i8 : PySem.W.isFn K (.ref f8) = true)
    (l8 : K.lookup f8 = some ⟨oc8, od8, .func (PySem.W.fnOf "deed" "Trimmer.deed" (defArgs s_Trimmer_deed) (defBody s_Trimmer_deed) (defScope s_Trimmer_deed) .none kV8 dc8 pm8 an8 cd8 ct8), sl8⟩) (c8 : PySem.W.codeIn K cd8 "Trimmer.deed" = true) (k8 : PySem.W.keepIn K (.ref f8) = true)
    (a9 : PySem.W.findIn K (.ref C1) "choice" = some (some (.ref f9))) (i9 : PySem.W.isFn K (.ref f9) = true)
    (l9 : K.lookup f9 = some ⟨oc9, od9, .func (PySem.W.fnOf "choice" "Trimmer.choice" (defArgs s_Trimmer_choice) (defBody s_Trimmer_choice) (defScope s_Trimmer_choice) .none kV9 dc9 pm9 an9 cd9 ct9), sl9⟩) (c9 : PySem.W.codeIn K cd9 "Trimmer.choice" = true) (k9 : PySem.W.keepIn K (.ref f9) = true)
    (a10 : PySem.W.findIn K (.ref C1) "loop" = some (some (.ref f10))) (i10 : PySem.W.isFn K (.ref f10) = true)
    (l10 : K.lookup f10 = some ⟨oc10, od10, .func (PySem.W.fnOf "loop" "Trimmer.loop" (defArgs s_Trimmer_loop) (defBody s_Trimmer_loop) (defScope s_Trimmer_loop) .none kV10 dc10 pm10 an10 cd10 ct10), sl10⟩) (c10 : PySem.W.codeIn K cd10 "Trimmer.loop" = true) (k10 : PySem.W.keepIn K (.ref f10) = true)
    (a11 : PySem.W.findIn K (.ref C1) "back" = some (some (.ref f11))) (i11 : PySem.W.isFn K (.ref f11) = true)
    (l11 : K.lookup f11 = some ⟨oc11, od11, .func (PySem.W.fnOf "back" "Trimmer.back" (defArgs s_Trimmer_back) (defBody s_Trimmer_back) (defScope s_Trimmer_back) .none kV11 dc11 pm11 an11 cd11 ct11), sl11⟩) (c11 : PySem.W.codeIn K cd11 "Trimmer.back" = true) (k11 : PySem.W.keepIn K (.ref f11) = true)
    (a12 : PySem.W.nsIn K mainGlobals "idle_deeds" = some (some (.ref f12)))
    (l12 : K.lookup f12 = some ⟨oc12, od12, .func (PySem.W.fnOf "idle_deeds" "idle_deeds" (defArgs s_idle_deeds) (defBody s_idle_deeds) (defScope s_idle_deeds) .none kV12 dc12 pm12 an12 cd12 ct12), sl12⟩) (c12 : PySem.W.codeIn K cd12 "idle_deeds" = true) (k12 : PySem.W.keepIn K (.ref f12) = true)
    (a13 : PySem.W.nsIn K mainGlobals "_law_whole" = some (some (.ref f13)))
    (l13 : K.lookup f13 = some ⟨oc13, od13, .func (PySem.W.fnOf "_law_whole" "_law_whole" (defArgs s_law_whole) (defBody s_law_whole) (defScope s_law_whole) .none kV13 dc13 pm13 an13 cd13 ct13), sl13⟩) (c13 : PySem.W.codeIn K cd13 "_law_whole" = true) (k13 : PySem.W.keepIn K (.ref f13) = true)
    (a14 : PySem.W.nsIn K mainGlobals "_law_mixed" = some (some (.ref f14)))
    (l14 : K.lookup f14 = some ⟨oc14, od14, .func (PySem.W.fnOf "_law_mixed" "_law_mixed" (defArgs s_law_mixed) (defBody s_law_mixed) (defScope s_law_mixed) .none kV14 dc14 pm14 an14 cd14 ct14), sl14⟩) (c14 : PySem.W.codeIn K cd14 "_law_mixed" = true) (k14 : PySem.W.keepIn K (.ref f14) = true)
    (a15 : PySem.W.nsIn K mainGlobals "_law_names" = some (some (.ref f15)))
    (l15 : K.lookup f15 = some ⟨oc15, od15, .func (PySem.W.fnOf "_law_names" "_law_names" (defArgs s_law_names) (defBody s_law_names) (defScope s_law_names) .none kV15 dc15 pm15 an15 cd15 ct15), sl15⟩) (c15 : PySem.W.codeIn K cd15 "_law_names" = true) (k15 : PySem.W.keepIn K (.ref f15) = true)
    (a16 : PySem.W.nsIn K mainGlobals "_law_operand" = some (some (.ref f16)))
    (l16 : K.lookup f16 = some ⟨oc16, od16, .func (PySem.W.fnOf "_law_operand" "_law_operand" (defArgs s_law_operand) (defBody s_law_operand) (defScope s_law_operand) .none kV16 dc16 pm16 an16 cd16 ct16), sl16⟩) (c16 : PySem.W.codeIn K cd16 "_law_operand" = true) (k16 : PySem.W.keepIn K (.ref f16) = true)
    (a17 : PySem.W.nsIn K mainGlobals "_law_deed" = some (some (.ref f17)))
    (l17 : K.lookup f17 = some ⟨oc17, od17, .func (PySem.W.fnOf "_law_deed" "_law_deed" (defArgs s_law_deed) (defBody s_law_deed) (defScope s_law_deed) .none kV17 dc17 pm17 an17 cd17 ct17), sl17⟩) (c17 : PySem.W.codeIn K cd17 "_law_deed" = true) (k17 : PySem.W.keepIn K (.ref f17) = true)
    (a18 : PySem.W.nsIn K mainGlobals "_law_into" = some (some (.ref f18)))
    (l18 : K.lookup f18 = some ⟨oc18, od18, .func (PySem.W.fnOf "_law_into" "_law_into" (defArgs s_law_into) (defBody s_law_into) (defScope s_law_into) .none kV18 dc18 pm18 an18 cd18 ct18), sl18⟩) (c18 : PySem.W.codeIn K cd18 "_law_into" = true) (k18 : PySem.W.keepIn K (.ref f18) = true)
    (a19 : PySem.W.nsIn K mainGlobals "_law_closed" = some (some (.ref f19)))
    (l19 : K.lookup f19 = some ⟨oc19, od19, .func (PySem.W.fnOf "_law_closed" "_law_closed" (defArgs s_law_closed) (defBody s_law_closed) (defScope s_law_closed) .none kV19 dc19 pm19 an19 cd19 ct19), sl19⟩) (c19 : PySem.W.codeIn K cd19 "_law_closed" = true) (k19 : PySem.W.keepIn K (.ref f19) = true)
    (a20 : PySem.W.nsIn K mainGlobals "_law_program" = some (some (.ref f20)))
    (l20 : K.lookup f20 = some ⟨oc20, od20, .func (PySem.W.fnOf "_law_program" "_law_program" (defArgs s_law_program) (defBody s_law_program) (defScope s_law_program) .none kV20 dc20 pm20 an20 cd20 ct20), sl20⟩) (c20 : PySem.W.codeIn K cd20 "_law_program" = true) (k20 : PySem.W.keepIn K (.ref f20) = true)
    (a21 : PySem.W.nsIn K mainGlobals "_law_reads" = some (some (.ref f21)))
    (l21 : K.lookup f21 = some ⟨oc21, od21, .func (PySem.W.fnOf "_law_reads" "_law_reads" (defArgs s_law_reads) (defBody s_law_reads) (defScope s_law_reads) .none kV21 dc21 pm21 an21 cd21 ct21), sl21⟩) (c21 : PySem.W.codeIn K cd21 "_law_reads" = true) (k21 : PySem.W.keepIn K (.ref f21) = true)
    (a22 : PySem.W.nsIn K mainGlobals "_law_nodes" = some (some (.ref f22)))
    (l22 : K.lookup f22 = some ⟨oc22, od22, .func (PySem.W.fnOf "_law_nodes" "_law_nodes" (defArgs s_law_nodes) (defBody s_law_nodes) (defScope s_law_nodes) .none kV22 dc22 pm22 an22 cd22 ct22), sl22⟩) (c22 : PySem.W.codeIn K cd22 "_law_nodes" = true) (k22 : PySem.W.keepIn K (.ref f22) = true)
    (a23 : PySem.W.nsIn K mainGlobals "_law_out" = some (some (.ref f23)))
    (l23 : K.lookup f23 = some ⟨oc23, od23, .func (PySem.W.fnOf "_law_out" "_law_out" (defArgs s_law_out) (defBody s_law_out) (defScope s_law_out) .none kV23 dc23 pm23 an23 cd23 ct23), sl23⟩) (c23 : PySem.W.codeIn K cd23 "_law_out" = true) (k23 : PySem.W.keepIn K (.ref f23) = true)
    (a24 : PySem.W.nsIn K mainGlobals "_law_idle" = some (some (.ref f24)))
    (l24 : K.lookup f24 = some ⟨oc24, od24, .func (PySem.W.fnOf "_law_idle" "_law_idle" (defArgs s_law_idle) (defBody s_law_idle) (defScope s_law_idle) .none kV24 dc24 pm24 an24 cd24 ct24), sl24⟩) (c24 : PySem.W.codeIn K cd24 "_law_idle" = true) (k24 : PySem.W.keepIn K (.ref f24) = true)
    (a25 : PySem.W.nsIn K mainGlobals "law" = some (some (.ref f25)))
    (l25 : K.lookup f25 = some ⟨oc25, od25, .func (PySem.W.fnOf "law" "law" (defArgs s_law) (defBody s_law) (defScope s_law) .none kV25 dc25 pm25 an25 cd25 ct25), sl25⟩) (c25 : PySem.W.codeIn K cd25 "law" = true) (k25 : PySem.W.keepIn K (.ref f25) = true)
    (z_isinstance : PySem.W.nsIn K mainGlobals "isinstance" = some none)
    (z_str : PySem.W.nsIn K mainGlobals "str" = some none)
    (z_list : PySem.W.nsIn K mainGlobals "list" = some none)
    (z_len : PySem.W.nsIn K mainGlobals "len" = some none)
    (z_reversed : PySem.W.nsIn K mainGlobals "reversed" = some none)
    (z_int : PySem.W.nsIn K mainGlobals "int" = some none)
    (z_bool : PySem.W.nsIn K mainGlobals "bool" = some none)
    (z_range : PySem.W.nsIn K mainGlobals "range" = some none)
    (z_enumerate : PySem.W.nsIn K mainGlobals "enumerate" = some none)
    (z_sorted : PySem.W.nsIn K mainGlobals "sorted" = some none)
    : ∃ (fd : FuncData) (cl : Nat → Addr), (∀ (s : Shared) (v : Value), BindsTo s fd ⟨[v], []⟩ [("_law_script", v)]) ∧ ∀ base : Heap, K.In base → base.Ns mainGlobals mg → FnOk l.prog w K mg base CX0 30 fa fd ["_law_script"] (spF ⟨K, cl⟩ [] g_law) := by
  have e := hfa.symm.trans (PySem.W.mg_of X G a25)
  cases e
  have B : Bi mg := ⟨PySem.W.mg_none_of X G z_isinstance, PySem.W.mg_none_of X G z_str, PySem.W.mg_none_of X G z_list, PySem.W.mg_none_of X G z_len, PySem.W.mg_none_of X G z_reversed, PySem.W.mg_none_of X G z_int, PySem.W.mg_none_of X G z_bool, PySem.W.mg_none_of X G z_range, PySem.W.mg_none_of X G z_enumerate, PySem.W.mg_none_of X G z_sorted⟩
  have O : Ob ⟨K, fun n => [C0, C1].getD n 0⟩ := ⟨⟨pg0, hd0, po0, sa0⟩, ⟨pg1, hd1, po1, sa1⟩, n0_rows, n0_boxes, n0_ins, n0_width, n1_many⟩
  have F1 := fun_mk (st := s_reads) l1 c1 k1
  have b1 := F1.binds (ps := ["deed"]) fun _ _ _ _ _ _ us hl => match us, hl with | [_], _ => rfl
  have F2 := fun_mk (st := s_writes) l2 c2 k2
  have b2 := F2.binds (ps := ["deed"]) fun _ _ _ _ _ _ us hl => match us, hl with | [_], _ => rfl
  have F3 := fun_mk (st := s_copied) l3 c3 k3
  have b3 := F3.binds (ps := ["rows"]) fun _ _ _ _ _ _ us hl => match us, hl with | [_], _ => rfl
  have F4 := fun_mk (st := s_Program_init) l4 c4 k4
  have b4 := F4.binds (ps := ["self", "width", "ins", "others", "rows"]) fun _ _ _ _ _ _ us hl => match us, hl with | [_, _, _, _, _], _ => rfl
  have F5 := fun_mk (st := s_live_ahead) l5 c5 k5
  have b5 := F5.binds (ps := ["row", "live"]) fun _ _ _ _ _ _ us hl => match us, hl with | [_, _], _ => rfl
  have F6 := fun_mk (st := s_both) l6 c6 k6
  have b6 := F6.binds (ps := ["one", "other"]) fun _ _ _ _ _ _ us hl => match us, hl with | [_, _], _ => rfl
  have F7 := fun_mk (st := s_Trimmer_init) l7 c7 k7
  have b7 := F7.binds (ps := ["self"]) fun _ _ _ _ _ _ us hl => match us, hl with | [_], _ => rfl
  have F8 := fun_mk (st := s_Trimmer_deed) l8 c8 k8
  have b8 := F8.binds (ps := ["self", "row", "live", "kept"]) fun _ _ _ _ _ _ us hl => match us, hl with | [_, _, _, _], _ => rfl
  have F9 := fun_mk (st := s_Trimmer_choice) l9 c9 k9
  have b9 := F9.binds (ps := ["self", "row", "live", "kept"]) fun _ _ _ _ _ _ us hl => match us, hl with | [_, _, _, _], _ => rfl
  have F10 := fun_mk (st := s_Trimmer_loop) l10 c10 k10
  have b10 := F10.binds (ps := ["self", "row", "live", "kept"]) fun _ _ _ _ _ _ us hl => match us, hl with | [_, _, _, _], _ => rfl
  have F11 := fun_mk (st := s_Trimmer_back) l11 c11 k11
  have b11 := F11.binds (ps := ["self", "rows", "live"]) fun _ _ _ _ _ _ us hl => match us, hl with | [_, _, _], _ => rfl
  have F12 := fun_mk (st := s_idle_deeds) l12 c12 k12
  have b12 := F12.binds (ps := ["program"]) fun _ _ _ _ _ _ us hl => match us, hl with | [_], _ => rfl
  have F13 := fun_mk (st := s_law_whole) l13 c13 k13
  have b13 := F13.binds (ps := ["_law_found"]) fun _ _ _ _ _ _ us hl => match us, hl with | [_], _ => rfl
  have F14 := fun_mk (st := s_law_mixed) l14 c14 k14
  have b14 := F14.binds (ps := ["_law_cell", "_law_k"]) fun _ _ _ _ _ _ us hl => match us, hl with | [_, _], _ => rfl
  have F15 := fun_mk (st := s_law_names) l15 c15 k15
  have b15 := F15.binds (ps := ["_law_cell"]) fun _ _ _ _ _ _ us hl => match us, hl with | [_], _ => rfl
  have F16 := fun_mk (st := s_law_operand) l16 c16 k16
  have b16 := F16.binds (ps := ["_law_mixed_here", "_law_names_here", "_law_width"]) fun _ _ _ _ _ _ us hl => match us, hl with | [_, _, _], _ => rfl
  have F17 := fun_mk (st := s_law_deed) l17 c17 k17
  have b17 := F17.binds (ps := ["_law_mixed_here", "_law_names_here", "_law_width"]) fun _ _ _ _ _ _ us hl => match us, hl with | [_, _, _], _ => rfl
  have F18 := fun_mk (st := s_law_into) l18 c18 k18
  have b18 := F18.binds (ps := ["_law_stack", "_law_row"]) fun _ _ _ _ _ _ us hl => match us, hl with | [_, _], _ => rfl
  have F19 := fun_mk (st := s_law_closed) l19 c19 k19
  have b19 := F19.binds (ps := ["_law_stack"]) fun _ _ _ _ _ _ us hl => match us, hl with | [_], _ => rfl
  have F20 := fun_mk (st := s_law_program) l20 c20 k20
  have b20 := F20.binds (ps := ["_law_cells", "_law_names_here", "_law_width", "_law_most"]) fun _ _ _ _ _ _ us hl => match us, hl with | [_, _, _, _], _ => rfl
  have F21 := fun_mk (st := s_law_reads) l21 c21 k21
  have b21 := F21.binds (ps := ["_law_deed_here"]) fun _ _ _ _ _ _ us hl => match us, hl with | [_], _ => rfl
  have F22 := fun_mk (st := s_law_nodes) l22 c22 k22
  have b22 := F22.binds (ps := ["_law_rows", "_law_nodes_here", "_law_behind"]) fun _ _ _ _ _ _ us hl => match us, hl with | [_, _, _], _ => rfl
  have F23 := fun_mk (st := s_law_out) l23 c23 k23
  have b23 := F23.binds (ps := ["_law_node", "_law_live"]) fun _ _ _ _ _ _ us hl => match us, hl with | [_, _], _ => rfl
  have F24 := fun_mk (st := s_law_idle) l24 c24 k24
  have b24 := F24.binds (ps := ["_law_rows"]) fun _ _ _ _ _ _ us hl => match us, hl with | [_], _ => rfl
  have F25 := fun_mk (st := s_law) l25 c25 k25
  have b25 := F25.binds (ps := ["_law_script"]) fun _ _ _ _ _ _ us hl => match us, hl with | [_], _ => rfl
  refine ⟨PySem.W.fnOf "law" "law" (defArgs s_law) (defBody s_law) (defScope s_law) .none kV25 dc25 pm25 an25 cd25 ct25, fun n => [C0, C1].getD n 0, fun s v => .of_eq rfl, fun base _ _ => ?_⟩
  have C_reads : Cl l.prog w ⟨K, fun n => [C0, C1].getD n 0⟩ mg base CX0 1 "reads" [] g_reads := .mk' (ok_reads (W := ⟨K, fun n => [C0, C1].getD n 0⟩) F1 B O) (PySem.W.mg_of X G a1) k1 b1
  have C_writes : Cl l.prog w ⟨K, fun n => [C0, C1].getD n 0⟩ mg base CX0 1 "writes" [] g_writes := .mk' (ok_writes (W := ⟨K, fun n => [C0, C1].getD n 0⟩) F2 B O) (PySem.W.mg_of X G a2) k2 b2
  have R_copied := ok_copied (P := l.prog) (w := w) (mg := mg) (base := base) (W := ⟨K, fun n => [C0, C1].getD n 0⟩) F3 b3 (PySem.W.mg_of X G a3) k3 B O 24
  have C_copied : Cl l.prog w ⟨K, fun n => [C0, C1].getD n 0⟩ mg base CX0 25 "copied" [] (g_copied 24) := .mk' R_copied (PySem.W.mg_of X G a3) k3 b3
  have C_Program_init : ClM l.prog w ⟨K, fun n => [C0, C1].getD n 0⟩ mg base CX0 26 "Program" 0 [0] g_Program_init := .mk' (ok_Program_init (W := ⟨K, fun n => [C0, C1].getD n 0⟩) F4 B O C_copied) (PySem.W.mg_of X G x0) ⟨mk0, a4, i4, kc0⟩ b4
  have C_live_ahead : Cl l.prog w ⟨K, fun n => [C0, C1].getD n 0⟩ mg base CX0 2 "live_ahead" [] g_live_ahead := .mk' (ok_live_ahead (W := ⟨K, fun n => [C0, C1].getD n 0⟩) F5 B O C_reads C_writes) (PySem.W.mg_of X G a5) k5 b5
  have C_both : Cl l.prog w ⟨K, fun n => [C0, C1].getD n 0⟩ mg base CX0 1 "both" [] g_both := .mk' (ok_both (W := ⟨K, fun n => [C0, C1].getD n 0⟩) F6 B O) (PySem.W.mg_of X G a6) k6 b6
  have C_Trimmer_init : ClM l.prog w ⟨K, fun n => [C0, C1].getD n 0⟩ mg base CX0 1 "Trimmer" 1 [0] g_Trimmer_init := .mk' (ok_Trimmer_init (W := ⟨K, fun n => [C0, C1].getD n 0⟩) F7 B O) (PySem.W.mg_of X G x1) ⟨mk1, a7, i7, kc1⟩ b7
  have C_Trimmer_deed : ClT l.prog w ⟨K, fun n => [C0, C1].getD n 0⟩ mg base CX0 3 1 "deed" [0, 3] g_Trimmer_deed := .mk' (ok_Trimmer_deed (W := ⟨K, fun n => [C0, C1].getD n 0⟩) F8 B O C_live_ahead C_writes) O.c1 ⟨a8, i8, k8⟩ b8
  have R_Trimmer_choice := ok_Trimmer_choice (P := l.prog) (w := w) (mg := mg) (base := base) (W := ⟨K, fun n => [C0, C1].getD n 0⟩) F9 b9 ⟨a9, i9, k9⟩ F10 b10 ⟨a10, i10, k10⟩ F11 b11 ⟨a11, i11, k11⟩ B O C_both C_Trimmer_deed 24
  have C_Trimmer_choice : ClT l.prog w ⟨K, fun n => [C0, C1].getD n 0⟩ mg base CX0 28 1 "choice" [0, 3] (g_Trimmer_choice 24) := .mk' R_Trimmer_choice.1 O.c1 ⟨a9, i9, k9⟩ b9
  have C_Trimmer_loop : ClT l.prog w ⟨K, fun n => [C0, C1].getD n 0⟩ mg base CX0 28 1 "loop" [0, 3] (g_Trimmer_loop 24) := .mk' R_Trimmer_choice.2.1 O.c1 ⟨a10, i10, k10⟩ b10
  have C_Trimmer_back : ClT l.prog w ⟨K, fun n => [C0, C1].getD n 0⟩ mg base CX0 28 1 "back" [0] (g_Trimmer_back 24) := .mk' R_Trimmer_choice.2.2 O.c1 ⟨a11, i11, k11⟩ b11
  have C_idle_deeds : Cl l.prog w ⟨K, fun n => [C0, C1].getD n 0⟩ mg base CX0 29 "idle_deeds" [] g_idle_deeds := .mk' (ok_idle_deeds (W := ⟨K, fun n => [C0, C1].getD n 0⟩) F12 B O C_Trimmer_back C_Trimmer_init) (PySem.W.mg_of X G a12) k12 b12
  have C_law_whole : Cl l.prog w ⟨K, fun n => [C0, C1].getD n 0⟩ mg base CX0 1 "_law_whole" [] g_law_whole := .mk' (ok_law_whole (W := ⟨K, fun n => [C0, C1].getD n 0⟩) F13 B O) (PySem.W.mg_of X G a13) k13 b13
  have C_law_mixed : Cl l.prog w ⟨K, fun n => [C0, C1].getD n 0⟩ mg base CX0 1 "_law_mixed" [] g_law_mixed := .mk' (ok_law_mixed (W := ⟨K, fun n => [C0, C1].getD n 0⟩) F14 B O) (PySem.W.mg_of X G a14) k14 b14
  have C_law_names : Cl l.prog w ⟨K, fun n => [C0, C1].getD n 0⟩ mg base CX0 2 "_law_names" [] g_law_names := .mk' (ok_law_names (W := ⟨K, fun n => [C0, C1].getD n 0⟩) F15 B O C_law_mixed) (PySem.W.mg_of X G a15) k15 b15
  have C_law_operand : Cl l.prog w ⟨K, fun n => [C0, C1].getD n 0⟩ mg base CX0 1 "_law_operand" [] g_law_operand := .mk' (ok_law_operand (W := ⟨K, fun n => [C0, C1].getD n 0⟩) F16 B O) (PySem.W.mg_of X G a16) k16 b16
  have C_law_deed : Cl l.prog w ⟨K, fun n => [C0, C1].getD n 0⟩ mg base CX0 2 "_law_deed" [] g_law_deed := .mk' (ok_law_deed (W := ⟨K, fun n => [C0, C1].getD n 0⟩) F17 B O C_law_operand) (PySem.W.mg_of X G a17) k17 b17
  have C_law_into : Cl l.prog w ⟨K, fun n => [C0, C1].getD n 0⟩ mg base CX0 1 "_law_into" [0] g_law_into := .mk' (ok_law_into (W := ⟨K, fun n => [C0, C1].getD n 0⟩) F18 B O) (PySem.W.mg_of X G a18) k18 b18
  have C_law_closed : Cl l.prog w ⟨K, fun n => [C0, C1].getD n 0⟩ mg base CX0 2 "_law_closed" [0] g_law_closed := .mk' (ok_law_closed (W := ⟨K, fun n => [C0, C1].getD n 0⟩) F19 B O C_law_into) (PySem.W.mg_of X G a19) k19 b19
  have C_law_program : Cl l.prog w ⟨K, fun n => [C0, C1].getD n 0⟩ mg base CX0 3 "_law_program" [] g_law_program := .mk' (ok_law_program (W := ⟨K, fun n => [C0, C1].getD n 0⟩) F20 B O C_law_closed C_law_deed C_law_into C_law_mixed) (PySem.W.mg_of X G a20) k20 b20
  have C_law_reads : Cl l.prog w ⟨K, fun n => [C0, C1].getD n 0⟩ mg base CX0 1 "_law_reads" [] g_law_reads := .mk' (ok_law_reads (W := ⟨K, fun n => [C0, C1].getD n 0⟩) F21 B O) (PySem.W.mg_of X G a21) k21 b21
  have R_law_nodes := ok_law_nodes (P := l.prog) (w := w) (mg := mg) (base := base) (W := ⟨K, fun n => [C0, C1].getD n 0⟩) F22 b22 (PySem.W.mg_of X G a22) k22 B O C_law_reads 24
  have C_law_nodes : Cl l.prog w ⟨K, fun n => [C0, C1].getD n 0⟩ mg base CX0 26 "_law_nodes" [1] (g_law_nodes 24) := .mk' R_law_nodes (PySem.W.mg_of X G a22) k22 b22
  have C_law_out : Cl l.prog w ⟨K, fun n => [C0, C1].getD n 0⟩ mg base CX0 1 "_law_out" [1] g_law_out := .mk' (ok_law_out (W := ⟨K, fun n => [C0, C1].getD n 0⟩) F23 B O) (PySem.W.mg_of X G a23) k23 b23
  have C_law_idle : Cl l.prog w ⟨K, fun n => [C0, C1].getD n 0⟩ mg base CX0 27 "_law_idle" [] g_law_idle := .mk' (ok_law_idle (W := ⟨K, fun n => [C0, C1].getD n 0⟩) F24 B O C_law_out C_law_nodes) (PySem.W.mg_of X G a24) k24 b24
  exact ok_law (W := ⟨K, fun n => [C0, C1].getD n 0⟩) F25 B O C_law_whole C_law_idle C_Program_init C_idle_deeds C_law_program C_law_names
theorem walk {l : PySem.W.OpenLaw} {q : Program} {loose : List Str} {XP : (Str → Option Value) → Heap → Prop} {YP : World → Heap → Prop} {d : DefRec} {K : Params → PySem.W.Frag} (hn : l.most = some 63) (hdf : d.params.defaults = [])
    (hY : ∀ (w : World) (h : Heap), YP w h → (K w.params).In h) (ht : ∀ ns : List Int, ns.length ≤ 63 → (∀ z ∈ ns, Builtin.Int.intBits z ≤ 1048576) → ∃ us, g_law [.f (.lst (ns.map .int))] = some (.ok (.f (.bl true)) us))
    (F : ∀ (w : World) (mg : Str → Option Value) (fa : Addr) (h : Heap), (K w.params).In h → h.Ns mainGlobals mg → mg d.name = some (.ref fa) →
      ∃ (fd : FuncData) (cl : Nat → Addr), (∀ (s : Shared) (u : Value), BindsTo s fd ⟨[u], []⟩ [("_law_script", u)]) ∧ ∀ base : Heap, (K w.params).In base → base.Ns mainGlobals mg → FnOk l.prog w (K w.params) mg base CX0 30 fa fd ["_law_script"] (spF ⟨K w.params, cl⟩ [] g_law)) :
    PySem.W.WalkO q loose XP YP l.row.toRowW d [] (fun f vs => PySem.call f vs) :=
  L2.walk_ofB (n := 63) (k := 30) (x := "_law_script") (CX := fun _ => CX0) (sp := fun w vs H Q E => ∀ cl, spF ⟨K w.params, cl⟩ [] g_law vs H Q E) hn (by decide) hdf ⟨rfl, by decide, by decide⟩ hY (fun w mg fa h a b c => let ⟨fd, cl, h1, h2⟩ := F w mg fa h a b c; ⟨fd, h1, fun base p q => (h2 base p q).imp fun vs H Q E h => h cl⟩) (fun w H a ns hl hb _ hS cl => law_sp (W := ⟨K w.params, cl⟩) hS (ht ns hl hb)) fun _ _ _ _ _ z => z
end K
namespace K
open PySem L2 Z
local macro_rules | `(tactic| walk_at "w") => `(tactic| simp -implicitDefEqProofs (disch := (first | omega | ((try simp only [List.length_cons, List.length_nil, List.length_map, List.length_append, List.length_range, List.length_take, List.length_set, List.length_reverse, enumD_len]) <;> omega) | fail)) only [wz_var, nn_f, nn_l, nn_dk, nn_ll, nn_tu, nn_o, wz_mv, mvK_f, mvK_l, mvK_dk, mvK_ll, mvK_tu, mvK_o, wz_f1, k1_s, wz_f2, k2_s, wz_fN, kN_s, wz_fC, wz_aNil, wz_aCons, kCons_s, wz_fT, kT_s, wz_tAnd, wz_tOr, wz_tNot, kAnd_t, kAnd_f, kOr_t, kOr_f, kNot_s, wz_fIf, kIf_t, kIf_f, wz_fAnd, wz_fOr, kBl_s, wz_fNot, wz_lift, kLift_s, wz_fFz, kFz_f, kFz_l, kFz_dk, wz_sNil, wz_sSeq, kSeq_nx, kSeq_rt, kSeq_bk, kSeq_ct, kSeq_xc, wz_sSet, kSet_s, wz_sExpr, kEx_s, wz_sRet, kRet_s, wz_sRetN, wz_sBk, wz_sCt, wz_liftB, kLiB_s, wz_oTest, kTst_s, wz_oNot, kONot_s, wz_sIf, kIfS_t, kIfS_f, kIfS_d, kV_s, wz_fCallV, kCall_0, kCall_1, kCall_2, kCall_3, kCall_4, kCall_5, kCall_6, kCall_7, wz_fDispD, wz_pNil, wz_pCons, kPair_s, kPair_i, wz_fNewL, kNl'_s, wz_fNewD, wz_sFor, kFor_s, for_nil, for_cons, kTgt_s, kBody_nx, kBody_ct, kBody_bk, kBody_rt, kBody_xc, wz_iVal, kIt_l, kIt_t, kIt_s, wz_iL1, kI1_s, wz_iL2, kI2_s, wz_iR1, kR1_s, wz_iR2, kR2_s, wz_gSet, wz_gsNil, wz_gsCons, kGs_s, deep_nil, deep_f, kDc_s, wz_gTup, wz_gLst, gSl_l, gSl_o, wz_sl00, wz_sl10, wz_sl01, wz_sl11, kS00_s, kS10_s, kS01_s, kS11_s, wz_fIsi, gIsi_ii, gIsi_ib, gIsi_ll, gIsi_lo, gIsi_tt, gIsi_ss, gIsi_bb, gIsi_dd, dec01, str_inj, gDiv_o, gMul_o, gShl_o, gShr_o, kVT_s, gIx_lst, gIx_own, gIx_tup, gIx_dct, gIx_dcti, gIx_odct, gIx_odcti, atI_pos, atI_neg, gTupT1, gTupT2, gTupT3, gTupT4, gTupT5, gIsNn_i, gIsNn_s, gIsNn_b, gIsNn_n, gIsNn_l, gIsNn_t, gIsNn_d, gIsNn_o, gIsNn_od, wz_fIsN, wz_fChain, kChain_s, kCh1_t, kCh1_f, kTurn_s, okW_nil, okW_cons, okV_n, okV_u, okV_f, wipeR_nil, wipeR_cons, wz_fLc, kLcB_t, kLc_s, lcF_nil, lcF_cons, kL1_s, kL2_t, kL2_f, kL2_d, kL3_s, tYes_s, wz_lcT, wz_jVal, kJV_l, kJV_t, kJV_s, wz_jL1, kJ1_s, wz_jL2, kJ2_s, wz_jR1, kJR1_s, wz_jR2, kJR2_s, wz_pHere, kMu_s, mutF_here, kNx_s, wz_sApp, kApp_s, appT_l, wz_sSetIx, kSI_s, setT_l, setT_ds, setT_di, wz_fzS, kF2_u, kF2_f, kF2_l, kF2_d, wz_sFz, kFS_s, gIn_ss, gIn_ii, gNotIn_ss, gNotIn_ii, gEq_sn, gEq_ns, gEq_in, gEq_ni, gEq_nn, gNe_sn, gNe_ns, gNe_in, gNe_ni, gNe_nn, gSum_l, gList_l, gList_t, gTuple_l, gTuple_t, atN_nil, atN_cons, atD_nil, atD_cons, setN_cons, sub_o, sub_l, sub_t, upd_o, upd_l, upd_t, getP_nil, getP_cons, kGp_s, putP_nil, putP_cons, kPp_s, kNn_f, kNn_l, kNn_dk, gAtt_f, gAtt_o, wz_pAt, kPA_s, kPA2_s, kPA3_s, wz_pIx, kPI_s, kPI2_l, kPI2_t, kPI3_s, kPI4_s, ixN_pos, ixN_neg, mutF_at, kM1_s, kM2_s, wz_sAtt, kSAt_s, attT_o, kAt_n, kAt_f, wz_sAttM, kSAM_s, kSAM2_s, attM_o, kAM_n, wz_sAttAug, kAG_s, kAG2_s, kAG5_s, wz_mE, kME_s, wz_mP, kMP_s, wz_mV, kMV_f, kMV_l, kMV_dk, kMV_ll, kMV_tu, kMV_o, wz_msNil, wz_msCons, kMs_s, kMs2_s, wz_mTup, wz_mLst, kMTup_s, kMLst_s, wz_mNew, kMN_s, kMN2_s, wz_mNewD, wz_mPart, kMPt_s, kMPt2_s, kMPt3_l, kMPt3_d, wz_mCall, kMC_s, kMC2_s, kMC3_s, wz_mCat, kMCa_s, kMCa2_s, gCatO_ol, gCatO_ll, gCatO_lo, gCat_ol, gCat_lo, gCat_oo, wz_mLc, kMLc_s, wz_sAppM, kAM1_s, kAM2_l, kAM2_ll, kAM3_s, appM_ll, wz_fPop, kPop_s, kPop2_s, kPop3_s, kPop4_s, popT_l, popT_tu, popT_lf, gTupM2, gTupM3, gTupM4, gTupN2, gTupN3, gTupN4, wz_sAsg, kAsg_s, wz_bNil, wz_bCons, kBC_s, kBC2_s, wz_bSlot, kBS_f, kBS_l, kBS_dk, kBS_ll, kBS_tu, kBS_o, kBS2_s, take_nil, take_v, take_s, kTs_f, kTs_l, kTs_dk, kTs_ll, kTs_tu, kTs_o, kTk_s, put_nil, put_v, put_s, wz_fCall, kCl_s, kCl2_s, kIo_t, kCl3_s, ioOk_nil, ioOk_cons, isF_f, cont_nil, cont_cons, conS_nil, conS_cons, wz_fMeth, kMt_s, kMt2_f, wz_fMethV, kMv_o, kMv_f, kMv2_f, kCall_o, kCall_l, kCall_dk, kCall_tu, kCall_ll, kCall_f1, kCall_f2, kCO_s, kCO2_i, kCO2_b, kCO2_s, fzs_nil, fzs_cons, kFs_s, fz_f, fz_l, fz_dk, fz_o, fz_tu, fz_ll, kFo_s, kFt_s, kFl_s, kF2_o, kF2_tu, kF2_ll, kFz2_s, kFz_o, kFz_tu, kFz_ll, kFzR_s, wz_fzR, val_ok, wz_fMake, kMk_s, kMk2_s, wz_mkF, kMk3_t, kMk4_s, wz_oAnd, wz_oOr, kOAnd_t, kOAnd_f, kOOr_f, kOOr_t, wz_sAug, gAddI_i, wz_fGet, kG3_s, gGet_f, gGet_o, gCopy_f, gCopy_o, wz_sClr, kClr_s, clrT_s, gRevL_l, gRevL_o, gVals_f, gVals_o, kNn_ll, kNn_tu, kNn_o, Z.gIx_ll, gIx_tu, gLen_ll, gLen_tu, gLen_dk, gLen_df, kRun_rt, kRun_nx, outs_nil, outs_cons, kOut_t, kOut_f, last_n, last_g, last_s, cast1, cast2, cast3, cast4, cast5, cast6, cast7, cast8, cast9, cast10, cast11, cast12, wz_sWhile, kW1_f, kW1_t, kW2_nx, kW2_ct, kW2_bk, kW2_rt, gDictOf_f, gDictOf_o, wz_fTix, kTix_s, kNoX_nx, kNoX_rt, wz_sForK, kForK_s, wz_fE2, kE2_s, wz_sSetIxE, kSE_s, kSE2_s, kSE3_l, kSE4_s, wz_bAl, kAl_dk, kAl2_s, take_a, put_a, wz_fCallA, kCA_do, isF_un, wz_fD0, wz_mCopy, kCp_f, kCp_o, nn_dix, wz_fNewX, gInZ_b, gNotInZ_b, wz_sSetX, kSX_s, setX_b, gListX_l, gListX_t, gListX_d, kTp_s, kLs_s, kNl_s, kDisp_s, gCat_l, gCat_s, oval_rt', oval_nx', gMod_ok, Sum.inr.injEq, Sum.inl.injEq, reduceCtorEq, String.reduceEq, reduceIte, gAdd_i, gSub_i, gBAnd_i, gBOr_i, gBXor_i, gLt_i, gLe_i, gGt_i, gGe_i, gEq_i, gEq_s, gEq_b, gEq_is, gEq_si, gNe_i, gNe_s, gNe_b, gNe_is, gNe_si, gNeg_i, gInt1_i, gInt1_b, gMax2_i, gMin2_i, gLen_l, gLen_t, gLen_o, List.getElem?_cons_zero, List.getElem?_cons_succ, List.set_cons_zero, List.set_cons_succ, List.length_cons, List.length_nil, List.map_cons, List.map_nil, List.cons_append, List.nil_append, List.replicate, List.length_map, Nat.zero_add, Nat.reduceAdd, Nat.reduceSub, Nat.reduceLeDiff, Nat.reduceEqDiff, Bool.not_true, Bool.not_false, Bool.not_not, if_true, if_false, Bool.false_eq_true, decide_true, decide_false, eq_self, Int.reduceLT, Int.reduceLE, Int.reduceEq, Int.reduceToNat, Int.reduceAdd, Int.reduceSub, Int.toNat_natCast, Bool.true_xor, Bool.true_and, Bool.and_true, Bool.false_and, Bool.and_false, Bool.true_or, Bool.or_true, Bool.false_or, Bool.or_false, Bool.false_xor, Bool.xor_false, Bool.xor_true, not_true, not_false])
local macro_rules | `(tactic| walk_at "W") => `(tactic| simp -implicitDefEqProofs (disch := (first | omega | ((try simp only [List.length_cons, List.length_nil, List.length_map, List.length_append, List.length_range, List.length_take, List.length_set, List.length_reverse, enumD_len]) <;> omega) | fail)) only [wz_var, nn_f, nn_l, nn_dk, nn_ll, nn_tu, nn_o, wz_mv, mvK_f, mvK_l, mvK_dk, mvK_ll, mvK_tu, mvK_o, wz_f1, k1_s, wz_f2, k2_s, wz_fN, kN_s, wz_fC, wz_aNil, wz_aCons, kCons_s, wz_fT, kT_s, wz_tAnd, wz_tOr, wz_tNot, kAnd_t, kAnd_f, kOr_t, kOr_f, kNot_s, wz_fIf, kIf_t, kIf_f, wz_fAnd, wz_fOr, kBl_s, wz_fNot, wz_lift, kLift_s, wz_fFz, kFz_f, kFz_l, kFz_dk, wz_sNil, wz_sSeq, kSeq_nx, kSeq_rt, kSeq_bk, kSeq_ct, kSeq_xc, wz_sSet, kSet_s, wz_sExpr, kEx_s, wz_sRet, kRet_s, wz_sRetN, wz_sBk, wz_sCt, wz_liftB, kLiB_s, wz_oTest, kTst_s, wz_oNot, kONot_s, wz_sIf, kIfS_t, kIfS_f, kIfS_d, kV_s, wz_fCallV, kCall_0, kCall_1, kCall_2, kCall_3, kCall_4, kCall_5, kCall_6, kCall_7, wz_fDispD, wz_pNil, wz_pCons, kPair_s, kPair_i, wz_fNewL, kNl'_s, wz_fNewD, wz_sFor, kFor_s, for_nil, for_cons, kTgt_s, kBody_nx, kBody_ct, kBody_bk, kBody_rt, kBody_xc, wz_iVal, kIt_l, kIt_t, kIt_s, wz_iL1, kI1_s, wz_iL2, kI2_s, wz_iR1, kR1_s, wz_iR2, kR2_s, wz_gSet, wz_gsNil, wz_gsCons, kGs_s, deep_nil, deep_f, kDc_s, wz_gTup, wz_gLst, gSl_l, gSl_o, wz_sl00, wz_sl10, wz_sl01, wz_sl11, kS00_s, kS10_s, kS01_s, kS11_s, wz_fIsi, gIsi_ii, gIsi_ib, gIsi_ll, gIsi_lo, gIsi_tt, gIsi_ss, gIsi_bb, gIsi_dd, dec01, str_inj, gDiv_o, gMul_o, gShl_o, gShr_o, kVT_s, gIx_lst, gIx_own, gIx_tup, gIx_dct, gIx_dcti, gIx_odct, gIx_odcti, atI_pos, atI_neg, gTupT1, gTupT2, gTupT3, gTupT4, gTupT5, gIsNn_i, gIsNn_s, gIsNn_b, gIsNn_n, gIsNn_l, gIsNn_t, gIsNn_d, gIsNn_o, gIsNn_od, wz_fIsN, wz_fChain, kChain_s, kCh1_t, kCh1_f, kTurn_s, okW_nil, okW_cons, okV_n, okV_u, okV_f, wipeR_nil, wipeR_cons, wz_fLc, kLcB_t, kLc_s, lcF_nil, lcF_cons, kL1_s, kL2_t, kL2_f, kL2_d, kL3_s, tYes_s, wz_lcT, wz_jVal, kJV_l, kJV_t, kJV_s, wz_jL1, kJ1_s, wz_jL2, kJ2_s, wz_jR1, kJR1_s, wz_jR2, kJR2_s, wz_pHere, kMu_s, mutF_here, kNx_s, wz_sApp, kApp_s, appT_l, wz_sSetIx, kSI_s, setT_l, setT_ds, setT_di, wz_fzS, kF2_u, kF2_f, kF2_l, kF2_d, wz_sFz, kFS_s, gIn_ss, gIn_ii, gNotIn_ss, gNotIn_ii, gEq_sn, gEq_ns, gEq_in, gEq_ni, gEq_nn, gNe_sn, gNe_ns, gNe_in, gNe_ni, gNe_nn, gSum_l, gList_l, gList_t, gTuple_l, gTuple_t, atN_nil, atN_cons, atD_nil, atD_cons, setN_cons, sub_o, sub_l, sub_t, upd_o, upd_l, upd_t, getP_nil, getP_cons, kGp_s, putP_nil, putP_cons, kPp_s, kNn_f, kNn_l, kNn_dk, gAtt_f, gAtt_o, wz_pAt, kPA_s, kPA2_s, kPA3_s, wz_pIx, kPI_s, kPI2_l, kPI2_t, kPI3_s, kPI4_s, ixN_pos, ixN_neg, mutF_at, kM1_s, kM2_s, wz_sAtt, kSAt_s, attT_o, kAt_n, kAt_f, wz_sAttM, kSAM_s, kSAM2_s, attM_o, kAM_n, wz_sAttAug, kAG_s, kAG2_s, kAG5_s, wz_mE, kME_s, wz_mP, kMP_s, wz_mV, kMV_f, kMV_l, kMV_dk, kMV_ll, kMV_tu, kMV_o, wz_msNil, wz_msCons, kMs_s, kMs2_s, wz_mTup, wz_mLst, kMTup_s, kMLst_s, wz_mNew, kMN_s, kMN2_s, wz_mNewD, wz_mPart, kMPt_s, kMPt2_s, kMPt3_l, kMPt3_d, wz_mCall, kMC_s, kMC2_s, kMC3_s, wz_mCat, kMCa_s, kMCa2_s, gCatO_ol, gCatO_ll, gCatO_lo, gCat_ol, gCat_lo, gCat_oo, wz_mLc, kMLc_s, wz_sAppM, kAM1_s, kAM2_l, kAM2_ll, kAM3_s, appM_ll, wz_fPop, kPop_s, kPop2_s, kPop3_s, kPop4_s, popT_l, popT_tu, popT_lf, gTupM2, gTupM3, gTupM4, gTupN2, gTupN3, gTupN4, wz_sAsg, kAsg_s, wz_bNil, wz_bCons, kBC_s, kBC2_s, wz_bSlot, kBS_f, kBS_l, kBS_dk, kBS_ll, kBS_tu, kBS_o, kBS2_s, take_nil, take_v, take_s, kTs_f, kTs_l, kTs_dk, kTs_ll, kTs_tu, kTs_o, kTk_s, put_nil, put_v, put_s, wz_fCall, kCl_s, kCl2_s, kIo_t, kCl3_s, ioOk_nil, ioOk_cons, isF_f, cont_nil, cont_cons, conS_nil, conS_cons, wz_fMeth, kMt_s, kMt2_f, wz_fMethV, kMv_o, kMv_f, kMv2_f, kCall_o, kCall_l, kCall_dk, kCall_tu, kCall_ll, kCall_f1, kCall_f2, kCO_s, kCO2_i, kCO2_b, kCO2_s, fzs_nil, fzs_cons, kFs_s, fz_f, fz_l, fz_dk, fz_o, fz_tu, fz_ll, kFo_s, kFt_s, kFl_s, kF2_o, kF2_tu, kF2_ll, kFz2_s, kFz_o, kFz_tu, kFz_ll, kFzR_s, wz_fzR, val_ok, wz_fMake, kMk_s, kMk2_s, wz_mkF, kMk3_t, kMk4_s, wz_oAnd, wz_oOr, kOAnd_t, kOAnd_f, kOOr_f, kOOr_t, wz_sAug, gAddI_i, wz_fGet, kG3_s, gGet_f, gGet_o, gCopy_f, gCopy_o, wz_sClr, kClr_s, clrT_s, gRevL_l, gRevL_o, gVals_f, gVals_o, kNn_ll, kNn_tu, kNn_o, Z.gIx_ll, gIx_tu, gLen_ll, gLen_tu, gLen_dk, gLen_df, kRun_rt, kRun_nx, outs_nil, outs_cons, kOut_t, kOut_f, last_n, last_g, last_s, cast1, cast2, cast3, cast4, cast5, cast6, cast7, cast8, cast9, cast10, cast11, cast12, wz_sWhile, kW1_f, kW1_t, kW2_nx, kW2_ct, kW2_bk, kW2_rt, gDictOf_f, gDictOf_o, wz_fTix, kTix_s, kNoX_nx, kNoX_rt, wz_sForK, kForK_s, wz_fE2, kE2_s, wz_sSetIxE, kSE_s, kSE2_s, kSE3_l, kSE4_s, wz_bAl, kAl_dk, kAl2_s, take_a, put_a, wz_fCallA, kCA_do, isF_un, wz_fD0, wz_mCopy, kCp_f, kCp_o, nn_dix, wz_fNewX, gInZ_b, gNotInZ_b, wz_sSetX, kSX_s, setX_b, gListX_l, gListX_t, gListX_d, kTp_s, kLs_s, kNl_s, kDisp_s, gCat_l, gCat_s, oval_rt', oval_nx', gMod_ok, Sum.inr.injEq, Sum.inl.injEq, reduceCtorEq, String.reduceEq, reduceIte, gAdd_i, gSub_i, gBAnd_i, gBOr_i, gBXor_i, gLt_i, gLe_i, gGt_i, gGe_i, gEq_i, gEq_s, gEq_b, gEq_is, gEq_si, gNe_i, gNe_s, gNe_b, gNe_is, gNe_si, gNeg_i, gInt1_i, gInt1_b, gMax2_i, gMin2_i, gLen_l, gLen_t, gLen_o, List.getElem?_cons_zero, List.getElem?_cons_succ, List.set_cons_zero, List.set_cons_succ, List.length_cons, List.length_nil, List.map_cons, List.map_nil, List.cons_append, List.nil_append, List.replicate, List.length_map, Nat.zero_add, Nat.reduceAdd, Nat.reduceSub, Nat.reduceLeDiff, Nat.reduceEqDiff, Bool.not_true, Bool.not_false, Bool.not_not, if_true, if_false, Bool.false_eq_true, decide_true, decide_false, eq_self, Int.reduceLT, Int.reduceLE, Int.reduceEq, Int.reduceToNat, Int.reduceAdd, Int.reduceSub, Int.toNat_natCast, Bool.true_xor, Bool.true_and, Bool.and_true, Bool.false_and, Bool.and_false, Bool.true_or, Bool.or_true, Bool.false_or, Bool.or_false, Bool.false_xor, Bool.xor_false, Bool.xor_true, not_true, not_false, *])
def ops : List Str := ["plus", "less", "and", "or", "xor", "below", "same"]
def rk (op : Str) (x y : Int) (w : Nat) : Int :=
  if op = "plus" then (x + y) % 2 ^ w else if op = "less" then (x - y) % 2 ^ w else if op = "and" then Builtin.bitAnd x y
  else if op = "or" then Builtin.bitOr x y else if op = "xor" then Builtin.bitXor x y else if op = "below" then (if x < y then 1 else 0) else if x = y then 1 else 0
/-! deeds -/
inductive Opd where
  | nm (x : Str)
  | wd (i : Int)
def Opd.d : Opd → D
  | .nm x => .str x
  | .wd i => .int i
def Opd.Ok (names : List Str) (w : Nat) : Opd → Prop
  | .nm x => x ∈ names
  | .wd i => 0 ≤ i ∧ i < 2 ^ w
inductive Deed where
  | tell (a : Opd)
  | copy (n : Str) (a : Opd)
  | op (p n : Str) (a b : Opd)
def Deed.d : Deed → D
  | .tell a => .tup [.str "tell", a.d]
  | .copy n a => .tup [.str "copy", .str n, a.d]
  | .op p n a b => .tup [.str p, .str n, a.d, b.d]
def Deed.Ok (names : List Str) (w : Nat) : Deed → Prop
  | .tell a => a.Ok names w
  | .copy n a => n ∈ names ∧ a.Ok names w
  | .op p n a b => p ∈ ops ∧ n ∈ names ∧ a.Ok names w ∧ b.Ok names w
theorem isi_nm {x : Str} : gIsi "str" (.f (.str x)) = some (.f (.bl true)) := gIsi_ss
theorem kitB_is : kitB "int" "str" = some false := by decide +kernel
theorem isi_wd {i : Int} : gIsi "str" (.f (.int i)) = some (.f (.bl false)) := congrArg (Option.map fun b => T.f (.bl b)) kitB_is
theorem ops_not {p : Str} (h : p ∈ ops) : (p = "tell") = False ∧ (p = "copy") = False ∧ (p = "if") = False ∧ (p = "while") = False := by
  simp only [ops, List.mem_cons, List.mem_nil_iff, or_false] at h
  rcases h with rfl | rfl | rfl | rfl | rfl | rfl | rfl <;> exact ⟨eq_false (by decide), eq_false (by decide), eq_false (by decide), eq_false (by decide)⟩
theorem seven (j : Nat) (h : j < 7) : ∃ op, op ∈ ops ∧ [D.str "plus", .str "less", .str "and", .str "or", .str "xor", .str "below", .str "same"][j]? = some (.str op) := by
  have h3 : j = 0 ∨ j = 1 ∨ j = 2 ∨ j = 3 ∨ j = 4 ∨ j = 5 ∨ j = 6 := by omega
  rcases h3 with rfl | rfl | rfl | rfl | rfl | rfl | rfl
  · exact ⟨"plus", by simp [ops], rfl⟩
  · exact ⟨"less", by simp [ops], rfl⟩
  · exact ⟨"and", by simp [ops], rfl⟩
  · exact ⟨"or", by simp [ops], rfl⟩
  · exact ⟨"xor", by simp [ops], rfl⟩
  · exact ⟨"below", by simp [ops], rfl⟩
  · exact ⟨"same", by simp [ops], rfl⟩
def Deed.hd : Deed → Str
  | .tell _ => "tell"
  | .copy _ _ => "copy"
  | .op p _ _ _ => p
def Deed.tl : Deed → List D
  | .tell a => [a.d]
  | .copy n a => [.str n, a.d]
  | .op _ n a b => [.str n, a.d, b.d]
theorem Deed.d_eq (d : Deed) : d.d = .tup (.str d.hd :: d.tl) := by cases d <;> rfl
/-! statements -/
inductive Pg where
  | dd (d : Deed)
  | ite (x : Str) (a b : List Pg)
  | whl (x : Str) (a : List Pg)
mutual
def Pg.d : Pg → D
  | .dd d => d.d
  | .ite x a b => .tup [.str "if", .str x, .lst (Pg.ds a), .lst (Pg.ds b)]
  | .whl x a => .tup [.str "while", .str x, .lst (Pg.ds a)]
def Pg.ds : List Pg → List D
  | [] => []
  | p :: l => p.d :: Pg.ds l
end
mutual
def Pg.dep : Pg → Nat
  | .dd _ => 0
  | .ite _ a b => 1 + max (Pg.deps a) (Pg.deps b)
  | .whl _ a => 1 + Pg.deps a
def Pg.deps : List Pg → Nat
  | [] => 0
  | p :: l => max p.dep (Pg.deps l)
end
mutual
def Pg.Ok (names : List Str) (w : Nat) : Pg → Prop
  | .dd d => d.Ok names w
  | .ite x a b => x ∈ names ∧ a.length ≤ 200 ∧ b.length ≤ 200 ∧ Pg.Oks names w a ∧ Pg.Oks names w b
  | .whl x a => x ∈ names ∧ a.length ≤ 200 ∧ Pg.Oks names w a
def Pg.Oks (names : List Str) (w : Nat) : List Pg → Prop
  | [] => True
  | p :: l => p.Ok names w ∧ Pg.Oks names w l
end
theorem ds_len : ∀ (l : List Pg), (Pg.ds l).length = l.length
  | [] => rfl
  | p :: l => by
    show (p.d :: Pg.ds l).length = _
    rw [List.length_cons, List.length_cons, ds_len l]
theorem ds_map : ∀ (l : List Pg), Pg.ds l = l.map Pg.d
  | [] => rfl
  | p :: l => by
    show p.d :: Pg.ds l = _
    rw [ds_map l]
    rfl
theorem ds_snoc {l : List Pg} {p : Pg} : Pg.ds (l ++ [p]) = Pg.ds l ++ [p.d] := by rw [ds_map, ds_map, List.map_append]; rfl
theorem deps_snoc {p : Pg} : ∀ (l : List Pg), Pg.deps (l ++ [p]) = max (Pg.deps l) p.dep
  | [] => by show max p.dep 0 = max 0 p.dep; omega
  | q :: l => by
    show max q.dep (Pg.deps (l ++ [p])) = max (max q.dep (Pg.deps l)) p.dep
    rw [deps_snoc l]
    omega
theorem oks_snoc {names : List Str} {w : Nat} {p : Pg} (hp : p.Ok names w) : ∀ (l : List Pg), Pg.Oks names w l → Pg.Oks names w (l ++ [p])
  | [], _ => ⟨hp, trivial⟩
  | q :: l, h => ⟨h.1, oks_snoc hp l h.2⟩
theorem oks_mono {A B : List Str} {w : Nat} (hAB : ∀ x ∈ A, x ∈ B) : (∀ p : Pg, p.Ok A w → p.Ok B w) ∧ (∀ l : List Pg, Pg.Oks A w l → Pg.Oks B w l) := by
  have opd : ∀ a : Opd, a.Ok A w → a.Ok B w := fun a h => by
    cases a with
    | nm x => exact hAB x h
    | wd i => exact h
  have deed : ∀ d : Deed, d.Ok A w → d.Ok B w := fun d h => by
    cases d with
    | tell a => exact opd a h
    | copy n a => exact ⟨hAB n h.1, opd a h.2⟩
    | op p n a b => exact ⟨h.1, hAB n h.2.1, opd a h.2.2.1, opd b h.2.2.2⟩
  have main : ∀ p : Pg, p.Ok A w → p.Ok B w := by
    intro p
    induction p using Pg.rec (motive_2 := fun l => Pg.Oks A w l → Pg.Oks B w l) with
    | dd d => intro h; rw [Pg.Ok] at h ⊢; exact deed d h
    | ite x a b iha ihb => intro h; rw [Pg.Ok] at h ⊢; exact ⟨hAB x h.1, h.2.1, h.2.2.1, iha h.2.2.2.1, ihb h.2.2.2.2⟩
    | whl x a iha => intro h; rw [Pg.Ok] at h ⊢; exact ⟨hAB x h.1, h.2.1, iha h.2.2⟩
    | nil => exact trivial
    | cons p l ihp ihl => rename_i h; exact ⟨ihp h.1, ihl h.2⟩
  refine ⟨main, fun l => ?_⟩
  induction l with
  | nil => intro _; exact trivial
  | cons p l ih => intro h; exact ⟨main p h.1, ih h.2⟩
theorem whl_d {x : Str} {l : List Pg} : (Pg.whl x l).d = .tup [.str "while", .str x, .lst (Pg.ds l)] := by rw [Pg.d]
theorem ite_d {x : Str} {l m : List Pg} : (Pg.ite x l m).d = .tup [.str "if", .str x, .lst (Pg.ds l), .lst (Pg.ds m)] := by rw [Pg.d]
/-! boxes -/
def upd (f : Str → Int) (x : Str) (v : Int) : Str → Int := fun y => if y = x then v else f y
def bK (ks : List Str) : List Key := ks.map .inr
def bD (ks : List Str) (f : Str → Int) : List D := ks.map fun x => .int (f x)
theorem bK_len {ks : List Str} : (bK ks).length = ks.length := List.length_map _
theorem bD_at {f : Str → Int} {x : Str} : ∀ {ks : List Str}, x ∈ ks → dAt (bK ks) (bD ks f) (.inr x) = some (.int (f x))
  | [], h => by cases h
  | k :: ks, h => by
    show (if (Sum.inr k : Key) = .inr x then some (D.int (f k)) else dAt (bK ks) (bD ks f) (.inr x)) = _
    by_cases q : k = x
    · subst q; rw [if_pos rfl]
    · rw [if_neg (fun z => q (Sum.inr.inj z)), bD_at ((List.mem_cons.mp h).resolve_left (fun z => q z.symm))]
theorem bD_no {f : Str → Int} {x : Str} : ∀ {ks : List Str}, x ∉ ks → dAt (bK ks) (bD ks f) (.inr x) = none
  | [], _ => rfl
  | k :: ks, h => by
    show (if (Sum.inr k : Key) = .inr x then some (D.int (f k)) else dAt (bK ks) (bD ks f) (.inr x)) = _
    rw [if_neg (fun z => h (by rw [Sum.inr.inj z]; exact List.mem_cons_self)), bD_no (fun z => h (List.mem_cons_of_mem _ z))]
theorem bK_any {x : Str} : ∀ {ks : List Str}, ((bK ks).any fun q => decide (q = .inr x)) = decide (x ∈ ks)
  | [] => rfl
  | k :: ks => by
    show (decide ((Sum.inr k : Key) = .inr x) || ((bK ks).any fun q => decide (q = .inr x))) = _
    rw [bK_any]
    by_cases q : k = x
    · subst q; simp
    · rw [decide_eq_false (fun z => q (Sum.inr.inj z)), Bool.false_or]
      by_cases q2 : x ∈ ks
      · rw [decide_eq_true q2, decide_eq_true (List.mem_cons_of_mem _ q2)]
      · rw [decide_eq_false q2, decide_eq_false (fun z => (List.mem_cons.mp z).elim (fun z => q z.symm) q2)]
theorem bD_zip {f : Str → Int} {x : Str} {v : Int} : ∀ {ks : List Str}, List.zipWith (fun q e => if q = (.inr x : Key) then .int v else e) (bK ks) (bD ks f) = bD ks (upd f x v)
  | [] => rfl
  | k :: ks => by
    show (if (Sum.inr k : Key) = .inr x then D.int v else .int (f k)) :: List.zipWith _ (bK ks) (bD ks f) = .int (upd f x v k) :: bD ks (upd f x v)
    rw [bD_zip]
    unfold upd
    by_cases q : k = x
    · subst q; rw [if_pos rfl, if_pos rfl]
    · rw [if_neg (fun z => q (Sum.inr.inj z)), if_neg q]
theorem bD_upd {f : Str → Int} {x : Str} {v : Int} {ks : List Str} (h : x ∉ ks) : bD ks (upd f x v) = bD ks f := by
  unfold bD
  refine List.map_congr_left fun y hy => ?_
  unfold upd
  rw [if_neg (fun z => h (by rw [← z]; exact hy))]
/-- the keys behind a store -/
def kput (ks : List Str) (x : Str) : List Str := if x ∈ ks then ks else ks ++ [x]
theorem kput_mem {ks : List Str} {x : Str} (h : x ∈ ks) : kput ks x = ks := if_pos h
theorem kput_len {ks : List Str} {x : Str} : (kput ks x).length ≤ ks.length + 1 := by
  unfold kput
  split
  · omega
  · rw [List.length_append]; exact Nat.le_refl _
theorem kput_nd {ks : List Str} {x : Str} (h : ks.Nodup) : (kput ks x).Nodup := by
  unfold kput
  split
  · exact h
  · rename_i q
    exact List.nodup_append.mpr ⟨h, by simp, fun a ha b hb => by
      rw [List.mem_singleton.mp hb]
      rintro rfl
      exact q ha⟩
theorem kput_in {ks : List Str} {x y : Str} : y ∈ kput ks x ↔ y ∈ ks ∨ y = x := by
  unfold kput
  split
  · rename_i q
    exact ⟨.inl, fun h => h.elim id (fun z => by rw [z]; exact q)⟩
  · simp
theorem bput {f : Str → Int} {x : Str} {v : Int} {ks : List Str} : dput (bK ks) (bD ks f) (.inr x) (.int v) = (bK (kput ks x), bD (kput ks x) (upd f x v)) := by
  unfold dput kput
  rw [bK_any]
  by_cases q : x ∈ ks
  · rw [if_pos (decide_eq_true q), if_pos q, bD_zip]
  · rw [if_neg (by rw [decide_eq_false q]; simp), if_neg q]
    unfold bK
    have h1 : bD (ks ++ [x]) (upd f x v) = bD ks f ++ [.int v] := by
      have h2 : bD (ks ++ [x]) (upd f x v) = bD ks (upd f x v) ++ [.int (upd f x v x)] := by unfold bD; rw [List.map_append]; rfl
      rw [h2, bD_upd q]
      unfold upd
      rw [if_pos rfl]
    rw [h1, List.map_append]
    rfl
theorem bput1 {f : Str → Int} {x : Str} {v : Int} {ks : List Str} : (dput (bK ks) (bD ks f) (.inr x) (.int v)).1 = bK (kput ks x) := by rw [bput]
theorem bput2 {f : Str → Int} {x : Str} {v : Int} {ks : List Str} : (dput (bK ks) (bD ks f) (.inr x) (.int v)).2 = bD (kput ks x) (upd f x v) := by rw [bput]
theorem upd_self {f : Str → Int} {x : Str} : upd f x (f x) = f := by
  funext y
  unfold upd
  split
  · rename_i h; rw [h]
  · rfl
def ded (l : List Str) : List Str := l.foldl kput []
theorem ded_snoc {l : List Str} {x : Str} : ded (l ++ [x]) = kput (ded l) x := by unfold ded; rw [List.foldl_append]; rfl
theorem ded_aux {x : Str} : ∀ (l ks : List Str), x ∈ l.foldl kput ks ↔ x ∈ ks ∨ x ∈ l
  | [], ks => by simp
  | y :: l, ks => by
    rw [List.foldl_cons, ded_aux l, kput_in, List.mem_cons]
    constructor
    · rintro ((h | h) | h)
      · exact .inl h
      · exact .inr (.inl h)
      · exact .inr (.inr h)
    · rintro (h | h | h)
      · exact .inl (.inl h)
      · exact .inl (.inr h)
      · exact .inr h
theorem ded_in {x : Str} {l : List Str} : x ∈ ded l ↔ x ∈ l := by unfold ded; rw [ded_aux]; simp
theorem ded_len : ∀ (l ks : List Str), (l.foldl kput ks).length ≤ ks.length + l.length
  | [], _ => Nat.le_refl _
  | y :: l, ks => by
    rw [List.foldl_cons, List.length_cons]
    have := ded_len l (kput ks y)
    have := kput_len (ks := ks) (x := y)
    omega
theorem ded_nd : ∀ (l ks : List Str), ks.Nodup → (l.foldl kput ks).Nodup
  | [], _, h => h
  | y :: l, ks, h => by rw [List.foldl_cons]; exact ded_nd l _ (kput_nd h)
theorem take_snoc {α : Type} {l : List α} {i : Nat} {a : α} (h : l[i]? = some a) : l.take (i + 1) = l.take i ++ [a] := by
  rw [List.take_succ, h]
  rfl
/-- the words at the beginning -/
def f0 (ins : List Str) (g : Str → Int) : Str → Int := fun y => if y ∈ ins then g y else 0
theorem f0_snoc {l : List Str} {g : Str → Int} {a : Str} : upd (f0 l g) a (g a) = f0 (l ++ [a]) g := by
  funext y
  unfold upd f0
  by_cases h : y = a
  · subst h
    rw [if_pos rfl, if_pos (by simp)]
  · rw [if_neg h]
    by_cases q : y ∈ l
    · rw [if_pos q, if_pos (List.mem_append_left _ q)]
    · rw [if_neg q, if_neg (fun z => (List.mem_append.mp z).elim q (fun z => h (List.mem_singleton.mp z)))]
theorem get_f0 {ins : List Str} {g : Str → Int} {x : Str} : (dAt (bK (ded ins)) (bD (ded ins) g) (.inr x)).getD (.int 0) = .int (f0 ins g x) := by
  unfold f0
  by_cases h : x ∈ ins
  · rw [bD_at (ded_in.mpr h), if_pos h]; rfl
  · rw [bD_no (fun z => h (ded_in.mp z)), if_neg h]; rfl
theorem ded_le {l : List Str} {k : Nat} (h : l.length ≤ k) : (ded l).length ≤ k := by
  have := ded_len l []
  unfold ded
  simp only [List.length_nil, Nat.zero_add] at this
  omega
theorem dk_refl {ks : List Str} {f : Str → Int} : ∀ l : List Str, (∀ x ∈ l, x ∈ ks) → dkSub (bK ks) (bD ks f) (bK l) (bD l f) = true
  | [], _ => rfl
  | x :: l, h => by
    show ((match (T.f (.int (f x))).v?, (dAt (bK ks) (bD ks f) (.inr x)).bind fun y => (T.f y).v? with | some v, some w => decide (v = w) | _, _ => false) && dkSub (bK ks) (bD ks f) (bK l) (bD l f)) = true
    rw [bD_at (h x List.mem_cons_self), dk_refl l fun y hy => h y (List.mem_cons_of_mem _ hy), Bool.and_true]
    show decide (V.int (f x) = V.int (f x)) = true
    exact decide_eq_true rfl
theorem gEqX_dk {ks : List Str} {f : Str → Int} : gEqX (.f (.dct (bK ks) (bD ks f))) (.f (.dct (bK ks) (bD ks f))) = some (.f (.bl true)) := by
  unfold gEqX
  rw [or2_none rfl]
  exact if_pos ⟨rfl, dk_refl ks fun _ h => h⟩
theorem gNeX_dk {ks : List Str} {f : Str → Int} : gNeX (.f (.dct (bK ks) (bD ks f))) (.f (.dct (bK ks) (bD ks f))) = some (.f (.bl false)) := by
  unfold gNeX
  rw [or2_none rfl]
  exact if_pos ⟨rfl, dk_refl ks fun _ h => h⟩
theorem two_cast (w : Nat) : (2 : Int) ^ w = ((2 ^ w : Nat) : Int) := by
  rw [Int.natCast_pow]
  rfl
/-! what the statements do -/
structure Ms where
  f : Str → Int
  told : List Int
def Opd.ev (f : Str → Int) : Opd → Int
  | .nm x => f x
  | .wd i => i
def Deed.run (w : Nat) (d : Deed) (s : Ms) : Ms := match d with
  | .tell a => ⟨s.f, s.told ++ [a.ev s.f]⟩
  | .copy n a => ⟨upd s.f n (a.ev s.f), s.told⟩
  | .op p n a b => ⟨upd s.f n (rk p (a.ev s.f) (b.ev s.f) w), s.told⟩
/-- step by step -/
def mrun (w : Nat) : Nat → List Pg → Ms → Bool × Ms × Nat
  | n, [], s => (true, s, n)
  | 0, _ :: _, s => (false, s, 0)
  | n + 1, .dd d :: K, s => mrun w n K (d.run w s)
  | n + 1, .ite x a b :: K, s => mrun w n ((if s.f x = 0 then b else a) ++ K) s
  | n + 1, .whl x a :: K, s => if s.f x = 0 then mrun w n K s else mrun w n (a ++ .whl x a :: K) s
/-- the words are words -/
def Rng (ks : List Str) (w : Nat) (f : Str → Int) : Prop := ∀ x ∈ ks, 0 ≤ f x ∧ f x < 2 ^ w
theorem rng_upd {ks : List Str} {w : Nat} {f : Str → Int} {x : Str} {v : Int} (h : Rng ks w f) (h0 : 0 ≤ v) (h1 : v < 2 ^ w) : Rng ks w (upd f x v) := fun y hy => by
  unfold upd
  split
  · exact ⟨h0, h1⟩
  · exact h y hy
theorem ev_rng {ks : List Str} {w : Nat} {f : Str → Int} {a : Opd} (h : Rng ks w f) (ha : a.Ok ks w) : 0 ≤ a.ev f ∧ a.ev f < 2 ^ w := by
  cases a with
  | nm x => exact h x ha
  | wd i => exact ha
theorem rk_rng {p : Str} {x y : Int} {w : Nat} (hw : 1 ≤ w) (hx : 0 ≤ x ∧ x < 2 ^ w) (hy : 0 ≤ y ∧ y < 2 ^ w) : 0 ≤ rk p x y w ∧ rk p x y w < 2 ^ w := by
  have hp : (0 : Int) < 2 ^ w := Int.pow_pos (by decide)
  have h2 : (2 : Int) ≤ 2 ^ w := by
    obtain ⟨k, rfl⟩ : ∃ k, w = k + 1 := ⟨w - 1, by omega⟩
    have : (0 : Int) < 2 ^ k := Int.pow_pos (by decide)
    rw [Int.pow_succ]; omega
  obtain ⟨⟨hx0, hx1⟩, hy0, hy1⟩ := And.intro hx hy
  have tc := two_cast w
  obtain ⟨a, rfl⟩ := Int.eq_ofNat_of_zero_le hx0
  obtain ⟨b, rfl⟩ := Int.eq_ofNat_of_zero_le hy0
  have ha : a < 2 ^ w := by omega
  have hb : b < 2 ^ w := by omega
  unfold rk
  split
  · exact ⟨Int.emod_nonneg _ (by omega), Int.emod_lt_of_pos _ hp⟩
  split
  · exact ⟨Int.emod_nonneg _ (by omega), Int.emod_lt_of_pos _ hp⟩
  split
  · rw [PyProof.Rows.bitAnd_pp (by omega) (by omega)]
    have := Nat.and_lt_two_pow a hb
    simp only [Int.toNat_natCast]
    omega
  split
  · rw [Bits.bitOr_pp (by omega) (by omega)]
    have := Nat.or_lt_two_pow ha hb
    simp only [Int.toNat_natCast]
    omega
  split
  · rw [Bits.bitXor_pp (by omega) (by omega)]
    have := Nat.xor_lt_two_pow ha hb
    simp only [Int.toNat_natCast]
    omega
  split
  · split <;> omega
  · split <;> omega
theorem run_rng {ks : List Str} {w : Nat} {d : Deed} {s : Ms} (hw : 1 ≤ w) (h : Rng ks w s.f) (hd : d.Ok ks w) : Rng ks w (d.run w s).f := by
  cases d with
  | tell a => exact h
  | copy n a => exact rng_upd h (ev_rng h hd.2).1 (ev_rng h hd.2).2
  | op p n a b =>
    have := rk_rng (p := p) hw (ev_rng h hd.2.2.1) (ev_rng h hd.2.2.2)
    exact rng_upd h this.1 this.2
theorem run_told {w : Nat} {d : Deed} {s : Ms} : (d.run w s).told.length ≤ s.told.length + 1 := by
  cases d with
  | tell a => show (s.told ++ [_]).length ≤ _; rw [List.length_append]; exact Nat.le_refl _
  | copy n a => exact Nat.le_succ _
  | op p n a b => exact Nat.le_succ _

theorem mrun_nil {w n : Nat} {s : Ms} : mrun w n [] s = (true, s, n) := by cases n <;> rfl
theorem mrun_zero {w : Nat} {p : Pg} {K : List Pg} {s : Ms} : mrun w 0 (p :: K) s = (false, s, 0) := by cases p <;> rfl
theorem mrun_dd {w n : Nat} {d : Deed} {K : List Pg} {s : Ms} : mrun w (n + 1) (.dd d :: K) s = mrun w n K (d.run w s) := rfl
theorem mrun_ite {w n : Nat} {x : Str} {a b K : List Pg} {s : Ms} : mrun w (n + 1) (.ite x a b :: K) s = mrun w n ((if s.f x = 0 then b else a) ++ K) s := rfl
theorem mrun_whl {w n : Nat} {x : Str} {a K : List Pg} {s : Ms} : mrun w (n + 1) (.whl x a :: K) s = if s.f x = 0 then mrun w n K s else mrun w n (a ++ .whl x a :: K) s := rfl
/-! how deeds lean -/
def Opd.rd : Opd → List Str
  | .nm x => [x]
  | .wd _ => []
def Deed.rd : Deed → List Str
  | .tell a => a.rd
  | .copy _ a => a.rd
  | .op _ _ a b => a.rd ++ b.rd
def Deed.wr : Deed → Option Str
  | .tell _ => none
  | .copy n _ => some n
  | .op _ n _ _ => some n
theorem opd_isi (a : Opd) : gIsi "str" (.f a.d) = some (.f (.bl (match a with | .nm _ => true | .wd _ => false))) := by
  cases a with
  | nm x => exact isi_nm
  | wd i => exact isi_wd
theorem tell_of {p : Str} (h : p ∈ ops) : (p = "tell") = False ∧ (p = "copy") = False := by
  simp only [ops, List.mem_cons, List.mem_nil_iff, or_false] at h
  rcases h with rfl | rfl | rfl | rfl | rfl | rfl | rfl <;> exact ⟨eq_false (by decide), eq_false (by decide)⟩
theorem cut_1 {a b : D} : cutD [a, b] (some 1) none = [b] := rfl
theorem cut_2a {a b c : D} : cutD [a, b, c] (some 2) none = [c] := rfl
theorem cut_2b {a b c d : D} : cutD [a, b, c, d] (some 2) none = [c, d] := rfl
theorem cut_2c {a b : D} : cutD [a, b] (some 2) none = [] := rfl
theorem gSl_t {ds : List D} {i : Int} (h : 0 < i) (h2 : ds ≠ []) : gSl (.f (.tup ds)) (some i) none = some (.f (.tup (cutD ds (some i) none))) := by
  show (if HT.sIx ds.length 0 (some i) = 0 ∧ HT.sIx ds.length ds.length none = ds.length then none else _) = _
  rw [if_neg]
  rintro ⟨z, _⟩
  obtain ⟨n, rfl⟩ := Int.eq_ofNat_of_zero_le (Int.le_of_lt h)
  rw [HT.sIx_nat] at z
  cases ds with
  | nil => exact h2 rfl
  | cons a l =>
    rw [List.length_cons] at z
    omega
theorem reads_ok (dd : Deed) {names : List Str} {w : Nat} (h : dd.Ok names w) : val (g_reads [.f dd.d]) = some (.lst (dd.rd.map .str)) := by
  have hv : val (g_reads [.f dd.d]) = oval (b_reads ([.f dd.d] ++ List.replicate (3 - 1) .un)) 1 := val_run (m := 1) (n := 3) rfl
  rw [hv]
  clear hv
  have c1 := @cut_1
  have c2 := @cut_2a
  have c3 := @cut_2b
  have c4 := @cut_2c
  have s1 : ∀ {ds : List D} {a : D}, gSl (.f (.tup (a :: ds))) (some 1) none = some (.f (.tup (cutD (a :: ds) (some 1) none))) := gSl_t (by decide) (by simp)
  have s2 : ∀ {ds : List D} {a : D}, gSl (.f (.tup (a :: ds))) (some 2) none = some (.f (.tup (cutD (a :: ds) (some 2) none))) := gSl_t (by decide) (by simp)
  have k1 := @isi_nm
  have k2 := @isi_wd
  cases dd with
  | tell a =>
    clear h
    cases a with
    | nm x =>
      unfold b_reads m_reads_1 n_reads_1 Deed.d Opd.d Deed.rd Opd.rd
      walk_at "W"
    | wd i =>
      unfold b_reads m_reads_1 n_reads_1 Deed.d Opd.d Deed.rd Opd.rd
      walk_at "W"
  | copy n a =>
    clear h
    cases a with
    | nm x =>
      unfold b_reads m_reads_1 n_reads_1 Deed.d Opd.d Deed.rd Opd.rd
      walk_at "W"
    | wd i =>
      unfold b_reads m_reads_1 n_reads_1 Deed.d Opd.d Deed.rd Opd.rd
      walk_at "W"
  | op p n a b =>
    have hp := (tell_of h.1).1
    clear h
    cases a with
    | nm x =>
      cases b with
      | nm y =>
        unfold b_reads m_reads_1 n_reads_1 Deed.d Opd.d Deed.rd Opd.rd
        walk_at "W"
      | wd j =>
        unfold b_reads m_reads_1 n_reads_1 Deed.d Opd.d Deed.rd Opd.rd
        walk_at "W"
    | wd i =>
      cases b with
      | nm y =>
        unfold b_reads m_reads_1 n_reads_1 Deed.d Opd.d Deed.rd Opd.rd
        walk_at "W"
      | wd j =>
        unfold b_reads m_reads_1 n_reads_1 Deed.d Opd.d Deed.rd Opd.rd
        walk_at "W"
theorem writes_ok (dd : Deed) {names : List Str} {w : Nat} (h : dd.Ok names w) : val (g_writes [.f dd.d]) = some (match dd.wr with | some n => .str n | none => .non) := by
  have hv : val (g_writes [.f dd.d]) = oval (b_writes ([.f dd.d] ++ List.replicate (1 - 1) .un)) 1 := val_run (m := 1) (n := 1) rfl
  rw [hv]
  clear hv
  cases dd with
  | tell a =>
    clear h
    unfold b_writes Deed.d Deed.wr
    walk_at "W"
  | copy n a =>
    clear h
    unfold b_writes Deed.d Deed.wr
    walk_at "W"
  | op p n a b =>
    have hp := (tell_of h.1).1
    clear h
    unfold b_writes Deed.d Deed.wr
    walk_at "W"
theorem log2_bits {z : Int} (h : Builtin.Int.intBits z ≤ 1048576) : z.natAbs.log2 ≤ 1048576 := by
  unfold Builtin.Int.intBits at h
  split at h
  · rename_i h0
    have : z = 0 := by simpa using h0
    subst this
    simp
  · omega
theorem mixed_ok {c k : Int} (hb : Builtin.Int.intBits c ≤ 1048576) (h0 : 0 ≤ k) (h1 : k < 1000) : ∃ m : Int, 0 ≤ m ∧ m < 2 ^ 100 ∧ val (g_law_mixed [.f (.int c), .f (.int k)]) = some (.int m) := by
  have hv : val (g_law_mixed [.f (.int c), .f (.int k)]) = oval (b_law_mixed ([.f (.int c), .f (.int k)] ++ List.replicate (3 - 2) .un)) 2 := val_run (m := 2) (n := 3) rfl
  rw [hv]
  clear hv
  unfold b_law_mixed
  have e40 : gPow (.f (.int 10)) (.f (.int 40)) = some (.f (.int (10 ^ 40))) := gPow_ok (by decide) (by decide) (by decide)
  have hk60 : 0 ≤ k % 60 ∧ k % 60 < 60 := ⟨Int.emod_nonneg _ (by decide), Int.emod_lt_of_pos _ (by decide)⟩
  by_cases hc : (10 : Int) ^ 40 ≤ c
  · have hp : (0 : Int) < 2 ^ (100 * (k % 60)).toNat := Int.pow_pos (by decide)
    have e5 : gDiv (.f (.int (c - 10 ^ 40))) (.f (.int (2 ^ (100 * (k % 60)).toNat))) = some (.f (.int ((c - 10 ^ 40) / (2 ^ (100 * (k % 60)).toNat)))) := gDiv_ok hp (by
      rw [Int.natAbs_pow]
      exact Nat.pow_lt_pow_right (by decide) (by omega))
    have e6 := gMod_ok (i := (c - 10 ^ 40) / (2 ^ (100 * (k % 60)).toNat)) (j := 2 ^ (100 : Int).toNat) (by decide)
    refine ⟨((c - 10 ^ 40) / (2 ^ (100 * (k % 60)).toNat)) % (2 ^ (100 : Int).toNat), Int.emod_nonneg _ (by decide), Int.emod_lt_of_pos _ (by decide), ?_⟩
    have hcd := decide_eq_true hc
    clear hp hb hk60
    walk_at "W"
  · have hs : (c * c).natAbs = c.natAbs * c.natAbs := Int.natAbs_mul c c
    have hl := log2_bits hb
    have m1 : gMul (.f (.int c)) (.f (.int c)) = some (.f (.int (c * c))) := gMul_ok (by omega)
    have m2 : gMul (.f (.int 3)) (.f (.int c)) = some (.f (.int (3 * c))) := gMul_ok (by
      have a : (3 : Int).natAbs.log2 < 7 := by decide
      omega)
    have bc : c.natAbs < 2 ^ 1048577 := by
      by_cases z : c.natAbs = 0
      · rw [z]; exact Nat.two_pow_pos _
      · exact (Nat.log2_lt z).mp (by omega)
    have bx : (c * c + 3 * c + 7919 * k + 1).natAbs < 2 ^ 2097158 := by
      have q1 : c.natAbs * c.natAbs < 2 ^ 1048577 * 2 ^ 1048577 := Nat.mul_lt_mul'' bc bc
      rw [← Nat.pow_add] at q1
      have q2 : (2 : Nat) ^ 1048577 ≤ 2 ^ (1048577 + 1048577) := Nat.pow_le_pow_right (by decide) (by decide)
      have q3 : (2 : Nat) ^ 24 ≤ 2 ^ (1048577 + 1048577) := Nat.pow_le_pow_right (by decide) (by decide)
      have q4 : (2 : Nat) ^ 2097158 = 2 ^ (1048577 + 1048577) * 2 ^ 4 := by rw [← Nat.pow_add]
      rw [q4]
      generalize (2 : Nat) ^ (1048577 + 1048577) = G at *
      generalize (2 : Nat) ^ 1048577 = G2 at *
      generalize hcc : c * c = cc at *
      omega
    have m4 : gMul (.f (.int (c * c + 3 * c + 7919 * k + 1))) (.f (.int 48271)) = some (.f (.int ((c * c + 3 * c + 7919 * k + 1) * 48271))) := gMul_ok (by
      have a : (48271 : Int).natAbs.log2 < 17 := by decide
      have b : (c * c + 3 * c + 7919 * k + 1).natAbs.log2 < 2097158 := log2_small (k := 2097157) bx
      omega)
    have m5 := gMod_ok (i := (c * c + 3 * c + 7919 * k + 1) * 48271) (j := 2147483629) (by decide)
    generalize hn : (c * c + 3 * c + 7919 * k + 1) * 48271 % 2147483629 = n at m5
    have hn0 : 0 ≤ n := by rw [← hn]; exact Int.emod_nonneg _ (by decide)
    have hn1 : n < 2147483629 := by rw [← hn]; exact Int.emod_lt_of_pos _ (by decide)
    refine ⟨(n * n + 7) % 2147483587, Int.emod_nonneg _ (by decide), Int.lt_trans (Int.emod_lt_of_pos _ (by decide)) (by decide), ?_⟩
    have hcd := decide_eq_false hc
    clear hc hn bx bc hl hs hb hk60
    walk_at "W"
theorem whole_ok (i : Int) : val (g_law_whole [.f (.int i)]) = some (.bl true) := by
  have hv : val (g_law_whole [.f (.int i)]) = oval (b_law_whole ([.f (.int i)] ++ List.replicate (1 - 1) .un)) 1 := val_run (m := 1) (n := 1) rfl
  rw [hv]
  unfold b_law_whole
  walk_at "w"

theorem law_operand_ok {m : Int} {names : List Str} {w : Nat} (hm : 0 ≤ m) (hw : w ≤ 100) :
    ∃ a : Opd, a.Ok names w ∧ val (g_law_operand [.f (.int m), .f (.lst (names.map .str)), .f (.int (w : Int))]) = some a.d := by
  have hv : val (g_law_operand [.f (.int m), .f (.lst (names.map .str)), .f (.int (w : Int))]) = oval (b_law_operand ([.f (.int m), .f (.lst (names.map .str)), .f (.int (w : Int))] ++ List.replicate (3 - 3) .un)) 3 := val_run (m := 3) (n := 3) rfl
  rw [hv]
  clear hv
  unfold b_law_operand
  by_cases h : 0 < m % 3 ∧ 0 < names.length
  · obtain ⟨h, hn⟩ := h
    obtain ⟨x, hx, h0, hp⟩ := pick hn (m / 3)
    have hp := hp D.str
    refine ⟨.nm x, hx, ?_⟩
    have ed : (Opd.nm x).d = .str x := rfl
    have hn2 : 0 < (names.length : Int) := by omega
    rw [ed]
    clear ed hx
    walk_at "W"
  · have hp : (0 : Int) < 2 ^ w := Int.pow_pos (by decide)
    refine ⟨.wd (m / 3 % 2 ^ w), ⟨Int.emod_nonneg _ (by omega), Int.emod_lt_of_pos _ hp⟩, ?_⟩
    have ed : (Opd.wd (m / 3 % 2 ^ w)).d = .int (m / 3 % 2 ^ w) := rfl
    rw [ed]
    clear ed
    by_cases h1 : 0 < m % 3
    · have h2 : ¬ 0 < (names.length : Int) := by omega
      clear h
      walk_at "W"
    · clear h
      walk_at "W"
theorem law_deed_ok {m : Int} {names : List Str} {w : Nat} (hm : 0 ≤ m) (hw : w ≤ 100) :
    ∃ d : Deed, d.Ok names w ∧ val (g_law_deed [.f (.int m), .f (.lst (names.map .str)), .f (.int (w : Int))]) = some d.d := by
  have hv : val (g_law_deed [.f (.int m), .f (.lst (names.map .str)), .f (.int (w : Int))]) = oval (b_law_deed ([.f (.int m), .f (.lst (names.map .str)), .f (.int (w : Int))] ++ List.replicate (6 - 3) .un)) 3 := val_run (m := 3) (n := 6) rfl
  rw [hv]
  clear hv
  unfold b_law_deed
  obtain ⟨a, ha, ea⟩ := law_operand_ok (m := m / 16) (names := names) (w := w) (by omega) hw
  obtain ⟨b, hb, eb⟩ := law_operand_ok (m := m / 1009) (names := names) (w := w) (by omega) hw
  by_cases hn : names.length = 0
  · refine ⟨.tell a, ha, ?_⟩
    simp only [Deed.d]
    have hn3 : (names.length : Int) = 0 := by omega
    clear ha hb hn
    by_cases h1 : m % 9 = 0
    · walk_at "W"
    · have h1 := eq_false h1
      walk_at "W"
  have hn : 0 < names.length := by omega
  obtain ⟨x, hx, h0, hp⟩ := pick hn (m / 7)
  have hp := hp D.str
  have hn2 : 0 < (names.length : Int) := by omega
  have hn3 : ¬ (names.length : Int) = 0 := by omega
  by_cases h1 : m % 9 = 0
  · refine ⟨.tell a, ha, ?_⟩
    simp only [Deed.d]
    clear ha hb hx
    walk_at "W"
  · by_cases h2 : m % 9 = 1
    · refine ⟨.copy x a, ⟨hx, ha⟩, ?_⟩
      simp only [Deed.d]
      clear ha hb hx
      have h1 := eq_false h1
      have h2 := eq_true h2
      walk_at "W"
    · obtain ⟨op, hop, ho⟩ := seven (m % 9 - 2).toNat (by omega)
      refine ⟨.op op x a b, ⟨hop, hx, ha, hb⟩, ?_⟩
      simp only [Deed.d]
      clear ha hb hx hop
      walk_at "W"

/-! the size of a program -/
mutual
def Pg.sz : Pg → Nat
  | .dd _ => 1
  | .ite _ a b => 1 + (Pg.szs a + Pg.szs b)
  | .whl _ a => 1 + Pg.szs a
def Pg.szs : List Pg → Nat
  | [] => 0
  | p :: l => p.sz + Pg.szs l
end
/-- out of the walk's sight -/
structure Hid (p : Prop) : Prop where
  out : p
/-! names -/
theorem strOk_app {x y : Str} (h1 : PyData.strOk x = true) (h2 : PyData.strOk y = true) : PyData.strOk (x ++ y) = true := by
  show (x.cps ++ y.cps).all (· < 0x110000) = true
  rw [Array.all_append]
  exact Bool.and_eq_true_iff.mpr ⟨h1, h2⟩
theorem letter_ok {i : Int} (h0 : 0 ≤ i) (h1 : i < 26) : ∃ x : Str, (x.length = 1 ∧ PyData.strOk x = true) ∧ gIx (.f (.str "abcdefghijklmnopqrstuvwxyz")) (.f (.int i)) = some (.f (.str x)) := by
  have hl : ("abcdefghijklmnopqrstuvwxyz" : Str).cps.toList.length = 26 := by decide +kernel
  have hlt : i.toNat < ("abcdefghijklmnopqrstuvwxyz" : Str).cps.toList.length := by rw [hl]; omega
  have e : atI ("abcdefghijklmnopqrstuvwxyz" : Str).cps.toList i = some (("abcdefghijklmnopqrstuvwxyz" : Str).cps.toList[i.toNat]) := by
    rw [atI_pos h0]
    exact List.getElem?_eq_getElem hlt
  have hall : ∀ c ∈ ("abcdefghijklmnopqrstuvwxyz" : Str).cps.toList, c < 0x110000 := by decide +kernel
  have hc := hall _ (List.getElem_mem hlt)
  refine ⟨⟨#[("abcdefghijklmnopqrstuvwxyz" : Str).cps.toList[i.toNat]]⟩, ⟨rfl, ?_⟩, ?_⟩
  · show (#[("abcdefghijklmnopqrstuvwxyz" : Str).cps.toList[i.toNat]] : Array Nat).all (· < 0x110000) = true
    rw [Array.all_eq_true]
    intro j hj
    have hj0 : j = 0 := by simp at hj; omega
    subst hj0
    exact decide_eq_true hc
  unfold gIx
  rw [or2_none rfl]
  refine or2_some ?_
  show (if ("abcdefghijklmnopqrstuvwxyz" : Str).length ≤ sizeLine then (atI ("abcdefghijklmnopqrstuvwxyz" : Str).cps.toList i).map fun c => T.f (.str ⟨#[c]⟩) else none) = _
  rw [if_pos (by decide +kernel), e]
  rfl
theorem law_names_ok {c : Int} (hb : Builtin.Int.intBits c ≤ 1048576) : ∃ l : List Str, l.length = 8 ∧ (∀ x ∈ l, PyData.strOk x = true) ∧ val (g_law_names [.f (.int c)]) = some (.lst (l.map .str)) := by
  have hv : val (g_law_names [.f (.int c)]) = oval (b_law_names ([.f (.int c)] ++ List.replicate (10 - 1) .un)) 1 := val_run (m := 1) (n := 10) rfl
  rw [hv]
  clear hv
  unfold b_law_names
  obtain ⟨m, hm0, hm1, e1⟩ := mixed_ok (c := c) (k := 3) hb (by omega) (by omega)
  generalize hsz : 1 + m % 6 = sz
  have hs : 1 ≤ sz ∧ sz ≤ 6 := by omega
  generalize hpl : m / 6 % sz = pl
  have hp : 0 ≤ pl ∧ pl < 6 := by
    have h1 := Int.emod_nonneg (m / 6) (by omega : sz ≠ 0)
    have h2 := Int.emod_lt_of_pos (m / 6) (by omega : 0 < sz)
    omega
  obtain ⟨ρ', l1, l, s6, s7, s8, s9, hl, hl6, rfl⟩ := for_range (fg := gSet 6) (fb := l_law_names_1) (ρ := [.f (.int c), .f (.str "abcdefghijklmnopqrstuvwxyz"), .f (.int m), .f (.int sz), .f (.int pl), .l [], .un, .un, .un, .un]) 8
    (fun i ρ => ∃ (l : List Str) (s6 s7 s8 s9 : T), l.length = i ∧ (∀ x ∈ l, PyData.strOk x = true) ∧ ρ = [.f (.int c), .f (.str "abcdefghijklmnopqrstuvwxyz"), .f (.int m), .f (.int sz), .f (.int pl), .l (l.map .str), s6, s7, s8, s9]) (by
    rintro i ρ hi ⟨l, s6, s7, s8, s9, hl, hl6, rfl⟩
    obtain ⟨ρ2, l2, x, t8, t9, ⟨hx, hxo⟩, rfl⟩ := for_range (fg := gSet 8) (fb := l_law_names_2) (ρ := [.f (.int c), .f (.str "abcdefghijklmnopqrstuvwxyz"), .f (.int m), .f (.int sz), .f (.int pl), .l (l.map .str), .f (.int (i : Int)), .f (.str ""), s8, s9]) sz.toNat
      (fun j ρ => ∃ (x : Str) (s8 s9 : T), (x.length ≤ j ∧ PyData.strOk x = true) ∧ ρ = [.f (.int c), .f (.str "abcdefghijklmnopqrstuvwxyz"), .f (.int m), .f (.int sz), .f (.int pl), .l (l.map .str), .f (.int (i : Int)), .f (.str x), s8, s9]) (by
      rintro j ρ hj ⟨x, s8, s9, ⟨hx, hxo⟩, rfl⟩
      have hjj : gMul (.f (.int (j : Int))) (.f (.int (j : Int))) = some (.f (.int ((j : Int) * j))) := gMul_o (by omega) (by omega) (by omega) (by omega)
      have hpi : gMul (.f (.int (if (j : Int) = pl then 1 else 0))) (.f (.int (i : Int))) = some (.f (.int ((if (j : Int) = pl then 1 else 0) * (i : Int)))) := gMul_o (by split <;> omega) (by split <;> omega) (by omega) (by omega)
      generalize hat : m / 36 + (j : Int) * j + (if (j : Int) = pl then 1 else 0) * (i : Int) = at_
      obtain ⟨y, ⟨hy, hyo⟩, ey⟩ := letter_ok (i := at_ % 26) (by omega) (by omega)
      have hxy : (x ++ y).length ≤ j + 1 ∧ PyData.strOk (x ++ y) = true := ⟨by rw [PySem.Str.length_append]; omega, strOk_app hxo hyo⟩
      replace hxy := Hid.mk hxy
      have hxy2 : x.length + y.length ≤ 16777216 := by omega
      unfold l_law_names_2
      clear hl6 hxo hyo hx hy hl hb hm0 hm1 e1 hsz hpl
      apply Wn_of
      case h =>
        walk_at "W"
        rfl
      case hq => exact ⟨x ++ y, _, _, hxy.out, rfl⟩) ⟨"", _, _, ⟨Nat.zero_le _, by decide +kernel⟩, rfl⟩
    have hll : (l ++ [x]).length = i + 1 := by simp; omega
    have hll6 : ∀ y ∈ l ++ [x], PyData.strOk y = true := fun y hy => by
      rcases List.mem_append.mp hy with z | z
      · exact hl6 y z
      · rw [List.mem_singleton.mp z]
        exact hxo
    have hl2 : l.length < 1000 := by omega
    replace hll6 := Hid.mk hll6
    unfold l_law_names_1
    clear hl6 hxo hx hl hb hm0 hm1 e1 hsz hpl
    apply Wn_of
    case h =>
      walk_at "W"
      rfl
    case hq => exact ⟨l ++ [x], _, _, _, _, hll, hll6.out, by rw [List.map_append]; rfl⟩) ⟨[], _, _, _, _, rfl, fun _ h => absurd h List.not_mem_nil, rfl⟩
  have hmod : gMod (.f (.int (m / 6))) (.f (.int sz)) = some (.f (.int pl)) := by rw [← hpl]; exact gMod_ok (by omega)
  by_cases h5 : m / 1000 % 5 = 1
  · refine ⟨["tell", "end", "if", "in", "box", "while", "else", "plus"], rfl, by decide +kernel, ?_⟩
    clear hl6 hb hm0 hm1 hl hpl
    walk_at "W"
  · refine ⟨l, hl, hl6, ?_⟩
    clear hl6 hb hm0 hm1 hl hpl
    walk_at "W"

/-! the stack of what is under way -/
structure Fr where
  kind : Str
  rows : List Pg
  name : Str
  os : List Pg
  ones : T
def Fr.t (f : Fr) : T := .tu [.f (.str f.kind), .l (Pg.ds f.rows), .f (.str f.name), f.ones]
structure Fr.Ok (names : List Str) (w n lv : Nat) (f : Fr) : Prop where
  rl : f.rows.length ≤ n
  ol : f.os.length ≤ n
  ro : Pg.Oks names w f.rows
  oo : Pg.Oks names w f.os
  rd : Pg.deps f.rows + lv ≤ 8
  od : Pg.deps f.os + lv ≤ 8
  nm : 0 < lv → f.name ∈ names
  kd : 0 < lv → f.kind = "while" ∨ f.kind = "if" ∨ f.kind = "else"
  on : f.ones = .l [] ∧ f.os = [] ∨ f.ones = .f (.lst (Pg.ds f.os))
theorem Fr.Ok.mono {names : List Str} {w n m lv : Nat} {f : Fr} (h : f.Ok names w n lv) (hm : n ≤ m) : f.Ok names w m lv := ⟨Nat.le_trans h.rl hm, Nat.le_trans h.ol hm, h.ro, h.oo, h.rd, h.od, h.nm, h.kd, h.on⟩
theorem Fr.Ok.fz {names : List Str} {w n lv : Nat} {f : Fr} (h : f.Ok names w n lv) : f.ones.fz = some (.lst (Pg.ds f.os)) := by
  rcases h.on with ⟨h1, h2⟩ | h1
  · rw [h1, h2]; rfl
  · rw [h1]; rfl
def stkT : List Fr → List T
  | [] => []
  | f :: r => stkT r ++ [f.t]
theorem stk_len : ∀ (l : List Fr), (stkT l).length = l.length
  | [] => rfl
  | f :: r => by
    show (stkT r ++ [f.t]).length = _
    rw [List.length_append, stk_len r]
    rfl
def SOk (names : List Str) (w n : Nat) : List Fr → Prop
  | [] => True
  | f :: r => f.Ok names w n r.length ∧ SOk names w n r
theorem SOk.mono {names : List Str} {w n m : Nat} (hm : n ≤ m) : ∀ {l : List Fr}, SOk names w n l → SOk names w m l
  | [], _ => trivial
  | _ :: _, h => ⟨h.1.mono hm, SOk.mono hm h.2⟩
def Fr.add (f : Fr) (p : Pg) : Fr := { f with rows := f.rows ++ [p] }
theorem Fr.Ok.add {names : List Str} {w n lv : Nat} {f : Fr} {p : Pg} (h : f.Ok names w n lv) (hp : p.Ok names w) (hd : p.dep + lv ≤ 8) : (f.add p).Ok names w (n + 1) lv :=
  ⟨by show (f.rows ++ [p]).length ≤ n + 1; rw [List.length_append]; exact Nat.succ_le_succ h.rl, Nat.le_succ_of_le h.ol, oks_snoc hp _ h.ro, h.oo, by
    show Pg.deps (f.rows ++ [p]) + lv ≤ 8
    rw [deps_snoc]
    have := h.rd
    omega, h.od, h.nm, h.kd, h.on⟩
theorem into_ok {A : List T} {k nm : Str} {rows : List Pg} {o : T} {d : D} (hl : rows.length ≤ 1000) :
    g_law_into [.ll (A ++ [.tu [.f (.str k), .l (Pg.ds rows), .f (.str nm), o]]), .f d] = some (.ok (.f .non) [.ll (A ++ [.tu [.f (.str k), .l (Pg.ds rows ++ [d]), .f (.str nm), o]]), .f d]) := by
  have hr : g_law_into [.ll (A ++ [.tu [.f (.str k), .l (Pg.ds rows), .f (.str nm), o]]), .f d] = kRun 2 [0] [.ll (A ++ [.tu [.f (.str k), .l (Pg.ds rows), .f (.str nm), o]]), .f d] (b_law_into ([.ll (A ++ [.tu [.f (.str k), .l (Pg.ds rows), .f (.str nm), o]]), .f d] ++ List.replicate (2 - 2) .un)) := run_of rfl
  rw [hr]
  clear hr
  unfold b_law_into
  have h4 := ds_len rows
  walk_at "W"

/-! how much stands on the stack -/
theorem szs_snoc {p : Pg} : ∀ (l : List Pg), Pg.szs (l ++ [p]) = Pg.szs l + p.sz
  | [] => by
    show p.sz + Pg.szs [] = Pg.szs [] + p.sz
    omega
  | q :: l => by
    show q.sz + Pg.szs (l ++ [p]) = q.sz + Pg.szs l + p.sz
    rw [szs_snoc l]
    omega
def Fr.tot (f : Fr) : Nat := Pg.szs f.rows + Pg.szs f.os
def tot : List Fr → Nat
  | [] => 0
  | f :: r => f.tot + 1 + tot r
theorem tot_add {f : Fr} {p : Pg} : (f.add p).tot = f.tot + p.sz := by
  show Pg.szs (f.rows ++ [p]) + Pg.szs f.os = Pg.szs f.rows + Pg.szs f.os + p.sz
  rw [szs_snoc]
  omega
def Fr.close (f : Fr) : Pg := if f.kind = "while" then .whl f.name f.rows else if f.kind = "if" then .ite f.name f.rows [] else .ite f.name f.os f.rows
theorem ds_nil : Pg.ds [] = [] := rfl
theorem closed_ok {A : List T} {f g : Fr} (hk : f.kind = "while" ∨ f.kind = "if" ∨ f.kind = "else") (ho : f.ones = .l [] ∧ f.os = [] ∨ f.ones = .f (.lst (Pg.ds f.os))) (hl : g.rows.length ≤ 1000) :
    g_law_closed [.ll (A ++ [g.t] ++ [f.t])] = some (.ok (.f .non) [.ll (A ++ [(g.add f.close).t])]) := by
  have hr : g_law_closed [.ll (A ++ [g.t] ++ [f.t])] = kRun 1 [0] [.ll (A ++ [g.t] ++ [f.t])] (b_law_closed ([.ll (A ++ [g.t] ++ [f.t])] ++ List.replicate (5 - 1) .un)) := run_of rfl
  rw [hr]
  clear hr
  have h1 := fun d => into_ok (A := A) (k := g.kind) (nm := g.name) (o := g.ones) (d := d) hl
  obtain ⟨fk, fr, fn, fo, ft⟩ := f
  obtain ⟨gk, gr, gn, go, gt⟩ := g
  replace hk : fk = "while" ∨ fk = "if" ∨ fk = "else" := hk
  replace ho : ft = .l [] ∧ fo = [] ∨ ft = .f (.lst (Pg.ds fo)) := ho
  have hgt : Fr.t ⟨gk, gr, gn, go, gt⟩ = .tu [.f (.str gk), .l (Pg.ds gr), .f (.str gn), gt] := rfl
  have hft : Fr.t ⟨fk, fr, fn, fo, ft⟩ = .tu [.f (.str fk), .l (Pg.ds fr), .f (.str fn), ft] := rfl
  have hgo : ∀ p, Fr.t (Fr.add ⟨gk, gr, gn, go, gt⟩ p) = .tu [.f (.str gk), .l (Pg.ds gr ++ [p.d]), .f (.str gn), gt] := fun p => by
    show T.tu [.f (.str gk), .l (Pg.ds (gr ++ [p])), .f (.str gn), gt] = _
    rw [ds_snoc]
  have e1 : ∀ x l, (Pg.whl x l).d = .tup [.str "while", .str x, .lst (Pg.ds l)] := fun _ _ => by rw [Pg.d]
  have e2 : ∀ x l m, (Pg.ite x l m).d = .tup [.str "if", .str x, .lst (Pg.ds l), .lst (Pg.ds m)] := fun _ _ _ => by rw [Pg.d]
  replace h1 : ∀ d, g_law_into [.ll (A ++ [.tu [.f (.str gk), .l (Pg.ds gr), .f (.str gn), gt]]), .f d] = some (.ok (.f .non) [.ll (A ++ [.tu [.f (.str gk), .l (Pg.ds gr ++ [d]), .f (.str gn), gt]]), .f d]) := h1
  have hn := ds_nil
  rw [hgt, hft, hgo]
  clear hgt hft hgo hl
  unfold b_law_closed
  rcases hk with rfl | rfl | rfl
  · have hc : Fr.close ⟨"while", fr, fn, fo, ft⟩ = .whl fn fr := rfl
    rw [hc, e1]
    rcases ho with ⟨rfl, rfl⟩ | rfl
    all_goals
      clear hc e1 e2
      walk_at "W"
  · have hc : Fr.close ⟨"if", fr, fn, fo, ft⟩ = .ite fn fr [] := rfl
    rw [hc, e2]
    rcases ho with ⟨rfl, rfl⟩ | rfl
    all_goals
      clear hc e1 e2
      walk_at "W"
  · have hc : Fr.close ⟨"else", fr, fn, fo, ft⟩ = .ite fn fo fr := rfl
    rw [hc, e2]
    rcases ho with ⟨rfl, rfl⟩ | rfl
    all_goals
      clear hc e1 e2
      walk_at "W"

theorem tot_close {f : Fr} : f.close.sz ≤ 1 + f.tot := by
  unfold Fr.close Fr.tot
  split
  · show 1 + Pg.szs f.rows ≤ _
    omega
  · split
    · show 1 + (Pg.szs f.rows + 0) ≤ _
      omega
    · show 1 + (Pg.szs f.os + Pg.szs f.rows) ≤ _
      omega
theorem close_ok {names : List Str} {w n lv : Nat} {f : Fr} (h : f.Ok names w n (lv + 1)) (hn : n ≤ 200) : f.close.Ok names w ∧ f.close.dep + lv ≤ 8 := by
  have r1 := h.rd
  have r2 := h.od
  have l1 := h.rl
  have l2 := h.ol
  have nm := h.nm (by omega)
  unfold Fr.close
  split
  · rw [Pg.Ok, Pg.dep]; exact ⟨⟨nm, by omega, h.ro⟩, by omega⟩
  · split
    · rw [Pg.Ok, Pg.dep]; exact ⟨⟨nm, by omega, by simp, h.ro, trivial⟩, by show 1 + max _ 0 + lv ≤ 8; omega⟩
    · rw [Pg.Ok, Pg.dep]; exact ⟨⟨nm, by omega, by omega, h.oo, h.ro⟩, by omega⟩
theorem stkT_cons {f : Fr} {r : List Fr} : stkT (f :: r) = stkT r ++ [f.t] := rfl
theorem five {j : Int} (h0 : 0 ≤ j) (h1 : j < 5) : ∃ k : Str, (k = "while" ∨ k = "if" ∨ k = "else") ∧ atI [D.str "if", .str "while", .str "if"] (j - 2) = some (.str k) := by
  have : j = 0 ∨ j = 1 ∨ j = 2 ∨ j = 3 ∨ j = 4 := by omega
  rcases this with rfl | rfl | rfl | rfl | rfl
  · exact ⟨"while", .inl rfl, rfl⟩
  · exact ⟨"if", .inr (.inl rfl), rfl⟩
  · exact ⟨"if", .inr (.inl rfl), rfl⟩
  · exact ⟨"while", .inl rfl, rfl⟩
  · exact ⟨"if", .inr (.inl rfl), rfl⟩
def ProgI (cs : List Int) (names : List Str) (w : Nat) (most : Int) (i : Nat) (ρ : List T) : Prop :=
  ∃ (stk : List Fr) (many : Int) (s6 s7 s8 s9 s10 s11 s12 s13 : T), 0 < stk.length ∧ stk.length ≤ 9 ∧ SOk names w i stk ∧ tot stk ≤ i + 1 ∧
    ρ = [.f (.lst (cs.map .int)), .f (.lst (names.map .str)), .f (.int (w : Int)), .f (.int most), .ll (stkT stk), .f (.int many), s6, s7, s8, s9, s10, s11, s12, s13]
theorem prog_step {cs : List Int} {names : List Str} {w : Nat} {most : Int} (hw : w ≤ 100) {i : Nat} {c : Int} {ρ : List T} (hi : i < 63) (hb : Builtin.Int.intBits c ≤ 1048576) (h : ProgI cs names w most i ρ) :
    Wn (ProgI cs names w most (i + 1)) (fun _ => False) (kTurn l_law_program_2 (gTupT 2 (gsCons (gSet 6) (gsCons (gSet 7) gsNil)) (.f (.tup [.int (i : Int), .int c])) ρ)) := by
  obtain ⟨stk, many, s6, s7, s8, s9, s10, s11, s12, s13, h1, h2, hs, htot, rfl⟩ := h
  obtain ⟨m, hm0, hm1, e1⟩ := mixed_ok (c := c) (k := (i : Int)) hb (by omega) (by omega)
  obtain ⟨f, r, rfl⟩ : ∃ f r, stk = f :: r := by
    cases stk with
    | nil => simp at h1
    | cons f r => exact ⟨f, r, rfl⟩
  obtain ⟨hf, hr⟩ := hs
  have hrl : r.length ≤ 8 := by simpa using h2
  have hlr := stk_len r
  have hft : f.t = .tu [.f (.str f.kind), .l (Pg.ds f.rows), .f (.str f.name), f.ones] := rfl
  have hrows := ds_len f.rows
  have hrowsl := hf.rl
  replace htot : f.tot + 1 + tot r ≤ i + 1 := htot
  by_cases hA : m % 12 < 2 ∧ 0 < r.length
  · obtain ⟨hA1, hA2⟩ := hA
    have a1 := eq_true hA1
    have a2 : (1 < (((stkT r ++ [f.t]).length : Nat) : Int)) = True := eq_true (by rw [List.length_append, hlr]; simp; omega)
    by_cases hB : m % 12 = 0 ∧ f.kind = "if"
    · obtain ⟨hB1, hB2⟩ := hB
      have b1 := eq_true hB1
      unfold l_law_program_2
      have hnew : SOk names w (i + 1) (⟨"else", [], f.name, f.rows, .f (.lst (Pg.ds f.rows))⟩ :: r) :=
        ⟨⟨Nat.zero_le _, Nat.le_succ_of_le hf.rl, trivial, hf.ro, by show 0 + r.length ≤ 8; omega, hf.rd, hf.nm, fun _ => .inr (.inr rfl), .inr rfl⟩, hr.mono (Nat.le_succ _)⟩
      have htn : tot (⟨"else", [], f.name, f.rows, .f (.lst (Pg.ds f.rows))⟩ :: r) ≤ i + 1 + 1 := by
        show 0 + Pg.szs f.rows + 1 + tot r ≤ _
        have : f.tot = Pg.szs f.rows + Pg.szs f.os := rfl
        omega
      clear htot
      replace htn := Hid.mk htn
      rw [stkT_cons]
      rw [hft] at a2 ⊢
      rw [hB2] at a2 ⊢
      have hlr2 : (stkT r).length ≤ 8 := by omega
      have ho : ∀ i ρ, kF2 i ρ (some f.ones) = some (ρ.set i (.f (.lst (Pg.ds f.os)))) := fun i ρ => by
        rcases hf.on with ⟨q1, q2⟩ | q1
        · rw [q1, q2]; rfl
        · rw [q1]; rfl
      clear hlr hA1 hB1 hr h1 h2 hrowsl hft hf hb hm0 hm1
      apply Wn_of
      case h =>
        walk_at "W"
        rfl
      case hq => exact ⟨_ :: r, many, _, _, _, _, _, _, _, _, by simp, by simp; omega, hnew, htn.out, rfl⟩
    · have b1 : (decide (m % 12 = 0) && decide (f.kind = "if")) = false := by
        by_cases q : m % 12 = 0
        · rw [decide_eq_false (fun z => hB ⟨q, z⟩), Bool.and_false]
        · rw [decide_eq_false q]; rfl
      obtain ⟨g, r', rfl⟩ : ∃ g r', r = g :: r' := by
        cases r with
        | nil => simp at hA2
        | cons f r => exact ⟨f, r, rfl⟩
      obtain ⟨hg, hr'⟩ := hr
      have c1 := close_ok (lv := r'.length) hf (by omega)
      have hgl := hg.rl
      have cl := closed_ok (A := stkT r') (hf.kd (by simp)) hf.on (g := g) (by omega)
      have hnew : SOk names w (i + 1) (g.add f.close :: r') := ⟨hg.add c1.1 c1.2, hr'.mono (Nat.le_succ _)⟩
      have htn : tot (g.add f.close :: r') ≤ i + 1 + 1 := by
        have e1 : tot (g.add f.close :: r') = (g.add f.close).tot + 1 + tot r' := rfl
        have e2 : tot (g :: r') = g.tot + 1 + tot r' := rfl
        have e3 := tot_add (f := g) (p := f.close)
        have e4 := tot_close (f := f)
        omega
      clear htot
      replace htn := Hid.mk htn
      have hl1 : (stkT r').length ≤ 8 := by rw [stk_len]; simp at hrl; omega
      have fin : ∀ t10 t11 t12 t13 t8 t9 : T, ProgI cs names w most (i + 1) [.f (.lst (cs.map .int)), .f (.lst (names.map .str)), .f (.int (w : Int)), .f (.int most), .ll (stkT r' ++ [(g.add f.close).t]), .f (.int many), .f (.int (i : Int)), .f (.int c), t8, t9, t10, t11, t12, t13] := fun t10 t11 t12 t13 t8 t9 =>
        ⟨_ :: r', many, _, _, _, _, _, _, _, _, by simp, by simp at hrl; simp; omega, hnew, htn.out, rfl⟩
      rw [stkT_cons, stkT_cons]
      rw [show stkT (g :: r') = stkT r' ++ [g.t] from rfl] at a2
      rw [hft] at a2 cl ⊢
      unfold l_law_program_2
      clear hlr hA1 hr' h1 h2 hrowsl hft hf hb hm0 hm1 hg hgl c1 hnew hA2 hrl
      by_cases hz : m % 12 = 0
      · have hz2 := eq_true hz
        have hz3 : (f.kind = "if") = False := eq_false fun z => hB ⟨hz, z⟩
        clear hB hz b1
        apply Wn_of
        case h =>
          walk_at "W"
          rfl
        case hq => exact fin _ _ _ _ _ _
      · have hz2 := eq_false hz
        clear hB hz b1
        apply Wn_of
        case h =>
          walk_at "W"
          rfl
        case hq => exact fin _ _ _ _ _ _
  · have a1 : (decide (m % 12 < 2) && decide (1 < (((stkT (f :: r)).length : Nat) : Int))) = false := by
      rw [stk_len]
      by_cases q : m % 12 < 2
      · rw [decide_eq_false (p := 1 < (((f :: r).length : Nat) : Int)) (fun z => hA ⟨q, by simp at z; omega⟩), Bool.and_false]
      · rw [decide_eq_false q]; rfl
    by_cases hM : many < most
    · have hM2 := eq_true hM
      by_cases hB : m % 12 < 5 ∧ r.length < 8 ∧ 0 < names.length
      · obtain ⟨hB1, hB2, hB3⟩ := hB
        obtain ⟨x, hx, h0, hp⟩ := pick hB3 (m / 12)
        have hp := hp D.str
        obtain ⟨k, hk, ek⟩ := five (j := m % 12) (by omega) hB1
        have hnew : SOk names w (i + 1) (⟨k, [], x, [], .l []⟩ :: f :: r) :=
          ⟨⟨Nat.zero_le _, Nat.zero_le _, trivial, trivial, by show 0 + (r.length + 1) ≤ 8; omega, by show 0 + (r.length + 1) ≤ 8; omega, fun _ => hx, fun _ => hk, .inl ⟨rfl, rfl⟩⟩, hf.mono (Nat.le_succ _), hr.mono (Nat.le_succ _)⟩
        have htn : tot (⟨k, [], x, [], .l []⟩ :: f :: r) ≤ i + 1 + 1 := by
          show 0 + 0 + 1 + (f.tot + 1 + tot r) ≤ _
          omega
        clear htot
        replace htn := Hid.mk htn
        have c1 := eq_true hB1
        have c2 : ((((stkT (f :: r)).length : Nat) : Int) < 9) = True := eq_true (by rw [stk_len]; simp; omega)
        have c3 : (0 < ((names.length : Nat) : Int)) = True := eq_true (by omega)
        have c4 : (stkT (f :: r)).length ≤ 9 := by rw [stk_len]; simp; omega
        have fin : ∀ t10 t11 t12 t13 t8 t9 : T, ProgI cs names w most (i + 1) [.f (.lst (cs.map .int)), .f (.lst (names.map .str)), .f (.int (w : Int)), .f (.int most), .ll (stkT (f :: r) ++ [.tu [.f (.str k), .l [], .f (.str x), .l []]]), .f (.int (many + 1)), .f (.int (i : Int)), .f (.int c), t8, t9, t10, t11, t12, t13] := fun t10 t11 t12 t13 t8 t9 =>
          ⟨_ :: f :: r, many + 1, _, _, _, _, _, _, _, _, by simp, by simp; omega, hnew, htn.out, rfl⟩
        have hnn : (0 : Int) < names.length := by omega
        have d1 : gMod (.f (.int (m / 12))) (.f (.int (names.length : Int))) = some (.f (.int (m / 12 % names.length))) := gMod_ok hnn
        generalize stkT (f :: r) = S at *
        unfold l_law_program_2
        clear hA hM hB1 hB2 hx hk hf hr hnew hrows hrowsl hft hb hm0 hm1 hlr hrl h1 h2 hB3 hnn
        by_cases hz : m % 12 < 2
        · have z1 := eq_true hz
          rw [decide_eq_true hz, Bool.true_and] at a1
          clear hz
          apply Wn_of
          case h =>
            walk_at "W"
            rfl
          case hq => exact fin _ _ _ _ _ _
        · have z1 := eq_false hz
          clear hz a1
          apply Wn_of
          case h =>
            walk_at "W"
            rfl
          case hq => exact fin _ _ _ _ _ _
      · obtain ⟨d, hd, e2⟩ := law_deed_ok (m := m / 12) (names := names) (w := w) (by omega) hw
        have io := into_ok (A := stkT r) (k := f.kind) (nm := f.name) (rows := f.rows) (o := f.ones) (d := d.d) (by omega)
        have hdd : (Pg.dd d).d = d.d := by rw [Pg.d]
        have hnew : SOk names w (i + 1) (f.add (.dd d) :: r) := ⟨hf.add (by rw [Pg.Ok]; exact hd) (by rw [Pg.dep]; omega), hr.mono (Nat.le_succ _)⟩
        have htn : tot (f.add (.dd d) :: r) ≤ i + 1 + 1 := by
          have e1 : tot (f.add (.dd d) :: r) = (f.add (.dd d)).tot + 1 + tot r := rfl
          have e3 := tot_add (f := f) (p := .dd d)
          have e4 : (Pg.dd d).sz = 1 := rfl
          omega
        clear htot
        replace htn := Hid.mk htn
        have hfa : (f.add (.dd d)).t = .tu [.f (.str f.kind), .l (Pg.ds f.rows ++ [d.d]), .f (.str f.name), f.ones] := by
          show T.tu [.f (.str f.kind), .l (Pg.ds (f.rows ++ [.dd d])), .f (.str f.name), f.ones] = _
          rw [ds_snoc, hdd]
        have fin : ∀ t10 t11 t12 t13 t8 t9 : T, ProgI cs names w most (i + 1) [.f (.lst (cs.map .int)), .f (.lst (names.map .str)), .f (.int (w : Int)), .f (.int most), .ll (stkT r ++ [.tu [.f (.str f.kind), .l (Pg.ds f.rows ++ [d.d]), .f (.str f.name), f.ones]]), .f (.int (many + 1)), .f (.int (i : Int)), .f (.int c), t8, t9, t10, t11, t12, t13] := fun t10 t11 t12 t13 t8 t9 =>
          ⟨_ :: r, many + 1, _, _, _, _, _, _, _, _, by simp, by simp; omega, hnew, htn.out, by rw [stkT_cons, hfa]⟩
        have c1 : (decide (m % 12 < 5) && (decide ((((stkT (f :: r)).length : Nat) : Int) < 9) && decide (0 < ((names.length : Nat) : Int)))) = false := by
          rw [stk_len]
          by_cases q1 : m % 12 < 5
          · by_cases q2 : r.length < 8
            · rw [decide_eq_false (p := 0 < ((names.length : Nat) : Int)) (fun z => hB ⟨q1, q2, by omega⟩), Bool.and_false, Bool.and_false]
            · rw [decide_eq_false (p := (((f :: r).length : Nat) : Int) < 9) (fun z => q2 (by simp at z; omega)), Bool.false_and, Bool.and_false]
          · rw [decide_eq_false q1, Bool.false_and]
        rw [← hft, ← stkT_cons] at io
        generalize stkT (f :: r) = S at *
        unfold l_law_program_2
        clear hA hM hB hf hr hnew hrows hrowsl hft hb hm0 hm1 hlr hrl h1 h2 hd hdd hfa
        by_cases hz : m % 12 < 2
        · have z1 := eq_true hz
          rw [decide_eq_true hz, Bool.true_and] at a1
          have z2 : decide (m % 12 < 5) = true := decide_eq_true (by omega)
          rw [z2, Bool.true_and] at c1
          have z2 := eq_true (of_decide_eq_true z2)
          clear hz
          by_cases hy : (((S.length : Nat) : Int) < 9)
          · rw [decide_eq_true hy, Bool.true_and] at c1
            have y1 := eq_true hy
            clear hy
            apply Wn_of
            case h =>
              walk_at "W"
              rfl
            case hq => exact fin _ _ _ _ _ _
          · have y1 := eq_false hy
            clear hy c1
            apply Wn_of
            case h =>
              walk_at "W"
              rfl
            case hq => exact fin _ _ _ _ _ _
        · have z1 := eq_false hz
          clear hz a1
          by_cases h5 : m % 12 < 5
          · rw [decide_eq_true h5, Bool.true_and] at c1
            have z2 := eq_true h5
            clear h5
            by_cases hy : (((S.length : Nat) : Int) < 9)
            · rw [decide_eq_true hy, Bool.true_and] at c1
              have y1 := eq_true hy
              clear hy
              apply Wn_of
              case h =>
                walk_at "W"
                rfl
              case hq => exact fin _ _ _ _ _ _
            · have y1 := eq_false hy
              clear hy c1
              apply Wn_of
              case h =>
                walk_at "W"
                rfl
              case hq => exact fin _ _ _ _ _ _
          · have z2 := eq_false h5
            clear h5 c1
            apply Wn_of
            case h =>
              walk_at "W"
              rfl
            case hq => exact fin _ _ _ _ _ _
    · have hM2 := eq_false hM
      have htn : tot (f :: r) ≤ i + 1 + 1 := by
        show f.tot + 1 + tot r ≤ _
        omega
      clear htot
      replace htn := Hid.mk htn
      have hnew : SOk names w (i + 1) (f :: r) := ⟨hf.mono (Nat.le_succ _), hr.mono (Nat.le_succ _)⟩
      have fin : ∀ t10 t11 t12 t13 t8 t9 : T, ProgI cs names w most (i + 1) [.f (.lst (cs.map .int)), .f (.lst (names.map .str)), .f (.int (w : Int)), .f (.int most), .ll (stkT (f :: r)), .f (.int many), .f (.int (i : Int)), .f (.int c), t8, t9, t10, t11, t12, t13] := fun t10 t11 t12 t13 t8 t9 =>
        ⟨f :: r, many, _, _, _, _, _, _, _, _, by simp, by simp; omega, hnew, htn.out, rfl⟩
      generalize stkT (f :: r) = S at *
      unfold l_law_program_2
      clear hA hM hf hr hnew hrows hrowsl hft hb hm0 hm1 hlr hrl h1 h2
      by_cases hz : m % 12 < 2
      · have z1 := eq_true hz
        rw [decide_eq_true hz, Bool.true_and] at a1
        clear hz
        apply Wn_of
        case h =>
          walk_at "W"
          rfl
        case hq => exact fin _ _ _ _ _ _
      · have z1 := eq_false hz
        clear hz a1
        apply Wn_of
        case h =>
          walk_at "W"
          rfl
        case hq => exact fin _ _ _ _ _ _

theorem close_all {names : List Str} {w : Nat} {t0 t1 t2 t3 t5 t6 t7 t8 t9 t10 t11 t12 t13 : T} : ∀ (r : List Fr) (f : Fr) (n fuel : Nat), SOk names w n (f :: r) → n + r.length ≤ 200 → r.length < fuel →
    ∃ f' : Fr, f'.Ok names w (n + r.length) 0 ∧ f'.tot + 1 ≤ tot (f :: r) ∧ whileF l_law_program_1t l_law_program_1 fuel [t0, t1, t2, t3, .ll (stkT (f :: r)), t5, t6, t7, t8, t9, t10, t11, t12, t13] = some (.nx [t0, t1, t2, t3, .ll (stkT [f']), t5, t6, t7, t8, t9, t10, t11, t12, t13])
  | [], f, n, fuel, hs, hn, hfu => by
    obtain ⟨k, rfl⟩ : ∃ k, fuel = k + 1 := ⟨fuel - 1, by omega⟩
    refine ⟨f, hs.1, by show _ ≤ f.tot + 1 + 0; omega, ?_⟩
    have h1 : (1 < (((stkT [f]).length : Nat) : Int)) = False := eq_false (by rw [stk_len]; simp)
    rw [while_step]
    unfold l_law_program_1t
    clear hs hn hfu
    walk_at "W"
  | g :: r, f, n, fuel, hs, hn, hfu => by
    obtain ⟨k, rfl⟩ : ∃ k, fuel = k + 1 := ⟨fuel - 1, by omega⟩
    obtain ⟨hf, hg, hr⟩ := hs
    have hl : n + (r.length + 1) ≤ 200 := by simpa using hn
    have c1 := close_ok (lv := r.length) hf (by omega)
    have hgl := hg.rl
    have cl := closed_ok (A := stkT r) (hf.kd (by simp)) hf.on (g := g) (by omega)
    obtain ⟨f', hf', htt, e⟩ := close_all (names := names) (w := w) (t0 := t0) (t1 := t1) (t2 := t2) (t3 := t3) (t5 := t5) (t6 := t6) (t7 := t7) (t8 := t8) (t9 := t9) (t10 := t10) (t11 := t11) (t12 := t12) (t13 := t13) r (g.add f.close) (n + 1) k ⟨hg.add c1.1 c1.2, hr.mono (Nat.le_succ _)⟩ (by omega) (by simp at hfu; omega)
    have htt2 : f'.tot + 1 ≤ tot (f :: g :: r) := by
      have e1 : tot (g.add f.close :: r) = (g.add f.close).tot + 1 + tot r := rfl
      have e2 : tot (f :: g :: r) = f.tot + 1 + (g.tot + 1 + tot r) := rfl
      have e3 := tot_add (f := g) (p := f.close)
      have e4 := tot_close (f := f)
      omega
    clear htt
    refine ⟨f', by rw [show n + (g :: r).length = n + 1 + r.length by simp; omega]; exact hf', htt2, ?_⟩
    have h1 : (1 < (((stkT r ++ [g.t] ++ [f.t]).length : Nat) : Int)) = True := eq_true (by simp; omega)
    have e : whileF l_law_program_1t l_law_program_1 k [t0, t1, t2, t3, .ll (stkT r ++ [(g.add f.close).t]), t5, t6, t7, t8, t9, t10, t11, t12, t13] = some (.nx [t0, t1, t2, t3, .ll (stkT [f']), t5, t6, t7, t8, t9, t10, t11, t12, t13]) := e
    rw [stkT_cons, stkT_cons]
    have e2 : l_law_program_1t [t0, t1, t2, t3, .ll (stkT r ++ [g.t] ++ [f.t]), t5, t6, t7, t8, t9, t10, t11, t12, t13] = some (.ok true [t0, t1, t2, t3, .ll (stkT r ++ [g.t] ++ [f.t]), t5, t6, t7, t8, t9, t10, t11, t12, t13]) := by
      unfold l_law_program_1t
      clear cl hf hg hr hl hn hfu c1 hgl e
      walk_at "W"
    have e3 : l_law_program_1 [t0, t1, t2, t3, .ll (stkT r ++ [g.t] ++ [f.t]), t5, t6, t7, t8, t9, t10, t11, t12, t13] = some (.nx [t0, t1, t2, t3, .ll (stkT r ++ [(g.add f.close).t]), t5, t6, t7, t8, t9, t10, t11, t12, t13]) := by
      unfold l_law_program_1
      clear hf hg hr hl hn hfu c1 hgl e e2
      walk_at "W"
    rw [while_step, e2, kW1_t, e3, kW2_nx, e]
theorem law_program_ok {cs : List Int} {names : List Str} {w : Nat} {most : Int} (hw : w ≤ 100) (hc : cs.length ≤ 63) (hb : ∀ z ∈ cs, Builtin.Int.intBits z ≤ 1048576) :
    ∃ rows : List Pg, rows.length ≤ 100 ∧ Pg.Oks names w rows ∧ Pg.deps rows ≤ 8 ∧ Pg.szs rows ≤ 64 ∧ val (g_law_program [.f (.lst (cs.map .int)), .f (.lst (names.map .str)), .f (.int (w : Int)), .f (.int most)]) = some (.lst (Pg.ds rows)) := by
  have hv : val (g_law_program [.f (.lst (cs.map .int)), .f (.lst (names.map .str)), .f (.int (w : Int)), .f (.int most)]) = oval (b_law_program ([.f (.lst (cs.map .int)), .f (.lst (names.map .str)), .f (.int (w : Int)), .f (.int most)] ++ List.replicate (14 - 4) .un)) 4 := val_run (m := 4) (n := 14) rfl
  rw [hv]
  clear hv
  unfold b_law_program
  obtain ⟨ρ', l1, stk, many, s6, s7, s8, s9, s10, s11, s12, s13, h1, h2, hs, htot, rfl⟩ := for_enum (φ := D.int) (fg := gTupT 2 (gsCons (gSet 6) (gsCons (gSet 7) gsNil))) (fb := l_law_program_2)
    (ρ := [.f (.lst (cs.map .int)), .f (.lst (names.map .str)), .f (.int (w : Int)), .f (.int most), .ll [.tu [.f (.str "all"), .l [], .f (.str ""), .l []]], .f (.int 0), .un, .un, .un, .un, .un, .un, .un, .un]) cs
    (ProgI cs names w most) (fun i a ρ ha hp => prog_step hw (by have := (List.getElem?_eq_some_iff.mp ha).1; omega) (hb a (List.mem_of_getElem? ha)) hp)
    ⟨[⟨"all", [], "", [], .l []⟩], 0, _, _, _, _, _, _, _, _, by simp, by simp, ⟨⟨Nat.zero_le _, Nat.zero_le _, trivial, trivial, by show 0 + 0 ≤ 8; omega, by show 0 + 0 ≤ 8; omega, fun h => absurd h (by simp), fun h => absurd h (by simp), .inl ⟨rfl, rfl⟩⟩, trivial⟩, (by decide), rfl⟩
  obtain ⟨f, r, rfl⟩ : ∃ f r, stk = f :: r := by
    cases stk with
    | nil => simp at h1
    | cons f r => exact ⟨f, r, rfl⟩
  have hrl : r.length ≤ 8 := by simpa using h2
  obtain ⟨f', hf', htt, e⟩ := close_all (t0 := .f (.lst (cs.map .int))) (t1 := .f (.lst (names.map .str))) (t2 := .f (.int (w : Int))) (t3 := .f (.int most)) (t5 := .f (.int many)) (t6 := s6) (t7 := s7) (t8 := s8) (t9 := s9) (t10 := s10) (t11 := s11) (t12 := s12) (t13 := s13) r f cs.length 1000000 hs (by omega) (by omega)
  have hl := hf'.rl
  have hsz : Pg.szs f'.rows ≤ 64 := by
    have : f'.tot = Pg.szs f'.rows + Pg.szs f'.os := rfl
    omega
  refine ⟨f'.rows, by omega, hf'.ro, hf'.rd, hsz, ?_⟩
  have hz := hf'.fz
  have hst : stkT [f'] = [.tu [.f (.str f'.kind), .l (Pg.ds f'.rows), .f (.str f'.name), f'.ones]] := rfl
  rw [hst] at e
  clear htt htot hsz hst hl hf' hs h1 h2 hrl hb hc
  walk_at "W"

/-! statements copied -/
def Cop (G : List T → Option Re) (m : Nat) (names : List Str) (w : Nat) : Prop := ∀ rows : List Pg, Pg.Oks names w rows → Pg.deps rows < m → rows.length ≤ 1000 → val (G [.f (.lst (Pg.ds rows))]) = some (.lst (Pg.ds rows))
theorem cop_for {G : List T → Option Re} {m w : Nat} {names : List Str} (IH : Cop G m names w) {t0 : T} : ∀ (rows : List Pg) (acc : List D) (t2 : T), Pg.Oks names w rows → Pg.deps rows < m + 1 → acc.length + rows.length ≤ 10000 →
    ∃ t2', forF (gSet 2) (l_copied_1 G) (Pg.ds rows) [t0, .l acc, t2] = some (.nx [t0, .l (acc ++ Pg.ds rows), t2'])
  | [], acc, t2, _, _, _ => ⟨t2, by rw [Pg.ds, List.append_nil]; rfl⟩
  | p :: rows, acc, t2, ho, hd, hl => by
    obtain ⟨hp, ho⟩ := ho
    have hdd : max p.dep (Pg.deps rows) < m + 1 := hd
    have hl1 : acc.length + (rows.length + 1) ≤ 10000 := by simpa using hl
    have hla : acc.length ≤ 10000 := by omega
    have one : l_copied_1 G [t0, .l acc, .f p.d] = some (.nx [t0, .l (acc ++ [p.d]), .f p.d]) := by
      unfold l_copied_1
      cases p with
      | dd d =>
        rw [Pg.Ok] at hp
        have hpd : (Pg.dd d).d = d.d := by rw [Pg.d]
        rw [hpd]
        clear IH hpd ho hd hdd hl1
        cases d with
        | tell a =>
          simp only [Deed.d]
          clear hp
          walk_at "W"
        | copy y a =>
          simp only [Deed.d]
          clear hp
          walk_at "W"
        | op q y a b =>
          obtain ⟨q1, q2, q3, q4⟩ := ops_not hp.1
          simp only [Deed.d]
          clear hp
          walk_at "W"
      | ite x a b =>
        rw [Pg.Ok] at hp
        rw [Pg.dep] at hdd
        have e1 := IH a hp.2.2.2.1 (by omega) (by omega)
        have e2 := IH b hp.2.2.2.2 (by omega) (by omega)
        rw [ite_d]
        clear IH ho hd hdd hl1 hp
        walk_at "W"
      | whl x a =>
        rw [Pg.Ok] at hp
        rw [Pg.dep] at hdd
        have e1 := IH a hp.2.2 (by omega) (by omega)
        rw [whl_d]
        clear IH ho hd hdd hl1 hp
        walk_at "W"
    obtain ⟨t2', e⟩ := cop_for IH (t0 := t0) rows (acc ++ [p.d]) (.f p.d) ho (by omega) (by simp; omega)
    refine ⟨t2', ?_⟩
    have hds : Pg.ds (p :: rows) = p.d :: Pg.ds rows := by rw [Pg.ds]
    have hse : gSet 2 (.f p.d) [t0, .l acc, t2] = some [t0, .l acc, .f p.d] := rfl
    rw [hds, for_cons, hse, kTgt_s, one, kBody_nx, e, List.append_assoc]
    rfl
theorem cop_all {names : List Str} {w : Nat} : ∀ m, Cop (g_copied m) m names w
  | 0 => fun _ _ hd _ => absurd hd (Nat.not_lt_zero _)
  | m + 1 => fun rows ho hd hl => by
    obtain ⟨t2', e⟩ := cop_for (cop_all m) (t0 := .f (.lst (Pg.ds rows))) rows [] .un ho hd (by simp; omega)
    have hv : val (g_copied (m + 1) [.f (.lst (Pg.ds rows))]) = oval (b_copied (g_copied m) ([.f (.lst (Pg.ds rows))] ++ List.replicate (3 - 1) .un)) 1 := val_run (m := 1) (n := 3) rfl
    rw [hv]
    clear hv ho hd hl
    unfold b_copied
    rw [List.nil_append] at e
    walk_at "W"
/-! a program made -/
def pD (w : Nat) (ins others : List Str) (rows : List Pg) : D := .obj 0 ["width", "ins", "boxes", "rows"] [.int (w : Int), .lst (ins.map .str), .lst ((ins ++ others).map .str), .lst (Pg.ds rows)]
def pT (w : Nat) (ins others : List Str) (rows : List Pg) : T := .o 0 ["width", "ins", "boxes", "rows"] [.f (.int (w : Int)), .f (.lst (ins.map .str)), .f (.lst ((ins ++ others).map .str)), .f (.lst (Pg.ds rows))]
theorem program_ok {w : Nat} {ins others names : List Str} {rows : List Pg} (ho : Pg.Oks names w rows) (hd : Pg.deps rows ≤ 8) (hl : rows.length ≤ 1000) (h1 : ins.length + others.length ≤ 1000) :
    g_Program_init [.o 0 [] [], .f (.int (w : Int)), .f (.lst (ins.map .str)), .f (.lst (others.map .str)), .f (.lst (Pg.ds rows))] = some (.ok (.f .non) [pT w ins others rows, .f (.int (w : Int)), .f (.lst (ins.map .str)), .f (.lst (others.map .str)), .f (.lst (Pg.ds rows))]) := by
  have hr : g_Program_init [.o 0 [] [], .f (.int (w : Int)), .f (.lst (ins.map .str)), .f (.lst (others.map .str)), .f (.lst (Pg.ds rows))] = kRun 5 [0] [.o 0 [] [], .f (.int (w : Int)), .f (.lst (ins.map .str)), .f (.lst (others.map .str)), .f (.lst (Pg.ds rows))] (b_Program_init ([.o 0 [] [], .f (.int (w : Int)), .f (.lst (ins.map .str)), .f (.lst (others.map .str)), .f (.lst (Pg.ds rows))] ++ List.replicate (5 - 5) .un)) := run_of rfl
  rw [hr]
  have e := cop_all 24 rows ho (by omega) hl
  have h2 : (ins.map D.str).length + (others.map D.str).length ≤ 1000 := by simpa using h1
  have hm : ins.map D.str ++ others.map D.str = (ins ++ others).map D.str := List.map_append.symm
  clear hr ho hd hl
  unfold b_Program_init pT
  walk_at "W"
/-! statements put together -/
theorem ds_rev {l : List Pg} : (Pg.ds l).reverse = l.reverse.map Pg.d := by rw [ds_map, List.map_reverse]
theorem oks_app {ks : List Str} {w : Nat} : ∀ {a b : List Pg}, Pg.Oks ks w a → Pg.Oks ks w b → Pg.Oks ks w (a ++ b)
  | [], _, _, h => h
  | p :: a, _, h, h2 => ⟨h.1, oks_app h.2 h2⟩
/-! what is read on -/
def lput (ks xs : List Str) : List Str := xs.foldl kput ks
theorem lput_in {x : Str} {ks xs : List Str} : x ∈ lput ks xs ↔ x ∈ ks ∨ x ∈ xs := ded_aux xs ks
theorem lput_nd : ∀ (xs : List Str) {ks : List Str}, ks.Nodup → (lput ks xs).Nodup
  | [], _, h => h
  | x :: xs, _, h => lput_nd xs (kput_nd h)
theorem lput_cons {ks xs : List Str} {x : Str} : lput ks (x :: xs) = lput (kput ks x) xs := rfl
theorem kput_ge {ks : List Str} {x : Str} : ks.length ≤ (kput ks x).length := by
  unfold kput
  split
  · omega
  · simp
theorem lput_ge : ∀ (xs : List Str) {ks : List Str}, ks.length ≤ (lput ks xs).length
  | [], _ => Nat.le_refl _
  | x :: xs, ks => by
    rw [lput_cons]
    exact Nat.le_trans kput_ge (lput_ge xs)
theorem lput_stop : ∀ (xs : List Str) {ks : List Str}, (lput ks xs).length ≤ ks.length → lput ks xs = ks
  | [], _, _ => rfl
  | x :: xs, ks, h => by
    rw [lput_cons] at h ⊢
    have h2 := lput_ge xs (ks := kput ks x)
    have hx : x ∈ ks := Classical.byContradiction fun z => by
      have : kput ks x = ks ++ [x] := by unfold kput; exact if_neg z
      rw [this] at h h2
      simp at h h2
      omega
    rw [kput_mem hx] at h ⊢
    exact lput_stop xs h
theorem kput_all : ∀ (m ks : List Str), (∀ x ∈ m, x ∈ ks) → m.foldl kput ks = ks
  | [], _, _ => rfl
  | x :: m, ks, h => by
    rw [List.foldl_cons, kput_mem (h x List.mem_cons_self)]
    exact kput_all m ks fun y hy => h y (List.mem_cons_of_mem _ hy)
theorem lput_sub {ks xs : List Str} (h : ∀ x ∈ xs, x ∈ ks) : lput ks xs = ks := kput_all xs ks h
theorem nd_len : ∀ {l m : List Str}, l.Nodup → (∀ x ∈ l, x ∈ m) → l.length ≤ m.length
  | [], _, _, _ => Nat.zero_le _
  | x :: l, m, h, hs => by
    have hx := hs x List.mem_cons_self
    have h' := List.nodup_cons.mp h
    have := nd_len (l := l) (m := m.erase x) h'.2 fun y hy => (List.mem_erase_of_ne (fun e => h'.1 (by rw [← e]; exact hy))).mpr (hs y (List.mem_cons_of_mem _ hy))
    rw [List.length_erase_of_mem hx] at this
    have hp : 0 < m.length := List.length_pos_of_mem hx
    rw [List.length_cons]
    omega
/-- ahead of a deed -/
def lvDeed (d : Deed) (ks : List Str) : List Str := lput (lput [] (ks.filter fun x => decide (d.wr ≠ some x))) d.rd
theorem lvDeed_in {x : Str} {d : Deed} {ks : List Str} : x ∈ lvDeed d ks ↔ (x ∈ ks ∧ d.wr ≠ some x) ∨ x ∈ d.rd := by
  unfold lvDeed
  rw [lput_in, lput_in, List.mem_filter, decide_eq_true_eq]
  simp
structure Tm2 where
  kept : List Pg
  live : List Str
  n : Nat
def loopL (B : List Str → Tm2) : Nat → List Str → Tm2
  | 0, f => ⟨[], f, 0⟩
  | k + 1, f => if (lput f (B f).live).length ≤ f.length then ⟨(B f).kept, lput f (B f).live, (B f).n⟩ else loopL B k (lput f (B f).live)
mutual
def Pg.trim : Pg → List Str → Tm2
  | .dd d, ks => match d.wr with
    | some x => if x ∈ ks then ⟨[.dd d], lvDeed d ks, 0⟩ else ⟨[], lvDeed d ks, 1⟩
    | none => ⟨[.dd d], lvDeed d ks, 0⟩
  | .ite x a b, ks => ⟨if 0 < (Pg.trims a ks).kept.length + (Pg.trims b ks).kept.length then [.ite x (Pg.trims a ks).kept (Pg.trims b ks).kept] else [], lput (lput (Pg.trims a ks).live (Pg.trims b ks).live) [x], (Pg.trims a ks).n + (Pg.trims b ks).n⟩
  | .whl x a, ks => ⟨[.whl x (loopL (Pg.trims a) 20 (lput ks [x])).kept], (loopL (Pg.trims a) 20 (lput ks [x])).live, (loopL (Pg.trims a) 20 (lput ks [x])).n⟩
def Pg.trims : List Pg → List Str → Tm2
  | [], ks => ⟨[], ks, 0⟩
  | p :: l, ks => ⟨(p.trim (Pg.trims l ks).live).kept ++ (Pg.trims l ks).kept, (p.trim (Pg.trims l ks).live).live, (p.trim (Pg.trims l ks).live).n + (Pg.trims l ks).n⟩
end
theorem trims_nil {ks : List Str} : Pg.trims [] ks = ⟨[], ks, 0⟩ := by rw [Pg.trims]
theorem trims_cons {p : Pg} {l : List Pg} {ks : List Str} : Pg.trims (p :: l) ks = ⟨(p.trim (Pg.trims l ks).live).kept ++ (Pg.trims l ks).kept, (p.trim (Pg.trims l ks).live).live, (p.trim (Pg.trims l ks).live).n + (Pg.trims l ks).n⟩ := by rw [Pg.trims]
theorem trims_app {b : List Pg} {ks : List Str} : ∀ {a : List Pg}, (Pg.trims (a ++ b) ks).kept = (Pg.trims a (Pg.trims b ks).live).kept ++ (Pg.trims b ks).kept ∧ (Pg.trims (a ++ b) ks).live = (Pg.trims a (Pg.trims b ks).live).live
  | [] => by rw [trims_nil]; exact ⟨rfl, rfl⟩
  | p :: a => by
    obtain ⟨h1, h2⟩ := trims_app (b := b) (ks := ks) (a := a)
    rw [List.cons_append, trims_cons, trims_cons]
    dsimp only
    rw [h1, h2, List.append_assoc]
    exact ⟨rfl, rfl⟩
/-- a loop's set that grows no more -/
structure FixL (B : List Str → Tm2) (f0 f : List Str) (r : Tm2) : Prop where
  sub : ∀ x ∈ f0, x ∈ f
  nd : f.Nodup
  eq : r = ⟨(B f).kept, f, (B f).n⟩
  cl : ∀ x ∈ (B f).live, x ∈ f
theorem loop_fix {B : List Str → Tm2} {names : List Str} (hB : ∀ g : List Str, g.Nodup → (∀ x ∈ g, x ∈ names) → ∀ x ∈ (B g).live, x ∈ names) : ∀ (k : Nat) (f : List Str), f.Nodup → (∀ x ∈ f, x ∈ names) → names.length < f.length + k →
    ∃ f', (∀ x ∈ f', x ∈ names) ∧ FixL B f f' (loopL B k f)
  | 0, f, hn, hs, hl => absurd (nd_len hn hs) (by omega)
  | k + 1, f, hn, hs, hl => by
    unfold loopL
    by_cases h : (lput f (B f).live).length ≤ f.length
    · rw [if_pos h]
      have e := lput_stop _ h
      rw [e]
      exact ⟨f, hs, ⟨fun x hx => hx, hn, rfl, fun x hx => by rw [← e]; exact lput_in.mpr (.inr hx)⟩⟩
    · rw [if_neg h]
      obtain ⟨f', h1, h2⟩ := loop_fix hB k (lput f (B f).live) (lput_nd _ hn) (fun x hx => (lput_in.mp hx).elim (hs x) (hB f hn hs x)) (by omega)
      exact ⟨f', h1, ⟨fun x hx => h2.sub x (lput_in.mpr (.inl hx)), h2.nd, h2.eq, h2.cl⟩⟩
theorem rd_in {d : Deed} {names : List Str} {w : Nat} (h : d.Ok names w) : ∀ x ∈ d.rd, x ∈ names := by
  have opd : ∀ a : Opd, a.Ok names w → ∀ x ∈ a.rd, x ∈ names := fun a h x hx => by
    cases a with
    | nm y => rw [List.mem_singleton.mp hx]; exact h
    | wd i => cases hx
  cases d with
  | tell a => exact opd a h
  | copy n a => exact opd a h.2
  | op p n a b => exact fun x hx => (List.mem_append.mp hx).elim (opd a h.2.2.1 x) (opd b h.2.2.2 x)
theorem trim_in {names : List Str} {w : Nat} (h8 : names.length ≤ 19) : (∀ p : Pg, p.Ok names w → ∀ ks : List Str, ks.Nodup → (∀ x ∈ ks, x ∈ names) → (p.trim ks).live.Nodup ∧ ∀ x ∈ (p.trim ks).live, x ∈ names) ∧
    (∀ l : List Pg, Pg.Oks names w l → ∀ ks : List Str, ks.Nodup → (∀ x ∈ ks, x ∈ names) → (Pg.trims l ks).live.Nodup ∧ ∀ x ∈ (Pg.trims l ks).live, x ∈ names) := by
  have main : ∀ p : Pg, p.Ok names w → ∀ ks : List Str, ks.Nodup → (∀ x ∈ ks, x ∈ names) → (p.trim ks).live.Nodup ∧ ∀ x ∈ (p.trim ks).live, x ∈ names := by
    intro p
    induction p using Pg.rec (motive_2 := fun l => Pg.Oks names w l → ∀ ks : List Str, ks.Nodup → (∀ x ∈ ks, x ∈ names) → (Pg.trims l ks).live.Nodup ∧ ∀ x ∈ (Pg.trims l ks).live, x ∈ names) with
    | dd d =>
      intro h ks hn hs
      rw [Pg.Ok] at h
      have e : ((Pg.dd d).trim ks).live = lvDeed d ks := by
        rw [Pg.trim]
        split
        · split <;> rfl
        · rfl
      rw [e]
      refine ⟨lput_nd _ (lput_nd _ List.nodup_nil), fun x hx => ?_⟩
      rcases lvDeed_in.mp hx with z | z
      · exact hs x z.1
      · exact rd_in h x z
    | ite x a b iha ihb =>
      intro h ks hn hs
      rw [Pg.Ok] at h
      obtain ⟨n1, s1⟩ := iha h.2.2.2.1 ks hn hs
      obtain ⟨n2, s2⟩ := ihb h.2.2.2.2 ks hn hs
      rw [Pg.trim]
      refine ⟨lput_nd _ (lput_nd _ n1), fun y hy => ?_⟩
      rcases lput_in.mp hy with z | z
      · exact (lput_in.mp z).elim (s1 y) (s2 y)
      · rw [List.mem_singleton.mp z]; exact h.1
    | whl x a iha =>
      intro h ks hn hs
      rw [Pg.Ok] at h
      have hf : ∀ y ∈ lput ks [x], y ∈ names := fun y hy => (lput_in.mp hy).elim (hs y) fun z => by rw [List.mem_singleton.mp z]; exact h.1
      obtain ⟨f', h1, h2⟩ := loop_fix (B := Pg.trims a) (names := names) (fun g gn gs => (iha h.2.2 g gn gs).2) 20 (lput ks [x]) (lput_nd _ hn) hf (by omega)
      rw [Pg.trim, h2.eq]
      exact ⟨h2.nd, h1⟩
    | nil => rename_i h ks hn hs; rw [trims_nil]; exact ⟨hn, hs⟩
    | cons p l ihp ihl =>
      rename_i h ks hn hs
      obtain ⟨n1, s1⟩ := ihl h.2 ks hn hs
      rw [trims_cons]
      exact ihp h.1 _ n1 s1
  refine ⟨main, fun l => ?_⟩
  induction l with
  | nil => intro _ ks hn hs; rw [trims_nil]; exact ⟨hn, hs⟩
  | cons p l ih =>
    intro h ks hn hs
    obtain ⟨n1, s1⟩ := ih h.2 ks hn hs
    rw [trims_cons]
    exact main p h.1 _ n1 s1
/-- the loop of a while comes to its end -/
theorem whl_fix {names : List Str} {w : Nat} {x : Str} {a : List Pg} {ks : List Str} (h8 : names.length ≤ 19) (hx : x ∈ names) (ha : Pg.Oks names w a) (hn : ks.Nodup) (hs : ∀ y ∈ ks, y ∈ names) :
    ∃ f, (∀ y ∈ f, y ∈ names) ∧ FixL (Pg.trims a) (lput ks [x]) f (loopL (Pg.trims a) 20 (lput ks [x])) := by
  exact loop_fix (fun g gn gs => ((trim_in h8).2 a ha g gn gs).2) 20 _ (lput_nd _ hn) (fun y hy => (lput_in.mp hy).elim (hs y) fun z => by rw [List.mem_singleton.mp z]; exact hx) (by omega)
/-! data told apart -/
mutual
def plnD : D → Bool
  | .int _ => true
  | .str _ => true
  | .tup l => plnDs l
  | .lst l => plnDs l
  | _ => false
def plnDs : List D → Bool
  | [] => true
  | d :: l => plnD d && plnDs l
end
theorem py_int {i : Int} : D.py (.int i) = some (.int i) := by unfold D.py; rfl
theorem py_str {x : Str} : D.py (.str x) = some (.str x) := by unfold D.py; rfl
theorem py_tup {l : List D} : D.py (.tup l) = (D.pys l).map .tuple := by conv => lhs; unfold D.py
theorem py_lst {l : List D} : D.py (.lst l) = (D.pys l).map .list := by conv => lhs; unfold D.py
theorem pys_nil : D.pys [] = some [] := by unfold D.pys; rfl
theorem pys_cons {d : D} {l : List D} : D.pys (d :: l) = (D.py d).bind fun x => (D.pys l).map fun xs => x :: xs := by conv => lhs; unfold D.pys
mutual
theorem py_inj : ∀ (d e : D) (p q : PyData), plnD d = true → plnD e = true → d.py = some p → e.py = some q → PyData.eqv p q = true → d = e
  | .int i, e, p, q, _, he, e1, e2, h => by
    rw [py_int] at e1
    cases e1
    cases e with
    | int j =>
      rw [py_int] at e2
      cases e2
      have h' : (i == j) = true := by unfold PyData.eqv at h; exact h
      rw [eq_of_beq h']
    | str x =>
      rw [py_str] at e2
      cases e2
      unfold PyData.eqv at h
      cases h
    | tup l =>
      rw [py_tup] at e2
      obtain ⟨ps, _, rfl⟩ := Option.map_eq_some_iff.mp e2
      unfold PyData.eqv at h
      cases h
    | lst l =>
      rw [py_lst] at e2
      obtain ⟨ps, _, rfl⟩ := Option.map_eq_some_iff.mp e2
      unfold PyData.eqv at h
      cases h
    | _ => cases he
  | .str x, e, p, q, _, he, e1, e2, h => by
    rw [py_str] at e1
    cases e1
    cases e with
    | int j =>
      rw [py_int] at e2
      cases e2
      unfold PyData.eqv at h
      cases h
    | str y =>
      rw [py_str] at e2
      cases e2
      have h' : (x == y) = true := by unfold PyData.eqv at h; exact h
      rw [eq_of_beq h']
    | tup l =>
      rw [py_tup] at e2
      obtain ⟨ps, _, rfl⟩ := Option.map_eq_some_iff.mp e2
      unfold PyData.eqv at h
      cases h
    | lst l =>
      rw [py_lst] at e2
      obtain ⟨ps, _, rfl⟩ := Option.map_eq_some_iff.mp e2
      unfold PyData.eqv at h
      cases h
    | _ => cases he
  | .tup l, e, p, q, hd, he, e1, e2, h => by
    rw [py_tup] at e1
    obtain ⟨ps, e3, rfl⟩ := Option.map_eq_some_iff.mp e1
    cases e with
    | int j =>
      rw [py_int] at e2
      cases e2
      unfold PyData.eqv at h
      cases h
    | str y =>
      rw [py_str] at e2
      cases e2
      unfold PyData.eqv at h
      cases h
    | tup m =>
      rw [py_tup] at e2
      obtain ⟨qs, e4, rfl⟩ := Option.map_eq_some_iff.mp e2
      unfold PyData.eqv at h
      rw [pys_inj l m ps qs (by unfold plnD at hd; exact hd) (by unfold plnD at he; exact he) e3 e4 h]
    | lst m =>
      rw [py_lst] at e2
      obtain ⟨qs, _, rfl⟩ := Option.map_eq_some_iff.mp e2
      unfold PyData.eqv at h
      cases h
    | _ => cases he
  | .lst l, e, p, q, hd, he, e1, e2, h => by
    rw [py_lst] at e1
    obtain ⟨ps, e3, rfl⟩ := Option.map_eq_some_iff.mp e1
    cases e with
    | int j =>
      rw [py_int] at e2
      cases e2
      unfold PyData.eqv at h
      cases h
    | str y =>
      rw [py_str] at e2
      cases e2
      unfold PyData.eqv at h
      cases h
    | lst m =>
      rw [py_lst] at e2
      obtain ⟨qs, e4, rfl⟩ := Option.map_eq_some_iff.mp e2
      unfold PyData.eqv at h
      rw [pys_inj l m ps qs (by unfold plnD at hd; exact hd) (by unfold plnD at he; exact he) e3 e4 h]
    | tup m =>
      rw [py_tup] at e2
      obtain ⟨qs, _, rfl⟩ := Option.map_eq_some_iff.mp e2
      unfold PyData.eqv at h
      cases h
    | _ => cases he
  | .non, _, _, _, hd, _, _, _, _ => by cases hd
  | .bl _, _, _, _, hd, _, _, _, _ => by cases hd
  | .dct _ _, _, _, _, hd, _, _, _, _ => by cases hd
  | .obj _ _ _, _, _, _, hd, _, _, _, _ => by cases hd
theorem pys_inj : ∀ (l m : List D) (ps qs : List PyData), plnDs l = true → plnDs m = true → D.pys l = some ps → D.pys m = some qs → PyData.eqvAll ps qs = true → l = m
  | [], [], _, _, _, _, _, _, _ => rfl
  | [], e :: m, ps, qs, _, _, e1, e2, h => by
    rw [pys_nil] at e1
    cases e1
    rw [pys_cons] at e2
    obtain ⟨x, _, e3⟩ := Option.bind_eq_some_iff.mp e2
    obtain ⟨xs, _, rfl⟩ := Option.map_eq_some_iff.mp e3
    unfold PyData.eqvAll at h
    cases h
  | d :: l, [], ps, qs, _, _, e1, e2, h => by
    rw [pys_nil] at e2
    cases e2
    rw [pys_cons] at e1
    obtain ⟨x, _, e3⟩ := Option.bind_eq_some_iff.mp e1
    obtain ⟨xs, _, rfl⟩ := Option.map_eq_some_iff.mp e3
    unfold PyData.eqvAll at h
    cases h
  | d :: l, e :: m, ps, qs, hl, hm, e1, e2, h => by
    rw [pys_cons] at e1 e2
    obtain ⟨x, f1, e3⟩ := Option.bind_eq_some_iff.mp e1
    obtain ⟨xs, f2, rfl⟩ := Option.map_eq_some_iff.mp e3
    obtain ⟨y, g1, e4⟩ := Option.bind_eq_some_iff.mp e2
    obtain ⟨ys, g2, rfl⟩ := Option.map_eq_some_iff.mp e4
    unfold PyData.eqvAll at h
    obtain ⟨h1, h2⟩ := Bool.and_eq_true_iff.mp h
    unfold plnDs at hl hm
    obtain ⟨l1, l2⟩ := Bool.and_eq_true_iff.mp hl
    obtain ⟨m1, m2⟩ := Bool.and_eq_true_iff.mp hm
    rw [py_inj d e x y l1 m1 f1 g1 h1, pys_inj l m xs ys l2 m2 f2 g2 h2]
end
theorem opd_inj {a b : Opd} (h : a.d = b.d) : a = b := by
  cases a <;> cases b <;> first | (cases h; rfl) | cases h
theorem tup_len {l m : List D} (h : D.tup l = .tup m) : l.length = m.length := by
  injection h with h
  rw [h]
theorem deed_inj {a b : Deed} (h : a.d = b.d) : a = b := by
  cases a with
  | tell x =>
    cases b with
    | tell y =>
      have h' : D.tup [.str "tell", x.d] = .tup [.str "tell", y.d] := h
      injection h' with h'
      rw [opd_inj (List.cons.inj (List.cons.inj h').2).1]
    | copy n y => exact absurd (show (2 : Nat) = 3 from tup_len h) (by decide)
    | op p n y z => exact absurd (show (2 : Nat) = 4 from tup_len h) (by decide)
  | copy n x =>
    cases b with
    | tell y => exact absurd (show (3 : Nat) = 2 from tup_len h) (by decide)
    | copy m y =>
      have h' : D.tup [.str "copy", .str n, x.d] = .tup [.str "copy", .str m, y.d] := h
      injection h' with h'
      have h1 := (List.cons.inj h').2
      have h2 := (List.cons.inj h1).1
      cases h2
      rw [opd_inj (List.cons.inj (List.cons.inj h1).2).1]
    | op p m y z => exact absurd (show (3 : Nat) = 4 from tup_len h) (by decide)
  | op p n x z =>
    cases b with
    | tell y => exact absurd (show (4 : Nat) = 2 from tup_len h) (by decide)
    | copy m y => exact absurd (show (4 : Nat) = 3 from tup_len h) (by decide)
    | op q m y v =>
      have h' : D.tup [.str p, .str n, x.d, z.d] = .tup [.str q, .str m, y.d, v.d] := h
      injection h' with h'
      have h0 := (List.cons.inj h').1
      cases h0
      have h1 := (List.cons.inj h').2
      have h2 := (List.cons.inj h1).1
      cases h2
      have h3 := (List.cons.inj h1).2
      rw [opd_inj (List.cons.inj h3).1, opd_inj (List.cons.inj (List.cons.inj h3).2).1]
theorem opd_lst {a : Opd} {l : List D} (h : a.d = .lst l) : False := by cases a <;> cases h
theorem dd_d {d : Deed} : (Pg.dd d).d = d.d := by rw [Pg.d]
mutual
theorem pg_inj : ∀ (p q : Pg), p.d = q.d → p = q
  | .dd a, .dd b, h => by
    rw [dd_d, dd_d] at h
    rw [deed_inj h]
  | .dd a, .ite x l m, h => by
    rw [dd_d, ite_d] at h
    cases a with
    | tell y => exact absurd (show (2 : Nat) = 4 from tup_len h) (by decide)
    | copy n y => exact absurd (show (3 : Nat) = 4 from tup_len h) (by decide)
    | op p n y z =>
      have h' : D.tup [.str p, .str n, y.d, z.d] = .tup [.str "if", .str x, .lst (Pg.ds l), .lst (Pg.ds m)] := h
      injection h' with h'
      exact (opd_lst (List.cons.inj (List.cons.inj (List.cons.inj h').2).2).1).elim
  | .dd a, .whl x l, h => by
    rw [dd_d, whl_d] at h
    cases a with
    | tell y => exact absurd (show (2 : Nat) = 3 from tup_len h) (by decide)
    | copy n y =>
      have h' : D.tup [.str "copy", .str n, y.d] = .tup [.str "while", .str x, .lst (Pg.ds l)] := h
      injection h' with h'
      exact (opd_lst (List.cons.inj (List.cons.inj (List.cons.inj h').2).2).1).elim
    | op p n y z => exact absurd (show (4 : Nat) = 3 from tup_len h) (by decide)
  | .ite x l m, .dd a, h => by
    rw [dd_d, ite_d] at h
    cases a with
    | tell y => exact absurd (show (4 : Nat) = 2 from tup_len h) (by decide)
    | copy n y => exact absurd (show (4 : Nat) = 3 from tup_len h) (by decide)
    | op p n y z =>
      have h' : D.tup [.str "if", .str x, .lst (Pg.ds l), .lst (Pg.ds m)] = D.tup [.str p, .str n, y.d, z.d] := h
      injection h' with h'
      exact (opd_lst (List.cons.inj (List.cons.inj (List.cons.inj h').2).2).1.symm).elim
  | .ite x l m, .ite y l' m', h => by
    rw [ite_d, ite_d] at h
    injection h with h
    have h1 := (List.cons.inj h).2
    have h2 := (List.cons.inj h1).1
    have h3 := (List.cons.inj h1).2
    injection h2 with h2
    have h4 := (List.cons.inj h3).1
    have h5 := (List.cons.inj (List.cons.inj h3).2).1
    injection h4 with h4
    injection h5 with h5
    rw [h2, ds_inj l l' h4, ds_inj m m' h5]
  | .ite x l m, .whl y l', h => by
    rw [ite_d, whl_d] at h
    exact absurd (show (4 : Nat) = 3 from tup_len h) (by decide)
  | .whl x l, .dd a, h => by
    rw [dd_d, whl_d] at h
    cases a with
    | tell y => exact absurd (show (3 : Nat) = 2 from tup_len h) (by decide)
    | copy n y =>
      have h' : D.tup [.str "while", .str x, .lst (Pg.ds l)] = D.tup [.str "copy", .str n, y.d] := h
      injection h' with h'
      exact (opd_lst (List.cons.inj (List.cons.inj (List.cons.inj h').2).2).1.symm).elim
    | op p n y z => exact absurd (show (3 : Nat) = 4 from tup_len h) (by decide)
  | .whl x l, .ite y l' m', h => by
    rw [whl_d, ite_d] at h
    exact absurd (show (3 : Nat) = 4 from tup_len h) (by decide)
  | .whl x l, .whl y l', h => by
    rw [whl_d, whl_d] at h
    injection h with h
    have h1 := (List.cons.inj h).2
    have h2 := (List.cons.inj h1).1
    have h4 := (List.cons.inj (List.cons.inj h1).2).1
    injection h2 with h2
    injection h4 with h4
    rw [h2, ds_inj l l' h4]
theorem ds_inj : ∀ (l m : List Pg), Pg.ds l = Pg.ds m → l = m
  | [], [], _ => rfl
  | [], q :: m, h => by rw [Pg.ds, Pg.ds] at h; cases h
  | p :: l, [], h => by rw [Pg.ds, Pg.ds] at h; cases h
  | p :: l, q :: m, h => by
    rw [Pg.ds, Pg.ds] at h
    obtain ⟨h1, h2⟩ := List.cons.inj h
    rw [pg_inj p q h1, ds_inj l m h2]
end
theorem opd_pln {a : Opd} : plnD a.d = true := by cases a <;> rfl
theorem deed_pln {d : Deed} : plnD d.d = true := by
  cases d with
  | tell a => show (true && (plnD a.d && true)) = true; rw [opd_pln]; rfl
  | copy n a => show (true && (true && (plnD a.d && true))) = true; rw [opd_pln]; rfl
  | op p n a b => show (true && (true && (plnD a.d && (plnD b.d && true)))) = true; rw [opd_pln, opd_pln]; rfl
mutual
theorem pg_pln : ∀ p : Pg, plnD p.d = true
  | .dd d => by rw [dd_d]; exact deed_pln
  | .ite x a b => by
    rw [ite_d]
    show (true && (true && (plnDs (Pg.ds a) && (plnDs (Pg.ds b) && true)))) = true
    rw [ds_pln a, ds_pln b]
    rfl
  | .whl x a => by
    rw [whl_d]
    show (true && (true && (plnDs (Pg.ds a) && true))) = true
    rw [ds_pln a]
    rfl
theorem ds_pln : ∀ l : List Pg, plnDs (Pg.ds l) = true
  | [] => by rw [Pg.ds]; rfl
  | p :: l => by
    rw [Pg.ds]
    show (plnD p.d && plnDs (Pg.ds l)) = true
    rw [pg_pln p, ds_pln l]
    rfl
end
/-! fine data -/
theorem fine_s {x : Str} {n : Nat} (h : PyData.strOk x = true) : (D.str x).fine n = true := by
  show PyData.canLay0 (.str x) = true
  simp [PyData.canLay0, h]
theorem opd_fine {a : Opd} {names : List Str} {w n : Nat} (hn : ∀ x ∈ names, PyData.strOk x = true) (ha : a.Ok names w) : a.d.fine n = true := by
  cases a with
  | nm x => exact fine_s (hn x ha)
  | wd i => rfl
theorem tup_fine {l : List D} {n : Nat} (h : D.fines l n = true) : (D.tup l).fine (n + 1) = true := by
  show (decide (0 < n + 1) && D.fines l (n + 1 - 1)) = true
  rw [decide_eq_true (Nat.succ_pos n), Nat.add_sub_cancel, h]
  rfl
theorem lst_fine {l : List D} {n : Nat} (h : D.fines l n = true) : (D.lst l).fine (n + 1) = true := by
  show (decide (0 < n + 1) && D.fines l (n + 1 - 1)) = true
  rw [decide_eq_true (Nat.succ_pos n), Nat.add_sub_cancel, h]
  rfl
theorem fines_cons {d : D} {l : List D} {n : Nat} (h : d.fine n = true) (h2 : D.fines l n = true) : D.fines (d :: l) n = true := by
  show (D.fine d n && D.fines l n) = true
  rw [h, h2]
  rfl
theorem deed_fine {d : Deed} {names : List Str} {w n : Nat} (hn : ∀ x ∈ names, PyData.strOk x = true) (hd : d.Ok names w) : d.d.fine (n + 1) = true := by
  have lit : ∀ x ∈ (["tell", "copy", "plus", "less", "and", "or", "xor", "below", "same"] : List Str), PyData.strOk x = true := by decide +kernel
  have lop : ∀ p ∈ ops, PyData.strOk p = true := fun p hp => lit p (List.mem_cons_of_mem _ (List.mem_cons_of_mem _ hp))
  cases d with
  | tell a => exact tup_fine (fines_cons (fine_s (lit _ List.mem_cons_self)) (fines_cons (opd_fine hn hd) rfl))
  | copy m a => exact tup_fine (fines_cons (fine_s (lit _ (List.mem_cons_of_mem _ List.mem_cons_self))) (fines_cons (fine_s (hn m hd.1)) (fines_cons (opd_fine hn hd.2) rfl)))
  | op p m a b => exact tup_fine (fines_cons (fine_s (lop p hd.1)) (fines_cons (fine_s (hn m hd.2.1)) (fines_cons (opd_fine hn hd.2.2.1) (fines_cons (opd_fine hn hd.2.2.2) rfl))))
theorem pg_fine {names : List Str} {w : Nat} (hn : ∀ x ∈ names, PyData.strOk x = true) : ∀ k : Nat, (∀ p : Pg, p.Ok names w → p.dep ≤ k → p.d.fine (2 * k + 1) = true) := by
  have lits : PyData.strOk "if" = true ∧ PyData.strOk "while" = true := by decide +kernel
  intro k
  induction k with
  | zero =>
    intro p hp hd
    cases p with
    | dd d => rw [Pg.Ok] at hp; rw [dd_d]; exact deed_fine hn hp
    | ite x a b => rw [Pg.dep] at hd; omega
    | whl x a => rw [Pg.dep] at hd; omega
  | succ k ih =>
    have lst : ∀ l : List Pg, Pg.Oks names w l → Pg.deps l ≤ k → D.fines (Pg.ds l) (2 * k + 1) = true := by
      intro l
      induction l with
      | nil => intro _ _; rw [Pg.ds]; rfl
      | cons p l ihl =>
        intro ho hd
        have hd' : max p.dep (Pg.deps l) ≤ k := hd
        rw [Pg.ds]
        exact fines_cons (ih p ho.1 (by omega)) (ihl ho.2 (by omega))
    intro p hp hd
    cases p with
    | dd d => rw [Pg.Ok] at hp; rw [dd_d]; exact deed_fine hn hp
    | ite x a b =>
      rw [Pg.dep] at hd
      rw [Pg.Ok] at hp
      rw [ite_d]
      exact tup_fine (fines_cons (fine_s lits.1) (fines_cons (fine_s (hn x hp.1)) (fines_cons (lst_fine (lst a hp.2.2.2.1 (by omega))) (fines_cons (lst_fine (lst b hp.2.2.2.2 (by omega))) rfl))))
    | whl x a =>
      rw [Pg.dep] at hd
      rw [Pg.Ok] at hp
      rw [whl_d]
      exact tup_fine (fines_cons (fine_s lits.2) (fines_cons (fine_s (hn x hp.1)) (fines_cons (lst_fine (lst a hp.2.2 (by omega))) rfl)))
theorem fine_mono : (∀ (d : D) (n m : Nat), n ≤ m → d.fine n = true → d.fine m = true) ∧ (∀ (l : List D) (n m : Nat), n ≤ m → D.fines l n = true → D.fines l m = true) := by
  have main : ∀ (d : D) (n m : Nat), n ≤ m → d.fine n = true → d.fine m = true := by
    intro d
    induction d using D.rec (motive_2 := fun l => ∀ (n m : Nat), n ≤ m → D.fines l n = true → D.fines l m = true) with
    | non => intro _ _ _ _; rfl
    | bl b => intro _ _ _ _; rfl
    | int i => intro _ _ _ _; rfl
    | str x => intro _ _ _ h; exact h
    | tup l ih =>
      intro n m hm h
      obtain ⟨h1, h2⟩ := Bool.and_eq_true_iff.mp (show (decide (0 < n) && D.fines l (n - 1)) = true from h)
      have h1 := of_decide_eq_true h1
      show (decide (0 < m) && D.fines l (m - 1)) = true
      rw [decide_eq_true (by omega), ih (n - 1) (m - 1) (by omega) h2]
      rfl
    | lst l ih =>
      intro n m hm h
      obtain ⟨h1, h2⟩ := Bool.and_eq_true_iff.mp (show (decide (0 < n) && D.fines l (n - 1)) = true from h)
      have h1 := of_decide_eq_true h1
      show (decide (0 < m) && D.fines l (m - 1)) = true
      rw [decide_eq_true (by omega), ih (n - 1) (m - 1) (by omega) h2]
      rfl
    | dct ks vs ih => intro _ _ _ h; cases h
    | obj C ns vs ih => intro _ _ _ h; cases h
    | nil => rename_i n m hm h; rfl
    | cons d l ihd ihl =>
      rename_i n m hm h
      obtain ⟨h1, h2⟩ := Bool.and_eq_true_iff.mp (show (D.fine d n && D.fines l n) = true from h)
      exact fines_cons (ihd n m hm h1) (ihl n m hm h2)
  refine ⟨main, fun l n m hm h => ?_⟩
  induction l with
  | nil => rfl
  | cons d l ih =>
    obtain ⟨h1, h2⟩ := Bool.and_eq_true_iff.mp (show (D.fine d n && D.fines l n) = true from h)
    exact fines_cons (main d n m hm h1) (ih h2)
theorem ds_fine {names : List Str} {w : Nat} (hn : ∀ x ∈ names, PyData.strOk x = true) : ∀ (l : List Pg), Pg.Oks names w l → Pg.deps l ≤ 8 → D.fines (Pg.ds l) 63 = true
  | [], _, _ => by rw [Pg.ds]; rfl
  | p :: l, ho, hd => by
    have hd' : max p.dep (Pg.deps l) ≤ 8 := hd
    rw [Pg.ds]
    exact fines_cons (fine_mono.1 _ 17 63 (by decide) (pg_fine hn 8 p ho.1 (by omega))) (ds_fine hn l ho.2 (by omega))
theorem gNe_ds {names : List Str} {w : Nat} (hn : ∀ x ∈ names, PyData.strOk x = true) {l m : List Pg} (hl : Pg.Oks names w l) (hm : Pg.Oks names w m) (dl : Pg.deps l ≤ 8) (dm : Pg.deps m ≤ 8) (h : l ≠ m) : gNe (.f (.lst (Pg.ds l))) (.f (.lst (Pg.ds m))) = some (.f (.bl true)) := by
  obtain ⟨p, e1, q1, -⟩ := shaped_fine (d := .lst (Pg.ds l)) (lst_fine (ds_fine hn l hl dl))
  obtain ⟨q, e2, q2, -⟩ := shaped_fine (d := .lst (Pg.ds m)) (lst_fine (ds_fine hn m hm dm))
  have hne : PyData.eqv p q = false := by
    cases hz : PyData.eqv p q with
    | false => rfl
    | true =>
      have := py_inj _ _ p q (by unfold plnD; exact ds_pln l) (by unfold plnD; exact ds_pln m) e1 e2 hz
      injection this with this
      exact absurd (ds_inj l m this) h
  unfold gNe
  rw [or2_none rfl]
  unfold gEqD
  show ((D.lst (Pg.ds l)).py.bind fun p => (D.lst (Pg.ds m)).py.bind fun q => _) = _
  rw [e1, e2]
  show (if _ then _ else _) = _
  rw [if_pos ⟨q1, q2⟩, hne]
  rfl
/-! what is kept is smaller -/
theorem deps_app {b : List Pg} : ∀ {a : List Pg}, Pg.deps (a ++ b) = max (Pg.deps a) (Pg.deps b)
  | [] => by show Pg.deps b = max (Pg.deps []) (Pg.deps b); rw [Pg.deps]; omega
  | p :: a => by
    show max p.dep (Pg.deps (a ++ b)) = max (max p.dep (Pg.deps a)) (Pg.deps b)
    rw [deps_app]
    omega
theorem szs_app {b : List Pg} : ∀ {a : List Pg}, Pg.szs (a ++ b) = Pg.szs a + Pg.szs b
  | [] => by show Pg.szs b = Pg.szs [] + Pg.szs b; rw [Pg.szs]; omega
  | p :: a => by
    show p.sz + Pg.szs (a ++ b) = p.sz + Pg.szs a + Pg.szs b
    rw [szs_app]
    omega
theorem sz_pos : ∀ p : Pg, 1 ≤ p.sz
  | .dd d => Nat.le_refl 1
  | .ite x a b => by rw [Pg.sz]; omega
  | .whl x a => by rw [Pg.sz]; omega
structure TrP (names : List Str) (w : Nat) (l k : List Pg) : Prop where
  oks : Pg.Oks names w k
  dep : Pg.deps k ≤ Pg.deps l
  len : k.length ≤ l.length
  sz : Pg.szs k ≤ Pg.szs l
  eq : Pg.szs k = Pg.szs l → k = l
theorem TrP.nil {names : List Str} {w : Nat} {l : List Pg} : TrP names w l [] :=
  ⟨trivial, by rw [show Pg.deps [] = 0 from rfl]; omega, Nat.zero_le _, by rw [show Pg.szs [] = 0 from rfl]; omega, fun h => by
    cases l with
    | nil => rfl
    | cons p l =>
      have h' : 0 = p.sz + Pg.szs l := h
      have := sz_pos p
      omega⟩
theorem loopL_kept {P : List Pg → Prop} {B : List Str → Tm2} (h0 : P []) (h : ∀ g, P (B g).kept) : ∀ (k : Nat) (f : List Str), P (loopL B k f).kept
  | 0, _ => h0
  | k + 1, f => by
    unfold loopL
    split
    · exact h f
    · exact loopL_kept h0 h k _
theorem trim_p {names : List Str} {w : Nat} : (∀ p : Pg, p.Ok names w → ∀ ks : List Str, TrP names w [p] (p.trim ks).kept) ∧ (∀ l : List Pg, Pg.Oks names w l → ∀ ks : List Str, TrP names w l (Pg.trims l ks).kept) := by
  have app : ∀ (p : Pg) (l kp kl : List Pg), TrP names w [p] kp → TrP names w l kl → TrP names w (p :: l) (kp ++ kl) := fun p l kp kl a b => by
    have d1 : Pg.deps [p] = max p.dep 0 := rfl
    have d2 : Pg.deps (p :: l) = max p.dep (Pg.deps l) := rfl
    have s1 : Pg.szs [p] = p.sz + 0 := rfl
    have s2 : Pg.szs (p :: l) = p.sz + Pg.szs l := rfl
    have a2 := a.dep
    have a4 := a.sz
    have b2 := b.dep
    have b4 := b.sz
    have a3 : kp.length ≤ 1 := a.len
    have b3 := b.len
    refine ⟨oks_app a.oks b.oks, by rw [deps_app]; omega, by rw [List.length_append, List.length_cons]; omega, by rw [szs_app]; omega, fun h => ?_⟩
    rw [szs_app] at h
    rw [a.eq (by omega), b.eq (by omega)]
    rfl
  have main : ∀ p : Pg, p.Ok names w → ∀ ks : List Str, TrP names w [p] (p.trim ks).kept := by
    intro p
    induction p using Pg.rec (motive_2 := fun l => Pg.Oks names w l → ∀ ks : List Str, TrP names w l (Pg.trims l ks).kept) with
    | dd d =>
      intro h ks
      have self : TrP names w [.dd d] [.dd d] := ⟨⟨h, trivial⟩, Nat.le_refl _, Nat.le_refl _, Nat.le_refl _, fun _ => rfl⟩
      rw [Pg.trim]
      split
      · split
        · exact self
        · exact TrP.nil
      · exact self
    | ite x a b iha ihb =>
      intro h ks
      rw [Pg.Ok] at h
      have a1 := iha h.2.2.2.1 ks
      have b1 := ihb h.2.2.2.2 ks
      have a2 := a1.dep
      have a3 := a1.len
      have a4 := a1.sz
      have b2 := b1.dep
      have b3 := b1.len
      have b4 := b1.sz
      rw [Pg.trim]
      dsimp only
      split
      · refine ⟨⟨by rw [Pg.Ok]; exact ⟨h.1, by omega, by omega, a1.oks, b1.oks⟩, trivial⟩, ?_, Nat.le_refl _, ?_, fun q => ?_⟩
        · show max (Pg.dep (.ite x _ _)) 0 ≤ max (Pg.dep (.ite x a b)) 0
          rw [Pg.dep, Pg.dep]
          omega
        · show Pg.sz (.ite x _ _) + 0 ≤ Pg.sz (.ite x a b) + 0
          rw [Pg.sz, Pg.sz]
          omega
        · have q' : Pg.sz (.ite x (Pg.trims a ks).kept (Pg.trims b ks).kept) + 0 = Pg.sz (.ite x a b) + 0 := q
          rw [Pg.sz, Pg.sz] at q'
          rw [a1.eq (by omega), b1.eq (by omega)]
      · exact TrP.nil
    | whl x a iha =>
      intro h ks
      rw [Pg.Ok] at h
      have a1 := loopL_kept (P := TrP names w a) (B := Pg.trims a) TrP.nil (fun g => iha h.2.2 g) 20 (lput ks [x])
      rw [Pg.trim]
      dsimp only
      generalize (loopL (Pg.trims a) 20 (lput ks [x])).kept = k at *
      have a2 := a1.dep
      have a3 := a1.len
      have a4 := a1.sz
      refine ⟨⟨by rw [Pg.Ok]; exact ⟨h.1, by omega, a1.oks⟩, trivial⟩, ?_, Nat.le_refl _, ?_, fun q => ?_⟩
      · show max (Pg.dep (.whl x _)) 0 ≤ max (Pg.dep (.whl x a)) 0
        rw [Pg.dep, Pg.dep]
        omega
      · show Pg.sz (.whl x _) + 0 ≤ Pg.sz (.whl x a) + 0
        rw [Pg.sz, Pg.sz]
        omega
      · have q' : Pg.sz (.whl x k) + 0 = Pg.sz (.whl x a) + 0 := q
        rw [Pg.sz, Pg.sz] at q'
        rw [a1.eq (by omega)]
    | nil => rename_i h ks; rw [trims_nil]; exact TrP.nil
    | cons p l ihp ihl =>
      rename_i h ks
      rw [trims_cons]
      exact app p l _ _ (ihp h.1 _) (ihl h.2 ks)
  refine ⟨main, fun l => ?_⟩
  induction l with
  | nil => intro _ ks; rw [trims_nil]; exact TrP.nil
  | cons p l ih =>
    intro h ks
    rw [trims_cons]
    exact app p l _ _ (main p h.1 _) (ih h.2 ks)
/-! sets of names, walked -/
def lvV (ks : List Str) : List D := ks.map fun _ => .bl true
def lvD (ks : List Str) : D := .dct (bK ks) (lvV ks)
theorem lv_zip {x : Str} : ∀ {ks : List Str}, x ∈ ks → True := fun _ => trivial
theorem lput2 {x : Str} {ks : List Str} : dput (bK ks) (lvV ks) (.inr x) (.bl true) = (bK (kput ks x), lvV (kput ks x)) := by
  unfold dput kput
  rw [bK_any]
  by_cases q : x ∈ ks
  · rw [if_pos (decide_eq_true q), if_pos q]
    have h : List.zipWith (fun q e => if q = Sum.inr x then D.bl true else e) (bK ks) (lvV ks) = lvV ks := by
      unfold lvV bK
      clear q
      induction ks with
      | nil => rfl
      | cons k ks ih =>
        rw [List.map_cons, List.map_cons, List.zipWith_cons_cons, ih]
        congr 1
        split <;> rfl
    rw [h]
  · rw [if_neg (by rw [decide_eq_false q]; simp), if_neg q]
    unfold bK lvV
    rw [List.map_append, List.map_append]
    rfl
theorem lputa {x : Str} {ks : List Str} : (dput (bK ks) (lvV ks) (.inr x) (.bl true)).1 = bK (kput ks x) := by rw [lput2]
theorem lputb {x : Str} {ks : List Str} : (dput (bK ks) (lvV ks) (.inr x) (.bl true)).2 = lvV (kput ks x) := by rw [lput2]
theorem bK_kD {ks : List Str} : (bK ks).map kD = ks.map .str := by
  unfold bK
  rw [List.map_map]
  rfl
theorem lput_snoc {ks xs : List Str} {x : Str} : lput ks (xs ++ [x]) = kput (lput ks xs) x := by
  unfold lput
  rw [List.foldl_append]
  rfl
theorem lput_len {ks : List Str} : ∀ {xs : List Str}, (lput ks xs).length ≤ ks.length + xs.length := ded_len _ _
theorem both_ok {a b : List Str} (ha : a.length ≤ 300) (hb : b.length ≤ 300) : val (g_both [.f (lvD a), .f (lvD b)]) = some (lvD (lput a b)) := by
  have hv : val (g_both [.f (lvD a), .f (lvD b)]) = oval (b_both ([.f (lvD a), .f (lvD b)] ++ List.replicate (4 - 2) .un)) 2 := val_run (m := 2) (n := 4) rfl
  rw [hv]
  clear hv
  unfold lvD
  obtain ⟨ρ', l1, s3, rfl⟩ := for_map (φ := D.str) (fg := gSet 3) (fb := l_both_1) (ρ := [.f (.dct (bK a) (lvV a)), .f (.dct (bK b) (lvV b)), .dk (bK a) (lvV a), .un]) b
    (fun i ρ => ∃ s3 : T, ρ = [.f (.dct (bK a) (lvV a)), .f (.dct (bK b) (lvV b)), .dk (bK (lput a (b.take i))) (lvV (lput a (b.take i))), s3]) (by
    rintro i x ρ hx ⟨s3, rfl⟩
    rw [take_snoc hx, lput_snoc]
    have p1 := lputa (x := x) (ks := lput a (b.take i))
    have p2 := lputb (x := x) (ks := lput a (b.take i))
    have hl : (bK (lput a (b.take i))).length ≤ 1000 := by
      rw [bK_len]
      have := lput_len (ks := a) (xs := b.take i)
      rw [List.length_take] at this
      omega
    generalize lput a (b.take i) = K at *
    generalize bK a = ka at *
    generalize lvV a = va at *
    generalize bK b = kb at *
    generalize lvV b = vb at *
    generalize bK (kput K x) = k1 at *
    generalize lvV (kput K x) = v1 at *
    generalize bK K = k2' at *
    generalize lvV K = v2 at *
    unfold l_both_1
    clear hx ha hb
    apply Wn_of
    case h =>
      walk_at "W"
      rfl
    case hq => exact ⟨_, rfl⟩) ⟨_, rfl⟩
  rw [List.take_length, ← bK_kD] at l1
  unfold b_both
  clear ha hb
  generalize bK a = ka at *
  generalize lvV a = va at *
  generalize bK b = kb at *
  generalize lvV b = vb at *
  generalize bK (lput a b) = k1 at *
  generalize lvV (lput a b) = v1 at *
  walk_at "W"
def wrD (d : Deed) : D := match d.wr with
  | some n => .str n
  | none => .non
theorem writes_ok2 (d : Deed) {names : List Str} {w : Nat} (h : d.Ok names w) : val (g_writes [.f d.d]) = some (wrD d) := writes_ok d h
theorem gNe_wr {d : Deed} {x : Str} : gNe (.f (.str x)) (.f (wrD d)) = some (.f (.bl (decide (d.wr ≠ some x)))) := by
  unfold wrD
  cases d.wr with
  | none =>
    show some (T.f (.bl (xor true (decide (V.str x = V.non))))) = _
    have h1 : decide (V.str x = V.non) = false := decide_eq_false (by intro z; cases z)
    have h2 : decide ((none : Option Str) ≠ some x) = true := decide_eq_true (by intro z; cases z)
    rw [h1, h2]
    rfl
  | some n =>
    show some (T.f (.bl (xor true (decide (V.str x = V.str n))))) = _
    congr 3
    by_cases q : x = n
    · subst q; simp
    · rw [decide_eq_false (by intro z; cases z; exact q rfl), decide_eq_true (by intro z; cases z; exact q rfl)]
      rfl
theorem rd_len {d : Deed} : d.rd.length ≤ 2 := by
  have opd : ∀ a : Opd, a.rd.length ≤ 1 := fun a => by cases a <;> simp [Opd.rd]
  cases d with
  | tell a => exact Nat.le_succ_of_le (opd a)
  | copy n a => exact Nat.le_succ_of_le (opd a)
  | op p n a b => show (a.rd ++ b.rd).length ≤ 2; rw [List.length_append]; have := opd a; have := opd b; omega
theorem live_ahead_ok {d : Deed} {ks names : List Str} {w : Nat} (hd : d.Ok names w) (hk : ks.length ≤ 300) : val (g_live_ahead [.f d.d, .f (lvD ks)]) = some (lvD (lvDeed d ks)) := by
  have hv : val (g_live_ahead [.f d.d, .f (lvD ks)]) = oval (b_live_ahead ([.f d.d, .f (lvD ks)] ++ List.replicate (5 - 2) .un)) 2 := val_run (m := 2) (n := 5) rfl
  rw [hv]
  clear hv
  have er := reads_ok d hd
  have ew := writes_ok2 d hd
  have hrl := rd_len (d := d)
  unfold lvD
  generalize hdd : d.d = dd at *
  obtain ⟨ρ', l1, s4, rfl⟩ := for_map (φ := D.str) (fg := gSet 4) (fb := l_live_ahead_2) (ρ := [.f dd, .f (.dct (bK ks) (lvV ks)), .f (wrD d), .dk [] [], .un]) ks
    (fun i ρ => ∃ s4 : T, ρ = [.f dd, .f (.dct (bK ks) (lvV ks)), .f (wrD d), .dk (bK (lput [] ((ks.take i).filter fun x => decide (d.wr ≠ some x)))) (lvV (lput [] ((ks.take i).filter fun x => decide (d.wr ≠ some x)))), s4]) (by
    rintro i x ρ hx ⟨s4, rfl⟩
    rw [take_snoc hx, List.filter_append]
    have q1 := gNe_wr (d := d) (x := x)
    have hl : (bK (lput [] ((ks.take i).filter fun x => decide (d.wr ≠ some x)))).length ≤ 1000 := by
      rw [bK_len]
      have := lput_len (ks := []) (xs := (ks.take i).filter fun x => decide (d.wr ≠ some x))
      have h2 := List.length_filter_le (fun x => decide (d.wr ≠ some x)) (ks.take i)
      rw [List.length_take] at h2
      simp only [List.length_nil] at this
      omega
    have p1 := lputa (x := x) (ks := lput [] ((ks.take i).filter fun x => decide (d.wr ≠ some x)))
    have p2 := lputb (x := x) (ks := lput [] ((ks.take i).filter fun x => decide (d.wr ≠ some x)))
    unfold l_live_ahead_2
    by_cases hz : d.wr ≠ some x
    · have hf : [x].filter (fun x => decide (d.wr ≠ some x)) = [x] := List.filter_cons_of_pos (by simpa using hz)
      rw [hf, lput_snoc]
      rw [decide_eq_true hz] at q1
      generalize lput [] ((ks.take i).filter fun x => decide (d.wr ≠ some x)) = K at *
      clear hx hk er ew hrl hd hf hz hdd
      generalize wrD d = wd at *
      generalize bK (kput K x) = k1 at *
      generalize lvV (kput K x) = v1 at *
      generalize bK K = k2' at *
      generalize lvV K = v2 at *
      generalize bK ks = k3 at *
      generalize lvV ks = v3 at *
      apply Wn_of
      case h =>
        walk_at "W"
        rfl
      case hq => exact ⟨_, rfl⟩
    · have hf : [x].filter (fun x => decide (d.wr ≠ some x)) = [] := List.filter_cons_of_neg (by simpa using hz)
      rw [hf, List.append_nil]
      rw [decide_eq_false hz] at q1
      generalize lput [] ((ks.take i).filter fun x => decide (d.wr ≠ some x)) = K at *
      clear hx hk er ew hrl hd hf hz hdd p1 p2
      generalize wrD d = wd at *
      generalize bK K = k2' at *
      generalize lvV K = v2 at *
      generalize bK ks = k3 at *
      generalize lvV ks = v3 at *
      apply Wn_of
      case h =>
        walk_at "W"
        rfl
      case hq => exact ⟨_, rfl⟩) ⟨_, rfl⟩
  rw [List.take_length, ← bK_kD] at l1
  have hKl : (lput [] (ks.filter fun x => decide (d.wr ≠ some x))).length ≤ 300 := by
    have := lput_len (ks := []) (xs := ks.filter fun x => decide (d.wr ≠ some x))
    have h2 := List.length_filter_le (fun x => decide (d.wr ≠ some x)) ks
    simp only [List.length_nil] at this
    omega
  have hres : lvDeed d ks = lput (lput [] (ks.filter fun x => decide (d.wr ≠ some x))) d.rd := rfl
  rw [hres]
  generalize lput [] (ks.filter fun x => decide (d.wr ≠ some x)) = K at *
  obtain ⟨ρ', l2, s4', rfl⟩ := for_map (φ := D.str) (fg := gSet 4) (fb := l_live_ahead_1) (ρ := [.f dd, .f (.dct (bK ks) (lvV ks)), .f (wrD d), .dk (bK K) (lvV K), s4]) d.rd
    (fun i ρ => ∃ s4 : T, ρ = [.f dd, .f (.dct (bK ks) (lvV ks)), .f (wrD d), .dk (bK (lput K (d.rd.take i))) (lvV (lput K (d.rd.take i))), s4]) (by
    rintro i x ρ hx ⟨s4, rfl⟩
    rw [take_snoc hx, lput_snoc]
    have p1 := lputa (x := x) (ks := lput K (d.rd.take i))
    have p2 := lputb (x := x) (ks := lput K (d.rd.take i))
    have hl : (bK (lput K (d.rd.take i))).length ≤ 1000 := by
      rw [bK_len]
      have := lput_len (ks := K) (xs := d.rd.take i)
      rw [List.length_take] at this
      omega
    generalize lput K (d.rd.take i) = K' at *
    clear hx hk er ew hrl hd hdd l1 hKl hres
    generalize wrD d = wd at *
    generalize bK (kput K' x) = k1 at *
    generalize lvV (kput K' x) = v1 at *
    generalize bK K' = k2' at *
    generalize lvV K' = v2 at *
    generalize bK ks = k3 at *
    generalize lvV ks = v3 at *
    unfold l_live_ahead_1
    apply Wn_of
    case h =>
      walk_at "W"
      rfl
    case hq => exact ⟨_, rfl⟩) ⟨_, rfl⟩
  rw [List.take_length] at l2
  unfold b_live_ahead
  clear hk hd hdd hKl hres hrl
  generalize wrD d = wd at *
  generalize d.rd.map D.str = rr at *
  generalize bK (lput K d.rd) = k1 at *
  generalize lvV (lput K d.rd) = v1 at *
  generalize bK K = k2' at *
  generalize lvV K = v2 at *
  generalize bK ks = k3 at *
  generalize lvV ks = v3 at *
  walk_at "W"
/-! trimming, walked -/
def tmT (n : Int) : T := .o 1 ["many"] [.f (.int n)]
def trD (r : Tm2) : D := .tup [.lst (Pg.ds r.kept), lvD r.live]
theorem deed_trim_ok {d : Deed} {ks names : List Str} {w : Nat} {n : Int} {K : List D} (hd : d.Ok names w) (hk : ks.length ≤ 300) (hK : K.length ≤ 1000) :
    g_Trimmer_deed [tmT n, .f d.d, .f (lvD ks), .l K] = some (.ok (.f (lvD (lvDeed d ks))) [tmT (n + ((Pg.dd d).trim ks).n), .f d.d, .f (lvD ks), .l (K ++ Pg.ds ((Pg.dd d).trim ks).kept)]) := by
  have hr : g_Trimmer_deed [tmT n, .f d.d, .f (lvD ks), .l K] = kRun 4 [0, 3] [tmT n, .f d.d, .f (lvD ks), .l K] (b_Trimmer_deed ([tmT n, .f d.d, .f (lvD ks), .l K] ++ List.replicate (4 - 4) .un)) := run_of rfl
  rw [hr]
  clear hr
  have ea := live_ahead_ok (w := w) hd hk
  have ew := writes_ok2 d hd
  have gw : ∀ neg, gIsNn neg (.f (wrD d)) = some (.f (.bl (xor neg d.wr.isNone))) := fun neg => by unfold wrD; cases d.wr <;> rfl
  rw [Pg.trim]
  unfold tmT b_Trimmer_deed
  cases hw : d.wr with
  | none =>
    have e1 : wrD d = .non := by unfold wrD; rw [hw]
    have e2 : Pg.ds [.dd d] = [d.d] := by rw [Pg.ds, Pg.ds, dd_d]
    dsimp only
    rw [e2]
    rw [e1] at ew gw
    rw [hw] at gw
    replace gw : ∀ neg, gIsNn neg (.f .non) = some (.f (.bl (xor neg true))) := gw
    clear hd hk hw e1 e2
    generalize lvD (lvDeed d ks) = ld at *
    generalize lvD ks = lk at *
    generalize d.d = dd at *
    have n0 : n + ((0 : Nat) : Int) = n := by omega
    rw [n0]
    walk_at "W"
  | some x =>
    have e1 : wrD d = .str x := by unfold wrD; rw [hw]
    rw [e1] at ew gw
    rw [hw] at gw
    replace gw : ∀ neg, gIsNn neg (.f (.str x)) = some (.f (.bl (xor neg false))) := gw
    dsimp only
    have gi : gNotIn (.f (.str x)) (.f (lvD ks)) = some (.f (.bl (!decide (x ∈ ks)))) := by
      have h1 : (bK ks).any (fun k => decide (k = Sum.inr x)) = decide (x ∈ ks) := bK_any
      unfold lvD
      show some (T.f (.bl (xor true ((bK ks).any fun q => decide (q = .inr x))))) = _
      rw [h1, Bool.true_xor]
    by_cases hx : x ∈ ks
    · rw [if_pos hx]
      rw [decide_eq_true hx] at gi
      have e2 : Pg.ds [.dd d] = [d.d] := by rw [Pg.ds, Pg.ds, dd_d]
      dsimp only
      rw [e2]
      have n0 : n + ((0 : Nat) : Int) = n := by omega
      rw [n0]
      clear hd hk hw e1 e2 hx
      generalize lvD (lvDeed d ks) = ld at *
      generalize lvD ks = lk at *
      generalize d.d = dd at *
      walk_at "W"
    · rw [if_neg hx]
      rw [decide_eq_false hx] at gi
      have e2 : Pg.ds [] = [] := by rw [Pg.ds]
      dsimp only
      rw [e2, List.append_nil]
      have n1 : n + ((1 : Nat) : Int) = n + 1 := rfl
      rw [n1]
      clear hd hk hw e1 e2 hx
      generalize lvD (lvDeed d ks) = ld at *
      generalize lvD ks = lk at *
      generalize d.d = dd at *
      walk_at "W"
def Bk (names : List Str) (w : Nat) (G : List T → Option Re) (m : Nat) : Prop :=
  ∀ (rows : List Pg) (ks : List Str) (n : Int), Pg.Oks names w rows → 2 * Pg.deps rows < m → rows.length ≤ 200 → ks.Nodup → (∀ x ∈ ks, x ∈ names) →
    G [tmT n, .f (.lst (Pg.ds rows)), .f (lvD ks)] = some (.ok (.f (trD (Pg.trims rows ks))) [tmT (n + (Pg.trims rows ks).n), .f (.lst (Pg.ds rows)), .f (lvD ks)])
theorem disp1 {x : Str} {d : D} : dmerge [] [] [(.inr x, d)] = ([.inr x], [d]) := rfl
theorem choice_ok {names : List Str} {w m : Nat} (h8 : names.length ≤ 19) (IH : Bk names w (g_Trimmer_back m) m) {x : Str} {a b : List Pg} {ks : List Str} {n : Int} {K : List D} (hp : (Pg.ite x a b).Ok names w) (hd : 2 * (Pg.ite x a b).dep < m + 2) (hn : ks.Nodup) (hs : ∀ y ∈ ks, y ∈ names) (hK : K.length ≤ 1000) :
    g_Trimmer_choice (m + 1) [tmT n, .f (Pg.ite x a b).d, .f (lvD ks), .l K] = some (.ok (.f (lvD ((Pg.ite x a b).trim ks).live)) [tmT (n + ((Pg.ite x a b).trim ks).n), .f (Pg.ite x a b).d, .f (lvD ks), .l (K ++ Pg.ds ((Pg.ite x a b).trim ks).kept)]) := by
  have hr : g_Trimmer_choice (m + 1) [tmT n, .f (Pg.ite x a b).d, .f (lvD ks), .l K] = kRun 4 [0, 3] [tmT n, .f (Pg.ite x a b).d, .f (lvD ks), .l K] (b_Trimmer_choice (g_Trimmer_back m) ([tmT n, .f (Pg.ite x a b).d, .f (lvD ks), .l K] ++ List.replicate (8 - 4) .un)) := run_of rfl
  rw [hr]
  clear hr
  rw [Pg.Ok] at hp
  rw [Pg.dep] at hd
  have e1 := IH a ks n hp.2.2.2.1 (by omega) hp.2.1 hn hs
  have e2 := IH b ks (n + (Pg.trims a ks).n) hp.2.2.2.2 (by omega) hp.2.2.1 hn hs
  have i1 := (trim_in h8).2 a hp.2.2.2.1 ks hn hs
  have i2 := (trim_in h8).2 b hp.2.2.2.2 ks hn hs
  have l1 := nd_len i1.1 i1.2
  have l2 := nd_len i2.1 i2.2
  have t1 := (trim_p.2 a hp.2.2.2.1 ks).len
  have t2 := (trim_p.2 b hp.2.2.2.2 ks).len
  have q1 := both_ok (a := (Pg.trims a ks).live) (b := (Pg.trims b ks).live) (by omega) (by omega)
  have l3 := lput_len (ks := (Pg.trims a ks).live) (xs := (Pg.trims b ks).live)
  have q2 := both_ok (a := lput (Pg.trims a ks).live (Pg.trims b ks).live) (b := [x]) (by omega) (by simp)
  have e3 : lvD [x] = .dct [.inr x] [.bl true] := rfl
  rw [e3] at q2
  have d1 := disp1 (x := x) (d := .bl true)
  rw [Pg.trim]
  dsimp only
  have hnn : n + (((Pg.trims a ks).n + (Pg.trims b ks).n : Nat) : Int) = n + (Pg.trims a ks).n + (Pg.trims b ks).n := by omega
  rw [hnn, ite_d]
  have la := ds_len (Pg.trims a ks).kept
  have lb := ds_len (Pg.trims b ks).kept
  have ka : (Pg.trims a ks).kept.length ≤ 200 := by omega
  have kb : (Pg.trims b ks).kept.length ≤ 200 := by omega
  have hL : 0 < (Pg.trims a ks).kept.length + (Pg.trims b ks).kept.length → K ++ Pg.ds [.ite x (Pg.trims a ks).kept (Pg.trims b ks).kept] = K ++ [.tup [.str "if", .str x, .lst (Pg.ds (Pg.trims a ks).kept), .lst (Pg.ds (Pg.trims b ks).kept)]] := fun _ => by
    rw [Pg.ds, Pg.ds, ite_d]
  have hN : Pg.ds [] = [] := by rw [Pg.ds]
  unfold trD tmT at *
  by_cases hz : 0 < (Pg.trims a ks).kept.length + (Pg.trims b ks).kept.length
  · rw [if_pos hz, hL hz]
    have hz2 : (0 < ((Pg.ds (Pg.trims a ks).kept).length : Int) + ((Pg.ds (Pg.trims b ks).kept).length : Int)) = True := eq_true (by omega)
    clear hL hN hz IH hp hd hn hs i1 i2 l1 l2 t1 t2 l3 hnn h8 la lb ka kb e3
    generalize lvD (lput (lput (Pg.trims a ks).live (Pg.trims b ks).live) [x]) = la at *
    generalize lvD (lput (Pg.trims a ks).live (Pg.trims b ks).live) = lb at *
    generalize lvD (Pg.trims a ks).live = lc at *
    generalize lvD (Pg.trims b ks).live = ld at *
    generalize lvD ks = le at *
    generalize Pg.ds (Pg.trims a ks).kept = ka at *
    generalize Pg.ds (Pg.trims b ks).kept = kb at *
    generalize Pg.ds a = da at *
    generalize Pg.ds b = db at *
    unfold b_Trimmer_choice
    walk_at "W"
  · rw [if_neg hz, hN, List.append_nil]
    have hz2 : (0 < ((Pg.ds (Pg.trims a ks).kept).length : Int) + ((Pg.ds (Pg.trims b ks).kept).length : Int)) = False := eq_false (by omega)
    clear hL hN hz IH hp hd hn hs i1 i2 l1 l2 t1 t2 l3 hnn h8 la lb ka kb e3
    generalize lvD (lput (lput (Pg.trims a ks).live (Pg.trims b ks).live) [x]) = la at *
    generalize lvD (lput (Pg.trims a ks).live (Pg.trims b ks).live) = lb at *
    generalize lvD (Pg.trims a ks).live = lc at *
    generalize lvD (Pg.trims b ks).live = ld at *
    generalize lvD ks = le at *
    generalize Pg.ds (Pg.trims a ks).kept = ka at *
    generalize Pg.ds (Pg.trims b ks).kept = kb at *
    generalize Pg.ds a = da at *
    generalize Pg.ds b = db at *
    unfold b_Trimmer_choice
    walk_at "W"
theorem lvD_len {ks : List Str} : gLen [.f (lvD ks)] = some (.f (.int (ks.length : Int))) := by
  show some (T.f (.int (((bK ks).length : Nat) : Int))) = _
  rw [bK_len]
/-- a while's rounds -/
theorem loop_while {names : List Str} {w m : Nat} (h8 : names.length ≤ 19) (IH : Bk names w (g_Trimmer_back m) m) {x : Str} {a : List Pg} (ha : Pg.Oks names w a) (hal : a.length ≤ 200) (hd : 2 * Pg.deps a < m) {t2 t3 : T} {cn : Int} :
    ∀ (k : Nat) (f : List Str) (fuel : Nat) (n c : Int) (s6 s8 : T), f.Nodup → (∀ y ∈ f, y ∈ names) → names.length < f.length + k → k + 1 < fuel → c < (f.length : Int) →
      ∃ c' s8', whileF (l_Trimmer_loop_1t (g_Trimmer_back m)) (l_Trimmer_loop_1 (g_Trimmer_back m)) fuel [tmT n, .f (.tup [.str "while", .str x, .lst (Pg.ds a)]), t2, t3, .f (lvD f), .f (.int cn), s6, .f (.int c), s8]
        = some (.nx [tmT (cn + (loopL (Pg.trims a) k f).n), .f (.tup [.str "while", .str x, .lst (Pg.ds a)]), t2, t3, .f (lvD (loopL (Pg.trims a) k f).live), .f (.int cn), .f (.lst (Pg.ds (loopL (Pg.trims a) k f).kept)), .f (.int c'), s8']) := by
  intro k
  induction k with
  | zero => intro f fuel n c s6 s8 fn fs hl _ _; exact absurd (nd_len fn fs) (by omega)
  | succ k ih =>
    intro f fuel n c s6 s8 fn fs hl hfu hc
    obtain ⟨fu, rfl⟩ : ∃ fu, fuel = fu + 1 := ⟨fuel - 1, by omega⟩
    have hlv := (trim_in h8).2 a ha f fn fs
    have e1 := IH a f cn ha hd hal fn fs
    have l1 := nd_len fn fs
    have l2 := nd_len hlv.1 hlv.2
    have q1 := both_ok (a := f) (b := (Pg.trims a f).live) (by omega) (by omega)
    have ln := lvD_len (ks := f)
    have hc2 := eq_true hc
    have test : ∀ (s : T) (z : Int) (g : List Str) (b : Bool), decide (z < (g.length : Int)) = b → ∀ s6 s8 : T, l_Trimmer_loop_1t (g_Trimmer_back m) [s, .f (.tup [.str "while", .str x, .lst (Pg.ds a)]), t2, t3, .f (lvD g), .f (.int cn), s6, .f (.int z), s8] = some (.ok b [s, .f (.tup [.str "while", .str x, .lst (Pg.ds a)]), t2, t3, .f (lvD g), .f (.int cn), s6, .f (.int z), s8]) := fun s z g b hb s6 s8 => by
      have lg := lvD_len (ks := g)
      subst hb
      clear e1 q1 ln hc2 ih IH hlv ha fn fs hl hfu hc
      generalize lvD g = lg' at *
      unfold l_Trimmer_loop_1t
      walk_at "W"
    have body : l_Trimmer_loop_1 (g_Trimmer_back m) [tmT n, .f (.tup [.str "while", .str x, .lst (Pg.ds a)]), t2, t3, .f (lvD f), .f (.int cn), s6, .f (.int c), s8]
        = some (.nx [tmT (cn + (Pg.trims a f).n), .f (.tup [.str "while", .str x, .lst (Pg.ds a)]), t2, t3, .f (lvD (lput f (Pg.trims a f).live)), .f (.int cn), .f (.lst (Pg.ds (Pg.trims a f).kept)), .f (.int (f.length : Int)), .f (lvD (Pg.trims a f).live)]) := by
      clear test ih IH hlv ha fn fs hl hfu hc hc2
      unfold trD tmT at *
      generalize lvD (lput f (Pg.trims a f).live) = la at *
      generalize lvD (Pg.trims a f).live = lb at *
      generalize lvD f = lf at *
      generalize Pg.ds (Pg.trims a f).kept = ka at *
      generalize Pg.ds a = da at *
      unfold l_Trimmer_loop_1
      walk_at "W"
    rw [while_step, test _ _ _ true (decide_eq_true hc), kW1_t, body, kW2_nx]
    unfold loopL
    by_cases h : (lput f (Pg.trims a f).live).length ≤ f.length
    · rw [if_pos h]
      obtain ⟨fv, rfl⟩ : ∃ fv, fu = fv + 1 := ⟨fu - 1, by omega⟩
      refine ⟨(f.length : Int), .f (lvD (Pg.trims a f).live), ?_⟩
      rw [while_step, test _ _ _ false (decide_eq_false (by omega)), kW1_f]
    · rw [if_neg h]
      exact ih _ fu _ _ _ _ (lput_nd _ fn) (fun y hy => (lput_in.mp hy).elim (fs y) (hlv.2 y)) (by omega) (by omega) (by omega)
theorem loop_ok {names : List Str} {w m : Nat} (h8 : names.length ≤ 19) (IH : Bk names w (g_Trimmer_back m) m) {x : Str} {a : List Pg} {ks : List Str} {n : Int} {K : List D} (hp : (Pg.whl x a).Ok names w) (hd : 2 * (Pg.whl x a).dep < m + 2) (hn : ks.Nodup) (hs : ∀ y ∈ ks, y ∈ names) (hK : K.length ≤ 1000) :
    g_Trimmer_loop (m + 1) [tmT n, .f (Pg.whl x a).d, .f (lvD ks), .l K] = some (.ok (.f (lvD ((Pg.whl x a).trim ks).live)) [tmT (n + ((Pg.whl x a).trim ks).n), .f (Pg.whl x a).d, .f (lvD ks), .l (K ++ Pg.ds ((Pg.whl x a).trim ks).kept)]) := by
  have hr : g_Trimmer_loop (m + 1) [tmT n, .f (Pg.whl x a).d, .f (lvD ks), .l K] = kRun 4 [0, 3] [tmT n, .f (Pg.whl x a).d, .f (lvD ks), .l K] (b_Trimmer_loop (g_Trimmer_back m) ([tmT n, .f (Pg.whl x a).d, .f (lvD ks), .l K] ++ List.replicate (9 - 4) .un)) := run_of rfl
  rw [hr]
  clear hr
  rw [Pg.Ok] at hp
  rw [Pg.dep] at hd
  have l1 := nd_len hn hs
  have q1 := both_ok (a := ks) (b := [x]) (by omega) (by simp)
  have e3 : lvD [x] = .dct [.inr x] [.bl true] := rfl
  rw [e3] at q1
  have d1 := disp1 (x := x) (d := .bl true)
  have hf : ∀ y ∈ lput ks [x], y ∈ names := fun y hy => (lput_in.mp hy).elim (hs y) fun z => by rw [List.mem_singleton.mp z]; exact hp.1
  obtain ⟨c', s8', e1⟩ := loop_while h8 IH (x := x) hp.2.2 hp.2.1 (by omega) (t2 := .f (lvD ks)) (t3 := .l K) (cn := n) 20 (lput ks [x]) 1000000 n (-1) (.f (.lst [])) .un (lput_nd _ hn) hf (by omega) (by omega) (by omega)
  rw [Pg.trim, whl_d]
  dsimp only
  have hL : Pg.ds [.whl x (loopL (Pg.trims a) 20 (lput ks [x])).kept] = [.tup [.str "while", .str x, .lst (Pg.ds (loopL (Pg.trims a) 20 (lput ks [x])).kept)]] := by rw [Pg.ds, Pg.ds, whl_d]
  rw [hL]
  generalize loopL (Pg.trims a) 20 (lput ks [x]) = r at *
  clear hL hf e3 l1 hs hn hd hp IH h8
  unfold tmT at *
  generalize lvD (lput ks [x]) = la at *
  generalize lvD r.live = lb at *
  generalize lvD ks = lk at *
  generalize Pg.ds r.kept = kr at *
  generalize Pg.ds a = da at *
  unfold b_Trimmer_loop
  walk_at "W"
theorem drop_rev {α : Type} {l : List α} {i : Nat} {p : α} (h : l.reverse[i]? = some p) : l.drop (l.length - (i + 1)) = p :: l.drop (l.length - i) := by
  have hi : i < l.length := by
    have := (List.getElem?_eq_some_iff.mp h).1
    simpa using this
  have e := List.drop_eq_getElem_cons (l := l) (i := l.length - (i + 1)) (by omega)
  rw [e]
  have h2 : l.length - (i + 1) + 1 = l.length - i := by omega
  rw [h2]
  congr 1
  rw [List.getElem?_reverse hi] at h
  have h3 : l.length - 1 - i = l.length - (i + 1) := by omega
  rw [h3, List.getElem?_eq_getElem (by omega)] at h
  cases h
  rfl
theorem one_kept {p : Pg} {ks : List Str} : (p.trim ks).kept.length ≤ 1 := by
  cases p with
  | dd d =>
    rw [Pg.trim]
    split
    · split <;> simp
    · simp
  | ite x a b =>
    rw [Pg.trim]
    dsimp only
    split <;> simp
  | whl x a =>
    rw [Pg.trim]
    simp
theorem ds_app {a b : List Pg} : Pg.ds (a ++ b) = Pg.ds a ++ Pg.ds b := by rw [ds_map, ds_map, ds_map, List.map_append]
theorem rev_one {α : Type} {l : List α} (h : l.length ≤ 1) : l.reverse = l := by
  cases l with
  | nil => rfl
  | cons a l =>
    cases l with
    | nil => rfl
    | cons b l => simp at h
theorem back_ok {names : List Str} {w m : Nat} (h8 : names.length ≤ 19) (IH : Bk names w (g_Trimmer_back m) m) : Bk names w (g_Trimmer_back (m + 2)) (m + 2) := by
  intro rows ks n ho hd hl hn hs
  have hr : g_Trimmer_back (m + 2) [tmT n, .f (.lst (Pg.ds rows)), .f (lvD ks)] = kRun 3 [0] [tmT n, .f (.lst (Pg.ds rows)), .f (lvD ks)] (b_Trimmer_back (g_Trimmer_choice (m + 1)) (g_Trimmer_loop (m + 1)) ([tmT n, .f (.lst (Pg.ds rows)), .f (lvD ks)] ++ List.replicate (5 - 3) .un)) := run_of rfl
  rw [hr]
  clear hr
  have hdrop : ∀ j, Pg.Oks names w (rows.drop j) ∧ Pg.deps (rows.drop j) ≤ Pg.deps rows := by
    intro j
    clear hd hl
    induction rows generalizing j with
    | nil => rw [List.drop_nil]; exact ⟨trivial, Nat.le_refl _⟩
    | cons p l ih =>
      cases j with
      | zero => exact ⟨ho, Nat.le_refl _⟩
      | succ j =>
        obtain ⟨h1, h2⟩ := ih ho.2 j
        refine ⟨h1, Nat.le_trans h2 ?_⟩
        show Pg.deps l ≤ max p.dep (Pg.deps l)
        omega
  obtain ⟨ρ', l1, s4, rfl⟩ := for_map (φ := Pg.d) (fg := gSet 4) (fb := l_Trimmer_back_1 (g_Trimmer_choice (m + 1)) (g_Trimmer_loop (m + 1))) (ρ := [tmT n, .f (.lst (Pg.ds rows)), .f (lvD ks), .l [], .un]) rows.reverse
    (fun i ρ => ∃ s4 : T, ρ = [tmT (n + (Pg.trims (rows.drop (rows.length - i)) ks).n), .f (.lst (Pg.ds rows)), .f (lvD (Pg.trims (rows.drop (rows.length - i)) ks).live), .l (Pg.ds (Pg.trims (rows.drop (rows.length - i)) ks).kept).reverse, s4]) (by
    rintro i p ρ hx ⟨s4, rfl⟩
    obtain ⟨o1, d1⟩ := hdrop (rows.length - (i + 1))
    rw [drop_rev hx] at o1 d1 ⊢
    have d2 : max p.dep (Pg.deps (rows.drop (rows.length - i))) ≤ Pg.deps rows := d1
    obtain ⟨nd, ind⟩ := (trim_in h8).2 _ o1.2 ks hn hs
    have hlen := (trim_p.2 _ o1.2 ks).len
    have hdl : (rows.drop (rows.length - i)).length ≤ 200 := by rw [List.length_drop]; omega
    have l0 := nd_len nd ind
    have hKl : (Pg.ds (Pg.trims (rows.drop (rows.length - i)) ks).kept).reverse.length ≤ 1000 := by rw [List.length_reverse, ds_len]; omega
    rw [trims_cons]
    dsimp only
    have hrev : (Pg.ds ((p.trim (Pg.trims (rows.drop (rows.length - i)) ks).live).kept ++ (Pg.trims (rows.drop (rows.length - i)) ks).kept)).reverse = (Pg.ds (Pg.trims (rows.drop (rows.length - i)) ks).kept).reverse ++ Pg.ds (p.trim (Pg.trims (rows.drop (rows.length - i)) ks).live).kept := by
      rw [ds_app, List.reverse_append, rev_one (l := Pg.ds (p.trim _).kept) (by rw [ds_len]; exact one_kept)]
    have hnn : n + ((p.trim (Pg.trims (rows.drop (rows.length - i)) ks).live).n + (Pg.trims (rows.drop (rows.length - i)) ks).n : Nat) = n + (Pg.trims (rows.drop (rows.length - i)) ks).n + (p.trim (Pg.trims (rows.drop (rows.length - i)) ks).live).n := by omega
    rw [hrev, hnn]
    generalize Pg.trims (rows.drop (rows.length - i)) ks = r at *
    have hp := o1.1
    clear hrev hnn hdl hlen d1 o1 hdrop hx
    generalize (Pg.ds r.kept).reverse = K at *
    generalize hrd : Pg.ds rows = rd at *
    cases p with
    | dd d =>
      rw [Pg.Ok] at hp
      have e := deed_trim_ok (w := w) (n := n + r.n) (K := K) hp (ks := r.live) (by omega) hKl
      have elive : ((Pg.dd d).trim r.live).live = lvDeed d r.live := by
        rw [Pg.trim]
        split
        · split <;> rfl
        · rfl
      rw [elive, dd_d]
      clear elive IH hn hs hd hl ho h8 nd ind l0 d2 hKl
      generalize (Pg.dd d).trim r.live = q at *
      generalize lvD (lvDeed d r.live) = la at *
      generalize lvD r.live = lb at *
      generalize Pg.ds q.kept = kq at *
      unfold tmT at *
      unfold l_Trimmer_back_1
      cases d with
      | tell z =>
        simp only [Deed.d] at *
        clear hp
        apply Wn_of
        case h =>
          walk_at "W"
          rfl
        case hq => exact ⟨_, rfl⟩
      | copy y z =>
        simp only [Deed.d] at *
        clear hp
        apply Wn_of
        case h =>
          walk_at "W"
          rfl
        case hq => exact ⟨_, rfl⟩
      | op o y z z2 =>
        obtain ⟨q1, q2, q3, q4⟩ := ops_not hp.1
        simp only [Deed.d] at *
        clear hp
        apply Wn_of
        case h =>
          walk_at "W"
          rfl
        case hq => exact ⟨_, rfl⟩
    | ite x a b =>
      have e := choice_ok h8 IH (n := n + r.n) (K := K) hp (by omega) nd ind hKl
      rw [ite_d] at e ⊢
      clear IH hn hs hd hl ho h8 nd ind l0 d2 hKl hp
      generalize (Pg.ite x a b).trim r.live = q at *
      generalize lvD q.live = la at *
      generalize lvD r.live = lb at *
      generalize Pg.ds q.kept = kq at *
      generalize Pg.ds a = da at *
      generalize Pg.ds b = db at *
      unfold tmT at *
      unfold l_Trimmer_back_1
      apply Wn_of
      case h =>
        walk_at "W"
        rfl
      case hq => exact ⟨_, rfl⟩
    | whl x a =>
      have e := loop_ok h8 IH (n := n + r.n) (K := K) hp (by omega) nd ind hKl
      rw [whl_d] at e ⊢
      clear IH hn hs hd hl ho h8 nd ind l0 d2 hKl hp
      generalize (Pg.whl x a).trim r.live = q at *
      generalize lvD q.live = la at *
      generalize lvD r.live = lb at *
      generalize Pg.ds q.kept = kq at *
      generalize Pg.ds a = da at *
      unfold tmT at *
      unfold l_Trimmer_back_1
      apply Wn_of
      case h =>
        walk_at "W"
        rfl
      case hq => exact ⟨_, rfl⟩) ⟨_, by rw [Nat.sub_zero, List.drop_length, trims_nil]; show _ = [tmT (n + ((0 : Nat) : Int)), _, _, _, _]; rw [show n + ((0 : Nat) : Int) = n by omega]; rw [show (Pg.ds []).reverse = [] from rfl]⟩
  rw [List.length_reverse, Nat.sub_self, List.drop_zero, ← ds_rev] at l1
  have rv : ∀ (a b c : T) (ds : List D) (e : T), sRev 3 pHere [a, b, c, .l ds, e] = some (.nx [a, b, c, .l ds.reverse, e]) := fun _ _ _ _ _ => rfl
  unfold trD tmT at *
  generalize Pg.trims rows ks = r at *
  clear hdrop IH hn hs hd hl ho h8
  generalize lvD r.live = lb at *
  generalize lvD ks = lk at *
  have hrr := List.reverse_reverse (Pg.ds r.kept)
  generalize Pg.ds r.kept = kr at *
  generalize Pg.ds rows = rd at *
  unfold b_Trimmer_back
  walk_at "W"
theorem back_all {names : List Str} {w : Nat} (h8 : names.length ≤ 19) : ∀ j : Nat, Bk names w (g_Trimmer_back (2 * j)) (2 * j)
  | 0 => fun _ _ _ _ hd _ _ _ => absurd hd (Nat.not_lt_zero _)
  | j + 1 => by
    have h : 2 * (j + 1) = 2 * j + 2 := by omega
    rw [h]
    exact back_ok h8 (back_all h8 j)
/-! the law's nodes: how they lie, and the least sets -/
structure Nd where
  rd : List Str
  wr : Option Str
  nx : List Int
mutual
def LayP (N : List Nd) : Pg → Int → Nat → Int → Nat → Prop
  | .dd d, b, lo, e, hi => N[lo]? = some ⟨d.rd, d.wr, [b]⟩ ∧ e = (lo : Int) ∧ hi = lo + 1
  | .ite x a c, b, lo, e, hi => ∃ (e1 : Int) (m1 : Nat) (e2 : Int) (m2 : Nat), LayR N a b lo e1 m1 ∧ LayR N c b m1 e2 m2 ∧ N[m2]? = some ⟨[x], none, [e1, e2]⟩ ∧ e = (m2 : Int) ∧ hi = m2 + 1
  | .whl x a, b, lo, e, hi => ∃ e1 : Int, LayR N a (lo : Int) (lo + 1) e1 hi ∧ N[lo]? = some ⟨[x], none, [e1, b]⟩ ∧ e = (lo : Int)
def LayR (N : List Nd) : List Pg → Int → Nat → Int → Nat → Prop
  | [], b, lo, e, hi => e = b ∧ hi = lo
  | p :: l, b, lo, e, hi => ∃ (e1 : Int) (m1 : Nat), LayR N l b lo e1 m1 ∧ LayP N p e1 m1 e hi
end
mutual
theorem layp_in {N : List Nd} : ∀ (p : Pg) (b : Int) (lo : Nat) (e : Int) (hi : Nat), LayP N p b lo e hi → lo < hi ∧ (lo : Int) ≤ e ∧ e < hi
  | .dd d, b, lo, e, hi, h => by rw [LayP] at h; omega
  | .ite x a c, b, lo, e, hi, h => by
    rw [LayP] at h
    obtain ⟨e1, m1, e2, m2, h1, h2, h3, h4, h5⟩ := h
    have q1 := layr_in a b lo e1 m1 h1
    have q2 := layr_in c b m1 e2 m2 h2
    omega
  | .whl x a, b, lo, e, hi, h => by
    rw [LayP] at h
    obtain ⟨e1, h1, h2, h3⟩ := h
    have q1 := layr_in a lo (lo + 1) e1 hi h1
    omega
theorem layr_in {N : List Nd} : ∀ (l : List Pg) (b : Int) (lo : Nat) (e : Int) (hi : Nat), LayR N l b lo e hi → lo ≤ hi ∧ (e = b ∨ ((lo : Int) ≤ e ∧ e < hi))
  | [], b, lo, e, hi, h => by rw [LayR] at h; omega
  | p :: l, b, lo, e, hi, h => by
    rw [LayR] at h
    obtain ⟨e1, m1, h1, h2⟩ := h
    have q1 := layr_in l b lo e1 m1 h1
    have q2 := layp_in p e1 m1 e hi h2
    omega
end
/-- the nodes are there, and lead within or behind -/
def Inn (N : List Nd) (b : Int) (lo hi : Nat) : Prop := ∀ k, lo ≤ k → k < hi → ∃ nd, N[k]? = some nd ∧ ∀ s ∈ nd.nx, s = b ∨ ((lo : Int) ≤ s ∧ s < hi)
mutual
theorem layp_inn {N : List Nd} : ∀ (p : Pg) (b : Int) (lo : Nat) (e : Int) (hi : Nat), LayP N p b lo e hi → Inn N b lo hi
  | .dd d, b, lo, e, hi, h => by
    rw [LayP] at h
    intro k h1 h2
    obtain rfl : k = lo := by omega
    exact ⟨_, h.1, fun s hs => .inl (List.mem_singleton.mp hs)⟩
  | .ite x a c, b, lo, e, hi, h => by
    rw [LayP] at h
    obtain ⟨e1, m1, e2, m2, h1, h2, h3, h4, h5⟩ := h
    have q1 := layr_in a b lo e1 m1 h1
    have q2 := layr_in c b m1 e2 m2 h2
    have r1 := layr_inn a b lo e1 m1 h1
    have r2 := layr_inn c b m1 e2 m2 h2
    intro k g1 g2
    by_cases z1 : k < m1
    · obtain ⟨nd, f1, f2⟩ := r1 k g1 z1
      exact ⟨nd, f1, fun s hs => (f2 s hs).elim .inl fun q => .inr (by omega)⟩
    · by_cases z2 : k < m2
      · obtain ⟨nd, f1, f2⟩ := r2 k (by omega) z2
        exact ⟨nd, f1, fun s hs => (f2 s hs).elim .inl fun q => .inr (by omega)⟩
      · obtain rfl : k = m2 := by omega
        refine ⟨_, h3, fun s hs => ?_⟩
        rcases List.mem_cons.mp hs with rfl | hs
        · omega
        · obtain rfl := List.mem_singleton.mp hs
          omega
  | .whl x a, b, lo, e, hi, h => by
    rw [LayP] at h
    obtain ⟨e1, h1, h2, h3⟩ := h
    have q1 := layr_in a lo (lo + 1) e1 hi h1
    have r1 := layr_inn a lo (lo + 1) e1 hi h1
    intro k g1 g2
    by_cases z : k = lo
    · subst z
      refine ⟨_, h2, fun s hs => ?_⟩
      rcases List.mem_cons.mp hs with rfl | hs
      · exact .inr (by omega)
      · exact .inl (List.mem_singleton.mp hs)
    · obtain ⟨nd, f1, f2⟩ := r1 k (by omega) g2
      exact ⟨nd, f1, fun s hs => .inr ((f2 s hs).elim (fun q => by omega) fun q => by omega)⟩
theorem layr_inn {N : List Nd} : ∀ (l : List Pg) (b : Int) (lo : Nat) (e : Int) (hi : Nat), LayR N l b lo e hi → Inn N b lo hi
  | [], b, lo, e, hi, h => by
    rw [LayR] at h
    intro k h1 h2
    omega
  | p :: l, b, lo, e, hi, h => by
    rw [LayR] at h
    obtain ⟨e1, m1, h1, h2⟩ := h
    have q1 := layr_in l b lo e1 m1 h1
    have q2 := layp_in p e1 m1 e hi h2
    have r1 := layr_inn l b lo e1 m1 h1
    have r2 := layp_inn p e1 m1 e hi h2
    intro k g1 g2
    by_cases z1 : k < m1
    · obtain ⟨nd, f1, f2⟩ := r1 k g1 z1
      exact ⟨nd, f1, fun s hs => (f2 s hs).elim .inl fun q => .inr (by omega)⟩
    · obtain ⟨nd, f1, f2⟩ := r2 k (by omega) g2
      exact ⟨nd, f1, fun s hs => (f2 s hs).elim (fun q => by omega) fun q => .inr (by omega)⟩
end
/-! parts of a list, counted -/
def sg (N : List Nd) (lo hi : Nat) : List Nd := (N.take hi).drop lo
theorem sg_add {N : List Nd} {lo m hi : Nat} (h1 : lo ≤ m) (h2 : m ≤ hi) : sg N lo hi = sg N lo m ++ sg N m hi := by
  unfold sg
  have e : N.take hi = N.take m ++ (N.take hi).drop m := by
    have := List.take_append_drop m (N.take hi)
    rw [List.take_take, Nat.min_eq_left h2] at this
    exact this.symm
  rcases Nat.le_total m N.length with z | z
  · conv => lhs; rw [e]
    rw [List.drop_append_of_le_length (by rw [List.length_take]; omega)]
  · have e1 : N.take m = N := List.take_of_length_le z
    have e2 : N.take hi = N := List.take_of_length_le (by omega)
    rw [e1, e2, List.drop_of_length_le z, List.append_nil]
theorem sg_self {N : List Nd} {lo : Nat} : sg N lo lo = [] := by
  unfold sg
  exact List.drop_of_length_le (by rw [List.length_take]; omega)
theorem sg_one {N : List Nd} {lo : Nat} {nd : Nd} (h : N[lo]? = some nd) : sg N lo (lo + 1) = [nd] := by
  unfold sg
  rw [List.take_succ, h, List.drop_append_of_le_length (by rw [List.length_take]; have := (List.getElem?_eq_some_iff.mp h).1; omega), List.drop_of_length_le (by rw [List.length_take]; omega)]
  rfl
theorem sg_mem {N : List Nd} {lo hi : Nat} {nd : Nd} (h : nd ∈ sg N lo hi) : ∃ k, lo ≤ k ∧ k < hi ∧ N[k]? = some nd := by
  obtain ⟨i, hi2⟩ := List.getElem?_of_mem h
  unfold sg at hi2
  rw [List.getElem?_drop, List.getElem?_take] at hi2
  split at hi2
  · exact ⟨lo + i, by omega, by omega, hi2⟩
  · cases hi2
noncomputable def cb (p : Prop) : Bool := @decide p (Classical.propDecidable p)
theorem cb_true {p : Prop} (h : p) : cb p = true := @decide_eq_true p (Classical.propDecidable p) h
theorem cb_false {p : Prop} (h : ¬ p) : cb p = false := @decide_eq_false p (Classical.propDecidable p) h
noncomputable def cnt2 (f : Nd → Prop) (l : List Nd) : Nat := (l.filter fun nd => cb (f nd)).length
theorem cnt2_app {f : Nd → Prop} {a b : List Nd} : cnt2 f (a ++ b) = cnt2 f a + cnt2 f b := by unfold cnt2; rw [List.filter_append, List.length_append]
theorem cb_congr {p q : Prop} (h : p ↔ q) : cb p = cb q := by
  by_cases z : p
  · rw [cb_true z, cb_true (h.mp z)]
  · rw [cb_false z, cb_false fun y => z (h.mpr y)]
theorem cnt2_congr {f g : Nd → Prop} {l : List Nd} (h : ∀ nd ∈ l, (f nd ↔ g nd)) : cnt2 f l = cnt2 g l := by
  unfold cnt2
  congr 1
  exact List.filter_congr fun nd hnd => cb_congr (h nd hnd)
theorem cnt2_yes {f : Nd → Prop} {nd : Nd} (h : f nd) : cnt2 f [nd] = 1 := by
  unfold cnt2
  rw [List.filter_cons_of_pos (p := fun nd => cb (f nd)) (cb_true h)]
  rfl
theorem cnt2_no {f : Nd → Prop} {nd : Nd} (h : ¬ f nd) : cnt2 f [nd] = 0 := by
  unfold cnt2
  rw [List.filter_cons_of_neg (p := fun nd => cb (f nd)) (by show ¬ cb (f nd) = true; rw [cb_false h]; simp)]
  rfl
theorem cnt2_nil {f : Nd → Prop} : cnt2 f [] = 0 := rfl
/-! labels -/
def vOf (lab : Nat → Str → Prop) (b : Int) (K : Str → Prop) (s : Int) : Str → Prop := if s = b then K else lab s.toNat
def Cl (N : List Nd) (lab : Nat → Str → Prop) (b : Int) (K : Str → Prop) (lo hi : Nat) : Prop :=
  ∀ (k : Nat) (nd : Nd), lo ≤ k → k < hi → N[k]? = some nd → (∀ x ∈ nd.rd, lab k x) ∧ ∀ s ∈ nd.nx, ∀ x, vOf lab b K s x → nd.wr ≠ some x → lab k x
def Idl (lab : Nat → Str → Prop) (b : Int) (K : Str → Prop) (nd : Nd) : Prop := ∃ x, nd.wr = some x ∧ ∀ s ∈ nd.nx, ¬ vOf lab b K s x
structure Lab (N : List Nd) (lab : Nat → Str → Prop) (b : Int) (ks : List Str) (lo : Nat) (e : Int) (hi : Nat) (r : Tm2) : Prop where
  cl : Cl N lab b (· ∈ ks) lo hi
  least : ∀ (V : Nat → Str → Prop) (VB : Str → Prop), Cl N V b VB lo hi → (∀ x ∈ ks, VB x) → ∀ k, lo ≤ k → k < hi → ∀ x, lab k x → V k x
  ent : ∀ x, vOf lab b (· ∈ ks) e x ↔ x ∈ r.live
  cnt : cnt2 (Idl lab b (· ∈ ks)) (sg N lo hi) = r.n
theorem vof_b {lab : Nat → Str → Prop} {b : Int} {K : Str → Prop} : vOf lab b K b = K := if_pos rfl
theorem vof_s {lab : Nat → Str → Prop} {b s : Int} {K : Str → Prop} (h : s ≠ b) : vOf lab b K s = lab s.toNat := if_neg h
theorem loop_least {B : List Str → Tm2} {Q : Str → Prop} {names : List Str} (hn : ∀ f : List Str, f.Nodup → (∀ x ∈ f, x ∈ names) → (∀ x ∈ f, Q x) → ∀ x ∈ (B f).live, x ∈ names ∧ Q x) : ∀ (k : Nat) (f : List Str), f.Nodup → (∀ x ∈ f, x ∈ names) → (∀ x ∈ f, Q x) → ∀ x ∈ (loopL B k f).live, Q x
  | 0, _, _, _, hq => hq
  | k + 1, f, fn, fs, fq => by
    have h := hn f fn fs fq
    have q1 : ∀ x ∈ lput f (B f).live, Q x := fun x hx => (lput_in.mp hx).elim (fq x) fun z => (h x z).2
    unfold loopL
    split
    · exact q1
    · exact loop_least hn k _ (lput_nd _ fn) (fun x hx => (lput_in.mp hx).elim (fs x) fun z => (h x z).1) q1
/-! the least sets, by the statements -/
theorem cl_sub {N : List Nd} {V : Nat → Str → Prop} {b b' : Int} {VB VB' : Str → Prop} {lo hi lo' hi' : Nat} (h : Cl N V b VB lo hi) (h1 : lo ≤ lo') (h2 : hi' ≤ hi) (hin : Inn N b' lo' hi')
    (hv : ∀ s : Int, (s = b' ∨ ((lo' : Int) ≤ s ∧ s < hi')) → ∀ x, vOf V b' VB' s x → vOf V b VB s x) : Cl N V b' VB' lo' hi' := fun k nd g1 g2 g3 => by
  obtain ⟨c1, c2⟩ := h k nd (by omega) (by omega) g3
  obtain ⟨nd', f1, f2⟩ := hin k g1 g2
  rw [g3] at f1
  cases f1
  exact ⟨c1, fun s hs x hx hw => c2 s hs x (hv s (f2 s hs) x hx) hw⟩
def two (m : Nat) (f g : Nat → Str → Prop) : Nat → Str → Prop := fun k => if k < m then f k else g k
theorem two_lt {m k : Nat} {f g : Nat → Str → Prop} (h : k < m) : two m f g k = f k := if_pos h
theorem two_ge {m k : Nat} {f g : Nat → Str → Prop} (h : m ≤ k) : two m f g k = g k := if_neg (by omega)
theorem lab_seq {N : List Nd} {l : List Pg} {p : Pg} {b e1 e : Int} {lo m1 hi : Nat} {ks : List Str} {ll lp : Nat → Str → Prop} (hb : b < lo) (hl : LayR N l b lo e1 m1) (hp : LayP N p e1 m1 e hi)
    (Ll : Lab N ll b ks lo e1 m1 (Pg.trims l ks)) (Lp : Lab N lp e1 (Pg.trims l ks).live m1 e hi (p.trim (Pg.trims l ks).live)) : Lab N (two m1 ll lp) b ks lo e hi (Pg.trims (p :: l) ks) := by
  have q1 := layr_in l b lo e1 m1 hl
  have q2 := layp_in p e1 m1 e hi hp
  have i1 := layr_inn l b lo e1 m1 hl
  have i2 := layp_inn p e1 m1 e hi hp
  have t1 : ∀ s : Int, (s = b ∨ ((lo : Int) ≤ s ∧ s < m1)) → vOf (two m1 ll lp) b (· ∈ ks) s = vOf ll b (· ∈ ks) s := fun s hs => by
    rcases hs with rfl | hs
    · rw [vof_b, vof_b]
    · rw [vof_s (by omega), vof_s (by omega)]
      exact two_lt (by omega)
  have t2 : ∀ s : Int, (s = e1 ∨ ((m1 : Int) ≤ s ∧ s < hi)) → ∀ x, vOf (two m1 ll lp) b (· ∈ ks) s x ↔ vOf lp e1 (· ∈ (Pg.trims l ks).live) s x := fun s hs x => by
    rcases hs with rfl | hs
    · rw [vof_b, t1 s q1.2]
      exact Ll.ent x
    · rw [vof_s (by omega), vof_s (by omega)]
      rw [two_ge (by omega)]
  refine ⟨fun k nd g1 g2 g3 => ?_, fun V VB hV hK k g1 g2 x hx => ?_, fun x => ?_, ?_⟩
  · by_cases z : k < m1
    · obtain ⟨c1, c2⟩ := Ll.cl k nd g1 z g3
      obtain ⟨nd', f1, f2⟩ := i1 k g1 z
      rw [g3] at f1
      cases f1
      have e0 : (two m1 ll lp) k = ll k := two_lt z
      rw [e0]
      exact ⟨c1, fun s hs x hx hw => c2 s hs x (by rw [← t1 s (f2 s hs)]; exact hx) hw⟩
    · obtain ⟨c1, c2⟩ := Lp.cl k nd (by omega) g2 g3
      obtain ⟨nd', f1, f2⟩ := i2 k (by omega) g2
      rw [g3] at f1
      cases f1
      have e0 : (two m1 ll lp) k = lp k := two_ge (Nat.not_lt.mp z)
      rw [e0]
      exact ⟨c1, fun s hs x hx hw => c2 s hs x ((t2 s (f2 s hs) x).mp hx) hw⟩
  · have vl : ∀ k, lo ≤ k → k < m1 → ∀ x, ll k x → V k x := Ll.least V VB (cl_sub hV (Nat.le_refl _) (by omega) i1 fun s _ x hx => hx) hK
    have ve : ∀ x, x ∈ (Pg.trims l ks).live → vOf V b VB e1 x := fun x hx => by
      have h := (Ll.ent x).mpr hx
      rcases q1.2 with z | z
      · rw [z, vof_b] at h ⊢
        exact hK x h
      · rw [vof_s (by omega)] at h ⊢
        exact vl e1.toNat (by omega) (by omega) x h
    by_cases z : k < m1
    · have e0 : (two m1 ll lp) k = ll k := two_lt z
      rw [e0] at hx
      exact vl k g1 z x hx
    · have e0 : (two m1 ll lp) k = lp k := two_ge (Nat.not_lt.mp z)
      rw [e0] at hx
      refine Lp.least V (vOf V b VB e1) (cl_sub hV (by omega) (Nat.le_refl _) i2 fun s hs x hx => ?_) ve k (by omega) g2 x hx
      rcases hs with rfl | hs
      · rw [vof_b] at hx; exact hx
      · rw [vof_s (by omega)] at hx ⊢; exact hx
  · rw [t2 e (.inr q2.2)]
    rw [trims_cons]
    exact Lp.ent x
  · rw [sg_add (m := m1) q1.1 (by omega), cnt2_app, trims_cons]
    dsimp only
    rw [← Ll.cnt, ← Lp.cnt, Nat.add_comm]
    congr 1
    · refine cnt2_congr fun nd hnd => ?_
      obtain ⟨k, k1, k2, k3⟩ := sg_mem hnd
      obtain ⟨nd', f1, f2⟩ := i2 k k1 k2
      rw [k3] at f1
      cases f1
      exact ⟨fun ⟨x, w, h⟩ => ⟨x, w, fun s hs z => h s hs ((t2 s (f2 s hs) x).mpr z)⟩, fun ⟨x, w, h⟩ => ⟨x, w, fun s hs z => h s hs ((t2 s (f2 s hs) x).mp z)⟩⟩
    · refine cnt2_congr fun nd hnd => ?_
      obtain ⟨k, k1, k2, k3⟩ := sg_mem hnd
      obtain ⟨nd', f1, f2⟩ := i1 k k1 k2
      rw [k3] at f1
      cases f1
      exact ⟨fun ⟨x, w, h⟩ => ⟨x, w, fun s hs z => h s hs (by rw [t1 s (f2 s hs)]; exact z)⟩, fun ⟨x, w, h⟩ => ⟨x, w, fun s hs z => h s hs (by rw [← t1 s (f2 s hs)]; exact z)⟩⟩
theorem lab_dd {N : List Nd} {d : Deed} {b e : Int} {lo hi : Nat} {ks : List Str} (hb : b < lo) (h : LayP N (.dd d) b lo e hi) : Lab N (fun _ x => x ∈ lvDeed d ks) b ks lo e hi ((Pg.dd d).trim ks) := by
  rw [LayP] at h
  obtain ⟨h1, rfl, rfl⟩ := h
  have hlive : ((Pg.dd d).trim ks).live = lvDeed d ks := by
    rw [Pg.trim]
    split
    · split <;> rfl
    · rfl
  refine ⟨fun k nd g1 g2 g3 => ?_, fun V VB hV hK k g1 g2 x hx => ?_, fun x => ?_, ?_⟩
  · obtain rfl : k = lo := by omega
    rw [h1] at g3
    cases g3
    refine ⟨fun x hx => lvDeed_in.mpr (.inr hx), fun s hs x hx hw => ?_⟩
    obtain rfl := List.mem_singleton.mp hs
    rw [vof_b] at hx
    exact lvDeed_in.mpr (.inl ⟨hx, hw⟩)
  · obtain rfl : k = lo := by omega
    obtain ⟨c1, c2⟩ := hV k _ (Nat.le_refl _) (by omega) h1
    rcases lvDeed_in.mp hx with z | z
    · exact c2 b (List.mem_singleton.mpr rfl) x (by rw [vof_b]; exact hK x z.1) z.2
    · exact c1 x z
  · rw [vof_s (by omega), hlive]
  · rw [sg_one h1, Pg.trim]
    cases hw : d.wr with
    | none =>
      dsimp only
      exact cnt2_no fun ⟨x, z, _⟩ => by cases z
    | some n =>
      dsimp only
      by_cases hn : n ∈ ks
      · rw [if_pos hn]
        refine cnt2_no fun ⟨x, z, q⟩ => ?_
        cases z
        exact q b (List.mem_singleton.mpr rfl) (by rw [vof_b]; exact hn)
      · rw [if_neg hn]
        refine cnt2_yes ⟨n, rfl, fun s hs z => ?_⟩
        obtain rfl := List.mem_singleton.mp hs
        rw [vof_b] at z
        exact hn z
theorem lab_ite {N : List Nd} {x : Str} {a c : List Pg} {b e1 e2 : Int} {lo m1 m2 : Nat} {ks : List Str} {la lc : Nat → Str → Prop} (hb : b < lo) (ha : LayR N a b lo e1 m1) (hc : LayR N c b m1 e2 m2) (hn : N[m2]? = some ⟨[x], none, [e1, e2]⟩)
    (La : Lab N la b ks lo e1 m1 (Pg.trims a ks)) (Lc : Lab N lc b ks m1 e2 m2 (Pg.trims c ks)) : Lab N (two m1 la (two m2 lc fun _ y => y ∈ ((Pg.ite x a c).trim ks).live)) b ks lo m2 (m2 + 1) ((Pg.ite x a c).trim ks) := by
  have q1 := layr_in a b lo e1 m1 ha
  have q2 := layr_in c b m1 e2 m2 hc
  have i1 := layr_inn a b lo e1 m1 ha
  have i2 := layr_inn c b m1 e2 m2 hc
  have hlive : ∀ y, y ∈ ((Pg.ite x a c).trim ks).live ↔ (y ∈ (Pg.trims a ks).live ∨ y ∈ (Pg.trims c ks).live) ∨ y = x := fun y => by
    rw [Pg.trim]
    dsimp only
    rw [lput_in, lput_in, List.mem_singleton]
  have hcn : ((Pg.ite x a c).trim ks).n = (Pg.trims a ks).n + (Pg.trims c ks).n := by rw [Pg.trim]
  generalize hlv : ((Pg.ite x a c).trim ks).live = lv at *
  have t1 : ∀ s : Int, (s = b ∨ ((lo : Int) ≤ s ∧ s < m1)) → vOf (two m1 la (two m2 lc fun _ y => y ∈ lv)) b (· ∈ ks) s = vOf la b (· ∈ ks) s := fun s hs => by
    rcases hs with rfl | hs
    · rw [vof_b, vof_b]
    · rw [vof_s (by omega), vof_s (by omega)]
      exact two_lt (by omega)
  have t2 : ∀ s : Int, (s = b ∨ ((m1 : Int) ≤ s ∧ s < m2)) → vOf (two m1 la (two m2 lc fun _ y => y ∈ lv)) b (· ∈ ks) s = vOf lc b (· ∈ ks) s := fun s hs => by
    rcases hs with rfl | hs
    · rw [vof_b, vof_b]
    · rw [vof_s (by omega), vof_s (by omega)]
      rw [two_ge (by omega), two_lt (by omega)]
  have l2 : (two m1 la (two m2 lc fun _ y => y ∈ lv)) m2 = fun y => y ∈ lv := by
    rw [two_ge (by omega), two_ge (Nat.le_refl _)]
  refine ⟨fun k nd g1 g2 g3 => ?_, fun V VB hV hK k g1 g2 y hy => ?_, fun y => ?_, ?_⟩
  · by_cases z : k < m1
    · obtain ⟨c1, c2⟩ := La.cl k nd g1 z g3
      obtain ⟨nd', f1, f2⟩ := i1 k g1 z
      rw [g3] at f1
      cases f1
      have e0 : (two m1 la (two m2 lc fun _ y => y ∈ lv)) k = la k := two_lt z
      rw [e0]
      exact ⟨c1, fun s hs x hx hw => c2 s hs x (by rw [← t1 s (f2 s hs)]; exact hx) hw⟩
    · by_cases z2 : k < m2
      · obtain ⟨c1, c2⟩ := Lc.cl k nd (by omega) z2 g3
        obtain ⟨nd', f1, f2⟩ := i2 k (by omega) z2
        rw [g3] at f1
        cases f1
        have e0 : (two m1 la (two m2 lc fun _ y => y ∈ lv)) k = lc k := by
          rw [two_ge (Nat.not_lt.mp z), two_lt z2]
        rw [e0]
        exact ⟨c1, fun s hs x hx hw => c2 s hs x (by rw [← t2 s (f2 s hs)]; exact hx) hw⟩
      · obtain rfl : k = m2 := by omega
        rw [hn] at g3
        cases g3
        rw [l2]
        refine ⟨fun y hy => (hlive y).mpr (.inr (List.mem_singleton.mp hy)), fun s hs y hy _ => ?_⟩
        rcases List.mem_cons.mp hs with rfl | hs
        · rw [t1 s q1.2] at hy
          exact (hlive y).mpr (.inl (.inl ((La.ent y).mp hy)))
        · obtain rfl := List.mem_singleton.mp hs
          rw [t2 s q2.2] at hy
          exact (hlive y).mpr (.inl (.inr ((Lc.ent y).mp hy)))
  · have va : ∀ k, lo ≤ k → k < m1 → ∀ x, la k x → V k x := La.least V VB (cl_sub hV (Nat.le_refl _) (by omega) i1 fun s _ x hx => hx) hK
    have vc : ∀ k, m1 ≤ k → k < m2 → ∀ x, lc k x → V k x := Lc.least V VB (cl_sub hV (by omega) (by omega) i2 fun s _ x hx => hx) hK
    by_cases z : k < m1
    · have e0 : (two m1 la (two m2 lc fun _ y => y ∈ lv)) k = la k := two_lt z
      rw [e0] at hy
      exact va k g1 z y hy
    · by_cases z2 : k < m2
      · have e0 : (two m1 la (two m2 lc fun _ y => y ∈ lv)) k = lc k := by
          rw [two_ge (Nat.not_lt.mp z), two_lt z2]
        rw [e0] at hy
        exact vc k (by omega) z2 y hy
      · obtain rfl : k = m2 := by omega
        rw [l2] at hy
        obtain ⟨c1, c2⟩ := hV k _ g1 g2 hn
        rcases (hlive y).mp hy with (w | w) | w
        · refine c2 e1 List.mem_cons_self y ?_ (by intro h; cases h)
          have h := (La.ent y).mpr w
          rcases q1.2 with z | z
          · rw [z, vof_b] at h ⊢
            exact hK y h
          · rw [vof_s (by omega)] at h ⊢
            exact va e1.toNat (by omega) (by omega) y h
        · refine c2 e2 (List.mem_cons_of_mem _ List.mem_cons_self) y ?_ (by intro h; cases h)
          have h := (Lc.ent y).mpr w
          rcases q2.2 with z | z
          · rw [z, vof_b] at h ⊢
            exact hK y h
          · rw [vof_s (by omega)] at h ⊢
            exact vc e2.toNat (by omega) (by omega) y h
        · rw [w]
          exact c1 x (List.mem_singleton.mpr rfl)
  · rw [vof_s (by omega), Int.toNat_natCast, l2, hlv]
  · rw [sg_add (m := m2) (by omega) (by omega), cnt2_app, sg_one hn, cnt2_no (fun ⟨y, z, _⟩ => by cases z), sg_add (m := m1) q1.1 q2.1, cnt2_app, hcn, ← La.cnt, ← Lc.cnt, Nat.add_zero]
    congr 1
    · refine cnt2_congr fun nd hnd => ?_
      obtain ⟨k, k1, k2, k3⟩ := sg_mem hnd
      obtain ⟨nd', f1, f2⟩ := i1 k k1 k2
      rw [k3] at f1
      cases f1
      exact ⟨fun ⟨x, w, h⟩ => ⟨x, w, fun s hs z => h s hs (by rw [t1 s (f2 s hs)]; exact z)⟩, fun ⟨x, w, h⟩ => ⟨x, w, fun s hs z => h s hs (by rw [← t1 s (f2 s hs)]; exact z)⟩⟩
    · refine cnt2_congr fun nd hnd => ?_
      obtain ⟨k, k1, k2, k3⟩ := sg_mem hnd
      obtain ⟨nd', f1, f2⟩ := i2 k k1 k2
      rw [k3] at f1
      cases f1
      exact ⟨fun ⟨x, w, h⟩ => ⟨x, w, fun s hs z => h s hs (by rw [t2 s (f2 s hs)]; exact z)⟩, fun ⟨x, w, h⟩ => ⟨x, w, fun s hs z => h s hs (by rw [← t2 s (f2 s hs)]; exact z)⟩⟩
theorem lab_whl {N : List Nd} {x : Str} {a : List Pg} {b e1 : Int} {lo hi w : Nat} {ks names : List Str} (h8 : names.length ≤ 19) (hx : x ∈ names) (ho : Pg.Oks names w a) (hkn : ks.Nodup) (hks : ∀ y ∈ ks, y ∈ names) (hb : b < lo) (ha : LayR N a (lo : Int) (lo + 1) e1 hi) (hn : N[lo]? = some ⟨[x], none, [e1, b]⟩)
    (IH : ∀ f : List Str, f.Nodup → (∀ y ∈ f, y ∈ names) → ∃ la, Lab N la (lo : Int) f (lo + 1) e1 hi (Pg.trims a f)) : ∃ lab, Lab N lab b ks lo lo hi ((Pg.whl x a).trim ks) := by
  obtain ⟨f, hf, fx⟩ := whl_fix (ks := ks) h8 hx ho hkn hks
  have hf0 : ∀ y ∈ lput ks [x], y ∈ names := fun y hy => (lput_in.mp hy).elim (hks y) fun z => by rw [List.mem_singleton.mp z]; exact hx
  obtain ⟨la, La⟩ := IH f fx.nd hf
  have q1 := layr_in a lo (lo + 1) e1 hi ha
  have i1 := layr_inn a lo (lo + 1) e1 hi ha
  have hl : ((Pg.whl x a).trim ks).live = f := by rw [Pg.trim, fx.eq]
  have hcn : ((Pg.whl x a).trim ks).n = (Pg.trims a f).n := by rw [Pg.trim, fx.eq]
  have l0 : two (lo + 1) (fun _ y => y ∈ f) la lo = fun y => y ∈ f := two_lt (Nat.lt_succ_self _)
  have t1 : ∀ s : Int, (s = (lo : Int) ∨ (((lo + 1 : Nat) : Int) ≤ s ∧ s < hi)) → vOf (two (lo + 1) (fun _ y => y ∈ f) la) b (· ∈ ks) s = vOf la (lo : Int) (· ∈ f) s := fun s hs => by
    rcases hs with rfl | hs
    · rw [vof_b, vof_s (by omega), Int.toNat_natCast, l0]
    · rw [vof_s (by omega), vof_s (by omega), two_ge (by omega)]
  have fx0 : ∀ y ∈ ks, y ∈ f := fun y hy => fx.sub y (lput_in.mpr (.inl hy))
  refine ⟨two (lo + 1) (fun _ y => y ∈ f) la, fun k nd g1 g2 g3 => ?_, fun V VB hV hK k g1 g2 y hy => ?_, fun y => ?_, ?_⟩
  · by_cases z : k = lo
    · subst z
      rw [hn] at g3
      cases g3
      rw [l0]
      refine ⟨fun y hy => ?_, fun s hs y hy _ => ?_⟩
      · rw [List.mem_singleton.mp hy]
        exact fx.sub x (lput_in.mpr (.inr (List.mem_singleton.mpr rfl)))
      · rcases List.mem_cons.mp hs with rfl | hs
        · rw [t1 s q1.2] at hy
          exact fx.cl y ((La.ent y).mp hy)
        · obtain rfl := List.mem_singleton.mp hs
          rw [vof_b] at hy
          exact fx0 y hy
    · obtain ⟨c1, c2⟩ := La.cl k nd (by omega) g2 g3
      obtain ⟨nd', f1, f2⟩ := i1 k (by omega) g2
      rw [g3] at f1
      cases f1
      rw [two_ge (show lo + 1 ≤ k by omega)]
      exact ⟨c1, fun s hs x hx hw => c2 s hs x (by rw [← t1 s (f2 s hs)]; exact hx) hw⟩
  · obtain ⟨c1, c2⟩ := hV lo _ (Nat.le_refl _) (by omega) hn
    have sub : ∀ (VB' : Str → Prop), (∀ z, VB' z → V lo z) → Cl N V (lo : Int) VB' (lo + 1) hi := fun VB' hs => cl_sub hV (by omega) (Nat.le_refl _) i1 fun s hs' z hz => by
      rcases hs' with rfl | hs'
      · rw [vof_b] at hz
        rw [vof_s (by omega), Int.toNat_natCast]
        exact hs z hz
      · rw [vof_s (by omega)] at hz ⊢
        exact hz
    have step : ∀ g : List Str, g.Nodup → (∀ z ∈ g, z ∈ names) → (∀ z ∈ g, V lo z) → ∀ z ∈ (Pg.trims a g).live, z ∈ names ∧ V lo z := fun g gn gs gv z hz => by
      refine ⟨((trim_in h8).2 a ho g gn gs).2 z hz, ?_⟩
      obtain ⟨lg, Lg⟩ := IH g gn gs
      have h := (Lg.ent z).mpr hz
      rcases q1.2 with w | w
      · rw [w, vof_b] at h
        exact gv z h
      · rw [vof_s (by omega)] at h
        have v := Lg.least V (V lo) (sub (V lo) fun _ h => h) gv e1.toNat (by omega) (by omega) z h
        exact c2 e1 List.mem_cons_self z (by rw [vof_s (by omega)]; exact v) (by intro h; cases h)
    have vf : ∀ z ∈ f, V lo z := fun z hz => by
      have := loop_least (B := Pg.trims a) (Q := V lo) step 20 (lput ks [x]) (lput_nd _ hkn) hf0 (fun y hy => ?_) z (by rw [fx.eq]; exact hz)
      · exact this
      · rcases lput_in.mp hy with q | q
        · exact c2 b (List.mem_cons_of_mem _ List.mem_cons_self) y (by rw [vof_b]; exact hK y q) (by intro h; cases h)
        · exact c1 y q
    by_cases z : k = lo
    · subst z
      rw [l0] at hy
      exact vf y hy
    · rw [two_ge (show lo + 1 ≤ k by omega)] at hy
      exact La.least V (V lo) (sub (V lo) fun _ h => h) vf k (by omega) g2 y hy
  · rw [vof_s (by omega), Int.toNat_natCast, l0, hl]
  · rw [sg_add (m := lo + 1) (by omega) (by omega), cnt2_app, sg_one hn, cnt2_no (fun ⟨y, z, _⟩ => by cases z), Nat.zero_add, hcn, ← La.cnt]
    refine cnt2_congr fun nd hnd => ?_
    obtain ⟨k, k1, k2, k3⟩ := sg_mem hnd
    obtain ⟨nd', f1, f2⟩ := i1 k k1 k2
    rw [k3] at f1
    cases f1
    exact ⟨fun ⟨x, w, h⟩ => ⟨x, w, fun s hs z => h s hs (by rw [t1 s (f2 s hs)]; exact z)⟩, fun ⟨x, w, h⟩ => ⟨x, w, fun s hs z => h s hs (by rw [← t1 s (f2 s hs)]; exact z)⟩⟩
mutual
theorem lab_p {N : List Nd} {names : List Str} {w : Nat} (h8 : names.length ≤ 19) : ∀ (p : Pg) (b : Int) (lo : Nat) (e : Int) (hi : Nat) (ks : List Str), LayP N p b lo e hi → p.Ok names w → ks.Nodup → (∀ y ∈ ks, y ∈ names) → b < lo → ∃ lab, Lab N lab b ks lo e hi (p.trim ks)
  | .dd d, b, lo, e, hi, ks, h, _, _, _, hb => ⟨_, lab_dd hb h⟩
  | .ite x a c, b, lo, e, hi, ks, h, ho, hn, hs, hb => by
    rw [LayP] at h
    rw [Pg.Ok] at ho
    obtain ⟨e1, m1, e2, m2, h1, h2, h3, rfl, rfl⟩ := h
    have q1 := layr_in a b lo e1 m1 h1
    obtain ⟨la, La⟩ := lab_r h8 a b lo e1 m1 ks h1 ho.2.2.2.1 hn hs hb
    obtain ⟨lc, Lc⟩ := lab_r h8 c b m1 e2 m2 ks h2 ho.2.2.2.2 hn hs (by omega)
    exact ⟨_, lab_ite hb h1 h2 h3 La Lc⟩
  | .whl x a, b, lo, e, hi, ks, h, ho, hn, hs, hb => by
    rw [LayP] at h
    rw [Pg.Ok] at ho
    obtain ⟨e1, h1, h2, rfl⟩ := h
    exact lab_whl h8 ho.1 ho.2.2 hn hs hb h1 h2 fun f fn fs => lab_r h8 a lo (lo + 1) e1 hi f h1 ho.2.2 fn fs (by omega)
theorem lab_r {N : List Nd} {names : List Str} {w : Nat} (h8 : names.length ≤ 19) : ∀ (l : List Pg) (b : Int) (lo : Nat) (e : Int) (hi : Nat) (ks : List Str), LayR N l b lo e hi → Pg.Oks names w l → ks.Nodup → (∀ y ∈ ks, y ∈ names) → b < lo → ∃ lab, Lab N lab b ks lo e hi (Pg.trims l ks)
  | [], b, lo, e, hi, ks, h, _, _, _, hb => by
    rw [LayR] at h
    obtain ⟨rfl, rfl⟩ := h
    refine ⟨fun _ _ => False, fun k nd g1 g2 => by omega, fun V VB _ _ k g1 g2 => by omega, fun x => ?_, ?_⟩
    · rw [vof_b, trims_nil]
    · rw [sg_self, trims_nil]
      rfl
  | p :: l, b, lo, e, hi, ks, h, ho, hn, hs, hb => by
    have h' := h
    rw [LayR] at h
    obtain ⟨e1, m1, h1, h2⟩ := h
    have q1 := layr_in l b lo e1 m1 h1
    obtain ⟨ll, Ll⟩ := lab_r h8 l b lo e1 m1 ks h1 ho.2 hn hs hb
    have q2 := (trim_in h8).2 l ho.2 ks hn hs
    obtain ⟨lp, Lp⟩ := lab_p h8 p e1 m1 e hi (Pg.trims l ks).live h2 ho.1 q2.1 q2.2 (by omega)
    exact ⟨_, lab_seq hb h1 h2 Ll Lp⟩
end
/-! how often a name is told: where the sets turn no more, the numbers soon stand -/
def outv (nx : List Int) (val : Int → Nat) : Nat := match nx.find? (fun s => decide (0 ≤ s) && decide (0 < val s)) with
  | some s => val s
  | none => 0
def stepv (nd : Nd) (val : Int → Nat) (a : Str) : Nat := if nd.wr ≠ some a ∧ 0 < outv nd.nx val then outv nd.nx val else nd.rd.count a
theorem stepv_pos {nd : Nd} {val : Int → Nat} {a : Str} {o : Nat} (hw : nd.wr ≠ some a) (h : outv nd.nx val = o) (h0 : 0 < o) : stepv nd val a = o := by
  subst h
  exact if_pos ⟨hw, h0⟩
theorem stepv_wr {nd : Nd} {val : Int → Nat} {a : Str} (hw : ¬ nd.wr ≠ some a) : stepv nd val a = nd.rd.count a := if_neg fun z => hw z.1
theorem stepv_no {nd : Nd} {val : Int → Nat} {a : Str} (h : outv nd.nx val = 0) : stepv nd val a = nd.rd.count a := if_neg fun z => by
  rw [h] at z
  exact absurd z.2 (Nat.lt_irrefl 0)
theorem outv_nil {val : Int → Nat} : outv [] val = 0 := rfl
theorem outv_pos {s : Int} {r : List Int} {val : Int → Nat} (h0 : 0 ≤ s) (h : 0 < val s) : outv (s :: r) val = val s := by
  unfold outv
  rw [List.find?_cons_of_pos (p := fun s => decide (0 ≤ s) && decide (0 < val s)) (by show (decide (0 ≤ s) && decide (0 < val s)) = true; rw [decide_eq_true h0, decide_eq_true h]; rfl)]
theorem outv_neg {s : Int} {r : List Int} {val : Int → Nat} (h : ¬ (0 ≤ s ∧ 0 < val s)) : outv (s :: r) val = outv r val := by
  unfold outv
  rw [List.find?_cons_of_neg (p := fun s => decide (0 ≤ s) && decide (0 < val s)) (by
    show ¬ (decide (0 ≤ s) && decide (0 < val s)) = true
    intro z
    obtain ⟨z1, z2⟩ := Bool.and_eq_true_iff.mp z
    exact h ⟨of_decide_eq_true z1, of_decide_eq_true z2⟩)]
structure Win (N : List Nd) (mt : Nat → Nat → Str → Nat) (m : Nat) : Prop where
  rc : ∀ t, t < m → ∀ (k : Nat) (nd : Nd), N[k]? = some nd → ∀ a, mt (t + 1) k a = stepv nd (fun s => if s.toNat < k then mt (t + 1) s.toNat a else mt t s.toNat a) a
  st : ∀ t, t ≤ m → ∀ (k : Nat) (a : Str), 0 < mt t k a ↔ 0 < mt 0 k a
def mv (mt : Nat → Nat → Str → Nat) (a : Str) (t : Nat) (s : Int) : Nat := if 0 ≤ s then mt t s.toNat a else 0
theorem mv_nat {mt : Nat → Nat → Str → Nat} {a : Str} {t k : Nat} : mv mt a t (k : Int) = mt t k a := by
  unfold mv
  rw [if_pos (by omega), Int.toNat_natCast]
def Const (m τ : Nat) (f : Nat → Nat) : Prop := ∀ t, τ ≤ t → t + 1 ≤ m → f (t + 1) = f t
theorem Const.mono {m τ τ' : Nat} {f : Nat → Nat} (h : Const m τ f) (hh : τ ≤ τ') : Const m τ' f := fun t h1 h2 => h t (by omega) h2
def Copy (m : Nat) (f g : Nat → Nat) : Prop := ∀ t, 1 ≤ t → t ≤ m → f t = g t
theorem Copy.const {m τ : Nat} {f g : Nat → Nat} (h : Copy m f g) (c : Const m τ g) (ht : 1 ≤ τ) : Const m τ f := fun t h1 h2 => by
  rw [h (t + 1) (by omega) h2, h t (by omega) (by omega), c t h1 h2]
theorem Copy.trans {m : Nat} {f g h : Nat → Nat} (a : Copy m f g) (b : Copy m g h) : Copy m f h := fun t h1 h2 => (a t h1 h2).trans (b t h1 h2)
/-- a node's number in the next sweep -/
theorem win_out {N : List Nd} {mt : Nat → Nat → Str → Nat} {m k t : Nat} {a : Str} (W : Win N mt m) (ht : t < m) (s : Int) (h0 : 0 ≤ s) :
    (0 < (if s.toNat < k then mt (t + 1) s.toNat a else mt t s.toNat a)) ↔ 0 < mv mt a 0 s := by
  unfold mv
  rw [if_pos h0]
  split
  · exact W.st (t + 1) (by omega) _ _
  · exact W.st t (by omega) _ _
theorem win_1 {N : List Nd} {mt : Nat → Nat → Str → Nat} {m k : Nat} {a : Str} {rd : List Str} {wr : Option Str} {b : Int} (W : Win N mt m) (hn : N[k]? = some ⟨rd, wr, [b]⟩) (hb : b < k) :
    Copy m (fun t => mv mt a t k) (fun t => mv mt a t b) ∨ Const m 1 (fun t => mv mt a t k) := by
  have key : ∀ t, t < m → mv mt a (t + 1) k = if wr ≠ some a ∧ (0 ≤ b ∧ 0 < mv mt a 0 b) then mv mt a (t + 1) b else rd.count a := fun t ht => by
    rw [mv_nat, W.rc t ht k _ hn a]
    by_cases hw : wr ≠ some a
    · by_cases h0 : 0 ≤ b ∧ 0 < mv mt a 0 b
      · rw [if_pos ⟨hw, h0⟩]
        have hz := (win_out (k := k) (a := a) W ht b h0.1).mpr h0.2
        have e : (if b.toNat < k then mt (t + 1) b.toNat a else mt t b.toNat a) = mv mt a (t + 1) b := by
          unfold mv
          rw [if_pos h0.1, if_pos (by omega)]
        rw [← e]
        exact stepv_pos hw (outv_pos h0.1 hz) hz
      · rw [if_neg fun z => h0 z.2]
        exact stepv_no (by
          show outv [b] _ = 0
          rw [outv_neg fun z => h0 ⟨z.1, (win_out (k := k) (a := a) W ht b z.1).mp z.2⟩, outv_nil])
    · rw [if_neg fun z => hw z.1]
      exact stepv_wr hw
  by_cases hc : wr ≠ some a ∧ (0 ≤ b ∧ 0 < mv mt a 0 b)
  · left
    intro t h1 h2
    obtain ⟨t', rfl⟩ : ∃ t', t = t' + 1 := ⟨t - 1, by omega⟩
    have := key t' (by omega)
    rw [if_pos hc] at this
    exact this
  · right
    intro t h1 h2
    obtain ⟨t', rfl⟩ : ∃ t', t = t' + 1 := ⟨t - 1, by omega⟩
    have e1 := key t' (by omega)
    have e2 := key (t' + 1) (by omega)
    rw [if_neg hc] at e1 e2
    exact e2.trans e1.symm
/-- a node with two ways, told in one equation -/
theorem win_2 {N : List Nd} {mt : Nat → Nat → Str → Nat} {m k : Nat} {a x : Str} {e1 e2 : Int} (W : Win N mt m) (hn : N[k]? = some ⟨[x], none, [e1, e2]⟩) : ∀ t, t < m → mv mt a (t + 1) k =
    if 0 ≤ e1 ∧ 0 < mv mt a 0 e1 then (if e1.toNat < k then mv mt a (t + 1) e1 else mv mt a t e1) else if 0 ≤ e2 ∧ 0 < mv mt a 0 e2 then (if e2.toNat < k then mv mt a (t + 1) e2 else mv mt a t e2) else [x].count a := by
  intro t ht
  rw [mv_nat, W.rc t ht k _ hn a]
  have val : ∀ s : Int, 0 ≤ s → (if s.toNat < k then mt (t + 1) s.toNat a else mt t s.toNat a) = if s.toNat < k then mv mt a (t + 1) s else mv mt a t s := fun s h0 => by
    unfold mv
    rw [if_pos h0, if_pos h0]
  have pos : ∀ s : Int, 0 ≤ s → 0 < mv mt a 0 s → 0 < (if s.toNat < k then mt (t + 1) s.toNat a else mt t s.toNat a) := fun s h0 h => (win_out (k := k) (a := a) W ht s h0).mpr h
  have neg : ∀ s : Int, ¬ (0 ≤ s ∧ 0 < mv mt a 0 s) → ¬ (0 ≤ s ∧ 0 < (if s.toNat < k then mt (t + 1) s.toNat a else mt t s.toNat a)) := fun s h z => h ⟨z.1, (win_out (k := k) (a := a) W ht s z.1).mp z.2⟩
  have hw : (none : Option Str) ≠ some a := by intro h; cases h
  by_cases h1 : 0 ≤ e1 ∧ 0 < mv mt a 0 e1
  · have p1 := pos e1 h1.1 h1.2
    rw [if_pos h1, ← val e1 h1.1]
    exact stepv_pos hw (outv_pos h1.1 p1) p1
  · rw [if_neg h1]
    by_cases h2 : 0 ≤ e2 ∧ 0 < mv mt a 0 e2
    · have p2 := pos e2 h2.1 h2.2
      rw [if_pos h2, ← val e2 h2.1]
      exact stepv_pos hw ((outv_neg (neg e1 h1)).trans (outv_pos h2.1 p2)) p2
    · rw [if_neg h2]
      exact stepv_no ((outv_neg (neg e1 h1)).trans ((outv_neg (neg e2 h2)).trans outv_nil))
theorem at_suc {f : Nat → Nat} {m : Nat} {g : Nat → Nat} (h : ∀ t, t < m → f (t + 1) = g (t + 1)) : Copy m f g := fun t h1 h2 => by
  obtain ⟨t', rfl⟩ : ∃ t', t = t' + 1 := ⟨t - 1, by omega⟩
  exact h t' (by omega)
theorem at_con {f : Nat → Nat} {m c : Nat} (h : ∀ t, t < m → f (t + 1) = c) : Const m 1 f := fun t h1 h2 => by
  obtain ⟨t', rfl⟩ : ∃ t', t = t' + 1 := ⟨t - 1, by omega⟩
  rw [h t' (by omega), h (t' + 1) (by omega)]
abbrev Q1 (mt : Nat → Nat → Str → Nat) (m : Nat) (a : Str) (d : Nat) (e b : Int) : Prop := Copy m (fun t => mv mt a t e) (fun t => mv mt a t b) ∨ Const m (1 + d) (fun t => mv mt a t e)
mutual
theorem q1_p {N : List Nd} {mt : Nat → Nat → Str → Nat} {m : Nat} {a : Str} (W : Win N mt m) : ∀ (p : Pg) (b : Int) (lo : Nat) (e : Int) (hi : Nat), LayP N p b lo e hi → b < lo → Q1 mt m a p.dep e b
  | .dd d, b, lo, e, hi, h, hb => by
    rw [LayP] at h
    obtain ⟨h1, rfl, rfl⟩ := h
    rcases win_1 (a := a) W h1 hb with z | z
    · exact .inl z
    · exact .inr (z.mono (by omega))
  | .ite x a1 c, b, lo, e, hi, h, hb => by
    rw [LayP] at h
    obtain ⟨e1, m1, e2, m2, h1, h2, h3, rfl, rfl⟩ := h
    have q1 := layr_in a1 b lo e1 m1 h1
    have q2 := layr_in c b m1 e2 m2 h2
    have i1 := q1_r (a := a) W a1 b lo e1 m1 h1 hb
    have i2 := q1_r (a := a) W c b m1 e2 m2 h2 (by omega)
    have key := win_2 (a := a) W h3
    rw [Pg.dep]
    by_cases z1 : 0 ≤ e1 ∧ 0 < mv mt a 0 e1
    · have cp : Copy m (fun t => mv mt a t (m2 : Int)) (fun t => mv mt a t e1) := at_suc fun t ht => by
        show mv mt a (t + 1) (m2 : Int) = mv mt a (t + 1) e1
        rw [key t ht, if_pos z1, if_pos (by omega)]
      rcases i1 with z | z
      · exact .inl (cp.trans z)
      · exact .inr ((cp.const z (by omega)).mono (by omega))
    · by_cases z2 : 0 ≤ e2 ∧ 0 < mv mt a 0 e2
      · have cp : Copy m (fun t => mv mt a t (m2 : Int)) (fun t => mv mt a t e2) := at_suc fun t ht => by
          show mv mt a (t + 1) (m2 : Int) = mv mt a (t + 1) e2
          rw [key t ht, if_neg z1, if_pos z2, if_pos (by omega)]
        rcases i2 with z | z
        · exact .inl (cp.trans z)
        · exact .inr ((cp.const z (by omega)).mono (by omega))
      · refine .inr ((at_con (c := [x].count a) fun t ht => ?_).mono (by omega))
        show mv mt a (t + 1) (m2 : Int) = _
        rw [key t ht, if_neg z1, if_neg z2]
  | .whl x a1, b, lo, e, hi, h, hb => by
    rw [LayP] at h
    obtain ⟨e1, h1, h2, rfl⟩ := h
    have q1 := layr_in a1 lo (lo + 1) e1 hi h1
    have i1 := q1_r (a := a) W a1 lo (lo + 1) e1 hi h1 (by omega)
    have key := win_2 (a := a) W h2
    rw [Pg.dep]
    by_cases z1 : 0 ≤ e1 ∧ 0 < mv mt a 0 e1
    · right
      have st : ∀ t, t < m → mv mt a (t + 1) (lo : Int) = mv mt a t e1 := fun t ht => by rw [key t ht, if_pos z1, if_neg (by omega)]
      rcases i1 with z | z
      · refine Const.mono (τ := 1) (fun t g1 g2 => ?_) (by omega)
        show mv mt a (t + 1) (lo : Int) = mv mt a t (lo : Int)
        rw [st t (by omega)]
        exact z t g1 (by omega)
      · intro t g1 g2
        obtain ⟨t', rfl⟩ : ∃ t', t = t' + 1 := ⟨t - 1, by omega⟩
        show mv mt a (t' + 1 + 1) (lo : Int) = mv mt a (t' + 1) (lo : Int)
        rw [st (t' + 1) (by omega), st t' (by omega)]
        exact z t' (by omega) (by omega)
    · by_cases z2 : 0 ≤ b ∧ 0 < mv mt a 0 b
      · exact .inl (at_suc fun t ht => by
          show mv mt a (t + 1) (lo : Int) = mv mt a (t + 1) b
          rw [key t ht, if_neg z1, if_pos z2, if_pos (by omega)])
      · refine .inr ((at_con (c := [x].count a) fun t ht => ?_).mono (by omega))
        show mv mt a (t + 1) (lo : Int) = _
        rw [key t ht, if_neg z1, if_neg z2]
theorem q1_r {N : List Nd} {mt : Nat → Nat → Str → Nat} {m : Nat} {a : Str} (W : Win N mt m) : ∀ (l : List Pg) (b : Int) (lo : Nat) (e : Int) (hi : Nat), LayR N l b lo e hi → b < lo → Q1 mt m a (Pg.deps l) e b
  | [], b, lo, e, hi, h, hb => by
    rw [LayR] at h
    rw [h.1]
    exact .inl fun t _ _ => rfl
  | p :: l, b, lo, e, hi, h, hb => by
    rw [LayR] at h
    obtain ⟨e1, m1, h1, h2⟩ := h
    have q1 := layr_in l b lo e1 m1 h1
    have i1 := q1_r (a := a) W l b lo e1 m1 h1 hb
    have i2 := q1_p (a := a) W p e1 m1 e hi h2 (by omega)
    have hd : Pg.deps (p :: l) = max p.dep (Pg.deps l) := rfl
    rw [hd]
    rcases i2 with z | z
    · rcases i1 with y | y
      · exact .inl (z.trans y)
      · exact .inr ((z.const y (by omega)).mono (by omega))
    · exact .inr (z.mono (by omega))
end
mutual
theorem q2_p {N : List Nd} {mt : Nat → Nat → Str → Nat} {m τ : Nat} {a : Str} (W : Win N mt m) : ∀ (p : Pg) (b : Int) (lo : Nat) (e : Int) (hi : Nat), LayP N p b lo e hi → b < lo → 1 + p.dep ≤ τ → Const m τ (fun t => mv mt a t b) → ∀ k : Nat, lo ≤ k → k < hi → Const m τ (fun t => mv mt a t k)
  | .dd d, b, lo, e, hi, h, hb, hd, hc => by
    have i1 := q1_p (a := a) W (.dd d) b lo e hi h hb
    rw [LayP] at h
    obtain ⟨h1, rfl, rfl⟩ := h
    intro k g1 g2
    obtain rfl : k = lo := by omega
    rcases i1 with z | z
    · exact z.const hc (by omega)
    · exact z.mono hd
  | .ite x a1 c, b, lo, e, hi, h, hb, hd, hc => by
    have i1 := q1_p (a := a) W (.ite x a1 c) b lo e hi h hb
    rw [LayP] at h
    obtain ⟨e1, m1, e2, m2, h1, h2, h3, rfl, rfl⟩ := h
    have hd' := hd
    rw [Pg.dep] at hd'
    have q1 := layr_in a1 b lo e1 m1 h1
    have q2 := layr_in c b m1 e2 m2 h2
    have j1 := q2_r (a := a) W a1 b lo e1 m1 h1 hb (by omega) hc
    have j2 := q2_r (a := a) W c b m1 e2 m2 h2 (by omega) (by omega) hc
    intro k g1 g2
    by_cases z1 : k < m1
    · exact j1 k g1 z1
    · by_cases z2 : k < m2
      · exact j2 k (by omega) z2
      · obtain rfl : k = m2 := by omega
        rcases i1 with z | z
        · exact z.const hc (by omega)
        · exact z.mono hd
  | .whl x a1, b, lo, e, hi, h, hb, hd, hc => by
    have i1 := q1_p (a := a) W (.whl x a1) b lo e hi h hb
    rw [LayP] at h
    obtain ⟨e1, h1, h2, rfl⟩ := h
    have hd' := hd
    rw [Pg.dep] at hd'
    have c0 : Const m τ (fun t => mv mt a t (lo : Int)) := by
      rcases i1 with z | z
      · exact z.const hc (by omega)
      · exact z.mono hd
    have j1 := q2_r (a := a) W a1 lo (lo + 1) e1 hi h1 (by omega) (by omega) c0
    intro k g1 g2
    by_cases z : k = lo
    · rw [z]; exact c0
    · exact j1 k (by omega) g2
theorem q2_r {N : List Nd} {mt : Nat → Nat → Str → Nat} {m τ : Nat} {a : Str} (W : Win N mt m) : ∀ (l : List Pg) (b : Int) (lo : Nat) (e : Int) (hi : Nat), LayR N l b lo e hi → b < lo → 1 + Pg.deps l ≤ τ → Const m τ (fun t => mv mt a t b) → ∀ k : Nat, lo ≤ k → k < hi → Const m τ (fun t => mv mt a t k)
  | [], b, lo, e, hi, h, hb, _, _ => by
    rw [LayR] at h
    intro k g1 g2
    omega
  | p :: l, b, lo, e, hi, h, hb, hd, hc => by
    rw [LayR] at h
    obtain ⟨e1, m1, h1, h2⟩ := h
    have hd' : 1 + max p.dep (Pg.deps l) ≤ τ := hd
    have q1 := layr_in l b lo e1 m1 h1
    have j1 := q2_r (a := a) W l b lo e1 m1 h1 hb (by omega) hc
    have c1 : Const m τ (fun t => mv mt a t e1) := by
      rcases q1.2 with z | z
      · rw [z]; exact hc
      · have := j1 e1.toNat (by omega) (by omega)
        rw [Int.toNat_of_nonneg (by omega)] at this
        exact this
    have j2 := q2_p (a := a) W p e1 m1 e hi h2 (by omega) (by omega) c1
    intro k g1 g2
    by_cases z1 : k < m1
    · exact j1 k g1 z1
    · exact j2 k (by omega) g2
end
/-- behind one sweep more than the depth, the numbers stand -/
theorem win_stands {N : List Nd} {mt : Nat → Nat → Str → Nat} {m : Nat} {l : List Pg} {e : Int} (W : Win N mt m) (h : LayR N l (-1) 0 e N.length) (hm : 1 + Pg.deps l + 1 ≤ m) (k : Nat) (hk : k < N.length) (a : Str) : mt (1 + Pg.deps l + 1) k a = mt (1 + Pg.deps l) k a := by
  have := q2_r (a := a) (τ := 1 + Pg.deps l) W l (-1) 0 e N.length h (by omega) (Nat.le_refl _) (fun t _ _ => rfl) k (Nat.zero_le _) hk (1 + Pg.deps l) (Nat.le_refl _) hm
  replace this : mv mt a (1 + Pg.deps l + 1) k = mv mt a (1 + Pg.deps l) k := this
  rw [mv_nat, mv_nat] at this
  exact this
/-! the law's sweeps -/
def outL (nx : List Int) (L : List (List Str)) : List Str := nx.foldl (fun f s => if 0 ≤ s then f ++ (L.getD s.toNat []).filter (fun x => decide (x ∉ f)) else f) []
def fndL (nd : Nd) (L : List (List Str)) : List Str := (outL nd.nx L).filter fun x => decide (nd.wr ≠ some x)
def valL (nd : Nd) (L : List (List Str)) : List Str := ssort (fndL nd L ++ nd.rd.filter fun x => decide (x ∉ fndL nd L))
def swpF : List Nd → Nat → List (List Str) → List (List Str)
  | [], _, L => L
  | nd :: r, k, L => swpF r (k + 1) (L.set k (valL nd L))
def itL (N : List Nd) : Nat → List (List Str)
  | 0 => N.map fun _ => []
  | t + 1 => swpF N 0 (itL N t)
def cv (L : List (List Str)) (a : Str) (s : Int) : Nat := (L.getD s.toNat []).count a
theorem ct_filter {p : Str → Bool} {a : Str} {l : List Str} : (l.filter p).count a = if p a = true then l.count a else 0 := by
  by_cases h : p a = true
  · rw [if_pos h, List.count_filter h]
  · rw [if_neg h]
    exact List.count_eq_zero.mpr fun z => h (List.mem_filter.mp z).2
theorem out_ct {L : List (List Str)} {a : Str} : ∀ (nx : List Int) (f : List Str), (nx.foldl (fun f s => if 0 ≤ s then f ++ (L.getD s.toNat []).filter (fun x => decide (x ∉ f)) else f) f).count a = if 0 < f.count a then f.count a else outv nx (cv L a)
  | [], f => by
    rw [List.foldl_nil, outv_nil]
    split
    · rfl
    · omega
  | s :: nx, f => by
    rw [List.foldl_cons, out_ct nx]
    by_cases h0 : 0 ≤ s
    · rw [if_pos h0, List.count_append, ct_filter]
      by_cases hf : 0 < f.count a
      · have hm : a ∈ f := List.count_pos_iff.mp hf
        have e0 : (if decide (a ∉ f) = true then (L.getD s.toNat []).count a else 0) = 0 := if_neg (fun z : decide (a ∉ f) = true => absurd hm (of_decide_eq_true z))
        rw [e0, Nat.add_zero, if_pos hf, if_pos hf]
      · have hm : a ∉ f := fun z => hf (List.count_pos_iff.mpr z)
        have e0 : (if decide (a ∉ f) = true then (L.getD s.toNat []).count a else 0) = cv L a s := if_pos (decide_eq_true hm)
        have hz : f.count a = 0 := by omega
        rw [e0, if_neg hf, hz, Nat.zero_add]
        by_cases hv : 0 < cv L a s
        · rw [if_pos hv, outv_pos h0 hv]
        · rw [if_neg hv, outv_neg fun z => hv z.2]
    · rw [if_neg h0]
      by_cases hf : 0 < f.count a
      · rw [if_pos hf, if_pos hf]
      · rw [if_neg hf, if_neg hf, outv_neg fun z => h0 z.1]
theorem outL_ct {nx : List Int} {L : List (List Str)} {a : Str} : (outL nx L).count a = outv nx (cv L a) := by
  unfold outL
  rw [out_ct, if_neg (by simp)]
theorem fndL_ct {nd : Nd} {L : List (List Str)} {a : Str} : (fndL nd L).count a = if nd.wr ≠ some a then outv nd.nx (cv L a) else 0 := by
  unfold fndL
  rw [ct_filter, outL_ct]
  by_cases h : nd.wr ≠ some a
  · rw [if_pos h, if_pos (decide_eq_true h)]
  · rw [if_neg h, if_neg (by rw [decide_eq_false h]; simp)]
theorem valL_ct {nd : Nd} {L : List (List Str)} {a : Str} : (valL nd L).count a = stepv nd (cv L a) a := by
  have hp : (valL nd L).count a = (fndL nd L ++ nd.rd.filter fun x => decide (x ∉ fndL nd L)).count a := (List.mergeSort_perm _ _).count_eq a
  rw [hp, List.count_append, ct_filter, fndL_ct]
  by_cases h : nd.wr ≠ some a ∧ 0 < outv nd.nx (cv L a)
  · rw [if_pos h.1, stepv_pos h.1 rfl h.2]
    have hm : a ∈ fndL nd L := List.count_pos_iff.mp (by rw [fndL_ct, if_pos h.1]; exact h.2)
    rw [if_neg (by rw [decide_eq_false (fun z => z hm)]; simp), Nat.add_zero]
  · have hz : (if nd.wr ≠ some a then outv nd.nx (cv L a) else 0) = 0 := by
      by_cases hw : nd.wr ≠ some a
      · rw [if_pos hw]
        have : ¬ 0 < outv nd.nx (cv L a) := fun z => h ⟨hw, z⟩
        omega
      · rw [if_neg hw]
    have hm : a ∉ fndL nd L := fun z => by
      have := List.count_pos_iff.mpr z
      rw [fndL_ct, hz] at this
      exact absurd this (Nat.lt_irrefl 0)
    rw [hz, if_pos (decide_eq_true hm), Nat.zero_add]
    by_cases hw : nd.wr ≠ some a
    · rw [if_pos hw] at hz
      exact (stepv_no hz).symm
    · exact (stepv_wr hw).symm
theorem swp_len : ∀ (r : List Nd) (k : Nat) (L : List (List Str)), (swpF r k L).length = L.length
  | [], _, _ => rfl
  | nd :: r, k, L => by
    rw [swpF, swp_len r, List.length_set]
/-- each place, by the values ahead that are new and those behind that are old -/
theorem swp_get : ∀ (r : List Nd) (i : Nat) (L : List (List Str)), i + r.length = L.length →
    (∀ j, j < i → (swpF r i L)[j]? = L[j]?) ∧ ∀ j nd, r[j]? = some nd → (swpF r i L)[i + j]? = some (valL nd ((swpF r i L).take (i + j) ++ L.drop (i + j)))
  | [], i, L, _ => ⟨fun _ _ => rfl, fun j nd h => by cases h⟩
  | nd :: r, i, L, hl => by
    rw [List.length_cons] at hl
    have hi : i < L.length := by omega
    obtain ⟨h1, h2⟩ := swp_get r (i + 1) (L.set i (valL nd L)) (by rw [List.length_set]; omega)
    have e1 : ∀ j, j < i → (swpF r (i + 1) (L.set i (valL nd L)))[j]? = L[j]? := fun j hj => by
      rw [h1 j (by omega), List.getElem?_set_ne (by omega)]
    have et : (swpF r (i + 1) (L.set i (valL nd L))).take i = L.take i := by
      apply List.ext_getElem?
      intro j
      rw [List.getElem?_take, List.getElem?_take]
      split
      · exact e1 j (by omega)
      · rfl
    rw [swpF]
    refine ⟨e1, fun j nd' h => ?_⟩
    cases j with
    | zero =>
      cases h
      show (swpF r (i + 1) (L.set i (valL nd L)))[i]? = some (valL nd ((swpF r (i + 1) (L.set i (valL nd L))).take i ++ L.drop i))
      rw [et, List.take_append_drop, h1 i (by omega), List.getElem?_set_self hi]
    | succ j =>
      have := h2 j nd' h
      rw [show i + 1 + j = i + (j + 1) by omega] at this
      rw [this]
      congr 3
      rw [List.drop_set_of_lt (by omega)]
def mtL (N : List Nd) (t k : Nat) (a : Str) : Nat := ((itL N t).getD k []).count a
theorem it_len {N : List Nd} : ∀ t, (itL N t).length = N.length
  | 0 => List.length_map _
  | t + 1 => by rw [itL, swp_len, it_len t]
theorem it_at {N : List Nd} {t k : Nat} {nd : Nd} (h : N[k]? = some nd) : (itL N (t + 1))[k]? = some (valL nd ((itL N (t + 1)).take k ++ (itL N t).drop k)) := by
  have := (swp_get N 0 (itL N t) (by rw [it_len]; omega)).2 k nd h
  rw [Nat.zero_add] at this
  exact this
theorem mix_cv {N : List Nd} {t k : Nat} {a : Str} {s : Int} (hk : k ≤ N.length) : cv ((itL N (t + 1)).take k ++ (itL N t).drop k) a s = if s.toNat < k then mtL N (t + 1) s.toNat a else mtL N t s.toNat a := by
  unfold cv mtL
  have hl := it_len (N := N) (t + 1)
  have hl2 := it_len (N := N) t
  split
  · rename_i h
    rw [List.getD_eq_getElem?_getD, List.getD_eq_getElem?_getD, List.getElem?_append_left (by rw [List.length_take]; omega), List.getElem?_take, if_pos h]
  · rename_i h
    rw [List.getD_eq_getElem?_getD, List.getD_eq_getElem?_getD, List.getElem?_append_right (by rw [List.length_take]; omega), List.getElem?_drop, List.length_take, Nat.min_eq_left (by omega)]
    congr 4
    omega
theorem mt_rec {N : List Nd} {t k : Nat} {nd : Nd} (h : N[k]? = some nd) (a : Str) : mtL N (t + 1) k a = stepv nd (fun s => if s.toNat < k then mtL N (t + 1) s.toNat a else mtL N t s.toNat a) a := by
  have hk := (List.getElem?_eq_some_iff.mp h).1
  have e : mtL N (t + 1) k a = (valL nd ((itL N (t + 1)).take k ++ (itL N t).drop k)).count a := by
    unfold mtL
    rw [List.getD_eq_getElem?_getD, it_at h]
    rfl
  rw [e, valL_ct]
  congr 1
  funext s
  exact mix_cv (by omega)
theorem mt_out {N : List Nd} {t k : Nat} {a : Str} (h : N.length ≤ k) : mtL N t k a = 0 := by
  unfold mtL
  rw [List.getD_eq_getElem?_getD, List.getElem?_eq_none (by rw [it_len]; exact h)]
  rfl
/-- who is told -/
theorem outv_iff {val : Int → Nat} : ∀ {nx : List Int}, 0 < outv nx val ↔ ∃ s ∈ nx, 0 ≤ s ∧ 0 < val s
  | [] => by rw [outv_nil]; simp
  | s :: nx => by
    by_cases h : 0 ≤ s ∧ 0 < val s
    · rw [outv_pos h.1 h.2]
      exact ⟨fun z => ⟨s, List.mem_cons_self, h⟩, fun _ => h.2⟩
    · rw [outv_neg h, outv_iff]
      constructor
      · rintro ⟨q, hq, h2⟩
        exact ⟨q, List.mem_cons_of_mem _ hq, h2⟩
      · rintro ⟨q, hq, h2⟩
        rcases List.mem_cons.mp hq with rfl | hq
        · exact absurd h2 h
        · exact ⟨q, hq, h2⟩
theorem stepv_iff {nd : Nd} {val : Int → Nat} {a : Str} : 0 < stepv nd val a ↔ (nd.wr ≠ some a ∧ ∃ s ∈ nd.nx, 0 ≤ s ∧ 0 < val s) ∨ a ∈ nd.rd := by
  by_cases hw : nd.wr ≠ some a
  · by_cases ho : 0 < outv nd.nx val
    · rw [stepv_pos hw rfl ho]
      exact ⟨fun _ => .inl ⟨hw, outv_iff.mp ho⟩, fun _ => ho⟩
    · rw [stepv_no (by omega), List.count_pos_iff]
      exact ⟨.inr, fun z => z.elim (fun q => absurd (outv_iff.mpr q.2) ho) id⟩
  · rw [stepv_wr hw, List.count_pos_iff]
    exact ⟨.inr, fun z => z.elim (fun q => absurd q.1 hw) id⟩
theorem stepv_mono {nd : Nd} {v v' : Int → Nat} {a : Str} (h : ∀ s ∈ nd.nx, 0 ≤ s → 0 < v s → 0 < v' s) (hp : 0 < stepv nd v a) : 0 < stepv nd v' a := by
  rw [stepv_iff] at hp ⊢
  rcases hp with ⟨hw, s, hs, h0, h1⟩ | hp
  · exact .inl ⟨hw, s, hs, h0, h s hs h0 h1⟩
  · exact .inr hp
theorem mt_mono {N : List Nd} {a : Str} : ∀ (t k : Nat), 0 < mtL N t k a → 0 < mtL N (t + 1) k a := by
  intro t
  induction t with
  | zero =>
    intro k h
    exfalso
    unfold mtL itL at h
    rw [List.getD_eq_getElem?_getD, List.getElem?_map] at h
    cases hk : N[k]? with
    | none => rw [hk] at h; exact absurd h (by simp)
    | some nd => rw [hk] at h; exact absurd h (by simp)
  | succ t ih =>
    intro k
    induction k using Nat.strongRecOn with
    | ind k ihk =>
      intro h
      cases hk : N[k]? with
      | none =>
        rw [mt_out (List.getElem?_eq_none_iff.mp hk)] at h
        exact absurd h (Nat.lt_irrefl 0)
      | some nd =>
        rw [mt_rec hk] at h ⊢
        refine stepv_mono (fun s hs h0 h1 => ?_) h
        split
        · rename_i hlt
          rw [if_pos hlt] at h1
          exact ihk s.toNat hlt h1
        · rename_i hlt
          rw [if_neg hlt] at h1
          exact ih s.toNat h1
theorem mt_mono_le {N : List Nd} {a : Str} {t t' k : Nat} (h : t ≤ t') (hp : 0 < mtL N t k a) : 0 < mtL N t' k a := by
  obtain ⟨d, rfl⟩ : ∃ d, t' = t + d := ⟨t' - t, by omega⟩
  clear h
  induction d with
  | zero => exact hp
  | succ d ih => exact mt_mono (t + d) k ih
/-- equal numbers, equal lists -/
theorem it_eq {N : List Nd} {t : Nat} (h : ∀ k < N.length, ∀ a, mtL N (t + 2) k a = mtL N (t + 1) k a) : itL N (t + 2) = itL N (t + 1) := by
  apply List.ext_getElem?
  intro k
  by_cases hk : k < N.length
  · have hn : N[k]? = some N[k] := List.getElem?_eq_getElem hk
    have e1 := it_at (t := t + 1) hn
    have e2 := it_at (t := t) hn
    rw [e1, e2]
    congr 1
    have hc : ∀ a, (valL N[k] ((itL N (t + 1 + 1)).take k ++ (itL N (t + 1)).drop k)).count a = (valL N[k] ((itL N (t + 1)).take k ++ (itL N t).drop k)).count a := fun a => by
      have := h k hk a
      unfold mtL at this
      rw [List.getD_eq_getElem?_getD, List.getD_eq_getElem?_getD, e1, e2] at this
      exact this
    exact (List.perm_iff_count.mpr hc).eq_of_pairwise (fun x y _ _ h1 h2 => sle_anti h1 h2) (List.pairwise_mergeSort sle_trans sle_total _) (List.pairwise_mergeSort sle_trans sle_total _)
  · rw [List.getElem?_eq_none (by rw [it_len]; omega), List.getElem?_eq_none (by rw [it_len]; omega)]
/-! the sweeps come to an end -/
def sumN (f : Nat → Nat) : Nat → Nat
  | 0 => 0
  | n + 1 => sumN f n + f n
theorem sumN_le {f g : Nat → Nat} : ∀ n, (∀ k, k < n → f k ≤ g k) → sumN f n ≤ sumN g n
  | 0, _ => Nat.le_refl _
  | n + 1, h => by
    have h1 := sumN_le n fun k hk => h k (by omega)
    have h2 := h n (Nat.lt_succ_self n)
    show sumN f n + f n ≤ sumN g n + g n
    omega
theorem sumN_lt {f g : Nat → Nat} : ∀ n, (∀ k, k < n → f k ≤ g k) → ∀ k, k < n → f k < g k → sumN f n < sumN g n
  | 0, _, _, hk, _ => absurd hk (Nat.not_lt_zero _)
  | n + 1, h, k, hk, hlt => by
    have h2 := h n (Nat.lt_succ_self n)
    show sumN f n + f n < sumN g n + g n
    by_cases z : k = n
    · subst z
      have h1 := sumN_le (f := f) (g := g) k fun j hj => h j (by omega)
      omega
    · have h1 := sumN_lt n (fun k hk => h k (by omega)) k (by omega) hlt
      omega
theorem sumN_bd {f : Nat → Nat} {c : Nat} : ∀ n, (∀ k, k < n → f k ≤ c) → sumN f n ≤ n * c
  | 0, _ => Nat.zero_le _
  | n + 1, h => by
    have h1 := sumN_bd n fun k hk => h k (by omega)
    have h2 := h n (Nat.lt_succ_self n)
    show sumN f n + f n ≤ (n + 1) * c
    rw [Nat.succ_mul]
    omega
theorem fl_le {p q : Str → Bool} : ∀ {l : List Str}, (∀ a ∈ l, p a = true → q a = true) → (l.filter p).length ≤ (l.filter q).length
  | [], _ => Nat.le_refl _
  | a :: l, h => by
    have ih := fl_le (l := l) fun x hx => h x (List.mem_cons_of_mem _ hx)
    have h0 := h a List.mem_cons_self
    rw [List.filter_cons, List.filter_cons]
    by_cases hp : p a = true
    · rw [if_pos hp, if_pos (h0 hp), List.length_cons, List.length_cons]
      omega
    · rw [if_neg hp]
      split
      · rw [List.length_cons]; omega
      · exact ih
theorem fl_lt {p q : Str → Bool} : ∀ {l : List Str}, (∀ a ∈ l, p a = true → q a = true) → ∀ a ∈ l, p a = false → q a = true → (l.filter p).length < (l.filter q).length
  | [], _, _, h, _, _ => by cases h
  | b :: l, h, a, ha, hp, hq => by
    have hs := fl_le (p := p) (q := q) (l := l) fun x hx => h x (List.mem_cons_of_mem _ hx)
    have h0 := h b List.mem_cons_self
    rw [List.filter_cons, List.filter_cons]
    rcases List.mem_cons.mp ha with rfl | ha
    · rw [if_neg (by rw [hp]; simp), if_pos hq, List.length_cons]
      omega
    · have ih := fl_lt (l := l) (fun x hx => h x (List.mem_cons_of_mem _ hx)) a ha hp hq
      by_cases hb : p b = true
      · rw [if_pos hb, if_pos (h0 hb), List.length_cons, List.length_cons]
        omega
      · rw [if_neg hb]
        split
        · rw [List.length_cons]; omega
        · exact ih
def pcs (names : List Str) (N : List Nd) (t k : Nat) : Nat := (names.filter fun a => decide (0 < mtL N t k a)).length
def phi (names : List Str) (N : List Nd) (t : Nat) : Nat := sumN (pcs names N t) N.length
theorem pcs_le {names : List Str} {N : List Nd} {t t' k : Nat} (h : t ≤ t') : pcs names N t k ≤ pcs names N t' k := fl_le fun a _ hp => decide_eq_true (mt_mono_le h (of_decide_eq_true hp))
theorem phi_le {names : List Str} {N : List Nd} {t t' : Nat} (h : t ≤ t') : phi names N t ≤ phi names N t' := sumN_le _ fun _ _ => pcs_le h
theorem phi_bd {names : List Str} {N : List Nd} {t : Nat} : phi names N t ≤ N.length * names.length := sumN_bd _ fun _ _ => List.length_filter_le _ _
theorem mt_names {names : List Str} {N : List Nd} (hN : ∀ nd ∈ N, ∀ x ∈ nd.rd, x ∈ names) {a : Str} : ∀ (t k : Nat), 0 < mtL N t k a → a ∈ names := by
  intro t
  induction t with
  | zero =>
    intro k h
    exfalso
    unfold mtL itL at h
    rw [List.getD_eq_getElem?_getD, List.getElem?_map] at h
    cases hk : N[k]? with
    | none => rw [hk] at h; exact absurd h (by simp)
    | some nd => rw [hk] at h; exact absurd h (by simp)
  | succ t ih =>
    intro k
    induction k using Nat.strongRecOn with
    | ind k ihk =>
      intro h
      cases hk : N[k]? with
      | none =>
        rw [mt_out (List.getElem?_eq_none_iff.mp hk)] at h
        exact absurd h (Nat.lt_irrefl 0)
      | some nd =>
        rw [mt_rec hk, stepv_iff] at h
        rcases h with ⟨_, s, hs, h0, h1⟩ | h
        · split at h1
          · rename_i hlt
            exact ihk s.toNat hlt h1
          · exact ih s.toNat h1
        · exact hN nd (List.mem_of_getElem? hk) a h
theorem it_stop {names : List Str} {N : List Nd} {l : List Pg} {e : Int} (hN : ∀ nd ∈ N, ∀ x ∈ nd.rd, x ∈ names) (hL : LayR N l (-1) 0 e N.length) : ∀ (r t : Nat), N.length * names.length ≤ phi names N t + r → ∃ t', t' ≤ t + (r + 1) * (Pg.deps l + 2) ∧ itL N (t' + 1) = itL N t' := by
  have win : ∀ t : Nat, (∀ s, s ≤ Pg.deps l + 2 → ∀ (k : Nat) (a : Str), 0 < mtL N (t + s) k a ↔ 0 < mtL N t k a) → itL N (t + Pg.deps l + 1 + 1) = itL N (t + Pg.deps l + 1) := fun t h => by
    have W : Win N (fun s => mtL N (t + s)) (Pg.deps l + 2) := ⟨fun s _ k nd hk a => mt_rec hk a, fun s hs k a => h s hs k a⟩
    refine it_eq (t := t + Pg.deps l) fun k hk a => ?_
    have := win_stands W hL (by omega) k hk a
    have e1 : t + Pg.deps l + 2 = t + (1 + Pg.deps l + 1) := by omega
    have e2 : t + Pg.deps l + 1 = t + (1 + Pg.deps l) := by omega
    rw [e1, e2]
    exact this
  intro r
  induction r with
  | zero =>
    intro t hr
    by_cases hw : ∀ s, s ≤ Pg.deps l + 2 → ∀ (k : Nat) (a : Str), 0 < mtL N (t + s) k a ↔ 0 < mtL N t k a
    · exact ⟨t + Pg.deps l + 1, by omega, win t hw⟩
    · exfalso
      apply hw
      intro s hs k a
      refine ⟨fun hp => Classical.byContradiction fun hn => ?_, fun hp => mt_mono_le (by omega) hp⟩
      have hk : k < N.length := Classical.byContradiction fun z => by rw [mt_out (by omega)] at hp; exact absurd hp (Nat.lt_irrefl 0)
      have h1 : phi names N t < phi names N (t + s) := sumN_lt _ (fun _ _ => pcs_le (by omega)) k hk (fl_lt (fun b _ hb => decide_eq_true (mt_mono_le (by omega) (of_decide_eq_true hb))) a (mt_names hN _ _ hp) (decide_eq_false hn) (decide_eq_true hp))
      have h2 := phi_bd (names := names) (N := N) (t := t + s)
      omega
  | succ r ih =>
    intro t hr
    by_cases hw : ∀ s, s ≤ Pg.deps l + 2 → ∀ (k : Nat) (a : Str), 0 < mtL N (t + s) k a ↔ 0 < mtL N t k a
    · refine ⟨t + Pg.deps l + 1, ?_, win t hw⟩
      have : (r + 1 + 1) * (Pg.deps l + 2) = (r + 1) * (Pg.deps l + 2) + (Pg.deps l + 2) := Nat.succ_mul _ _
      omega
    · have ⟨s, hs, k, a, hp, hn⟩ : ∃ s, s ≤ Pg.deps l + 2 ∧ ∃ (k : Nat) (a : Str), 0 < mtL N (t + s) k a ∧ ¬ 0 < mtL N t k a := Classical.byContradiction fun z => hw fun s hs k a => ⟨fun hp => Classical.byContradiction fun hn => z ⟨s, hs, k, a, hp, hn⟩, fun hp => mt_mono_le (by omega) hp⟩
      have hk : k < N.length := Classical.byContradiction fun z => by rw [mt_out (by omega)] at hp; exact absurd hp (Nat.lt_irrefl 0)
      have h1 : phi names N t < phi names N (t + s) := sumN_lt _ (fun _ _ => pcs_le (by omega)) k hk (fl_lt (fun b _ hb => decide_eq_true (mt_mono_le (by omega) (of_decide_eq_true hb))) a (mt_names hN _ _ hp) (decide_eq_false hn) (decide_eq_true hp))
      obtain ⟨t', g1, g2⟩ := ih (t + s) (by omega)
      refine ⟨t', ?_, g2⟩
      have : (r + 1 + 1) * (Pg.deps l + 2) = (r + 1) * (Pg.deps l + 2) + (Pg.deps l + 2) := Nat.succ_mul _ _
      omega
/-! what stands is the least -/
theorem it_up {N : List Nd} {V : Nat → Str → Prop} {K : Str → Prop} (hV : Cl N V (-1) K 0 N.length) {a : Str} : ∀ (t k : Nat), 0 < mtL N t k a → V k a := by
  intro t
  induction t with
  | zero =>
    intro k h
    exfalso
    unfold mtL itL at h
    rw [List.getD_eq_getElem?_getD, List.getElem?_map] at h
    cases hk : N[k]? with
    | none => rw [hk] at h; exact absurd h (by simp)
    | some nd => rw [hk] at h; exact absurd h (by simp)
  | succ t ih =>
    intro k
    induction k using Nat.strongRecOn with
    | ind k ihk =>
      intro h
      cases hk : N[k]? with
      | none =>
        rw [mt_out (List.getElem?_eq_none_iff.mp hk)] at h
        exact absurd h (Nat.lt_irrefl 0)
      | some nd =>
        obtain ⟨c1, c2⟩ := hV k nd (Nat.zero_le _) (List.getElem?_eq_some_iff.mp hk).1 hk
        rw [mt_rec hk, stepv_iff] at h
        rcases h with ⟨hw, s, hs, h0, h1⟩ | h
        · refine c2 s hs a ?_ hw
          rw [vof_s (by omega)]
          split at h1
          · rename_i hlt
            exact ihk s.toNat hlt h1
          · exact ih s.toNat h1
        · exact c1 a h
theorem it_fix {N : List Nd} {l : List Pg} {e : Int} (hL : LayR N l (-1) 0 e N.length) {t : Nat} (h : itL N (t + 1) = itL N t) : Cl N (fun k x => 0 < mtL N t k x) (-1) (· ∈ ([] : List Str)) 0 N.length := fun k nd g1 g2 g3 => by
  have hm : ∀ k a, mtL N (t + 1) k a = mtL N t k a := fun k a => by unfold mtL; rw [h]
  have key : ∀ a, 0 < mtL N t k a ↔ 0 < stepv nd (fun s => mtL N t s.toNat a) a := fun a => by
    have := mt_rec (t := t) g3 a
    rw [hm] at this
    rw [this]
    have e : (fun s : Int => if s.toNat < k then mtL N (t + 1) s.toNat a else mtL N t s.toNat a) = fun s => mtL N t s.toNat a := by
      funext s
      split
      · exact hm _ _
      · rfl
    rw [e]
  obtain ⟨nd', f1, f2⟩ := layr_inn l (-1) 0 e N.length hL k g1 g2
  rw [g3] at f1
  cases f1
  refine ⟨fun x hx => (key x).mpr (stepv_iff.mpr (.inr hx)), fun s hs x hx hw => (key x).mpr (stepv_iff.mpr (.inl ⟨hw, s, hs, ?_⟩))⟩
  rcases f2 s hs with rfl | z
  · rw [vof_b] at hx
    cases hx
  · rw [vof_s (by omega)] at hx
    exact ⟨by omega, hx⟩
/-- so many are idle -/
theorem idle_cnt {N : List Nd} {names : List Str} {w : Nat} {l : List Pg} {e : Int} (h8 : names.length ≤ 19) (ho : Pg.Oks names w l) (hL : LayR N l (-1) 0 e N.length) {t : Nat} (h : itL N (t + 1) = itL N t) :
    (N.filter fun nd => match nd.wr with | some x => decide (x ∉ outL nd.nx (itL N t)) | none => false).length = (Pg.trims l []).n := by
  obtain ⟨lab, Lb⟩ := lab_r h8 l (-1) 0 e N.length [] hL ho List.nodup_nil (fun _ z => absurd z List.not_mem_nil) (by omega)
  have hsg : sg N 0 N.length = N := by unfold sg; rw [List.take_length, List.drop_zero]
  rw [← Lb.cnt, hsg]
  unfold cnt2
  congr 1
  refine List.filter_congr fun nd hnd => ?_
  obtain ⟨k, hk⟩ := List.getElem?_of_mem hnd
  have hkl := (List.getElem?_eq_some_iff.mp hk).1
  obtain ⟨nd', f1, f2⟩ := layr_inn l (-1) 0 e N.length hL k (Nat.zero_le _) hkl
  rw [hk] at f1
  cases f1
  have eqv : ∀ k, k < N.length → ∀ x, (0 < mtL N t k x ↔ lab k x) := fun k hk x => ⟨fun hp => it_up Lb.cl t k hp, fun hp => Lb.least _ _ (it_fix hL h) (fun x hx => hx) k (Nat.zero_le _) hk x hp⟩
  have out : ∀ x, x ∈ outL nd.nx (itL N t) ↔ ∃ s ∈ nd.nx, vOf lab (-1) (· ∈ ([] : List Str)) s x := fun x => by
    rw [← List.count_pos_iff, outL_ct, outv_iff]
    constructor
    · rintro ⟨s, hs, h0, h1⟩
      refine ⟨s, hs, ?_⟩
      rw [vof_s (by omega)]
      have hb := (f2 s hs).resolve_left (by omega)
      exact (eqv s.toNat (by omega) x).mp h1
    · rintro ⟨s, hs, h1⟩
      rcases f2 s hs with rfl | z
      · rw [vof_b] at h1
        cases h1
      · rw [vof_s (by omega)] at h1
        exact ⟨s, hs, by omega, (eqv s.toNat (by omega) x).mpr h1⟩
  cases hw : nd.wr with
  | none =>
    dsimp only
    exact (cb_false fun ⟨x, z, _⟩ => by rw [hw] at z; cases z).symm
  | some x =>
    dsimp only
    by_cases hx : x ∈ outL nd.nx (itL N t)
    · rw [decide_eq_false (fun z => z hx)]
      refine (cb_false fun ⟨y, z, q⟩ => ?_).symm
      rw [hw] at z
      cases z
      obtain ⟨s, hs, v⟩ := (out x).mp hx
      exact q s hs v
    · rw [decide_eq_true hx]
      exact (cb_true ⟨x, hw, fun s hs v => hx ((out x).mpr ⟨s, hs, v⟩)⟩).symm
/-! what the law reads -/
theorem law_reads_ok (dd : Deed) {names : List Str} {w : Nat} (h : dd.Ok names w) : val (g_law_reads [.f dd.d]) = some (.lst (dd.rd.map .str)) := by
  have hv : val (g_law_reads [.f dd.d]) = oval (b_law_reads ([.f dd.d] ++ List.replicate (3 - 1) .un)) 1 := val_run (m := 1) (n := 3) rfl
  rw [hv]
  clear hv
  have c1 := @cut_1
  have c2 := @cut_2a
  have c3 := @cut_2b
  have c4 := @cut_2c
  have s1 : ∀ {ds : List D} {a : D}, gSl (.f (.tup (a :: ds))) (some 1) none = some (.f (.tup (cutD (a :: ds) (some 1) none))) := gSl_t (by decide) (by simp)
  have s2 : ∀ {ds : List D} {a : D}, gSl (.f (.tup (a :: ds))) (some 2) none = some (.f (.tup (cutD (a :: ds) (some 2) none))) := gSl_t (by decide) (by simp)
  have k1 := @isi_nm
  have k2 := @isi_wd
  cases dd with
  | tell a =>
    clear h
    cases a with
    | nm x =>
      unfold b_law_reads m_law_reads_1 n_law_reads_1 Deed.d Opd.d Deed.rd Opd.rd
      walk_at "W"
    | wd i =>
      unfold b_law_reads m_law_reads_1 n_law_reads_1 Deed.d Opd.d Deed.rd Opd.rd
      walk_at "W"
  | copy n a =>
    clear h
    cases a with
    | nm x =>
      unfold b_law_reads m_law_reads_1 n_law_reads_1 Deed.d Opd.d Deed.rd Opd.rd
      walk_at "W"
    | wd i =>
      unfold b_law_reads m_law_reads_1 n_law_reads_1 Deed.d Opd.d Deed.rd Opd.rd
      walk_at "W"
  | op p n a b =>
    have hp := (tell_of h.1).1
    clear h
    cases a with
    | nm x =>
      cases b with
      | nm y =>
        unfold b_law_reads m_law_reads_1 n_law_reads_1 Deed.d Opd.d Deed.rd Opd.rd
        walk_at "W"
      | wd j =>
        unfold b_law_reads m_law_reads_1 n_law_reads_1 Deed.d Opd.d Deed.rd Opd.rd
        walk_at "W"
    | wd i =>
      cases b with
      | nm y =>
        unfold b_law_reads m_law_reads_1 n_law_reads_1 Deed.d Opd.d Deed.rd Opd.rd
        walk_at "W"
      | wd j =>
        unfold b_law_reads m_law_reads_1 n_law_reads_1 Deed.d Opd.d Deed.rd Opd.rd
        walk_at "W"
/-! the law's nodes, walked -/
def ndD (nd : Nd) : D := .tup [.lst (nd.rd.map .str), (match nd.wr with | some n => .str n | none => .non), .lst (nd.nx.map .int)]
def nsD (l : List Nd) : List D := l.map ndD
theorem ns_len {l : List Nd} : (nsD l).length = l.length := List.length_map _
theorem ns_app {a b : List Nd} : nsD (a ++ b) = nsD a ++ nsD b := List.map_append
structure NOk (names : List Str) (nds : List Nd) : Prop where
  rd : ∀ nd ∈ nds, ∀ x ∈ nd.rd, x ∈ names
  rl : ∀ nd ∈ nds, nd.rd.length ≤ 2
  xl : ∀ nd ∈ nds, nd.nx.length ≤ 2
theorem NOk.app {names : List Str} {a b : List Nd} (h : NOk names a) (h2 : NOk names b) : NOk names (a ++ b) :=
  ⟨fun nd hnd => (List.mem_append.mp hnd).elim (h.rd nd) (h2.rd nd), fun nd hnd => (List.mem_append.mp hnd).elim (h.rl nd) (h2.rl nd), fun nd hnd => (List.mem_append.mp hnd).elim (h.xl nd) (h2.xl nd)⟩
theorem NOk.nil {names : List Str} : NOk names [] := ⟨fun _ h => absurd h List.not_mem_nil, fun _ h => absurd h List.not_mem_nil, fun _ h => absurd h List.not_mem_nil⟩
theorem NOk.one {names : List Str} {nd : Nd} (h1 : ∀ x ∈ nd.rd, x ∈ names) (h2 : nd.rd.length ≤ 2) (h3 : nd.nx.length ≤ 2) : NOk names [nd] := ⟨fun n hn => by rw [List.mem_singleton.mp hn]; exact h1, fun n hn => by rw [List.mem_singleton.mp hn]; exact h2, fun n hn => by rw [List.mem_singleton.mp hn]; exact h3⟩
/-- a part of all nodes -/
def At (N : List Nd) (lo : Nat) (nds : List Nd) : Prop := ∀ j nd, nds[j]? = some nd → N[lo + j]? = some nd
theorem At.left {N : List Nd} {lo : Nat} {a b : List Nd} (h : At N lo (a ++ b)) : At N lo a := fun j nd hj => h j nd (by rw [List.getElem?_append_left (List.getElem?_eq_some_iff.mp hj).1]; exact hj)
theorem At.right {N : List Nd} {lo : Nat} {a b : List Nd} (h : At N lo (a ++ b)) : At N (lo + a.length) b := fun j nd hj => by
  rw [Nat.add_assoc]
  exact h (a.length + j) nd (by rw [List.getElem?_append_right (Nat.le_add_right _ _), Nat.add_sub_cancel_left]; exact hj)
structure NdR (names : List Str) (rows : List Pg) (b : Int) (lo : Nat) (nds : List Nd) (e : Int) : Prop where
  lay : ∀ N : List Nd, At N lo nds → LayR N rows b lo e (lo + nds.length)
  ok : NOk names nds
  len : nds.length = Pg.szs rows
structure NdP (names : List Str) (p : Pg) (b : Int) (lo : Nat) (nds : List Nd) (e : Int) : Prop where
  lay : ∀ N : List Nd, At N lo nds → LayP N p b lo e (lo + nds.length)
  ok : NOk names nds
  len : nds.length = p.sz
theorem NdR.nil {names : List Str} {b : Int} {lo : Nat} : NdR names [] b lo [] b := ⟨fun N _ => by rw [LayR]; exact ⟨rfl, rfl⟩, NOk.nil, rfl⟩
theorem NdR.cons {names : List Str} {p : Pg} {l : List Pg} {b e1 e : Int} {lo : Nat} {n1 n2 : List Nd} (h1 : NdR names l b lo n1 e1) (h2 : NdP names p e1 (lo + n1.length) n2 e) : NdR names (p :: l) b lo (n1 ++ n2) e := by
  refine ⟨fun N h => ?_, h1.ok.app h2.ok, ?_⟩
  · rw [LayR]
    refine ⟨e1, lo + n1.length, h1.lay N h.left, ?_⟩
    rw [List.length_append, ← Nat.add_assoc]
    exact h2.lay N h.right
  · rw [List.length_append, h1.len, h2.len]
    show Pg.szs l + p.sz = p.sz + Pg.szs l
    omega
theorem NdP.dd {names : List Str} {w : Nat} {d : Deed} {b : Int} {lo : Nat} (h : d.Ok names w) : NdP names (.dd d) b lo [⟨d.rd, d.wr, [b]⟩] lo :=
  ⟨fun N h => by rw [LayP]; exact ⟨h 0 _ rfl, rfl, rfl⟩, NOk.one (rd_in h) rd_len (by simp), rfl⟩
theorem NdP.ite {names : List Str} {x : Str} {a c : List Pg} {b e1 e2 : Int} {lo : Nat} {n1 n2 : List Nd} (hx : x ∈ names) (h1 : NdR names a b lo n1 e1) (h2 : NdR names c b (lo + n1.length) n2 e2) :
    NdP names (.ite x a c) b lo (n1 ++ n2 ++ [⟨[x], none, [e1, e2]⟩]) ((lo + n1.length + n2.length : Nat) : Int) := by
  refine ⟨fun N h => ?_, (h1.ok.app h2.ok).app (NOk.one (fun y hy => by rw [List.mem_singleton.mp hy]; exact hx) (by simp) (by simp)), ?_⟩
  · rw [LayP]
    refine ⟨e1, lo + n1.length, e2, lo + n1.length + n2.length, h1.lay N h.left.left, h2.lay N h.left.right, ?_, rfl, ?_⟩
    · have := h.right 0 _ rfl
      rw [List.length_append, Nat.add_zero, ← Nat.add_assoc] at this
      exact this
    · rw [List.length_append, List.length_append, List.length_singleton]
      omega
  · rw [List.length_append, List.length_append, List.length_singleton, h1.len, h2.len]
    show _ = 1 + (Pg.szs a + Pg.szs c)
    omega
theorem NdP.whl {names : List Str} {x : Str} {a : List Pg} {b e1 : Int} {lo : Nat} {n1 : List Nd} (hx : x ∈ names) (h1 : NdR names a lo (lo + 1) n1 e1) : NdP names (.whl x a) b lo (⟨[x], none, [e1, b]⟩ :: n1) lo := by
  refine ⟨fun N h => ?_, ?_, ?_⟩
  · rw [LayP]
    refine ⟨e1, ?_, h 0 _ rfl, rfl⟩
    rw [List.length_cons, show lo + (n1.length + 1) = lo + 1 + n1.length by omega]
    exact h1.lay N fun j nd hj => by
      have := h (j + 1) nd hj
      rw [show lo + (j + 1) = lo + 1 + j by omega] at this
      exact this
  · exact (NOk.one (nd := ⟨[x], none, [e1, b]⟩) (fun y hy => by rw [List.mem_singleton.mp hy]; exact hx) (by simp) (by simp)).app h1.ok
  · rw [List.length_cons, h1.len]
    show _ = 1 + Pg.szs a
    omega
def Nds (names : List Str) (w : Nat) (G : List T → Option Re) (m : Nat) : Prop :=
  ∀ (rows : List Pg) (pre : List D) (b : Int), Pg.Oks names w rows → Pg.deps rows < m → pre.length + Pg.szs rows ≤ 5000 →
    ∃ (nds : List Nd) (e : Int), NdR names rows b pre.length nds e ∧ G [.f (.lst (Pg.ds rows)), .l pre, .f (.int b)] = some (.ok (.f (.int e)) [.f (.lst (Pg.ds rows)), .l (pre ++ nsD nds), .f (.int b)])
theorem set_mid {α : Type} {a b : List α} {x y : α} : (a ++ [x] ++ b).set a.length y = a ++ [y] ++ b := by
  rw [List.append_assoc, List.append_assoc, List.set_append, if_neg (Nat.lt_irrefl _), Nat.sub_self]
  rfl
theorem nodes_step {names : List Str} {w m : Nat} {G : List T → Option Re} (IH : Nds names w G m) {p : Pg} {K : List D} {b : Int} {t0 t4 t5 t6 t7 t8 : T} (hp : p.Ok names w) (hd : p.dep ≤ m) (hl : K.length + p.sz ≤ 5000) :
    ∃ (nds : List Nd) (e : Int) (u4 u5 u6 u7 u8 : T), NdP names p b K.length nds e ∧ l_law_nodes_1 G [t0, .l K, .f (.int b), .f p.d, t4, t5, t6, t7, t8] = some (.nx [t0, .l (K ++ nsD nds), .f (.int e), .f p.d, u4, u5, u6, u7, u8]) := by
  cases p with
  | dd d =>
    rw [Pg.Ok] at hp
    have er := law_reads_ok d hp
    have hsz : K.length + 1 ≤ 5000 := hl
    have hK1 : ((K ++ [ndD ⟨d.rd, d.wr, [b]⟩]).length : Int) - 1 = (K.length : Int) := by rw [List.length_append]; simp
    have end1 : ∀ wr : D, wr = (match d.wr with | some n => D.str n | none => .non) → K ++ nsD [⟨d.rd, d.wr, [b]⟩] = K ++ [.tup [.lst (d.rd.map .str), wr, .lst [.int b]]] := fun wr h => by rw [h]; rfl
    have hKl : ∀ z : D, ((K ++ [z]).length : Int) - 1 = (K.length : Int) := fun z => by rw [List.length_append]; simp
    cases d with
    | tell a =>
      refine ⟨[⟨Deed.rd (.tell a), none, [b]⟩], (K.length : Int), t4, t5, t6, t7, .f .non, NdP.dd hp, ?_⟩
      have h2 := end1 .non rfl
      have h2' : K ++ nsD [⟨Deed.rd (.tell a), none, [b]⟩] = K ++ [.tup [.lst ((Deed.rd (.tell a)).map .str), .non, .lst [.int b]]] := h2
      rw [h2', dd_d]
      clear IH hp hd hl h2 h2' hK1 end1
      generalize Deed.rd (.tell a) = rr at *
      simp only [Deed.d] at *
      unfold l_law_nodes_1
      walk_at "W"
    | copy n a =>
      refine ⟨[⟨Deed.rd (.copy n a), some n, [b]⟩], (K.length : Int), t4, t5, t6, t7, .f (.str n), NdP.dd hp, ?_⟩
      have h2' : K ++ nsD [⟨Deed.rd (.copy n a), some n, [b]⟩] = K ++ [.tup [.lst ((Deed.rd (.copy n a)).map .str), .str n, .lst [.int b]]] := end1 (.str n) rfl
      rw [h2', dd_d]
      clear IH hp hd hl h2' hK1 end1
      generalize Deed.rd (.copy n a) = rr at *
      simp only [Deed.d] at *
      unfold l_law_nodes_1
      walk_at "W"
    | op o n a c =>
      refine ⟨[⟨Deed.rd (.op o n a c), some n, [b]⟩], (K.length : Int), t4, t5, t6, t7, .f (.str n), NdP.dd hp, ?_⟩
      have h2' : K ++ nsD [⟨Deed.rd (.op o n a c), some n, [b]⟩] = K ++ [.tup [.lst ((Deed.rd (.op o n a c)).map .str), .str n, .lst [.int b]]] := end1 (.str n) rfl
      obtain ⟨q1, q2, q3, q4⟩ := ops_not hp.1
      rw [h2', dd_d]
      clear IH hp hd hl h2' hK1 end1
      generalize Deed.rd (.op o n a c) = rr at *
      simp only [Deed.d] at *
      unfold l_law_nodes_1
      walk_at "W"
  | ite x a c =>
    rw [Pg.Ok] at hp
    rw [Pg.dep] at hd
    have hsz : K.length + (1 + (Pg.szs a + Pg.szs c)) ≤ 5000 := by rw [Pg.sz] at hl; exact hl
    obtain ⟨n1, e1, r1, g1⟩ := IH a K b hp.2.2.2.1 (by omega) (by omega)
    have k1 : (K ++ nsD n1).length = K.length + n1.length := by rw [List.length_append, ns_len]
    have s1 := r1.len
    obtain ⟨n2, e2, r2, g2⟩ := IH c (K ++ nsD n1) b hp.2.2.2.2 (by omega) (by omega)
    have s2 := r2.len
    rw [k1] at r2
    refine ⟨_, _, t4, t5, .f (.int e1), .f (.int e2), t8, NdP.ite hp.1 r1 r2, ?_⟩
    have k2 : (K ++ nsD n1 ++ nsD n2).length = K.length + n1.length + n2.length := by rw [List.length_append, k1, ns_len]
    have k3 : ∀ z : D, ((K ++ nsD n1 ++ nsD n2 ++ [z]).length : Int) - 1 = ((K.length + n1.length + n2.length : Nat) : Int) := fun z => by rw [List.length_append, k2]; simp
    have k4 : K ++ nsD (n1 ++ n2 ++ [⟨[x], none, [e1, e2]⟩]) = K ++ nsD n1 ++ nsD n2 ++ [.tup [.lst [.str x], .non, .lst [.int e1, .int e2]]] := by
      rw [ns_app, ns_app, ← List.append_assoc, ← List.append_assoc]
      rfl
    have k5 : (K ++ nsD n1 ++ nsD n2).length ≤ 5000 := by rw [k2]; omega
    rw [k4, ite_d]
    clear k4 k2 k1 s1 s2 r1 r2 IH hp hd hl hsz
    generalize ((K.length + n1.length + n2.length : Nat) : Int) = z0 at *
    generalize K ++ nsD n1 ++ nsD n2 = K2 at *
    generalize K ++ nsD n1 = K1 at *
    generalize Pg.ds a = da at *
    generalize Pg.ds c = dc at *
    unfold l_law_nodes_1
    walk_at "W"
  | whl x a =>
    rw [Pg.Ok] at hp
    rw [Pg.dep] at hd
    have hsz : K.length + (1 + Pg.szs a) ≤ 5000 := by rw [Pg.sz] at hl; exact hl
    have k0 : (K ++ [D.non]).length = K.length + 1 := by rw [List.length_append]; rfl
    obtain ⟨n1, e1, r1, g1⟩ := IH a (K ++ [.non]) (K.length : Int) hp.2.2 (by omega) (by omega)
    have s1 := r1.len
    rw [k0] at r1
    refine ⟨_, _, .f (.int (K.length : Int)), .f (.int e1), t6, t7, t8, NdP.whl hp.1 r1, ?_⟩
    have k4 : K ++ nsD (⟨[x], none, [e1, b]⟩ :: n1) = K ++ [.tup [.lst [.str x], .non, .lst [.int e1, .int b]]] ++ nsD n1 := by
      rw [List.append_assoc]
      rfl
    have k5 : ∀ z : D, (K ++ [D.non] ++ nsD n1).set K.length z = K ++ [z] ++ nsD n1 := fun z => set_mid
    have k6 : K.length < (K ++ [D.non] ++ nsD n1).length := by rw [List.length_append, k0]; omega
    have k7 : K.length ≤ 5000 := by omega
    rw [k4, whl_d]
    clear k4 s1 r1 IH hp hd hl hsz k0
    generalize hK1 : K ++ [D.non] ++ nsD n1 = K1 at *
    generalize Pg.ds a = da at *
    unfold l_law_nodes_1
    walk_at "W"
theorem nodes_all {names : List Str} {w : Nat} : ∀ m : Nat, Nds names w (g_law_nodes m) m
  | 0 => fun _ _ _ _ hd _ => absurd hd (Nat.not_lt_zero _)
  | m + 1 => fun rows pre b ho hd hl => by
    have hr : g_law_nodes (m + 1) [.f (.lst (Pg.ds rows)), .l pre, .f (.int b)] = kRun 3 [1] [.f (.lst (Pg.ds rows)), .l pre, .f (.int b)] (b_law_nodes (g_law_nodes m) ([.f (.lst (Pg.ds rows)), .l pre, .f (.int b)] ++ List.replicate (9 - 3) .un)) := run_of rfl
    rw [hr]
    clear hr
    have hdrop : ∀ j, Pg.Oks names w (rows.drop j) ∧ Pg.deps (rows.drop j) ≤ Pg.deps rows ∧ Pg.szs (rows.drop j) ≤ Pg.szs rows := by
      intro j
      clear hd hl
      induction rows generalizing j with
      | nil => rw [List.drop_nil]; exact ⟨trivial, Nat.le_refl _, Nat.le_refl _⟩
      | cons p l ih =>
        cases j with
        | zero => exact ⟨ho, Nat.le_refl _, Nat.le_refl _⟩
        | succ j =>
          obtain ⟨h1, h2, h3⟩ := ih ho.2 j
          refine ⟨h1, Nat.le_trans h2 ?_, Nat.le_trans h3 ?_⟩
          · show Pg.deps l ≤ max p.dep (Pg.deps l)
            omega
          · show Pg.szs l ≤ p.sz + Pg.szs l
            omega
    obtain ⟨ρ', l1, nds, e, s3, s4, s5, s6, s7, s8, hn, rfl⟩ := for_map (φ := Pg.d) (fg := gSet 3) (fb := l_law_nodes_1 (g_law_nodes m)) (ρ := [.f (.lst (Pg.ds rows)), .l pre, .f (.int b), .un, .un, .un, .un, .un, .un]) rows.reverse
      (fun i ρ => ∃ (nds : List Nd) (e : Int) (s3 s4 s5 s6 s7 s8 : T), NdR names (rows.drop (rows.length - i)) b pre.length nds e ∧ ρ = [.f (.lst (Pg.ds rows)), .l (pre ++ nsD nds), .f (.int e), s3, s4, s5, s6, s7, s8]) (by
      rintro i p ρ hx ⟨nds, e, s3, s4, s5, s6, s7, s8, hn, rfl⟩
      obtain ⟨o1, d1, z1⟩ := hdrop (rows.length - (i + 1))
      rw [drop_rev hx] at o1 d1 z1 ⊢
      have d2 : max p.dep (Pg.deps (rows.drop (rows.length - i))) ≤ Pg.deps rows := d1
      have z2 : p.sz + Pg.szs (rows.drop (rows.length - i)) ≤ Pg.szs rows := z1
      have hnl := hn.len
      have hpl : (pre ++ nsD nds).length = pre.length + nds.length := by rw [List.length_append, ns_len]
      obtain ⟨n2, e2, t4, t5, t6, t7, t8, h2, g2⟩ := nodes_step (nodes_all m) (K := pre ++ nsD nds) (b := e) (t0 := .f (.lst (Pg.ds rows))) (t4 := s4) (t5 := s5) (t6 := s6) (t7 := s7) (t8 := s8) o1.1 (by omega) (by omega)
      rw [hpl] at h2
      have hres := NdR.cons hn h2
      have hnn : pre ++ nsD nds ++ nsD n2 = pre ++ nsD (nds ++ n2) := by rw [ns_app, List.append_assoc]
      rw [hnn] at g2
      refine Wn_of (ρ' := [.f (.lst (Pg.ds rows)), .l (pre ++ nsD (nds ++ n2)), .f (.int e2), .f p.d, t4, t5, t6, t7, t8]) ?_ ⟨nds ++ n2, e2, _, _, _, _, _, _, hres, rfl⟩
      have hs : gSet 3 (.f p.d) [.f (.lst (Pg.ds rows)), .l (pre ++ nsD nds), .f (.int e), s3, s4, s5, s6, s7, s8] = some [.f (.lst (Pg.ds rows)), .l (pre ++ nsD nds), .f (.int e), .f p.d, s4, s5, s6, s7, s8] := rfl
      unfold kTurn
      rw [hs]
      exact g2) ⟨[], b, _, _, _, _, _, _, by rw [Nat.sub_zero, List.drop_length]; exact NdR.nil, by rw [show nsD [] = [] from rfl, List.append_nil]⟩
    rw [List.length_reverse, Nat.sub_self, List.drop_zero] at hn
    rw [← ds_rev] at l1
    refine ⟨nds, e, hn, ?_⟩
    clear hdrop hn hd hl ho
    generalize Pg.ds rows = rd at *
    unfold b_law_nodes
    walk_at "W"
/-! the law's sweeps, walked -/
def lvs (L : List (List Str)) : List D := L.map fun l => D.lst (l.map .str)
theorem fm_filter {α : Type} {p : α → Bool} {φ : α → D} : ∀ {l : List α}, (l.flatMap fun x => if p x = true then [φ x] else []) = (l.filter p).map φ
  | [] => rfl
  | a :: l => by
    rw [List.flatMap_cons, fm_filter, List.filter_cons]
    split <;> rfl
theorem lvs_at {L : List (List Str)} {k : Nat} {l : List Str} (h : L[k]? = some l) : (lvs L)[k]? = some (.lst (l.map .str)) := at_map h
theorem law_out_run {nd : Nd} {L : List (List Str)} {q : T} (hq : q = .f (.lst (lvs L)) ∨ q = .l (lvs L)) (hs : ∀ s ∈ nd.nx, s < (L.length : Int)) (hx : nd.nx.length ≤ 10) (hl : ∀ l ∈ L, l.length ≤ 100) : g_law_out [.f (ndD nd), q] = some (.ok (.f (.lst ((outL nd.nx L).map .str))) [.f (ndD nd), q]) := by
  have hr : g_law_out [.f (ndD nd), q] = kRun 2 [1] [.f (ndD nd), q] (b_law_out ([.f (ndD nd), q] ++ List.replicate (5 - 2) .un)) := run_of rfl
  rw [hr]
  clear hr
  obtain ⟨wr, hwr⟩ : ∃ wr : D, ndD nd = .tup [.lst (nd.rd.map .str), wr, .lst (nd.nx.map .int)] := ⟨_, rfl⟩
  rw [hwr]
  clear hwr
  obtain ⟨ρ', l1, s3, -, rfl⟩ := for_map (φ := D.int) (fg := gSet 3) (fb := l_law_out_1) (ρ := [.f (.tup [.lst (nd.rd.map .str), wr, .lst (nd.nx.map .int)]), q, .f (.lst []), .un, .un]) nd.nx
    (fun i ρ => ∃ s3 : T, (outL (nd.nx.take i) L).length ≤ 100 * i ∧ ρ = [.f (.tup [.lst (nd.rd.map .str), wr, .lst (nd.nx.map .int)]), q, .f (.lst ((outL (nd.nx.take i) L).map .str)), s3, .un]) (by
    rintro i s ρ hx2 ⟨s3, hol, rfl⟩
    have hi : i < nd.nx.length := (List.getElem?_eq_some_iff.mp hx2).1
    have hsl := hs s (List.mem_of_getElem? hx2)
    have eo : outL (nd.nx.take (i + 1)) L = if 0 ≤ s then outL (nd.nx.take i) L ++ (L.getD s.toNat []).filter (fun x => decide (x ∉ outL (nd.nx.take i) L)) else outL (nd.nx.take i) L := by
      unfold outL
      rw [take_snoc hx2, List.foldl_append]
      rfl
    rw [eo]
    generalize outL (nd.nx.take i) L = f at *
    by_cases h0 : 0 ≤ s
    · rw [if_pos h0]
      obtain ⟨k, rfl⟩ := Int.eq_ofNat_of_zero_le h0
      have hk : k < L.length := by omega
      have hLk : L[k]? = some L[k] := List.getElem?_eq_getElem hk
      have hg : L.getD (Int.toNat (k : Int)) [] = L[k] := by rw [Int.toNat_natCast, List.getD_eq_getElem?_getD, hLk]; rfl
      have hll := hl L[k] (List.getElem_mem hk)
      rw [hg]
      generalize L[k] = l at *
      have hlk := lvs_at hLk
      have lc : lcF (gSet 4) n_law_out_1 m_law_out_1 [.f (.tup [.lst (nd.rd.map .str), wr, .lst (nd.nx.map .int)]), q, .f (.lst (f.map .str)), .f (.int (k : Int)), .un] (l.map .str) = some ((l.filter fun x => decide (x ∉ f)).map .str) := by
        rw [← fm_filter]
        refine lcF_of fun x _ => ?_
        have gn := gNotIn_ss (l := f) (z := x)
        have hd : (!decide (x ∈ f)) = decide (x ∉ f) := by by_cases q : x ∈ f <;> simp [q]
        rw [hd] at gn
        generalize decide (x ∉ f) = c at *
        clear hd hlk hg hLk eo hsl hol hs hl hq
        generalize f.map D.str = fd at *
        unfold n_law_out_1 m_law_out_1
        cases c <;> walk_at "W"
      have hlen : (f ++ l.filter fun x => decide (x ∉ f)).length ≤ 100 * (i + 1) := by
        rw [List.length_append]
        have := List.length_filter_le (fun x => decide (x ∉ f)) l
        omega
      have hcat : f.map D.str ++ (l.filter fun x => decide (x ∉ f)).map D.str = (f ++ l.filter fun x => decide (x ∉ f)).map D.str := List.map_append.symm
      have hfl : (f.map D.str).length ≤ 2000 := by rw [List.length_map]; omega
      have hgl : ((l.filter fun x => decide (x ∉ f)).map D.str).length ≤ 2000 := by
        rw [List.length_map]
        have := List.length_filter_le (fun x => decide (x ∉ f)) l
        omega
      clear hg hLk eo hsl hol hs hl
      generalize hgd : (l.filter fun x => decide (x ∉ f)).map D.str = gd at *
      generalize f.map D.str = fd at *
      generalize l.map D.str = ldd at *
      generalize lvs L = ld at *
      unfold l_law_out_1
      rcases hq with rfl | rfl
      · apply Wn_of
        case h =>
          walk_at "W"
          rfl
        case hq => exact ⟨_, hlen, by rw [← hcat]⟩
      · apply Wn_of
        case h =>
          walk_at "W"
          rfl
        case hq => exact ⟨_, hlen, by rw [← hcat]⟩
    · rw [if_neg h0]
      have h1 : (0 ≤ s) = False := eq_false h0
      have hol2 : f.length ≤ 100 * (i + 1) := by omega
      clear eo hsl hol hs hl h0
      generalize f.map D.str = fd at *
      generalize lvs L = ld at *
      unfold l_law_out_1
      rcases hq with rfl | rfl
      · apply Wn_of
        case h =>
          walk_at "W"
          rfl
        case hq => exact ⟨_, hol2, rfl⟩
      · apply Wn_of
        case h =>
          walk_at "W"
          rfl
        case hq => exact ⟨_, hol2, rfl⟩) ⟨_, Nat.zero_le _, rfl⟩
  rw [List.take_length] at l1
  unfold b_law_out
  clear hs hl hx
  generalize (outL nd.nx L).map D.str = od at *
  generalize lvs L = ld at *
  rcases hq with rfl | rfl
  · walk_at "W"
  · walk_at "W"
theorem law_out_ok {nd : Nd} {L : List (List Str)} (hs : ∀ s ∈ nd.nx, s < (L.length : Int)) (hx : nd.nx.length ≤ 10) (hl : ∀ l ∈ L, l.length ≤ 100) : val (g_law_out [.f (ndD nd), .f (.lst (lvs L))]) = some (.lst ((outL nd.nx L).map .str)) := by
  rw [law_out_run (.inl rfl) hs hx hl]
  rfl
theorem gNe_wO {o : Option Str} {x : Str} : gNe (.f (.str x)) (.f (match o with | some n => .str n | none => .non)) = some (.f (.bl (decide (o ≠ some x)))) := by
  cases o with
  | none =>
    show some (T.f (.bl (xor true (decide (V.str x = V.non))))) = _
    have h1 : decide (V.str x = V.non) = false := decide_eq_false (by intro z; cases z)
    have h2 : decide ((none : Option Str) ≠ some x) = true := decide_eq_true (by intro z; cases z)
    rw [h1, h2]
    rfl
  | some n =>
    show some (T.f (.bl (xor true (decide (V.str x = V.str n))))) = _
    congr 3
    by_cases q : x = n
    · subst q; simp
    · rw [decide_eq_false (by intro z; cases z; exact q rfl), decide_eq_true (by intro z; cases z; exact q rfl)]
      rfl
theorem gSorted_s {xs : List Str} (h : xs.length < 64) : gSorted [.f (.lst (xs.map D.str))] = some (.f (.lst ((ssort xs).map D.str))) := by
  have e : gSortS (.f (.lst (xs.map D.str))) = some (.f (.lst ((ssort xs).map D.str))) := by
    show (strsOf (xs.map D.str)).bind _ = _
    rw [strsOf_map]
    exact if_pos h
  show gSorted1 (.f (.lst (xs.map D.str))) = _
  cases xs with
  | nil =>
    have e0 : ssort [] = [] := by unfold ssort; simp
    rw [e0]
    unfold gSorted1
    have hi : gSortI (.f (.lst (([] : List Str).map D.str))) = some (.f (.lst [])) := by
      unfold gSortI
      rw [show (T.f (.lst (([] : List Str).map D.str))).ls? = some [] from rfl, Option.bind_some, show intsOf [] = some [] from rfl, Option.map_some]
      unfold isort
      simp
    rw [hi]
    rfl
  | cons a l =>
    unfold gSorted1
    rw [show gSortI (.f (.lst ((a :: l).map D.str))) = none from rfl, show gSortD (.f (.lst ((a :: l).map D.str))) = none from rfl, e]
theorem str_pln : ∀ l : List Str, plnDs (l.map .str) = true
  | [] => rfl
  | a :: l => by
    show (true && plnDs (l.map .str)) = true
    rw [str_pln l]
    rfl
theorem lstr_inj : ∀ {l m : List Str}, l.map D.str = m.map .str → l = m
  | [], [], _ => rfl
  | [], _ :: _, h => by cases h
  | _ :: _, [], h => by cases h
  | a :: l, b :: m, h => by
    obtain ⟨h1, h2⟩ := List.cons.inj h
    cases h1
    rw [lstr_inj h2]
theorem gNe_strs {names l m : List Str} (hn : ∀ x ∈ names, PyData.strOk x = true) (hl : ∀ x ∈ l, x ∈ names) (hm : ∀ x ∈ m, x ∈ names) : gNe (.f (.lst (l.map .str))) (.f (.lst (m.map .str))) = some (.f (.bl (decide (l ≠ m)))) := by
  by_cases h : l = m
  · subst h
    rw [decide_eq_false (fun z => z rfl)]
    exact gNe_refl_l (fines_of fun x hx => fine_s (hn x (hl x hx)))
  · rw [decide_eq_true h]
    obtain ⟨p, e1, q1, -⟩ := shaped_fine (d := .lst (l.map .str)) (lst_fine (n := 63) (fines_of fun x hx => fine_s (hn x (hl x hx))))
    obtain ⟨q, e2, q2, -⟩ := shaped_fine (d := .lst (m.map .str)) (lst_fine (n := 63) (fines_of fun x hx => fine_s (hn x (hm x hx))))
    have hne : PyData.eqv p q = false := by
      cases hz : PyData.eqv p q with
      | false => rfl
      | true =>
        have := py_inj _ _ p q (by unfold plnD; exact str_pln l) (by unfold plnD; exact str_pln m) e1 e2 hz
        injection this with this
        exact absurd (lstr_inj this) h
    unfold gNe
    rw [or2_none rfl]
    unfold gEqD
    show ((D.lst (l.map .str)).py.bind fun p => (D.lst (m.map .str)).py.bind fun q => _) = _
    rw [e1, e2]
    show (if _ then _ else _) = _
    rw [if_pos ⟨q1, q2⟩, hne]
    rfl
/-- lists that stay small -/
def Gd (names : List Str) (L : List (List Str)) : Prop := ∀ l ∈ L, (∀ x ∈ l, x ∈ names) ∧ ∀ a, l.count a ≤ 2
theorem ct_len : ∀ {names l : List Str}, (∀ x ∈ l, x ∈ names) → (∀ a, l.count a ≤ 2) → l.length ≤ 2 * names.length
  | [], l, h, _ => by
    cases l with
    | nil => exact Nat.le_refl _
    | cons a l => exact absurd (h a List.mem_cons_self) List.not_mem_nil
  | n :: names, l, h, hc => by
    have h1 := ct_len (names := names) (l := l.filter fun x => decide (x ≠ n)) (fun x hx => by
      obtain ⟨a, b⟩ := List.mem_filter.mp hx
      exact (List.mem_cons.mp (h x a)).resolve_left (of_decide_eq_true b)) (fun a => Nat.le_trans (List.Sublist.count_le a List.filter_sublist) (hc a))
    have h2 := hc n
    have h3 : l.length = l.count n + (l.filter fun x => decide (x ≠ n)).length := by
      clear h hc h1 h2
      induction l with
      | nil => rfl
      | cons a l ih =>
        rw [List.length_cons, ih, List.count_cons, List.filter_cons]
        by_cases q : a = n
        · subst q
          simp
          omega
        · have q2 : (a == n) = false := by simpa using q
          rw [if_neg (by rw [q2]; simp), if_pos (decide_eq_true q), List.length_cons]
          omega
    rw [List.length_cons]
    omega
theorem stepv_le {nd : Nd} {val : Int → Nat} {a : Str} (h : ∀ s, val s ≤ 2) (hr : nd.rd.length ≤ 2) : stepv nd val a ≤ 2 := by
  have ho : outv nd.nx val ≤ 2 := by
    unfold outv
    split
    · exact h _
    · omega
  unfold stepv
  split
  · exact ho
  · exact Nat.le_trans List.count_le_length hr
theorem cv_le {names : List Str} {L : List (List Str)} (h : Gd names L) {a : Str} (s : Int) : cv L a s ≤ 2 := by
  unfold cv
  rw [List.getD_eq_getElem?_getD]
  cases hk : L[s.toNat]? with
  | none => exact Nat.zero_le _
  | some l => exact (h l (List.mem_of_getElem? hk)).2 a
theorem val_gd {names : List Str} {L : List (List Str)} {nd : Nd} (h : Gd names L) (h1 : ∀ x ∈ nd.rd, x ∈ names) (h2 : nd.rd.length ≤ 2) : (∀ x ∈ valL nd L, x ∈ names) ∧ ∀ a, (valL nd L).count a ≤ 2 := by
  refine ⟨fun x hx => ?_, fun a => by rw [valL_ct]; exact stepv_le (cv_le h) h2⟩
  have := List.count_pos_iff.mpr hx
  rw [valL_ct, stepv_iff] at this
  rcases this with ⟨_, s, _, _, hp⟩ | hp
  · unfold cv at hp
    rw [List.getD_eq_getElem?_getD] at hp
    cases hk : L[s.toNat]? with
    | none => rw [hk] at hp; exact absurd hp (by simp)
    | some l =>
      rw [hk] at hp
      exact (h l (List.mem_of_getElem? hk)).1 x (List.count_pos_iff.mp hp)
  · exact h1 x hp
theorem set_gd {names : List Str} {L : List (List Str)} {v : List Str} {k : Nat} (h : Gd names L) (hv : (∀ x ∈ v, x ∈ names) ∧ ∀ a, v.count a ≤ 2) : Gd names (L.set k v) := fun l hl => by
  rcases List.mem_or_eq_of_mem_set hl with z | z
  · exact h l z
  · rw [z]; exact hv
theorem swp_snoc {nd : Nd} : ∀ {r : List Nd} {k : Nat} {L : List (List Str)}, swpF (r ++ [nd]) k L = (swpF r k L).set (k + r.length) (valL nd (swpF r k L))
  | [], _, _ => rfl
  | n :: r, k, L => by
    have e2 : swpF (n :: r) k L = swpF r (k + 1) (L.set k (valL n L)) := rfl
    rw [e2, List.cons_append]
    show swpF (r ++ [nd]) (k + 1) (L.set k (valL n L)) = _
    rw [swp_snoc, List.length_cons, show k + 1 + r.length = k + (r.length + 1) by omega]
theorem swp_gd {names : List Str} : ∀ {r : List Nd} {k : Nat} {L : List (List Str)}, NOk names r → Gd names L → Gd names (swpF r k L)
  | [], _, _, _, h => h
  | n :: r, k, L, hn, h => by
    rw [swpF]
    exact swp_gd ⟨fun nd hnd => hn.rd nd (List.mem_cons_of_mem _ hnd), fun nd hnd => hn.rl nd (List.mem_cons_of_mem _ hnd), fun nd hnd => hn.xl nd (List.mem_cons_of_mem _ hnd)⟩ (set_gd h (val_gd h (hn.rd n List.mem_cons_self) (hn.rl n List.mem_cons_self)))
theorem it_gd {names : List Str} {N : List Nd} (hn : NOk names N) : ∀ t, Gd names (itL N t)
  | 0 => fun l hl => by
    obtain ⟨_, _, rfl⟩ := List.mem_map.mp hl
    exact ⟨fun x hx => absurd hx List.not_mem_nil, fun a => Nat.zero_le _⟩
  | t + 1 => swp_gd hn (it_gd hn t)
/-! the law's count of idle deeds -/
theorem idle2_hyps : (∀ (vs : List Nat) (fo : List T → Option Re) (fg : T → List T → Option (List T)) (ft : List T → Option Bool) (fe : List T → Option T) (ρ : List T), fLcO vs fo fg ft fe ρ = kLcO vs fg ft fe (fo ρ)) ∧ (∀ (vs : List Nat) (fg : T → List T → Option (List T)) (ft : List T → Option Bool) (fe : List T → Option T) (ρ : List T) (ds : List D), kLcO vs fg ft fe (some (.ok (.f (.lst ds)) ρ)) = kLcO2 ρ (okW ρ vs) (lcF fg ft fe (wipeR ρ vs) ds)) ∧ (∀ (ρ : List T) (es : List D), es.length ≤ 4096 → kLcO2 ρ true (some es) = some (.ok (.l es) ρ)) := ⟨fun _ _ _ _ _ _ => wz_fLcO, fun _ _ _ _ _ _ => kLcO_s, fun _ _ => kLcO2_s⟩
theorem swp_after : ∀ (r : List Nd) (k : Nat) (L : List (List Str)) (j : Nat), k + r.length ≤ j → (swpF r k L)[j]? = L[j]?
  | [], _, _, _, _ => rfl
  | n :: r, k, L, j, h => by
    rw [List.length_cons] at h
    rw [swpF, swp_after r (k + 1) _ j (by omega), List.getElem?_set_ne (by omega)]
theorem lvs_set {L : List (List Str)} {k : Nat} {v : List Str} : lvs (L.set k v) = (lvs L).set k (.lst (v.map .str)) := List.map_set
def Fl (s : T) : Prop := s = .un ∨ ∃ d, s = .f d
theorem ndD_ex (nd : Nd) : ∃ wr : D, (∀ x, gNe (.f (.str x)) (.f wr) = some (.f (.bl (decide (nd.wr ≠ some x))))) ∧ ndD nd = .tup [.lst (nd.rd.map .str), wr, .lst (nd.nx.map .int)] := ⟨_, fun _ => gNe_wO, rfl⟩
theorem round_ok {names : List Str} (h19 : names.length ≤ 19) (hno : ∀ x ∈ names, PyData.strOk x = true) {N : List Nd} (hn : NOk names N) (hnx : ∀ nd ∈ N, nd.nx.length ≤ 10 ∧ ∀ s ∈ nd.nx, s < (N.length : Int)) (hN : N.length ≤ 1000) {L0 : List (List Str)} (hg : Gd names L0) (hl : L0.length = N.length) {r0 s4 s5 s6 : T} {b0 : Bool} (h5 : Fl s5) :
    ∃ (b : Bool) (s4' s5' s6' : T), Fl s5' ∧ (b = true ↔ swpF N 0 L0 ≠ L0) ∧ l_law_idle_1 [r0, .f (.lst (nsD N)), .l (lvs L0), .f (.bl b0), s4, s5, s6, .un] = some (.nx [r0, .f (.lst (nsD N)), .l (lvs (swpF N 0 L0)), .f (.bl b), s4', s5', s6', .un]) := by
  obtain ⟨ρ', l1, b, t4, t5, t6, h5', hb, rfl⟩ := for_enum (φ := ndD) (fg := gTupT 2 (gsCons (gSet 4) (gsCons (gSet 5) gsNil))) (fb := l_law_idle_2) (ρ := [r0, .f (.lst (nsD N)), .l (lvs L0), .f (.bl false), s4, s5, s6, .un]) N
    (fun i ρ => ∃ (b : Bool) (s4 s5 s6 : T), Fl s5 ∧ (b = true ↔ swpF (N.take i) 0 L0 ≠ L0) ∧ ρ = [r0, .f (.lst (nsD N)), .l (lvs (swpF (N.take i) 0 L0)), .f (.bl b), s4, s5, s6, .un]) (by
    rintro i nd ρ hx ⟨b, s4, s5, s6, h5, hb, rfl⟩
    have hi := (List.getElem?_eq_some_iff.mp hx).1
    have hmem := List.mem_of_getElem? hx
    have hti : (N.take i).length = i := by rw [List.length_take]; omega
    have hsn : swpF (N.take (i + 1)) 0 L0 = (swpF (N.take i) 0 L0).set i (valL nd (swpF (N.take i) 0 L0)) := by
      rw [take_snoc hx, swp_snoc, hti, Nat.zero_add]
    have hGd : Gd names (swpF (N.take i) 0 L0) := swp_gd ⟨fun q hq => hn.rd q (List.mem_of_mem_take hq), fun q hq => hn.rl q (List.mem_of_mem_take hq), fun q hq => hn.xl q (List.mem_of_mem_take hq)⟩ hg
    have hLl : (swpF (N.take i) 0 L0).length = N.length := by rw [swp_len, hl]
    have haf : (swpF (N.take i) 0 L0)[i]? = L0[i]? := swp_after _ _ _ _ (by rw [hti]; omega)
    rw [hsn]
    generalize swpF (N.take i) 0 L0 = L at *
    have hLi : i < L.length := by omega
    obtain ⟨c, hc⟩ : ∃ c, L[i]? = some c := ⟨L[i], List.getElem?_eq_getElem hLi⟩
    have hv := val_gd (nd := nd) hGd (hn.rd nd hmem) (hn.rl nd hmem)
    have hcG := hGd c (List.mem_of_getElem? hc)
    have hlen : ∀ l ∈ L, l.length ≤ 100 := fun l hl' => Nat.le_trans (ct_len (hGd l hl').1 (hGd l hl').2) (by omega)
    have eout := law_out_run (nd := nd) (L := L) (.inr rfl) (fun s hs => by rw [hLl]; exact (hnx nd hmem).2 s hs) (hnx nd hmem).1 hlen
    have hvl : (valL nd L).length < 64 := Nat.lt_of_le_of_lt (ct_len hv.1 hv.2) (by omega)
    have hsrt : gSorted [.f (.lst ((fndL nd L).map D.str ++ (nd.rd.filter fun x => decide (x ∉ fndL nd L)).map D.str))] = some (.f (.lst ((valL nd L).map .str))) := by
      rw [← List.map_append]
      exact gSorted_s (by
        have : (valL nd L).length = (fndL nd L ++ nd.rd.filter fun x => decide (x ∉ fndL nd L)).length := (List.mergeSort_perm _ _).length_eq
        omega)
    have hfl : ((fndL nd L).map D.str).length ≤ 100 ∧ ((nd.rd.filter fun x => decide (x ∉ fndL nd L)).map D.str).length ≤ 100 := by
      have h3 : (valL nd L).length = (fndL nd L ++ nd.rd.filter fun x => decide (x ∉ fndL nd L)).length := (List.mergeSort_perm _ _).length_eq
      rw [List.length_append] at h3
      rw [List.length_map, List.length_map]
      omega
    have hne := gNe_strs hno hv.1 hcG.1
    have hlk := lvs_at hc
    have hld : i < (lvs L).length := by unfold lvs; rw [List.length_map]; exact hLi
    have lc1 : ∀ s6 : T, lcF (gSet 7) n_law_idle_3 m_law_idle_3 [r0, .f (.lst (nsD N)), .l (lvs L), .f (.bl b), .f (.int (i : Int)), .f (ndD nd), s6, .un] ((outL nd.nx L).map .str) = some ((fndL nd L).map .str) := fun s6 => by
      have hf : fndL nd L = (outL nd.nx L).filter fun x => decide (nd.wr ≠ some x) := rfl
      rw [hf, ← fm_filter]
      refine lcF_of fun x _ => ?_
      clear hf hlk hne hsrt eout hlen hcG hv hc haf hGd hb hsn hg hn hnx hno
      obtain ⟨wr, hwr, hwd⟩ := ndD_ex nd
      have q := hwr x
      rw [hwd]
      clear hwr hwd
      generalize decide (nd.wr ≠ some x) = cc at *
      generalize lvs L = ld at *
      generalize nsD N = nn at *
      unfold n_law_idle_3 m_law_idle_3
      cases cc <;> walk_at "W"
    have lc2 : lcF (gSet 7) n_law_idle_2 m_law_idle_2 [r0, .f (.lst (nsD N)), .l (lvs L), .f (.bl b), .f (.int (i : Int)), .f (ndD nd), .f (.lst ((fndL nd L).map .str)), .un] (nd.rd.map .str) = some ((nd.rd.filter fun x => decide (x ∉ fndL nd L)).map .str) := by
      rw [← fm_filter]
      refine lcF_of fun x _ => ?_
      have gn := gNotIn_ss (l := fndL nd L) (z := x)
      have hd : (!decide (x ∈ fndL nd L)) = decide (x ∉ fndL nd L) := by by_cases q : x ∈ fndL nd L <;> simp [q]
      rw [hd] at gn
      clear hd lc1 hlk hne hsrt eout hlen hcG hv hc haf hGd hb hsn hg hn hnx hno hfl
      generalize decide (x ∉ fndL nd L) = cc at *
      generalize (fndL nd L).map D.str = fd at *
      generalize lvs L = ld at *
      generalize nsD N = nn at *
      generalize ndD nd = nd' at *
      unfold n_law_idle_2 m_law_idle_2
      cases cc <;> walk_at "W"
    by_cases hvc : valL nd L = c
    · have hset : L.set i (valL nd L) = L := by
        rw [hvc]
        apply List.ext_getElem?
        intro j
        by_cases h : i = j
        · subst h
          rw [List.getElem?_set_self hLi, hc]
        · rw [List.getElem?_set_ne h]
      rw [hset]
      rw [hvc, decide_eq_false (fun z => z rfl)] at hne
      rw [hvc] at hsrt
      clear hset hvc hlen hcG hv hc haf hGd hsn hg hn hnx hno hvl hLl hti
      obtain ⟨wr, hwr, hwd⟩ := ndD_ex nd
      simp only [hwd] at eout lc1 lc2 ⊢
      clear hwr hwd
      generalize (nd.rd.filter fun x => decide (x ∉ fndL nd L)).map D.str = gd at *
      generalize (fndL nd L).map D.str = fd at *
      generalize (outL nd.nx L).map D.str = od at *
      generalize hld' : lvs L = ld at *
      generalize nsD N = nn at *
      generalize nd.rd.map D.str = rd at *
      generalize c.map D.str = cd at *
      obtain ⟨w1, w2, w3⟩ := idle2_hyps
      unfold l_law_idle_2
      apply Wn_of
      case h =>
        walk_at "W"
        rfl
      case hq => exact ⟨b, _, _, _, .inr ⟨_, rfl⟩, hb, rfl⟩
    · rw [decide_eq_true hvc] at hne
      have hb' : (true = true ↔ L.set i (valL nd L) ≠ L0) := ⟨fun _ z => hvc (by
        have h1 : (L.set i (valL nd L))[i]? = some (valL nd L) := List.getElem?_set_self hLi
        rw [z, ← haf, hc] at h1
        cases h1
        rfl), fun _ => rfl⟩
      rw [lvs_set] at *
      have hss : ∀ q : T, True := fun _ => trivial
      replace hb' := Hid.mk hb'
      clear hss hvc hlen hcG hv hc haf hGd hsn hg hn hnx hno hvl hLl hti hb
      obtain ⟨wr, hwr, hwd⟩ := ndD_ex nd
      simp only [hwd] at eout lc1 lc2 ⊢
      clear hwr hwd
      generalize (nd.rd.filter fun x => decide (x ∉ fndL nd L)).map D.str = gd at *
      generalize (fndL nd L).map D.str = fd at *
      generalize (outL nd.nx L).map D.str = od at *
      generalize hvd : (valL nd L).map D.str = vd at *
      generalize hld' : lvs L = ld at *
      generalize nsD N = nn at *
      generalize nd.rd.map D.str = rd at *
      generalize c.map D.str = cd at *
      obtain ⟨w1, w2, w3⟩ := idle2_hyps
      unfold l_law_idle_2
      apply Wn_of
      case h =>
        walk_at "W"
        rfl
      case hq => exact ⟨true, _, _, _, .inr ⟨_, rfl⟩, hb'.out, rfl⟩) ⟨false, _, _, _, h5, ⟨fun h => (by cases h), fun h => absurd rfl h⟩, rfl⟩
  rw [List.take_length] at hb l1
  refine ⟨b, t4, t5, t6, h5', hb, ?_⟩
  have e0 : nsD N = N.map ndD := rfl
  rw [← e0] at l1
  clear e0 hb hg hl hnx hn hno
  generalize nsD N = nn at *
  generalize lvs L0 = ld at *
  generalize lvs (swpF N 0 L0) = le at *
  unfold l_law_idle_1
  walk_at "W"
theorem idle_while {names : List Str} (h19 : names.length ≤ 19) (hno : ∀ x ∈ names, PyData.strOk x = true) {N : List Nd} (hn : NOk names N) (hnx : ∀ nd ∈ N, nd.nx.length ≤ 10 ∧ ∀ s ∈ nd.nx, s < (N.length : Int)) (hN : N.length ≤ 1000) {r0 : T} {T0 : Nat} (hT : itL N (T0 + 1) = itL N T0) :
    ∀ (d t fuel : Nat) (s4 s5 s6 : T), Fl s5 → t + d = T0 → d + 2 < fuel → ∃ (t' : Nat) (s4' s5' s6' : T), Fl s5' ∧ itL N (t' + 1) = itL N t' ∧ whileF l_law_idle_1t l_law_idle_1 fuel [r0, .f (.lst (nsD N)), .l (lvs (itL N t)), .f (.bl true), s4, s5, s6, .un] = some (.nx [r0, .f (.lst (nsD N)), .l (lvs (itL N t')), .f (.bl false), s4', s5', s6', .un]) := by
  have tst : ∀ (b : Bool) (L : T) (s4 s5 s6 : T), l_law_idle_1t [r0, .f (.lst (nsD N)), L, .f (.bl b), s4, s5, s6, .un] = some (.ok b [r0, .f (.lst (nsD N)), L, .f (.bl b), s4, s5, s6, .un]) := fun b L s4 s5 s6 => by
    clear hnx hn hno hT
    generalize nsD N = nn
    unfold l_law_idle_1t
    walk_at "W"
  intro d
  induction d with
  | zero =>
    intro t fuel s4 s5 s6 h5 ht hf
    obtain ⟨fu, rfl⟩ : ∃ fu, fuel = fu + 1 + 1 := ⟨fuel - 2, by omega⟩
    obtain rfl : t = T0 := by omega
    obtain ⟨b, t4, t5, t6, h5', hb, e⟩ := round_ok h19 hno hn hnx hN (it_gd hn t) (it_len t) (r0 := r0) (s4 := s4) (s5 := s5) (s6 := s6) (b0 := true) h5
    have e2 : swpF N 0 (itL N t) = itL N t := hT
    have hbf : b = false := by
      cases b with
      | false => rfl
      | true => exact absurd e2 (hb.mp rfl)
    subst hbf
    refine ⟨t, t4, t5, t6, h5', hT, ?_⟩
    rw [while_step, tst, kW1_t, e, kW2_nx, e2, while_step, tst, kW1_f]
  | succ d ih =>
    intro t fuel s4 s5 s6 h5 ht hf
    obtain ⟨fu, rfl⟩ : ∃ fu, fuel = fu + 1 + 1 := ⟨fuel - 2, by omega⟩
    obtain ⟨b, t4, t5, t6, h5', hb, e⟩ := round_ok h19 hno hn hnx hN (it_gd hn t) (it_len t) (r0 := r0) (s4 := s4) (s5 := s5) (s6 := s6) (b0 := true) h5
    cases b with
    | false =>
      have e2 : swpF N 0 (itL N t) = itL N t := Classical.byContradiction fun z => absurd (hb.mpr z) (by simp)
      refine ⟨t, t4, t5, t6, h5', e2, ?_⟩
      rw [while_step, tst, kW1_t, e, kW2_nx, e2, while_step, tst, kW1_f]
    | true =>
      obtain ⟨t', q4, q5, q6, h5'', h1, h2⟩ := ih (t + 1) (fu + 1) t4 t5 t6 h5' (by omega) (by omega)
      refine ⟨t', q4, q5, q6, h5'', h1, ?_⟩
      rw [while_step, tst, kW1_t, e, kW2_nx]
      exact h2
/-! k77: idle deeds -/
def idleP (L : List (List Str)) (nd : Nd) : Bool := match nd.wr with | some x => decide (x ∉ outL nd.nx L) | none => false
theorem idleP_n {L : List (List Str)} {nd : Nd} (h : nd.wr = none) : idleP L nd = false := by unfold idleP; rw [h]
theorem idleP_s {L : List (List Str)} {nd : Nd} {x : Str} (h : nd.wr = some x) : idleP L nd = decide (x ∉ outL nd.nx L) := by unfold idleP; rw [h]
theorem law_idle_ok {names : List Str} {w : Nat} (h19 : names.length ≤ 19) (hno : ∀ x ∈ names, PyData.strOk x = true) {rows : List Pg} (ho : Pg.Oks names w rows) (hd : Pg.deps rows ≤ 8) (hs : Pg.szs rows ≤ 64) : val (g_law_idle [.f (.lst (Pg.ds rows))]) = some (.int ((Pg.trims rows []).n : Int)) := by
  have hv : val (g_law_idle [.f (.lst (Pg.ds rows))]) = oval (b_law_idle ([.f (.lst (Pg.ds rows))] ++ List.replicate (8 - 1) .un)) 1 := val_run (m := 1) (n := 8) rfl
  rw [hv]
  clear hv
  obtain ⟨N, e, hR, gn⟩ := nodes_all (names := names) (w := w) 24 rows [] (-1) ho (by omega) (by show 0 + _ ≤ _; omega)
  have hlen := hR.len
  have hL : LayR N rows (-1) 0 e N.length := by
    have := hR.lay N (fun j nd hj => by
      show N[0 + j]? = some nd
      rw [Nat.zero_add]
      exact hj)
    have e0 : ([] : List D).length + N.length = N.length := by show 0 + _ = _; omega
    rw [e0] at this
    exact this
  have hN : N.length ≤ 64 := by omega
  have hnx : ∀ nd ∈ N, nd.nx.length ≤ 10 ∧ ∀ s ∈ nd.nx, s < (N.length : Int) := fun nd hnd => by
    obtain ⟨k, hk⟩ := List.getElem?_of_mem hnd
    obtain ⟨nd', f1, f2⟩ := layr_inn rows (-1) 0 e N.length hL k (Nat.zero_le _) (List.getElem?_eq_some_iff.mp hk).1
    rw [hk] at f1
    cases f1
    refine ⟨Nat.le_trans (hR.ok.xl nd hnd) (by omega), fun s hs => ?_⟩
    have := f2 s hs
    omega
  obtain ⟨T0, hT0, hT⟩ := it_stop (names := names) hR.ok.rd hL (N.length * names.length) 0 (by omega)
  have hb1 : N.length * names.length ≤ 64 * 19 := Nat.mul_le_mul hN h19
  have hb2 : (N.length * names.length + 1) * (Pg.deps rows + 2) ≤ (64 * 19 + 1) * 10 := Nat.mul_le_mul (by omega) (by omega)
  obtain ⟨t, s4, s5, s6, h5, ht, ew⟩ := idle_while h19 hno hR.ok hnx (by omega) hT (r0 := .f (.lst (Pg.ds rows))) T0 0 1000000 .un .un .un (.inl rfl) (by omega) (by omega)
  have hcnt : (N.filter (idleP (itL N t))).length = (Pg.trims rows []).n := idle_cnt h19 ho hL ht
  have hgd := it_gd hR.ok t
  have hLl := it_len (N := N) t
  have lc : lcF (gSet 5) n_law_idle_1 m_law_idle_1 [.f (.lst (Pg.ds rows)), .f (.lst (nsD N)), .f (.lst (lvs (itL N t))), .f (.bl false), s4, .un, s6, .un] (nsD N) = some ((N.filter (idleP (itL N t))).map ndD) := by
    rw [← fm_filter]
    refine lcF_of fun nd hnd => ?_
    have eout := law_out_ok (nd := nd) (L := itL N t) (fun s hs => by rw [hLl]; exact (hnx nd hnd).2 s hs) (hnx nd hnd).1 fun l hl => Nat.le_trans (ct_len (hgd l hl).1 (hgd l hl).2) (by omega)
    clear hcnt hgd hLl ew ht hb1 hb2 hT0 hT hnx hN hL hlen gn hR hs hd ho hno
    generalize lvs (itL N t) = ld at *
    generalize Pg.ds rows = rd at *
    generalize nsD N = nn at *
    cases hw : nd.wr with
    | none =>
      have hdd : ndD nd = .tup [.lst (nd.rd.map .str), .non, .lst (nd.nx.map .int)] := by unfold ndD; rw [hw]
      rw [idleP_n hw, hdd, if_neg (by simp)]
      rw [hdd] at eout
      have gw : ∀ neg, gIsNn neg (.f .non) = some (.f (.bl (xor neg true))) := fun _ => rfl
      generalize (outL nd.nx (itL N t)).map D.str = od at *
      unfold n_law_idle_1 m_law_idle_1
      walk_at "W"
    | some x =>
      have hdd : ndD nd = .tup [.lst (nd.rd.map .str), .str x, .lst (nd.nx.map .int)] := by unfold ndD; rw [hw]
      rw [idleP_s hw, hdd]
      rw [hdd] at eout
      have gw : ∀ neg, gIsNn neg (.f (.str x)) = some (.f (.bl (xor neg false))) := fun _ => rfl
      have gq := gNotIn_ss (l := outL nd.nx (itL N t)) (z := x)
      have hd : (!decide (x ∈ outL nd.nx (itL N t))) = decide (x ∉ outL nd.nx (itL N t)) := by by_cases q : x ∈ outL nd.nx (itL N t) <;> simp [q]
      rw [hd] at gq
      generalize decide (x ∉ outL nd.nx (itL N t)) = cc at *
      clear hd hw
      generalize (outL nd.nx (itL N t)).map D.str = od at *
      unfold n_law_idle_1 m_law_idle_1
      cases cc <;> walk_at "W"
  have lc0 : lcF (gSet 5) tYesF m_law_idle_4 [.f (.lst (Pg.ds rows)), .f (.lst (nsD N)), .un, .un, .un, .un, .un, .un] (nsD N) = some (lvs (itL N 0)) := by
    have e0 : lvs (itL N 0) = N.flatMap fun _ => [D.lst []] := by
      unfold lvs itL
      rw [List.map_map]
      clear hcnt hgd hLl ew ht hb1 hb2 hT0 hT hnx hN hL hlen gn hR lc
      induction N with
      | nil => rfl
      | cons a l ih =>
        rw [List.map_cons, List.flatMap_cons, ih]
        rfl
    rw [e0]
    refine lcF_of fun nd hnd => ?_
    clear e0 hcnt hgd hLl ew ht hb1 hb2 hT0 hT hnx hN hL hlen gn hR hs hd ho hno lc hnd
    generalize nsD N = nn at *
    generalize ndD nd = nd' at *
    unfold m_law_idle_4
    walk_at "W"
  have hml : (((N.filter (idleP (itL N t))).map ndD).length : Int) = ((Pg.trims rows []).n : Int) := by
    rw [List.length_map, hcnt]
  have hl0 : (lvs (itL N 0)).length ≤ 64 := by unfold lvs itL; rw [List.length_map, List.length_map]; exact hN
  have hlt : (lvs (itL N t)).length ≤ 64 := by unfold lvs; rw [List.length_map, hLl]; exact hN
  have hfl : ((N.filter (idleP (itL N t))).map ndD).length ≤ 64 := by rw [List.length_map]; exact Nat.le_trans (List.length_filter_le _ _) hN
  have hnl : [] ++ nsD N = nsD N := rfl
  rw [hnl] at gn
  clear hcnt hgd hLl ht hb1 hb2 hT0 hT hnx hN hL hlen hR hs hd ho hno hnl
  generalize (N.filter (idleP (itL N t))).map ndD = fl at *
  generalize ((Pg.trims rows []).n : Int) = z at *
  generalize lvs (itL N t) = ld at *
  generalize lvs (itL N 0) = ld0 at *
  generalize nsD N = nn at *
  generalize Pg.ds rows = rd at *
  unfold b_law_idle
  rcases h5 with rfl | ⟨d5, rfl⟩
  · walk_at "W"
  · walk_at "W"
theorem trim_init0 : g_Trimmer_init [.o 1 [] []] = some (.ok (.f .non) [tmT 0]) := by
  have hr : g_Trimmer_init [.o 1 [] []] = kRun 1 [0] [.o 1 [] []] (b_Trimmer_init ([.o 1 [] []] ++ List.replicate (1 - 1) .un)) := run_of rfl
  rw [hr]
  unfold b_Trimmer_init tmT
  clear hr
  walk_at "W"
theorem idle_deeds_ok {w : Nat} {ins others : List Str} (h8 : (ins ++ others).length ≤ 19) {rows : List Pg} (ho : Pg.Oks (ins ++ others) w rows) (hd : Pg.deps rows ≤ 8) (hl : rows.length ≤ 200) :
    g_idle_deeds [.f (pD w ins others rows)] = some (.ok (.f (.int ((Pg.trims rows []).n : Int))) [.f (pD w ins others rows)]) := by
  have hr : g_idle_deeds [.f (pD w ins others rows)] = kRun 1 [] [.f (pD w ins others rows)] (b_idle_deeds ([.f (pD w ins others rows)] ++ List.replicate (2 - 1) .un)) := run_of rfl
  rw [hr]
  clear hr
  have e1 : g_Trimmer_back 24 [tmT 0, .f (.lst (Pg.ds rows)), .f (lvD [])] = some (.ok (.f (trD (Pg.trims rows []))) [tmT (0 + ((Pg.trims rows []).n : Int)), .f (.lst (Pg.ds rows)), .f (lvD [])]) := back_all h8 12 rows [] 0 ho (by omega) hl List.nodup_nil fun _ h => absurd h List.not_mem_nil
  have e0 := trim_init0
  have hlv : lvD [] = .dct [] [] := rfl
  rw [hlv, Int.zero_add] at e1
  unfold tmT pD at *
  clear ho hd hl h8 hlv
  generalize trD (Pg.trims rows []) = tr at *
  generalize ((Pg.trims rows []).n : Int) = z at *
  generalize Pg.ds rows = rd at *
  unfold b_idle_deeds
  walk_at "W"
theorem cut_mid {α : Type} {xs : List α} {a b : Nat} (hab : a ≤ b) : cutD xs (some (a : Int)) (some (b : Int)) = (xs.take b).drop a := by
  unfold cutD
  rw [HT.sIx_nat, HT.sIx_nat, List.drop_take]
  rcases Nat.le_total a xs.length with h | h
  · rw [Nat.min_eq_left h]
    rcases Nat.le_total b xs.length with h2 | h2
    · rw [Nat.min_eq_left h2]
    · rw [Nat.min_eq_right h2, List.take_of_length_le (by rw [List.length_drop]; omega), List.take_of_length_le (by rw [List.length_drop]; omega)]
  · rw [Nat.min_eq_right h, List.drop_of_length_le (Nat.le_refl _), List.drop_of_length_le h]
    simp
theorem law_true (ns : List Int) (hl : ns.length ≤ 63) (hb : ∀ z ∈ ns, Builtin.Int.intBits z ≤ 1048576) : ∃ us, g_law [.f (.lst (ns.map .int))] = some (.ok (.f (.bl true)) us) := by
  refine val_ex ?_
  have hv : val (g_law [.f (.lst (ns.map .int))]) = oval (b_law ([.f (.lst (ns.map .int))] ++ List.replicate (8 - 1) .un)) 1 := val_run (m := 1) (n := 8) rfl
  rw [hv]
  clear hv
  have hcut : cutD (ns.map D.int) (some 1) (some 63) = ((ns.take 63).drop 1).map D.int := by
    rw [show (63 : Int) = ((63 : Nat) : Int) from rfl, show (1 : Int) = ((1 : Nat) : Int) from rfl, cut_mid (by omega), List.map_drop, List.map_take]
  obtain ⟨c, hcb, hfirst⟩ : ∃ c : Int, Builtin.Int.intBits c ≤ 1048576 ∧ (((0 < (ns.length : Int)) = True ∧ (ns.map D.int)[0]? = some (.int c)) ∨ ((0 < (ns.length : Int)) = False ∧ c = 3)) := by
    cases ns with
    | nil => exact ⟨3, by decide, .inr ⟨eq_false (by simp), rfl⟩⟩
    | cons z r => exact ⟨z, hb z List.mem_cons_self, .inl ⟨eq_true (by rw [List.length_cons]; omega), rfl⟩⟩
  obtain ⟨names, hnl, hno0, enames⟩ := law_names_ok hcb
  obtain ⟨w, hw⟩ := Int.eq_ofNat_of_zero_le (show 0 ≤ 1 + c % 8 by omega)
  have hw1 : 1 ≤ w ∧ w ≤ 8 := by omega
  obtain ⟨a, ha⟩ := Int.eq_ofNat_of_zero_le (show 0 ≤ c / 8 % 4 by omega)
  obtain ⟨b, hbb⟩ := Int.eq_ofNat_of_zero_le (show 0 ≤ 4 + c / 32 % 5 by omega)
  have hab : a ≤ 3 ∧ b ≤ 8 ∧ 4 ≤ b := by omega
  have hins : cutD (names.map D.str) none (some (a : Int)) = (names.take a).map D.str := by rw [cutD_take, List.map_take]
  have hoth : cutD (names.map D.str) (some 4) (some (b : Int)) = ((names.take b).drop 4).map D.str := by
    rw [show (4 : Int) = ((4 : Nat) : Int) from rfl, cut_mid hab.2.2, List.map_drop, List.map_take]
  have hil : (names.take a).length + ((names.take b).drop 4).length ≤ 19 := by rw [List.length_take, List.length_drop, List.length_take]; omega
  have hil1 : ((names.take a).map D.str).length + (((names.take b).drop 4).map D.str).length ≤ 20 := by rw [List.length_map, List.length_map]; omega
  have hno : ∀ x ∈ names.take a ++ (names.take b).drop 4, PyData.strOk x = true := fun x hx => by
    rcases List.mem_append.mp hx with q | q
    · exact hno0 x (List.mem_of_mem_take q)
    · exact hno0 x (List.mem_of_mem_take (List.mem_of_mem_drop q))
  generalize names.take a = ins at *
  generalize (names.take b).drop 4 = others at *
  have hcat : ins.map D.str ++ others.map D.str = (ins ++ others).map D.str := List.map_append.symm
  obtain ⟨rows, hrl, hro, hrd, hsz, eprog⟩ := law_program_ok (cs := (ns.take 63).drop 1) (names := ins ++ others) (w := w) (most := 40) (by omega) (by rw [List.length_drop, List.length_take]; omega) (fun z hz => hb z (List.mem_of_mem_take (List.mem_of_mem_drop hz)))
  have einit := program_ok (w := w) (ins := ins) (others := others) hro hrd (by omega) (by omega)
  have h19 : (ins ++ others).length ≤ 19 := by rw [List.length_append]; omega
  have eid := idle_deeds_ok (w := w) (ins := ins) (others := others) h19 hro hrd (by omega)
  have elaw := law_idle_ok h19 hno hro hrd hsz
  have ewh := whole_ok ((Pg.trims rows []).n : Int)
  clear hro hrd hsz hrl hno hno0 hil hab hcb hb hl hnl h19
  unfold pT at einit
  unfold pD at *
  generalize ((Pg.trims rows []).n : Int) = z at *
  generalize Pg.ds rows = rd at *
  unfold b_law
  rcases hfirst with ⟨q1, q2⟩ | ⟨q1, rfl⟩
  · walk_at "W"
  · walk_at "W"
end K
open PySem PySem.W PyProof.Rows
set_option maxRecDepth 100000 in
set_option maxHeartbeats 0 in
theorem PySem.Challenge.cw_deedloom_k77_idle_deeds_holds : PySem.Challenge.rw_deedloom_k77_idle_deeds.Holds := by
  w_on; o_law; k_head; (case hw => w_witness2)
  k_fill
  refine K.walk (l := PySem.Challenge.rw_deedloom_k77_idle_deeds) rfl rfl (fun w h Y => PySem.W.kIn_of Y) K.law_true ?F
  case F =>
    intro w mg fa h KX G hmg
    refine' K.all_mk KX G hmg ?x0 ?pg0 ?hd0 ?po0 ?sa0 ?mk0 ?kc0 ?x1 ?pg1 ?hd1 ?po1 ?sa1 ?mk1 ?kc1 ?n0_rows ?n0_boxes ?n0_ins ?n0_width ?n1_many ?a1 ?l1 ?c1 ?k1 ?a2 ?l2 ?c2 ?k2 ?a3 ?l3 ?c3 ?k3 ?a4 ?i4 ?l4 ?c4 ?k4 ?a5 ?l5 ?c5 ?k5 ?a6 ?l6 ?c6 ?k6 ?a7 ?i7 ?l7 ?c7 ?k7 ?a8 ?i8 ?l8 ?c8 ?k8 ?a9 ?i9 ?l9 ?c9 ?k9 ?a10 ?i10 ?l10 ?c10 ?k10 ?a11 ?i11 ?l11 ?c11 ?k11 ?a12 ?l12 ?c12 ?k12 ?a13 ?l13 ?c13 ?k13 ?a14 ?l14 ?c14 ?k14 ?a15 ?l15 ?c15 ?k15 ?a16 ?l16 ?c16 ?k16 ?a17 ?l17 ?c17 ?k17 ?a18 ?l18 ?c18 ?k18 ?a19 ?l19 ?c19 ?k19 ?a20 ?l20 ?c20 ?k20 ?a21 ?l21 ?c21 ?k21 ?a22 ?l22 ?c22 ?k22 ?a23 ?l23 ?c23 ?k23 ?a24 ?l24 ?c24 ?k24 ?a25 ?l25 ?c25 ?k25 ?z_isinstance ?z_str ?z_list ?z_len ?z_reversed ?z_int ?z_bool ?z_range ?z_enumerate ?z_sorted
    (case x0 => k_is)
    (case pg0 => k_is)
    (case hd0 => k_is)
    (case po0 => k_is)
    (case sa0 => k_is)
    (case mk0 => k_is)
    (case kc0 => k_is)
    (case x1 => k_is)
    (case pg1 => k_is)
    (case hd1 => k_is)
    (case po1 => k_is)
    (case sa1 => k_is)
    (case mk1 => k_is)
    (case kc1 => k_is)
    (case n0_rows => k_is)
    (case n0_boxes => k_is)
    (case n0_ins => k_is)
    (case n0_width => k_is)
    (case n1_many => k_is)
    (case a1 => k_is)
    (case l1 => k_is)
    (case c1 => k_is)
    (case k1 => k_is)
    (case a2 => k_is)
    (case l2 => k_is)
    (case c2 => k_is)
    (case k2 => k_is)
    (case a3 => k_is)
    (case l3 => k_is)
    (case c3 => k_is)
    (case k3 => k_is)
    (case a4 => k_is)
    (case i4 => k_is)
    (case l4 => k_is)
    (case c4 => k_is)
    (case k4 => k_is)
    (case a5 => k_is)
    (case l5 => k_is)
    (case c5 => k_is)
    (case k5 => k_is)
    (case a6 => k_is)
    (case l6 => k_is)
    (case c6 => k_is)
    (case k6 => k_is)
    (case a7 => k_is)
    (case i7 => k_is)
    (case l7 => k_is)
    (case c7 => k_is)
    (case k7 => k_is)
    (case a8 => k_is)
    (case i8 => k_is)
    (case l8 => k_is)
    (case c8 => k_is)
    (case k8 => k_is)
    (case a9 => k_is)
    (case i9 => k_is)
    (case l9 => k_is)
    (case c9 => k_is)
    (case k9 => k_is)
    (case a10 => k_is)
    (case i10 => k_is)
    (case l10 => k_is)
    (case c10 => k_is)
    (case k10 => k_is)
    (case a11 => k_is)
    (case i11 => k_is)
    (case l11 => k_is)
    (case c11 => k_is)
    (case k11 => k_is)
    (case a12 => k_is)
    (case l12 => k_is)
    (case c12 => k_is)
    (case k12 => k_is)
    (case a13 => k_is)
    (case l13 => k_is)
    (case c13 => k_is)
    (case k13 => k_is)
    (case a14 => k_is)
    (case l14 => k_is)
    (case c14 => k_is)
    (case k14 => k_is)
    (case a15 => k_is)
    (case l15 => k_is)
    (case c15 => k_is)
    (case k15 => k_is)
    (case a16 => k_is)
    (case l16 => k_is)
    (case c16 => k_is)
    (case k16 => k_is)
    (case a17 => k_is)
    (case l17 => k_is)
    (case c17 => k_is)
    (case k17 => k_is)
    (case a18 => k_is)
    (case l18 => k_is)
    (case c18 => k_is)
    (case k18 => k_is)
    (case a19 => k_is)
    (case l19 => k_is)
    (case c19 => k_is)
    (case k19 => k_is)
    (case a20 => k_is)
    (case l20 => k_is)
    (case c20 => k_is)
    (case k20 => k_is)
    (case a21 => k_is)
    (case l21 => k_is)
    (case c21 => k_is)
    (case k21 => k_is)
    (case a22 => k_is)
    (case l22 => k_is)
    (case c22 => k_is)
    (case k22 => k_is)
    (case a23 => k_is)
    (case l23 => k_is)
    (case c23 => k_is)
    (case k23 => k_is)
    (case a24 => k_is)
    (case l24 => k_is)
    (case c24 => k_is)
    (case k24 => k_is)
    (case a25 => k_is)
    (case l25 => k_is)
    (case c25 => k_is)
    (case k25 => k_is)
    (case z_isinstance => k_is)
    (case z_str => k_is)
    (case z_list => k_is)
    (case z_len => k_is)
    (case z_reversed => k_is)
    (case z_int => k_is)
    (case z_bool => k_is)
    (case z_range => k_is)
    (case z_enumerate => k_is)
    (case z_sorted => k_is)
