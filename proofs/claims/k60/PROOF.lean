import PyProof.Rows.All
import Wide.All
import OpenK.AllK
import Wide.FinOn
import HandS.ForMost
import HandS.Wide
import HandS.IsInst
import KE.KeyNested
import HandS.RaiseMore
import HandS.EndBits
import HandS.TupAny
import HandS.Small
import HandS.Finally
import PyProof.DictCopy
import HandS.Style
import HandS.More
import HandS.Sort
import KE.KDictList
import HandS.SortInts
import HandS.Text
import HandS.TupLen
import PySem.Challenge.RW_deedloom_k60_wires_told
set_option Elab.async false
set_option linter.all false
set_option maxRecDepth 100000
namespace Z
open PySem L2

/-- deep data, never changed -/
inductive D where
  | non | bl (b : Bool) | int (i : Int) | str (x : Str)
  | tup (l : List D) | lst (l : List D) | nst (l : List D) | dct (ks : List Key) (vs : List D) | obj (C : Nat) (ns : List Str) (vs : List D)

/-- what a slot holds: forgotten, deep data, or a thing of its own that may be changed -/
inductive T where
  | un | f (d : D) | l (ds : List D) | dk (ks : List Key) (ds : List D) | di (ks : List NestedKey) (ts : List T)
  | ll (ts : List T) | tu (ts : List T) | o (C : Nat) (ns : List Str) (ts : List T) | ln (ds : List D) | gb (l : List Addr) | rg (n : Nat)

/-- the written part, and where the classes of the program stand, by their numbers -/
structure Wd where
  K : PySem.W.Frag
  cl : Nat → Addr
  w : World
  nw : Addr → Prop
/-- .. where other things are new -/
abbrev Wd.re (W : Wd) (nw : Addr → Prop) : Wd := ⟨W.K, W.cl, W.w, nw⟩

mutual
def Rep (W : Wd) (F : Hp) : D → V → Prop
  | .non, v => v = .non
  | .bl b, v => v = .bl b
  | .int i, v => v = .int i
  | .str x, v => v = .str x
  | .tup l, v => ∃ p vs, v = .ref p ∧ SqT W.K F p vs ∧ Reps W F l vs
  | .lst l, v => ∃ p vs, v = .ref p ∧ SqL W.K F p vs ∧ Reps W F l vs
  | .nst l, v => ∃ p vs, v = .ref p ∧ F p = some (.lst vs) ∧ W.nw p ∧ Reps W F l vs
  | .dct ks ds, v => ∃ p kvs, v = .ref p ∧ Rd F p (.dK kvs) ∧ kvs.map (·.1) = ks ∧ Reps W F ds (kvs.map (·.2))
  | .obj C ns ds, v => ∃ p dx kvs, v = .ref p ∧ F p = some (.ins (W.cl C) dx kvs) ∧ kvs.map (·.1) = ns ∧ Reps W F ds (kvs.map (·.2))
def Reps (W : Wd) (F : Hp) : List D → List V → Prop
  | [], vs => vs = []
  | d :: ds, vs => ∃ v r, vs = v :: r ∧ Rep W F d v ∧ Reps W F ds r
end

/-! keys of dicts, of any depth -/
mutual
def nkD : D → Option NestedKey
  | .non => some .none
  | .bl b => some (.num (if b = true then 1 else 0))
  | .int i => some (.num i)
  | .str x => some (.text x)
  | .tup l => (nksD l).map .tup
  | .lst _ => none
  | .nst _ => none
  | .dct _ _ => none
  | .obj _ _ _ => none
def nksD : List D → Option (List NestedKey)
  | [] => some []
  | d :: ds => (nkD d).bind fun k => (nksD ds).map fun ks => k :: ks
end
/-- a dict whose keys are tuples: each key, where its tuple stands, its value -/
def dxO (w : World) (p : Addr) (xs : List (NestedKey × Addr × V)) : HO := .ext fun h => xs.length ≤ sizeLine ∧ (p == sysModules) = false ∧ ∃ ys : List (NestedKey × Addr × Value),
  Paired (fun (x : NestedKey × Addr × V) (y : NestedKey × Addr × Value) => x.1 = y.1 ∧ x.2.1 = y.2.1 ∧ L2.RelV x.2.2 y.2.2) xs ys ∧
  ∃ o es ep, h.get? p = some o ∧ o.ExactDict ∧ o.data = .dict es ep ∧ es.toList = ys.map (fun y => (⟨y.1.hash w, .ref y.2.1, y.2.2⟩ : DictEntry)) ∧ (ys.map (·.1)).Nodup

/-- the parts at fp as they stand, the others as they were -/
def mix (F H : Hp) (fp : List Addr) : Hp := fun a => if a ∈ fp then H a else F a
def Plain (H : Hp) (fp : List Addr) : Prop := ∀ a ∈ fp, ∃ o, H a = some o ∧ ∀ x u, o ≠ .frz x u
theorem Plain.same {H H' : Hp} {fp : List Addr} (h : Plain H fp) (e : ∀ a ∈ fp, H' a = H a) : Plain H' fp := fun a ha => by rw [e a ha]; exact h a ha
theorem mix_inc {F F' H H' : Hp} {fp : List Addr} (hF : ∀ a o, F a = some o → F' a = some o) (e : ∀ a ∈ fp, H' a = H a) : ∀ a o, mix F H fp a = some o → mix F' H' fp a = some o := fun a o h => by
  unfold mix at h ⊢
  by_cases ha : a ∈ fp
  · rw [if_pos ha] at h ⊢
    rw [e a ha]
    exact h
  · rw [if_neg ha] at h ⊢
    exact hF a o h
mutual
def RelT (W : Wd) (F H : Hp) : T → V → List Addr → Prop
  | .un, _, fp => fp = []
  | .f d, v, fp => fp = [] ∧ Rep W F d v
  | .l ds, v, fp => ∃ p vs, v = .ref p ∧ fp = [p] ∧ H p = some (.lst vs) ∧ Reps W F ds vs
  | .dk ks ds, v, fp => ∃ p kvs, v = .ref p ∧ fp = [p] ∧ H p = some (.dK kvs) ∧ kvs.map (·.1) = ks ∧ Reps W F ds (kvs.map (·.2))
  | .di ks ts, v, fp => ∃ p xs fps, v = .ref p ∧ fp = p :: fps.flatten ∧ H p = some (dxO W.w p xs) ∧ xs.map (·.1) = ks ∧ (∀ x ∈ xs, ∃ l, nkD (.tup l) = some x.1 ∧ x.1.depth ≤ 8 ∧ Rep W F (.tup l) (.ref x.2.1)) ∧ RelTs W F H ts (xs.map (·.2.2)) fps
  | .ll ts, v, fp => ∃ p vs fps, v = .ref p ∧ fp = p :: fps.flatten ∧ H p = some (.lst vs) ∧ RelTs W F H ts vs fps
  | .tu ts, v, fp => ∃ p vs fps, v = .ref p ∧ fp = p :: fps.flatten ∧ H p = some (.tup vs) ∧ RelTs W F H ts vs fps
  | .o C ns ts, v, fp => ∃ p dx kvs fps, v = .ref p ∧ fp = p :: fps.flatten ∧ H p = some (.ins (W.cl C) dx kvs) ∧ kvs.map (·.1) = ns ∧ RelTs W F H ts (kvs.map (·.2)) fps
  | .ln ds, v, fp => ∃ p vs fr, v = .ref p ∧ fp = p :: fr ∧ H p = some (.lst vs) ∧ Reps (W.re (· ∈ fr)) (mix F H fr) ds vs ∧ Plain H fr ∧ ∀ a ∈ fr, W.nw a
  | .gb l, _, fp => fp = l ∧ Plain H fp
  | .rg n, v, fp => ∃ p vs fr, v = .ref p ∧ fp = p :: fr ∧ H p = some (.lst vs) ∧ vs.length ≤ n ∧ Plain H fr
def RelTs (W : Wd) (F H : Hp) : List T → List V → List (List Addr) → Prop
  | [], vs, fps => vs = [] ∧ fps = []
  | t :: ts, vs, fps => ∃ v vr f fr, vs = v :: vr ∧ fps = f :: fr ∧ RelT W F H t v f ∧ RelTs W F H ts vr fr
end

/-- all that F has -/
def Inc (F F' : Hp) : Prop := ∀ a o, F a = some o → F' a = some o
theorem Inc.refl (F : Hp) : Inc F F := fun _ _ h => h
theorem Inc.trans {F G J : Hp} (a : Inc F G) (b : Inc G J) : Inc F J := fun p o h => b p o (a p o h)
/-- .. but that a dict may be locked -/
def Le (F H : Hp) : Prop := ∀ a o, F a = some o → H a = some o ∨ ∃ u kvs, o = .dK kvs ∧ H a = some (.frz u o)
theorem Le.refl (F : Hp) : Le F F := fun _ _ h => .inl h
theorem Le.of {F H : Hp} (h : Inc F H) : Le F H := fun a o e => .inl (h a o e)
theorem Le.some {F H : Hp} (h : Le F H) {a : Addr} {o : HO} (e : F a = some o) : ∃ u, H a = some u := by
  rcases h a o e with z | ⟨u, kvs, _, z⟩
  · exact ⟨_, z⟩
  · exact ⟨_, z⟩
theorem Le.none {F H : Hp} (h : Le F H) {a : Addr} (e : H a = Option.none) : F a = Option.none := by
  cases q : F a with
  | none => rfl
  | some o =>
    obtain ⟨u, z⟩ := h.some q
    rw [e] at z
    cases z
theorem Inc.le {F G H : Hp} (a : Inc F G) (b : Le G H) : Le F H := fun p o e => b p o (a p o e)
theorem Le.inc {F G H : Hp} (a : Le F G) (b : Inc G H) : Le F H := fun p o e => by
  rcases a p o e with z | ⟨u, kvs, e1, z⟩
  · exact .inl (b _ _ z)
  · exact .inr ⟨u, kvs, e1, b _ _ z⟩
theorem Rd.le {F H : Hp} (h : Le F H) {a : Addr} {u : HO} (r : Rd F a u) : Rd H a u := by
  rcases r with e | ⟨o, e⟩
  · rcases h a u e with z | ⟨o, kvs, e1, z⟩
    · exact .inl z
    · exact .inr ⟨o, z⟩
  · rcases h a _ e with z | ⟨_, kvs, e1, z⟩
    · exact .inr ⟨o, z⟩
    · cases e1
theorem SqL.le {K : PySem.W.Frag} {F H : Hp} (h : Le F H) {a : Addr} {vs : List V} (r : SqL K F a vs) : SqL K H a vs := by
  rcases r with r | r
  · exact .inl (Rd.le h r)
  · exact .inr r
theorem SqT.le {K : PySem.W.Frag} {F H : Hp} (h : Le F H) {a : Addr} {vs : List V} (r : SqT K F a vs) : SqT K H a vs := by
  rcases r with r | r
  · exact .inl (Rd.le h r)
  · exact .inr r
theorem ins_le {F H : Hp} (h : Le F H) {a C dx : Addr} {kvs : List (Str × V)} (e : F a = some (.ins C dx kvs)) : H a = some (.ins C dx kvs) := by
  rcases h a _ e with z | ⟨_, _, e1, _⟩
  · exact z
  · cases e1
mutual
theorem Rep.le {W : Wd} {F H : Hp} (h : Le F H) : ∀ (d : D) (v : V), Rep W F d v → Rep W H d v
  | .non, _, r => r
  | .bl _, _, r => r
  | .int _, _, r => r
  | .str _, _, r => r
  | .tup l, _, r => by
    obtain ⟨p, vs, e, s, q⟩ := r
    exact ⟨p, vs, e, SqT.le h s, Reps.le h l vs q⟩
  | .lst l, _, r => by
    obtain ⟨p, vs, e, s, q⟩ := r
    exact ⟨p, vs, e, SqL.le h s, Reps.le h l vs q⟩
  | .nst l, _, r => by
    obtain ⟨p, vs, e, s, nw, q⟩ := r
    refine ⟨p, vs, e, ?_, nw, Reps.le h l vs q⟩
    rcases h p _ s with z | ⟨_, _, e1, _⟩
    · exact z
    · cases e1
  | .dct ks ds, _, r => by
    obtain ⟨p, kvs, e, s, k, q⟩ := r
    exact ⟨p, kvs, e, Rd.le h s, k, Reps.le h ds _ q⟩
  | .obj C ns ds, _, r => by
    obtain ⟨p, dx, kvs, e, s, k, q⟩ := r
    exact ⟨p, dx, kvs, e, ins_le h s, k, Reps.le h ds _ q⟩
theorem Reps.le {W : Wd} {F H : Hp} (h : Le F H) : ∀ (ds : List D) (vs : List V), Reps W F ds vs → Reps W H ds vs
  | [], _, r => r
  | d :: ds, _, r => by
    obtain ⟨v, vr, e, a, b⟩ := r
    exact ⟨v, vr, e, Rep.le h d v a, Reps.le h ds vr b⟩
end
theorem Rep.inc {W : Wd} {F H : Hp} (h : Inc F H) {d : D} {v : V} (r : Rep W F d v) : Rep W H d v := Rep.le (Le.of h) d v r
theorem Reps.inc {W : Wd} {F H : Hp} (h : Inc F H) {d : List D} {v : List V} (r : Reps W F d v) : Reps W H d v := Reps.le (Le.of h) d v r

mutual
theorem RelT.mono {W : Wd} {F F' H H' : Hp} (hF : Inc F F') : ∀ (t : T) (v : V) (fp : List Addr), (∀ a ∈ fp, H' a = H a) → RelT W F H t v fp → RelT W F' H' t v fp
  | .un, _, _, _, r => r
  | .f d, _, _, _, r => ⟨r.1, Rep.inc hF r.2⟩
  | .l ds, _, _, h, r => by
    obtain ⟨p, vs, e1, e2, e3, q⟩ := r
    exact ⟨p, vs, e1, e2, by rw [h p (by rw [e2]; exact List.mem_singleton.mpr rfl)]; exact e3, q.inc hF⟩
  | .dk ks ds, _, _, h, r => by
    obtain ⟨p, kvs, e1, e2, e3, k, q⟩ := r
    exact ⟨p, kvs, e1, e2, by rw [h p (by rw [e2]; exact List.mem_singleton.mpr rfl)]; exact e3, k, q.inc hF⟩
  | .di ks ts, _, _, h, r => by
    obtain ⟨p, xs, fps, e1, e2, e3, k, kk, q⟩ := r
    exact ⟨p, xs, fps, e1, e2, by rw [h p (by rw [e2]; exact List.mem_cons_self)]; exact e3, k, fun x hx => let ⟨l, a, c, b⟩ := kk x hx; ⟨l, a, c, b.inc hF⟩, RelTs.mono hF ts _ fps (fun a ha => h a (by rw [e2]; exact List.mem_cons_of_mem _ ha)) q⟩
  | .ll ts, _, _, h, r => by
    obtain ⟨p, vs, fps, e1, e2, e3, q⟩ := r
    exact ⟨p, vs, fps, e1, e2, by rw [h p (by rw [e2]; exact List.mem_cons_self)]; exact e3, RelTs.mono hF ts vs fps (fun a ha => h a (by rw [e2]; exact List.mem_cons_of_mem _ ha)) q⟩
  | .tu ts, _, _, h, r => by
    obtain ⟨p, vs, fps, e1, e2, e3, q⟩ := r
    exact ⟨p, vs, fps, e1, e2, by rw [h p (by rw [e2]; exact List.mem_cons_self)]; exact e3, RelTs.mono hF ts vs fps (fun a ha => h a (by rw [e2]; exact List.mem_cons_of_mem _ ha)) q⟩
  | .o C ns ts, _, _, h, r => by
    obtain ⟨p, dx, kvs, fps, e1, e2, e3, k, q⟩ := r
    exact ⟨p, dx, kvs, fps, e1, e2, by rw [h p (by rw [e2]; exact List.mem_cons_self)]; exact e3, k, RelTs.mono hF ts _ fps (fun a ha => h a (by rw [e2]; exact List.mem_cons_of_mem _ ha)) q⟩
  | .ln ds, _, _, h, r => by
    obtain ⟨p, vs, fr, e1, e2, e3, q, pl, nw⟩ := r
    have h' : ∀ a ∈ fr, H' a = H a := fun a ha => h a (by rw [e2]; exact List.mem_cons_of_mem _ ha)
    exact ⟨p, vs, fr, e1, e2, by rw [h p (by rw [e2]; exact List.mem_cons_self)]; exact e3, Reps.inc (mix_inc hF h') q, pl.same h', nw⟩
  | .gb l, _, _, h, r => ⟨r.1, r.2.same h⟩
  | .rg n, _, _, h, r => by
    obtain ⟨p, vs, fr, e1, e2, e3, q, pl⟩ := r
    exact ⟨p, vs, fr, e1, e2, by rw [h p (by rw [e2]; exact List.mem_cons_self)]; exact e3, q, pl.same fun a ha => h a (by rw [e2]; exact List.mem_cons_of_mem _ ha)⟩
theorem RelTs.mono {W : Wd} {F F' H H' : Hp} (hF : Inc F F') : ∀ (ts : List T) (vs : List V) (fps : List (List Addr)), (∀ a ∈ fps.flatten, H' a = H a) → RelTs W F H ts vs fps → RelTs W F' H' ts vs fps
  | [], _, _, _, r => r
  | t :: ts, _, _, h, r => by
    obtain ⟨v, vr, f, fr, e1, e2, a, b⟩ := r
    subst e2
    rw [List.flatten_cons] at h
    exact ⟨v, vr, f, fr, e1, rfl, RelT.mono hF t v f (fun x hx => h x (List.mem_append_left _ hx)) a, RelTs.mono hF ts vr fr (fun x hx => h x (List.mem_append_right _ hx)) b⟩
end
mutual
theorem RelT.there {W : Wd} {F H : Hp} : ∀ (t : T) (v : V) (fp : List Addr), RelT W F H t v fp → ∀ a ∈ fp, ∃ o, H a = some o
  | .un, _, fp, r, a, ha => by
    have r' : fp = [] := r
    subst r'
    cases ha
  | .f d, _, fp, r, a, ha => by
    have r' : fp = [] := r.1
    subst r'
    cases ha
  | .l ds, _, _, r, a, ha => by
    obtain ⟨p, vs, e1, e2, e3, q⟩ := r
    subst e2
    cases List.mem_singleton.mp ha
    exact ⟨_, e3⟩
  | .dk ks ds, _, _, r, a, ha => by
    obtain ⟨p, kvs, e1, e2, e3, k, q⟩ := r
    subst e2
    cases List.mem_singleton.mp ha
    exact ⟨_, e3⟩
  | .di ks ts, _, _, r, a, ha => by
    obtain ⟨p, xs, fps, e1, e2, e3, k, kk, q⟩ := r
    subst e2
    rcases List.mem_cons.mp ha with z | z
    · subst z; exact ⟨_, e3⟩
    · exact RelTs.there ts _ fps q a z
  | .ll ts, _, _, r, a, ha => by
    obtain ⟨p, vs, fps, e1, e2, e3, q⟩ := r
    subst e2
    rcases List.mem_cons.mp ha with z | z
    · subst z; exact ⟨_, e3⟩
    · exact RelTs.there ts vs fps q a z
  | .tu ts, _, _, r, a, ha => by
    obtain ⟨p, vs, fps, e1, e2, e3, q⟩ := r
    subst e2
    rcases List.mem_cons.mp ha with z | z
    · subst z; exact ⟨_, e3⟩
    · exact RelTs.there ts vs fps q a z
  | .o C ns ts, _, _, r, a, ha => by
    obtain ⟨p, dx, kvs, fps, e1, e2, e3, k, q⟩ := r
    subst e2
    rcases List.mem_cons.mp ha with z | z
    · subst z; exact ⟨_, e3⟩
    · exact RelTs.there ts _ fps q a z
  | .ln ds, _, _, r, a, ha => by
    obtain ⟨p, vs, fr, e1, e2, e3, q, pl, nw⟩ := r
    subst e2
    rcases List.mem_cons.mp ha with z | z
    · subst z; exact ⟨_, e3⟩
    · exact (pl a z).imp fun _ q => q.1
  | .gb l, _, _, r, a, ha => (r.2 a ha).imp fun _ q => q.1
  | .rg n, _, _, r, a, ha => by
    obtain ⟨p, vs, fr, e1, e2, e3, q, pl⟩ := r
    subst e2
    rcases List.mem_cons.mp ha with z | z
    · subst z; exact ⟨_, e3⟩
    · exact (pl a z).imp fun _ q => q.1
theorem RelTs.there {W : Wd} {F H : Hp} : ∀ (ts : List T) (vs : List V) (fps : List (List Addr)), RelTs W F H ts vs fps → ∀ a ∈ fps.flatten, ∃ o, H a = some o
  | [], _, fps, r, a, ha => by
    have r' : fps = [] := r.2
    subst r'
    cases ha
  | t :: ts, _, _, r, a, ha => by
    obtain ⟨v, vr, f, fr, e1, e2, q1, q2⟩ := r
    subst e2
    rw [List.flatten_cons] at ha
    rcases List.mem_append.mp ha with z | z
    · exact RelT.there t v f q1 a z
    · exact RelTs.there ts vr fr q2 a z
end

/-! ### the slots -/
def Slot (W : Wd) (F H : Hp) (t : T) (s : Option V) (fp : List Addr) : Prop := match s with
  | none => t = .un ∧ fp = []
  | some v => RelT W F H t v fp
def Slots (W : Wd) (F H : Hp) : List T → St → List (List Addr) → Prop
  | [], σ, fps => σ = [] ∧ fps = []
  | t :: ts, σ, fps => ∃ s sr f fr, σ = s :: sr ∧ fps = f :: fr ∧ Slot W F H t s f ∧ Slots W F H ts sr fr
theorem Slot.mono {W : Wd} {F F' H H' : Hp} (hF : Inc F F') {t : T} {s : Option V} {fp : List Addr} (h : ∀ a ∈ fp, H' a = H a) (r : Slot W F H t s fp) : Slot W F' H' t s fp := by
  cases s with
  | none => exact r
  | some v => exact RelT.mono hF t v fp h r
theorem Slots.mono {W : Wd} {F F' H H' : Hp} (hF : Inc F F') : ∀ {ts : List T} {σ : St} {fps : List (List Addr)}, (∀ a ∈ fps.flatten, H' a = H a) → Slots W F H ts σ fps → Slots W F' H' ts σ fps
  | [], _, _, _, r => r
  | t :: ts, _, _, h, r => by
    obtain ⟨v, vr, f, fr, e1, e2, a, b⟩ := r
    subst e2
    rw [List.flatten_cons] at h
    exact ⟨v, vr, f, fr, e1, rfl, a.mono hF (fun x hx => h x (List.mem_append_left _ hx)), Slots.mono hF (fun x hx => h x (List.mem_append_right _ hx)) b⟩
theorem Slots.there {W : Wd} {F H : Hp} : ∀ {ts : List T} {σ : St} {fps : List (List Addr)}, Slots W F H ts σ fps → ∀ a ∈ fps.flatten, ∃ o, H a = some o
  | [], _, fps, r, a, ha => by
    have r' : fps = [] := r.2
    subst r'
    cases ha
  | t :: ts, _, _, r, a, ha => by
    obtain ⟨s, sr, f, fr, e1, e2, q1, q2⟩ := r
    subst e2
    rw [List.flatten_cons] at ha
    rcases List.mem_append.mp ha with z | z
    · cases s with
      | none => rw [q1.2] at z; cases z
      | some v => exact RelT.there t v f q1 a z
    · exact Slots.there q2 a z
theorem Slots.len {W : Wd} {F H : Hp} : ∀ {ts : List T} {σ : St} {fps : List (List Addr)}, Slots W F H ts σ fps → ts.length = σ.length ∧ ts.length = fps.length
  | [], _, _, r => by rw [r.1, r.2]; exact ⟨rfl, rfl⟩
  | t :: ts, _, _, r => by
    obtain ⟨s, sr, f, fr, e1, e2, q1, q2⟩ := r
    have q := Slots.len q2
    rw [e1, e2]
    simp [q.1, q.2]
    omega
theorem Slots.get {W : Wd} {F H : Hp} : ∀ {ts : List T} {σ : St} {fps : List (List Addr)} {i : Nat} {t : T}, Slots W F H ts σ fps → ts[i]? = some t → ∃ s f, σ[i]? = some s ∧ fps[i]? = some f ∧ Slot W F H t s f
  | [], _, _, _, _, _, e => by simp at e
  | t :: ts, _, _, 0, u, r, e => by
    obtain ⟨s, sr, f, fr, e1, e2, q1, q2⟩ := r
    simp at e
    subst e e1 e2
    exact ⟨s, f, rfl, rfl, q1⟩
  | t :: ts, _, _, i + 1, u, r, e => by
    obtain ⟨s, sr, f, fr, e1, e2, q1, q2⟩ := r
    subst e1 e2
    obtain ⟨s', f', a, b, c⟩ := Slots.get (i := i) (t := u) q2 (by simpa using e)
    exact ⟨s', f', by simpa using a, by simpa using b, c⟩
theorem Slots.set {W : Wd} {F H : Hp} {u : T} {s' : Option V} {f' : List Addr} (h : Slot W F H u s' f') : ∀ {ts : List T} {σ : St} {fps : List (List Addr)} (i : Nat), Slots W F H ts σ fps → Slots W F H (ts.set i u) (σ.set i s') (fps.set i f')
  | [], _, _, _, r => by rw [r.1, r.2]; exact ⟨rfl, rfl⟩
  | t :: ts, _, _, 0, r => by
    obtain ⟨s, sr, f, fr, e1, e2, q1, q2⟩ := r
    subst e1 e2
    exact ⟨s', sr, f', fr, rfl, rfl, h, q2⟩
  | t :: ts, _, _, i + 1, r => by
    obtain ⟨s, sr, f, fr, e1, e2, q1, q2⟩ := r
    subst e1 e2
    exact ⟨s, sr.set i s', f, fr.set i f', rfl, rfl, q1, Slots.set h i q2⟩

/-! ### lists of addresses -/
theorem mem_set_flat {l : List (List Addr)} {i : Nat} {f : List Addr} {a : Addr} (h : a ∈ (l.set i f).flatten) : a ∈ l.flatten ∨ a ∈ f := by
  obtain ⟨g, hg, ha⟩ := List.mem_flatten.mp h
  rcases List.mem_or_eq_of_mem_set hg with z | z
  · exact .inl (List.mem_flatten.mpr ⟨g, z, ha⟩)
  · subst z; exact .inr ha
/-- one part exchanged by one of old and new places -/
theorem nodup_set : ∀ {l : List (List Addr)} {i : Nat} {f g : List Addr}, l.flatten.Nodup → l[i]? = some g → f.Nodup → (∀ a ∈ f, a ∈ g ∨ a ∉ l.flatten) → (l.set i f).flatten.Nodup
  | [], _, _, _, _, e, _, _ => by simp at e
  | x :: l, 0, f, g, n, e, nf, h => by
    simp at e
    subst e
    rw [List.flatten_cons] at n h
    rw [List.set_cons_zero, List.flatten_cons]
    have n' := List.nodup_append.mp n
    refine List.nodup_append.mpr ⟨nf, n'.2.1, fun a ha b hb e => ?_⟩
    subst e
    rcases h a ha with z | z
    · exact n'.2.2 a z a hb rfl
    · exact z (List.mem_append_right _ hb)
  | x :: l, i + 1, f, g, n, e, nf, h => by
    rw [List.flatten_cons] at n h
    rw [List.set_cons_succ, List.flatten_cons]
    have n' := List.nodup_append.mp n
    have e' : l[i]? = some g := by simpa using e
    refine List.nodup_append.mpr ⟨n'.1, nodup_set n'.2.1 e' nf (fun a ha => (h a ha).imp id fun z m => z (List.mem_append_right _ m)), fun a ha b hb e => ?_⟩
    subst e
    rcases mem_set_flat hb with z | z
    · exact n'.2.2 a ha a z rfl
    · rcases h a z with q | q
      · exact n'.2.2 a ha a (List.mem_flatten.mpr ⟨g, List.mem_of_getElem? e', q⟩) rfl
      · exact q (List.mem_append_left _ ha)

/-! ### the state -/
/-- an entry: the heap, what was deep, of each parameter what it may hold, the parameters that are handed back -/
structure Bs where
  H0 : Hp
  F0 : Hp
  As : List (List Addr)
  io : List (Nat × V)
abbrev Bs.A (b : Bs) : List Addr := b.As.flatten
/-- a thing on the way: the slot that it was taken from (none: it is new), the thing, the value -/
structure Tm where
  og : Option Nat
  t : T
  v : V
/-- an instance's class and dict stay, and what it holds by the name that stays -/
def Stb (_ : Addr → Prop) : HO → HO → Prop := fun o o' => ∀ C dx kvs, o = .ins C dx kvs → ∃ kvs', o' = .ins C dx kvs' ∧ ∀ v, kvs.lookup (Str.ofString "endings") = some v → kvs'.lookup (Str.ofString "endings") = some v
theorem Stb.refl {G : Addr → Prop} : ∀ o, Stb G o o := fun _ _ _ kvs e => ⟨kvs, e, fun _ h => h⟩
theorem Stb.trans {G G' G'' : Addr → Prop} {o o1 o2 : HO} (h1 : Stb G o o1) (h2 : Stb G' o1 o2) : Stb G'' o o2 := fun C dx kvs e =>
  let ⟨_, e1, q1⟩ := h1 C dx kvs e
  let ⟨kvs2, e2, q2⟩ := h2 C dx _ e1
  ⟨kvs2, e2, fun v h => q2 v (q1 v h)⟩
theorem Stb.lst {G : Addr → Prop} {vs : List V} {o : HO} : Stb G (.lst vs) o := fun _ _ _ e => nomatch e
theorem Stb.dk {G : Addr → Prop} {kvs : List (Key × V)} {o : HO} : Stb G (.dK kvs) o := fun _ _ _ e => nomatch e
theorem Stb.frz {G : Addr → Prop} {x : Obj} {u o : HO} : Stb G (.frz x u) o := fun _ _ _ e => nomatch e
def GB (W : Wd) (b : Bs) (a : Addr) : Prop := b.F0 a = none ∧ W.K.lookup a = none ∧ ∃ u, b.H0 a = some u
def GF (W : Wd) (F : Hp) (a : Addr) : Prop := F a = none ∧ W.K.lookup a = none
def Own (F : Hp) (l : List Addr) : Prop := l.Nodup ∧ ∀ a ∈ l, F a = none
/-- younger than the entry, or the parameter's own -/
def Frm (b : Bs) (_ : Nat) (a : Addr) : Prop := b.H0 a = none ∨ a ∈ b.A
def Og (b : Bs) (_ : Option Nat) (a : Addr) : Prop := b.H0 a = none ∨ a ∈ b.A
def LocS (b : Bs) (fps : List (List Addr)) : Prop := ∀ i f, fps[i]? = some f → ∀ a ∈ f, Frm b i a
def LocX (b : Bs) : List Tm → List (List Addr) → Prop
  | [], _ => True
  | _ :: _, [] => True
  | x :: X, f :: fs => (∀ a ∈ f, Og b x.og a) ∧ LocX b X fs
/-- slots ρ are what σ holds in H; X: what is held besides (on the way) -/
structure SR (W : Wd) (b : Bs) (F : Hp) (ρ : List T) (σ : St) (X : List Tm) (H : Hp) : Prop where
  le : Le F H
  f0 : Inc b.F0 F
  fn : ∀ a o, F a = some o → b.F0 a = some o ∨ b.H0 a = none ∨ a ∈ b.A
  kept : ∀ a o, b.H0 a = some o → a ∉ b.A → H a = some o
  stab : ∀ a o, b.H0 a = some o → a ∈ b.A → ∃ u, H a = some u ∧ Stb (GB W b) o u
  pin : (∀ p ∈ b.io, σ[p.1]? = some (some p.2)) ∧ ∀ a, b.H0 a = none ∨ a ∈ b.A → W.nw a
  ow : ∃ fps xps, Slots W F H ρ σ fps ∧ RelTs W F H (X.map (·.t)) (X.map (·.v)) xps ∧ Own F (fps.flatten ++ xps.flatten) ∧ LocS b fps ∧ LocX b X xps
theorem Frm.old {b : Bs} {i : Nat} {a : Addr} (h : Frm b i a) : b.H0 a = none ∨ a ∈ b.A := h
theorem Og.old {b : Bs} {i : Option Nat} {a : Addr} (h : Og b i a) : b.H0 a = none ∨ a ∈ b.A := h
theorem LocS.old {b : Bs} {fps : List (List Addr)} (h : LocS b fps) {a : Addr} (ha : a ∈ fps.flatten) : b.H0 a = none ∨ a ∈ b.A := by
  obtain ⟨f, hf, ha⟩ := List.mem_flatten.mp ha
  obtain ⟨i, hi⟩ := List.mem_iff_getElem?.mp hf
  exact (h i f hi a ha).old
theorem LocX.old {b : Bs} : ∀ {X : List Tm} {xps : List (List Addr)}, X.length = xps.length → LocX b X xps → ∀ {a : Addr}, a ∈ xps.flatten → b.H0 a = none ∨ a ∈ b.A
  | [], [], _, _, _, ha => by cases ha
  | [], _ :: _, e, _, _, _ => by cases e
  | x :: X, [], e, _, _, _ => by cases e
  | x :: X, f :: fs, e, h, a, ha => by
    rw [List.flatten_cons] at ha
    rcases List.mem_append.mp ha with z | z
    · exact (h.1 a z).old
    · exact LocX.old (by simpa using e) h.2 z
theorem RelTs.lenA {W : Wd} {F H : Hp} : ∀ {ts : List T} {vs : List V} {fps : List (List Addr)}, RelTs W F H ts vs fps → ts.length = vs.length ∧ ts.length = fps.length
  | [], _, _, r => by
    rw [r.1, r.2]
    exact ⟨rfl, rfl⟩
  | t :: ts, _, _, r => by
    obtain ⟨v, vr, f, fr, e1, e2, a, b⟩ := r
    have q := RelTs.lenA b
    rw [e1, e2]
    simp only [List.length_cons]
    omega
section
variable {W : Wd} {b : Bs} {F F' : Hp} {ρ : List T} {σ : St} {X : List Tm} {H H' : Hp}
/-- a free place was free at the entry -/
theorem SR.new0 {p : Addr} (S : SR W b F ρ σ X H) (hp : H p = none) : b.H0 p = none := by
  cases q : b.H0 p with
  | none => rfl
  | some u =>
    by_cases hA : p ∈ b.A
    · obtain ⟨u', z', _⟩ := S.stab p u q hA
      rw [z'] at hp
      cases hp
    · rw [S.kept p u q hA] at hp
      cases hp
/-- what does not stand yet is new -/
theorem SR.nwok (S : SR W b F ρ σ X H) : ∀ a, H a = none → W.nw a := fun _ h => S.pin.2 _ (.inl (S.new0 h))
theorem SR.len (S : SR W b F ρ σ X H) : ρ.length = σ.length := by
  obtain ⟨fps, xps, s1, _⟩ := S.ow
  exact s1.len.1
theorem SR.slot {i : Nat} {t : T} (S : SR W b F ρ σ X H) (h : ρ[i]? = some t) : ∃ s fp, σ[i]? = some s ∧ Slot W F H t s fp := by
  obtain ⟨fps, xps, s1, s2, _⟩ := S.ow
  obtain ⟨s, f, e1, _, r⟩ := s1.get h
  exact ⟨s, f, e1, r⟩
/-- nothing is changed, new things may stand -/
theorem SR.ext (S : SR W b F ρ σ X H) (hH : Same H H') (hF : Inc F F') (hL : Le F' H') (hn : ∀ a o, F' a = some o → F a = some o ∨ H a = none) : SR W b F' ρ σ X H' := by
  have S0 := S
  obtain ⟨le, f0, fn, kept, stab, pin, fps, xps, s1, s2, ⟨nd, ow⟩, lc⟩ := S
  have there : ∀ a ∈ fps.flatten ++ xps.flatten, ∃ o, H a = some o := fun a ha => by
    rcases List.mem_append.mp ha with z | z
    · exact Slots.there s1 a z
    · exact RelTs.there _ _ _ s2 a z
  have stay : ∀ a ∈ fps.flatten ++ xps.flatten, H' a = H a := fun a ha => by
    obtain ⟨o, e⟩ := there a ha
    rw [e]
    exact hH _ _ e
  refine ⟨hL, f0.trans hF, fun a o e => ?_, fun a o e na => hH _ _ (kept a o e na), fun a o e ha => (stab a o e ha).elim fun u q => ⟨u, hH _ _ q.1, q.2⟩, pin, fps, xps, s1.mono hF (fun a ha => stay a (List.mem_append_left _ ha)), RelTs.mono hF _ _ _ (fun a ha => stay a (List.mem_append_right _ ha)) s2, ⟨nd, fun a ha => ?_⟩, lc⟩
  · rcases hn a o e with z | z
    · exact fn a o z
    · exact .inr (.inl (S0.new0 z))
  · cases q : F' a with
    | none => rfl
    | some u =>
      obtain ⟨o, e⟩ := there a ha
      rcases hn a u q with z | z
      · rw [ow a ha] at z; cases z
      · rw [e] at z; cases z
/-- a new thing is laid, for ever -/
theorem SR.laid (S : SR W b F ρ σ X H) {p : Addr} {o : HO} (hp : H p = none) : SR W b (upd F p o) ρ σ X (upd H p o) ∧ Inc F (upd F p o) ∧ Same H (upd H p o) := by
  have hF : F p = none := S.le.none hp
  have i1 : Inc F (upd F p o) := fun a u e => by rw [upd_ne (ne_of_none e hF)]; exact e
  have i2 : Same H (upd H p o) := fun a u e => by rw [upd_ne (ne_of_none e hp)]; exact e
  refine ⟨S.ext i2 i1 (fun a u e => ?_) (fun a u e => ?_), i1, i2⟩
  · by_cases h : a = p
    · subst h
      rw [upd_same] at e ⊢
      exact .inl e
    · rw [upd_ne h] at e ⊢
      exact S.le a u e
  · by_cases h : a = p
    · subst h; exact .inr hp
    · rw [upd_ne h] at e
      exact .inl e
/-- a new thing is laid that may be changed -/
theorem SR.own (S : SR W b F ρ σ X H) {p : Addr} {o : HO} {t : T} (hp : H p = none) (ht : RelT W F (upd H p o) t (.ref p) [p]) : SR W b F ρ σ (⟨none, t, .ref p⟩ :: X) (upd H p o) := by
  have hF : F p = none := S.le.none hp
  have hnew := S.new0 hp
  have i2 : Same H (upd H p o) := fun a u e => by rw [upd_ne (ne_of_none e hp)]; exact e
  obtain ⟨fps0, xps0, t1, t2, _⟩ := S.ow
  have S' := S.ext (F' := F) i2 (Inc.refl F) (S.le.inc i2) (fun a u e => .inl e)
  obtain ⟨le, f0, fn, kept, stab, pin, _⟩ := S'
  obtain ⟨_, _, _, _, _, _, fps0, xps0, t1, t2, ⟨nd0, ow0⟩, lc1, lc2⟩ := S
  have there : ∀ a ∈ fps0.flatten ++ xps0.flatten, a ≠ p := fun a ha e => by
    subst e
    have : ∃ o, H a = some o := by
      rcases List.mem_append.mp ha with z | z
      · exact Slots.there t1 a z
      · exact RelTs.there _ _ _ t2 a z
    obtain ⟨o, q⟩ := this
    rw [q] at hp
    cases hp
  have stay : ∀ a ∈ fps0.flatten ++ xps0.flatten, (upd H p o) a = H a := fun a ha => upd_ne (there a ha)
  refine ⟨le, f0, fn, kept, stab, pin, fps0, [p] :: xps0, t1.mono (Inc.refl F) (fun a ha => stay a (List.mem_append_left _ ha)), ⟨_, _, _, _, rfl, rfl, ht, RelTs.mono (Inc.refl F) _ _ _ (fun a ha => stay a (List.mem_append_right _ ha)) t2⟩, ⟨?_, fun a ha => ?_⟩, lc1, fun a ha => .inl (by rw [List.mem_singleton.mp ha]; exact hnew), lc2⟩
  · rw [List.flatten_cons]
    have n := List.nodup_append.mp nd0
    refine List.nodup_append.mpr ⟨n.1, List.nodup_append.mpr ⟨by simp, n.2.1, fun a ha c hc e => ?_⟩, fun a ha c hc e => ?_⟩
    · have z := List.mem_singleton.mp ha
      rw [← e, z] at hc
      exact there p (List.mem_append_right _ hc) rfl
    · subst e
      rcases List.mem_append.mp hc with z | z
      · have z := List.mem_singleton.mp z
        rw [z] at ha
        exact there p (List.mem_append_left _ ha) rfl
      · exact n.2.2 a ha a z rfl
  · rw [List.flatten_cons] at ha
    rcases List.mem_append.mp ha with z | z
    · exact ow0 a (List.mem_append_left _ z)
    · rcases List.mem_append.mp z with z | z
      · rw [List.mem_singleton.mp z]; exact hF
      · exact ow0 a (List.mem_append_right _ z)
/-- what is held besides is dropped -/
theorem SR.drop {x : Tm} (S : SR W b F ρ σ (x :: X) H) : SR W b F ρ σ X H := by
  obtain ⟨le, f0, fn, kept, stab, pin, fps, xps, s1, s2, ⟨nd, ow⟩, lc1, lc2⟩ := S
  obtain ⟨v, vr, f, fr, e1, e2, r1, r2⟩ := s2
  subst e2
  have e3 : X.map (·.v) = vr := (List.cons.inj e1).2
  subst e3
  have sub : List.Sublist (fps.flatten ++ fr.flatten) (fps.flatten ++ (f :: fr).flatten) := by
    rw [List.flatten_cons]
    exact List.Sublist.append (List.Sublist.refl _) (List.sublist_append_right _ _)
  exact ⟨le, f0, fn, kept, stab, pin, fps, fr, s1, r2, ⟨nd.sublist sub, fun a ha => ow a (sub.subset ha)⟩, lc1, lc2.2⟩
/-- the last thing held, as deep data -/
theorem SR.top {d : D} {v : V} {o : Option Nat} (S : SR W b F ρ σ (⟨o, .f d, v⟩ :: X) H) : Rep W F d v := by
  obtain ⟨fps, xps, s1, s2, _⟩ := S.ow
  obtain ⟨v', vr, f, fr, e1, e2, r1, r2⟩ := s2
  have e3 : v = v' := (List.cons.inj e1).1
  subst e3
  exact r1.2
theorem SR.push {d : D} {v : V} {o : Option Nat} (S : SR W b F ρ σ X H) (r : Rep W F d v) : SR W b F ρ σ (⟨o, .f d, v⟩ :: X) H := by
  obtain ⟨le, f0, fn, kept, stab, pin, fps, xps, s1, s2, ⟨nd, ow⟩, lc1, lc2⟩ := S
  exact ⟨le, f0, fn, kept, stab, pin, fps, [] :: xps, s1, ⟨_, _, _, _, rfl, rfl, ⟨rfl, r⟩, s2⟩, ⟨by rw [List.flatten_cons]; exact nd, fun a ha => ow a (by rw [List.flatten_cons] at ha; exact ha)⟩, lc1, ⟨fun a ha => (by cases ha), lc2⟩⟩
/-- the last thing held is stored in a slot -/
theorem SR.store {t : T} {v : V} {i : Nat} {o : Option Nat} (S : SR W b F ρ σ (⟨o, t, v⟩ :: X) H) (ho : o = none ∨ o = some i) (hio : (∀ p ∈ b.io, p.1 ≠ i) ∨ σ[i]? = some (some v)) : SR W b F (ρ.set i t) (σ.set i (some v)) X H := by
  by_cases hi : i < ρ.length
  · obtain ⟨le, f0, fn, kept, stab, pin, fps, xps, s1, s2, ⟨nd, ow⟩, lc1, lc2⟩ := S
    obtain ⟨v', vr, f, fr, e1, e2, r1, r2⟩ := s2
    subst e2
    have e3 : v = v' := (List.cons.inj e1).1
    have e4 : X.map (·.v) = vr := (List.cons.inj e1).2
    subst e3 e4
    have hl := s1.len
    obtain ⟨g, hg⟩ : ∃ g, fps[i]? = some g := ⟨fps[i]'(by omega), List.getElem?_eq_getElem _⟩
    rw [List.flatten_cons] at nd ow
    have n := List.nodup_append.mp nd
    have n2 := List.nodup_append.mp n.2.1
    refine ⟨le, f0, fn, kept, stab, ⟨fun p hp => ?_, pin.2⟩, fps.set i f, fr, Slots.set (s' := some v) r1 i s1, r2, ⟨?_, fun a ha => ?_⟩, fun j g hj a ha => ?_, lc2.2⟩
    · by_cases e : p.1 = i
      · rcases hio with z | z
        · exact absurd e (z p hp)
        · have := pin.1 p hp
          rw [e, z] at this
          rw [e, List.getElem?_set_self (by omega)]
          exact this
      · rw [List.getElem?_set_ne (fun q => e q.symm)]
        exact pin.1 p hp
    · refine List.nodup_append.mpr ⟨nodup_set n.1 hg n2.1 (fun a ha => .inr fun m => n.2.2 a m a (List.mem_append_left _ ha) rfl), n2.2.1, fun a ha c hc e => ?_⟩
      subst e
      rcases mem_set_flat ha with z | z
      · exact n.2.2 a z a (List.mem_append_right _ hc) rfl
      · exact n2.2.2 a z a hc rfl
    · rcases List.mem_append.mp ha with z | z
      · rcases mem_set_flat z with z | z
        · exact ow a (List.mem_append_left _ z)
        · exact ow a (List.mem_append_right _ (List.mem_append_left _ z))
      · exact ow a (List.mem_append_right _ (List.mem_append_right _ z))
    · by_cases hij : j = i
      · subst hij
        rw [List.getElem?_set_self (by omega)] at hj
        cases hj
        exact lc2.1 a ha
      · rw [List.getElem?_set_ne (fun e => hij e.symm)] at hj
        exact lc1 j g hj a ha
  · have S' := S.drop
    rw [List.set_eq_of_length_le (by omega), List.set_eq_of_length_le (by have := S.len; omega)]
    exact S'
/-- a slot's thing is taken out -/
theorem SR.take {t : T} {v : V} {i : Nat} (S : SR W b F ρ σ X H) (hi : ρ[i]? = some t) (hv : σ[i]? = some (some v)) : SR W b F (ρ.set i .un) σ (⟨some i, t, v⟩ :: X) H := by
  obtain ⟨le, f0, fn, kept, stab, pin, fps, xps, s1, s2, ⟨nd, ow⟩, lc1, lc2⟩ := S
  obtain ⟨s, f, e1, e2, r⟩ := s1.get hi
  rw [hv] at e1
  cases e1
  have hl := s1.len
  have hlt : i < fps.length := (List.getElem?_eq_some_iff.mp e2).1
  have s1' : Slots W F H (ρ.set i .un) (σ.set i (some v)) (fps.set i []) := Slots.set (s' := some v) (u := .un) (f' := []) rfl i s1
  have eσ : σ.set i (some v) = σ := by
    apply List.ext_getElem?
    intro j
    by_cases h : j = i
    · subst h
      rw [List.getElem?_set_self (by omega), hv]
    · rw [List.getElem?_set_ne (fun e => h e.symm)]
  rw [eσ] at s1'
  have n := List.nodup_append.mp nd
  have hf : ∀ a ∈ f, a ∈ fps.flatten := fun a ha => List.mem_flatten.mpr ⟨f, List.mem_of_getElem? e2, ha⟩
  have nset : (fps.set i []).flatten.Nodup := nodup_set n.1 e2 List.nodup_nil (fun a ha => nomatch ha)
  have mset : ∀ a ∈ (fps.set i []).flatten, a ∈ fps.flatten := fun a ha => (mem_set_flat ha).elim id fun z => nomatch z
  have nf : f.Nodup := (List.sublist_flatten_of_mem (List.mem_of_getElem? e2)).nodup n.1
  have dj : ∀ a ∈ (fps.set i []).flatten, a ∉ f := by
    have key : ∀ {l : List (List Addr)} {i : Nat} {f : List Addr}, l.flatten.Nodup → l[i]? = some f → ∀ a ∈ (l.set i []).flatten, a ∉ f := by
      intro l
      induction l with
      | nil => intro i f _ e; simp at e
      | cons x l ih =>
        intro i f nd e a ha hf
        rw [List.flatten_cons] at nd
        have n := List.nodup_append.mp nd
        cases i with
        | zero =>
          simp at e
          subst e
          rw [List.set_cons_zero, List.flatten_cons, List.nil_append] at ha
          exact n.2.2 a hf a ha rfl
        | succ i =>
          rw [List.set_cons_succ, List.flatten_cons] at ha
          have e' : l[i]? = some f := by simpa using e
          rcases List.mem_append.mp ha with z | z
          · exact n.2.2 a z a (List.mem_flatten.mpr ⟨f, List.mem_of_getElem? e', hf⟩) rfl
          · exact ih n.2.1 e' a z hf
    exact key n.1 e2
  refine ⟨le, f0, fn, kept, stab, pin, fps.set i [], f :: xps, s1', ⟨_, _, _, _, rfl, rfl, r, s2⟩, ⟨?_, fun a ha => ?_⟩, fun j g hj a ha => ?_, fun a ha => lc1 i f e2 a ha, lc2⟩
  · rw [List.flatten_cons]
    refine List.nodup_append.mpr ⟨nset, List.nodup_append.mpr ⟨nf, n.2.1, fun a ha c hc e => ?_⟩, fun a ha c hc e => ?_⟩
    · exact n.2.2 a (hf a ha) c hc e
    · subst e
      rcases List.mem_append.mp hc with z | z
      · exact dj a ha z
      · exact n.2.2 a (mset a ha) a z rfl
  · rw [List.flatten_cons] at ha
    rcases List.mem_append.mp ha with z | z
    · exact ow a (List.mem_append_left _ (mset a z))
    · rcases List.mem_append.mp z with z | z
      · exact ow a (List.mem_append_left _ (hf a z))
      · exact ow a (List.mem_append_right _ z)
  · by_cases hij : j = i
    · subst hij
      rw [List.getElem?_set_self hlt] at hj
      cases hj
      cases ha
    · rw [List.getElem?_set_ne (fun e => hij e.symm)] at hj
      exact lc1 j g hj a ha
/-- .. and put back -/
theorem SR.back {t : T} {v : V} {i : Nat} (S : SR W b F ρ σ (⟨some i, t, v⟩ :: X) H) (hv : σ[i]? = some (some v)) : SR W b F (ρ.set i t) σ X H := by
  have S' := S.store (.inr rfl) (.inr hv)
  have eσ : σ.set i (some v) = σ := by
    apply List.ext_getElem?
    intro j
    by_cases h : j = i
    · subst h
      have hlt : j < σ.length := (List.getElem?_eq_some_iff.mp hv).1
      rw [List.getElem?_set_self hlt, hv]
    · rw [List.getElem?_set_ne (fun e => h e.symm)]
  rw [eσ] at S'
  exact S'
end
end Z

namespace Z
open PySem L2

/-! ### what is seen of a thing -/
def RelV (W : Wd) (F H : Hp) (t : T) (v : V) : Prop := ∃ fp, RelT W F H t v fp
theorem RelV.f {W : Wd} {F H : Hp} {d : D} {v : V} (r : Rep W F d v) : RelV W F H (.f d) v := ⟨[], rfl, r⟩
theorem RelV.rep {W : Wd} {F H : Hp} {d : D} {v : V} (r : RelV W F H (.f d) v) : Rep W F d v := r.elim fun _ q => q.2
theorem RelV.ext {W : Wd} {F F' H H' : Hp} {t : T} {v : V} (r : RelV W F H t v) (hF : Inc F F') (hH : Same H H') : RelV W F' H' t v := by
  obtain ⟨fp, r⟩ := r
  refine ⟨fp, RelT.mono hF t v fp (fun a ha => ?_) r⟩
  obtain ⟨o, e⟩ := RelT.there t v fp r a ha
  rw [e]
  exact hH _ _ e

def T.i? : T → Option Int | .f (.int i) => some i | _ => none
def T.s? : T → Option Str | .f (.str x) => some x | _ => none
def T.b? : T → Option Bool | .f (.bl b) => some b | _ => none
def T.d? : T → Option D | .f d => some d | _ => none
def T.ls? : T → Option (List D) | .f (.lst xs) => some xs | .f (.nst xs) => some xs | .l xs => some xs | _ => none
def T.ts? : T → Option (List D) | .f (.tup xs) => some xs | _ => none
def T.sq? : T → Option (List D) | .f (.lst xs) => some xs | .f (.nst xs) => some xs | .l xs => some xs | .f (.tup xs) => some xs | _ => none
def T.dk? : T → Option (List Key × List D) | .f (.dct ks ds) => some (ks, ds) | .dk ks ds => some (ks, ds) | _ => none
/-- int keys, text keys -/
def T.key? : T → Option Key | .f (.int i) => some (.inl i) | .f (.str x) => some (.inr x) | _ => none

section
variable {W : Wd} {F H : Hp} {t : T} {v : V}
theorem RelV.int {i : Int} (r : RelV W F H t v) (h : t.i? = some i) : v = .int i := by
  cases t with
  | f d => cases d with
    | int j => cases h; exact r.rep
    | _ => cases h
  | _ => cases h
theorem RelV.str {x : Str} (r : RelV W F H t v) (h : t.s? = some x) : v = .str x := by
  cases t with
  | f d => cases d with
    | str j => cases h; exact r.rep
    | _ => cases h
  | _ => cases h
theorem RelV.bl {x : Bool} (r : RelV W F H t v) (h : t.b? = some x) : v = .bl x := by
  cases t with
  | f d => cases d with
    | bl j => cases h; exact r.rep
    | _ => cases h
  | _ => cases h
theorem RelV.key {k : Key} (r : RelV W F H t v) (h : t.key? = some k) : v = kV k := by
  cases t with
  | f d => cases d with
    | int j => cases h; exact r.rep
    | str j => cases h; exact r.rep
    | _ => cases h
  | _ => cases h
theorem RelV.ls {ds : List D} (r : RelV W F H t v) (h : t.ls? = some ds) (le : Le F H) : ∃ p vs, v = .ref p ∧ SqL W.K H p vs ∧ Reps W F ds vs := by
  cases t with
  | f d => cases d with
    | lst l =>
      cases h
      obtain ⟨p, vs, e, s, q⟩ := r.rep
      exact ⟨p, vs, e, SqL.le le s, q⟩
    | nst l =>
      cases h
      obtain ⟨p, vs, e, s, _, q⟩ := r.rep
      exact ⟨p, vs, e, SqL.le le (.inl (.inl s)), q⟩
    | _ => cases h
  | l l =>
    cases h
    obtain ⟨fp, p, vs, e, _, s, q⟩ := r
    exact ⟨p, vs, e, .inl (.inl s), q⟩
  | _ => cases h
theorem RelV.ts {ds : List D} (r : RelV W F H t v) (h : t.ts? = some ds) (le : Le F H) : ∃ p vs, v = .ref p ∧ SqT W.K H p vs ∧ Reps W F ds vs := by
  cases t with
  | f d => cases d with
    | tup l =>
      cases h
      obtain ⟨p, vs, e, s, q⟩ := r.rep
      exact ⟨p, vs, e, SqT.le le s, q⟩
    | _ => cases h
  | _ => cases h
theorem RelV.sq {ds : List D} (r : RelV W F H t v) (h : t.sq? = some ds) (le : Le F H) : ∃ p vs, v = .ref p ∧ (SqL W.K H p vs ∨ SqT W.K H p vs) ∧ Reps W F ds vs := by
  cases t with
  | f d => cases d with
    | tup l =>
      cases h
      obtain ⟨p, vs, e, s, q⟩ := r.rep
      exact ⟨p, vs, e, .inr (SqT.le le s), q⟩
    | lst l =>
      cases h
      obtain ⟨p, vs, e, s, q⟩ := r.rep
      exact ⟨p, vs, e, .inl (SqL.le le s), q⟩
    | nst l =>
      cases h
      obtain ⟨p, vs, e, s, _, q⟩ := r.rep
      exact ⟨p, vs, e, .inl (SqL.le le (.inl (.inl s))), q⟩
    | _ => cases h
  | l l =>
    cases h
    obtain ⟨fp, p, vs, e, _, s, q⟩ := r
    exact ⟨p, vs, e, .inl (.inl (.inl s)), q⟩
  | _ => cases h
theorem RelV.dk {ks : List Key} {ds : List D} (r : RelV W F H t v) (h : t.dk? = some (ks, ds)) (le : Le F H) : ∃ p kvs, v = .ref p ∧ Rd H p (.dK kvs) ∧ kvs.map (·.1) = ks ∧ Reps W F ds (kvs.map (·.2)) := by
  cases t with
  | f d => cases d with
    | dct a b =>
      cases h
      obtain ⟨p, kvs, e, s, k, q⟩ := r.rep
      exact ⟨p, kvs, e, Rd.le le s, k, q⟩
    | _ => cases h
  | dk a b =>
    cases h
    obtain ⟨fp, p, kvs, e, _, s, k, q⟩ := r
    exact ⟨p, kvs, e, .inl s, k, q⟩
  | _ => cases h
end

theorem Reps.len {W : Wd} {F : Hp} : ∀ {ds : List D} {vs : List V}, Reps W F ds vs → ds.length = vs.length
  | [], _, r => by
    have r' : _ = [] := r
    rw [r']
    rfl
  | d :: ds, _, r => by
    obtain ⟨v, vr, e, a, b⟩ := r
    rw [e, List.length_cons, List.length_cons, Reps.len b]
theorem Reps.get {W : Wd} {F : Hp} : ∀ {ds : List D} {vs : List V} {i : Nat} {d : D}, Reps W F ds vs → ds[i]? = some d → ∃ v, vs[i]? = some v ∧ Rep W F d v
  | [], _, _, _, _, e => by simp at e
  | d :: ds, _, 0, _, r, e => by
    obtain ⟨v, vr, e1, a, b⟩ := r
    simp at e
    subst e e1
    exact ⟨v, rfl, a⟩
  | d :: ds, _, i + 1, _, r, e => by
    obtain ⟨v, vr, e1, a, b⟩ := r
    subst e1
    obtain ⟨u, h1, h2⟩ := Reps.get b (by simpa using e)
    exact ⟨u, by simpa using h1, h2⟩
theorem Reps.append {W : Wd} {F : Hp} : ∀ {ds es : List D} {vs us : List V}, Reps W F ds vs → Reps W F es us → Reps W F (ds ++ es) (vs ++ us)
  | [], _, _, _, r, q => by
    have r' : _ = [] := r
    subst r'
    exact q
  | d :: ds, _, _, _, r, q => by
    obtain ⟨v, vr, e, a, b⟩ := r
    subst e
    exact ⟨v, _, rfl, a, Reps.append b q⟩
theorem Reps.take {W : Wd} {F : Hp} : ∀ {ds : List D} {vs : List V} (n : Nat), Reps W F ds vs → Reps W F (ds.take n) (vs.take n)
  | _, _, 0, _ => rfl
  | [], _, n + 1, r => by
    have r' : _ = [] := r
    subst r'
    exact rfl
  | d :: ds, _, n + 1, r => by
    obtain ⟨v, vr, e, a, b⟩ := r
    subst e
    exact ⟨v, _, rfl, a, Reps.take n b⟩
theorem Reps.drop {W : Wd} {F : Hp} : ∀ {ds : List D} {vs : List V} (n : Nat), Reps W F ds vs → Reps W F (ds.drop n) (vs.drop n)
  | _, _, 0, r => r
  | [], _, n + 1, r => by
    have r' : _ = [] := r
    subst r'
    exact rfl
  | d :: ds, _, n + 1, r => by
    obtain ⟨v, vr, e, a, b⟩ := r
    subst e
    exact Reps.drop n b
theorem Reps.set {W : Wd} {F : Hp} {d' : D} {v' : V} (h : Rep W F d' v') : ∀ {ds : List D} {vs : List V} (n : Nat), Reps W F ds vs → Reps W F (ds.set n d') (vs.set n v')
  | [], _, n, r => by
    have r' : _ = [] := r
    subst r'
    exact rfl
  | d :: ds, _, 0, r => by
    obtain ⟨v, vr, e, a, b⟩ := r
    subst e
    exact ⟨v', _, rfl, h, b⟩
  | d :: ds, _, n + 1, r => by
    obtain ⟨v, vr, e, a, b⟩ := r
    subst e
    exact ⟨v, _, rfl, a, Reps.set h n b⟩
theorem Reps.ints {W : Wd} {F : Hp} : ∀ {ns : List Int} {vs : List V}, Reps W F (ns.map D.int) vs → vs = ns.map V.int
  | [], _, r => r
  | n :: ns, _, r => by
    obtain ⟨v, vr, e, a, b⟩ := r
    have a' : v = .int n := a
    rw [e, a', Reps.ints b]
    rfl
theorem Reps.strs {W : Wd} {F : Hp} : ∀ {ns : List Str} {vs : List V}, Reps W F (ns.map D.str) vs → vs = ns.map V.str
  | [], _, r => r
  | n :: ns, _, r => by
    obtain ⟨v, vr, e, a, b⟩ := r
    have a' : v = .str n := a
    rw [e, a', Reps.strs b]
    rfl
theorem Reps.bls {W : Wd} {F : Hp} : ∀ {ns : List Bool} {vs : List V}, Reps W F (ns.map D.bl) vs → vs = ns.map V.bl
  | [], _, r => r
  | n :: ns, _, r => by
    obtain ⟨v, vr, e, a, b⟩ := r
    have a' : v = .bl n := a
    rw [e, a', Reps.bls b]
    rfl
theorem Reps.of_ints {W : Wd} {F : Hp} : ∀ (ns : List Int), Reps W F (ns.map D.int) (ns.map V.int)
  | [] => rfl
  | n :: ns => ⟨_, _, rfl, rfl, Reps.of_ints ns⟩
theorem Reps.of_strs {W : Wd} {F : Hp} : ∀ (ns : List Str), Reps W F (ns.map D.str) (ns.map V.str)
  | [] => rfl
  | n :: ns => ⟨_, _, rfl, rfl, Reps.of_strs ns⟩

/-! ### judgements -/
/-- what is wanted of a pure thing's value -/
def Kp (W : Wd) (b : Bs) (F : Hp) (ρ : List T) (σ : St) (X : List Tm) (H : Hp) (t : T) (Q : VK) : Prop :=
  ∀ v F' H', SR W b F' ρ σ X H' → Inc F F' → Same H H' → RelV W F' H' t v → Q v H'
def Sv (W : Wd) (t : TE) (f : List T → Option T) : Prop :=
  ∀ b F ρ σ X H τ Q, SR W b F ρ σ X H → f ρ = some τ → Kp W b F ρ σ X H τ Q → t σ H Q
def Stv (W : Wd) (t : TT) (f : List T → Option Bool) : Prop :=
  ∀ b F ρ σ X H c Q, SR W b F ρ σ X H → f ρ = some c → (∀ F' H', SR W b F' ρ σ X H' → Inc F F' → Same H H' → Q c H') → t σ H Q
/-- arguments -/
def RelVs (W : Wd) (F H : Hp) (ts : List T) (vs : List V) : Prop := ∃ fps, RelTs W F H ts vs fps
def Sav (W : Wd) (t : TA) (f : List T → Option (List T)) : Prop :=
  ∀ b F ρ σ X H τs Q, SR W b F ρ σ X H → f ρ = some τs → (∀ vs F' H', SR W b F' ρ σ X H' → Inc F F' → Same H H' → RelVs W F' H' τs vs → Q vs H') → t σ H Q

theorem RelVs.ext {W : Wd} {F F' H H' : Hp} {ts : List T} {vs : List V} (r : RelVs W F H ts vs) (hF : Inc F F') (hH : Same H H') : RelVs W F' H' ts vs := by
  obtain ⟨fp, r⟩ := r
  refine ⟨fp, RelTs.mono hF ts vs fp (fun a ha => ?_) r⟩
  obtain ⟨o, e⟩ := RelTs.there ts vs fp r a ha
  rw [e]
  exact hH _ _ e
theorem RelVs.nil {W : Wd} {F H : Hp} : RelVs W F H [] [] := ⟨[], rfl, rfl⟩
theorem RelVs.cons {W : Wd} {F H : Hp} {t : T} {v : V} {ts : List T} {vs : List V} (a : RelV W F H t v) (b : RelVs W F H ts vs) : RelVs W F H (t :: ts) (v :: vs) := by
  obtain ⟨f, a⟩ := a
  obtain ⟨fs, b⟩ := b
  exact ⟨f :: fs, _, _, _, _, rfl, rfl, a, b⟩
theorem RelVs.inv {W : Wd} {F H : Hp} {t : T} {ts : List T} {vs : List V} (r : RelVs W F H (t :: ts) vs) : ∃ v vr, vs = v :: vr ∧ RelV W F H t v ∧ RelVs W F H ts vr := by
  obtain ⟨fs, v, vr, f, fr, e1, e2, a, b⟩ := r
  exact ⟨v, vr, e1, ⟨f, a⟩, ⟨fr, b⟩⟩
theorem RelVs.inv0 {W : Wd} {F H : Hp} {vs : List V} (r : RelVs W F H [] vs) : vs = [] := r.elim fun _ q => q.1

section
variable {W : Wd} {b : Bs} {F : Hp} {ρ : List T} {σ : St} {X : List Tm} {H : Hp} {Q : VK}
/-- the value is there -/
theorem Kp.here {t : T} {v : V} (k : Kp W b F ρ σ X H t Q) (S : SR W b F ρ σ X H) (r : RelV W F H t v) : Q v H := k v F H S (Inc.refl F) (Same.refl H) r
theorem Kp.d {d : D} {v : V} (k : Kp W b F ρ σ X H (.f d) Q) (S : SR W b F ρ σ X H) (r : Rep W F d v) : Q v H := k.here S (.f r)
/-- the value is new -/
theorem Kp.new {d : D} {o : HO} (k : Kp W b F ρ σ X H (.f d) Q) (S : SR W b F ρ σ X H) (r : ∀ p, H p = none → Inc F (upd F p o) → Rep W (upd F p o) d (.ref p)) : ∀ p, H p = none → Q (.ref p) (upd H p o) := fun p hp => by
  obtain ⟨S', i, s⟩ := S.laid (o := o) hp
  exact k _ _ _ S' i s (.f (r p hp i))
theorem Kp.lst {ds : List D} {vs : List V} (k : Kp W b F ρ σ X H (.f (.lst ds)) Q) (S : SR W b F ρ σ X H) (r : Reps W F ds vs) : ∀ p, H p = none → Q (.ref p) (upd H p (.lst vs)) :=
  k.new S fun p hp i => ⟨p, vs, rfl, .inl (.inl upd_same), r.inc i⟩
theorem Kp.tup {ds : List D} {vs : List V} (k : Kp W b F ρ σ X H (.f (.tup ds)) Q) (S : SR W b F ρ σ X H) (r : Reps W F ds vs) : ∀ p, H p = none → Q (.ref p) (upd H p (.tup vs)) :=
  k.new S fun p hp i => ⟨p, vs, rfl, .inl (.inl upd_same), r.inc i⟩
theorem Kp.mono {F1 H1 : Hp} {t : T} (k : Kp W b F ρ σ X H t Q) (i : Inc F F1) (s : Same H H1) : Kp W b F1 ρ σ X H1 t Q := fun v F' H' S' i' s' r => k v F' H' S' (i.trans i') (s.trans s') r
end

/-- rules by values -/
def S2 (W : Wd) (r : R2) (g : T → T → Option T) : Prop :=
  ∀ b F ρ σ X H t1 t2 τ x y Q, SR W b F ρ σ X H → RelV W F H t1 x → RelV W F H t2 y → g t1 t2 = some τ → Kp W b F ρ σ X H τ Q → r x y H Q
def S1 (W : Wd) (r : V → Hp → VK → Prop) (g : T → Option T) : Prop :=
  ∀ b F ρ σ X H t1 τ x Q, SR W b F ρ σ X H → RelV W F H t1 x → g t1 = some τ → Kp W b F ρ σ X H τ Q → r x H Q
def Sn (W : Wd) (r : List V → Hp → VK → Prop) (g : List T → Option T) : Prop :=
  ∀ b F ρ σ X H ts τ xs Q, SR W b F ρ σ X H → RelVs W F H ts xs → g ts = some τ → Kp W b F ρ σ X H τ Q → r xs H Q
def or2 (g h : T → T → Option T) : T → T → Option T := fun a b => (g a b).orElse fun _ => h a b
def orn (g h : List T → Option T) : List T → Option T := fun a => (g a).orElse fun _ => h a
theorem S2.or {W : Wd} {r r' : R2} {g h : T → T → Option T} (a : S2 W r g) (b : S2 W r' h) : S2 W (fun x y H Q => r x y H Q ∨ r' x y H Q) (or2 g h) := by
  intro bs F ρ σ X H t1 t2 τ x y Q S r1 r2 e k
  unfold or2 at e
  cases q : g t1 t2 with
  | some z =>
    rw [q] at e
    exact .inl (a bs F ρ σ X H t1 t2 τ x y Q S r1 r2 (q.trans e) k)
  | none =>
    rw [q] at e
    exact .inr (b bs F ρ σ X H t1 t2 τ x y Q S r1 r2 e k)
theorem Sn.or {W : Wd} {r r' : List V → Hp → VK → Prop} {g h : List T → Option T} (a : Sn W r g) (b : Sn W r' h) : Sn W (fun x H Q => r x H Q ∨ r' x H Q) (orn g h) := by
  intro bs F ρ σ X H t1 τ x Q S r1 e k
  unfold orn at e
  cases q : g t1 with
  | some z =>
    rw [q] at e
    exact .inl (a bs F ρ σ X H t1 τ x Q S r1 (q.trans e) k)
  | none =>
    rw [q] at e
    exact .inr (b bs F ρ σ X H t1 τ x Q S r1 e k)
theorem OpR_or {X : Cx} {f : Value → Value → Sem Value} {r r' : R2} (h : OpR X f r) (h' : OpR X f r') : OpR X f (fun x y H Q => r x y H Q ∨ r' x y H Q) := by
  intro pins s σ H x y v u Q I rx ry q
  rcases q with q | q
  · exact h pins s σ H x y v u Q I rx ry q
  · exact h' pins s σ H x y v u Q I rx ry q
theorem CallR_or {X : Cx} {f : Value} {r r' : List V → Hp → VK → Prop} (h : CallR X f r) (h' : CallR X f r') : CallR X f (fun x H Q => r x H Q ∨ r' x H Q) := by
  intro pins s σ H x v Q I rx q
  rcases q with q | q
  · exact h pins s σ H x v Q I rx q
  · exact h' pins s σ H x v Q I rx q

/-! ### the whole: a thing of syntax, in a family of contexts -/
/-- how many parameters, which are handed back -/
structure Sg where
  m : Nat
  io : List Nat
  al : List (Nat × Nat)
structure Ctx where
  J : Type
  X : J → Cx
  W : Wd
  P : Sg
  E : St → XK
  N : List Str
  k : Nat
  hK : ∀ j, (X j).K = W.K
  hw : ∀ j, (X j).w = W.w
  hN : ∀ j, (X j).N = N
  nd : N.Nodup
  calm : ∀ j, (X j).calm = true
  room : ∀ j, Room k (X j).A
theorem Ctx.hu (c : Ctx) (j : c.J) : (c.X j).A.units + 64 < cLine := by have := (c.room j).un; omega
theorem Ctx.hu1 (c : Ctx) (j : c.J) : (c.X j).A.units + 1 < cLine := by have := (c.room j).un; omega
theorem Ctx.hNd (c : Ctx) (j : c.J) : (c.X j).N.Nodup := by rw [c.hN j]; exact c.nd

def Ev (c : Ctx) (e : Expr) (f : List T → Option T) : Prop := ∃ t, (∀ j, PE (c.X j) e t) ∧ Sv c.W t f
def Tv (c : Ctx) (e : Expr) (f : List T → Option Bool) : Prop := ∃ t, (∀ j, PT (c.X j) e t) ∧ Stv c.W t f
def Av (c : Ctx) (es : List Expr) (f : List T → Option (List T)) : Prop := ∃ t, (∀ j, PA (c.X j) es t) ∧ Sav c.W t f

/-! ### pure expressions -/
def fVar (i : Nat) : List T → Option T := fun ρ => match ρ[i]? with
  | some .un => none
  | r => r
def fC (d : D) : List T → Option T := fun _ => some (.f d)
def f1 (g : T → Option T) (a : List T → Option T) : List T → Option T := fun ρ => (a ρ).bind g
def f2 (g : T → T → Option T) (a b : List T → Option T) : List T → Option T := fun ρ => (a ρ).bind fun x => (b ρ).bind fun y => g x y
def fN (g : List T → Option T) (a : List T → Option (List T)) : List T → Option T := fun ρ => (a ρ).bind g

section
variable {c : Ctx} {a e' : Expr} {fa fb fc : List T → Option T} {pos : Pos}
theorem sv_var {W : Wd} {i : Nat} : Sv W (tVar i) (fVar i) := by
  intro b F ρ σ X H τ Q S e k
  unfold fVar at e
  cases q : ρ[i]? with
  | none => rw [q] at e; cases e
  | some t =>
    have ht : t ≠ .un := by
      rintro rfl
      rw [q] at e
      cases e
    have e2 : t = τ := by
      rw [q] at e
      cases t with
      | un => exact absurd rfl ht
      | _ => exact Option.some.inj e
    subst e2
    obtain ⟨s, fp, e1, r⟩ := S.slot q
    cases s with
    | none => exact absurd r.1 ht
    | some v => exact ⟨v, e1, k.here S ⟨fp, r⟩⟩
theorem ev_var {i : Nat} {x : Str} (hi : c.N[i]? = some x) (hv : ∀ j, Vis (c.X j).env.scope x) (hd : (x == ("__debug__" : Str)) = false := by decide) (hcd : (x == ("__classdict__" : Str)) = false := by decide) : Ev c (.Name x pos) (fVar i) :=
  ⟨_, fun j => pe_var (i := i) (by rw [c.hN j]; exact hi) (hv j) hd hcd, sv_var⟩
theorem sv_C {W : Wd} {d : D} {v : V} (h : ∀ F, Rep W F d v) : Sv W (tC v) (fC d) := by
  intro b F ρ σ X H τ Q S e k
  cases e
  exact k.d S (h F)
theorem ev_int {i : Int} {m : Nat} : Ev c (.Constant (.int i) m pos) (fC (.int i)) := ⟨_, fun _ => pe_int, sv_C fun _ => rfl⟩
theorem ev_str {x : Str} {m : Nat} : Ev c (.Constant (.str x) m pos) (fC (.str x)) := ⟨_, fun _ => pe_str, sv_C fun _ => rfl⟩
theorem ev_bl {x : Bool} {m : Nat} : Ev c (.Constant (.bool x) m pos) (fC (.bl x)) := ⟨_, fun _ => pe_bl, sv_C fun _ => rfl⟩
theorem ev_non {m : Nat} : Ev c (.Constant .none m pos) (fC .non) := ⟨_, fun _ => pe_non, sv_C fun _ => rfl⟩
/-- a constant of the module's top -/
theorem ev_glob {x : Str} {d : D} {v : V} {u : Value} (hg : ∀ j, Gl (c.X j) x) (hm : ∀ j, (c.X j).mg x = some u) (r : L2.RelV v u) (h : ∀ F, Rep c.W F d v) (hd : (x == ("__debug__" : Str)) = false := by decide) : Ev c (.Name x pos) (fC d) :=
  ⟨_, fun j => pe_glob (hg j) (hm j) r hd, sv_C h⟩

theorem sv_2 {W : Wd} {ta tb : TE} {r : R2} {g : T → T → Option T} (ha : Sv W ta fa) (hb : Sv W tb fb) (hr : S2 W r g) : Sv W (tOp r ta tb) (f2 g fa fb) := by
  intro b F ρ σ X H τ Q S e k
  unfold f2 at e
  obtain ⟨t1, e1, e⟩ := Option.bind_eq_some_iff.mp e
  obtain ⟨t2, e2, e⟩ := Option.bind_eq_some_iff.mp e
  refine ha b F ρ σ X H t1 _ S e1 fun x F1 H1 S1 i1 s1 r1 => ?_
  refine hb b F1 ρ σ X H1 t2 _ S1 e2 fun y F2 H2 S2 i2 s2 r2 => ?_
  exact hr b F2 ρ σ X H2 t1 t2 τ x y Q S2 (r1.ext i2 s2) r2 e (k.mono (i1.trans i2) (s1.trans s2))
theorem sv_1 {W : Wd} {ta : TE} {r : V → Hp → VK → Prop} {g : T → Option T} (ha : Sv W ta fa) (hr : S1 W r g) : Sv W (tUn r ta) (f1 g fa) := by
  intro b F ρ σ X H τ Q S e k
  unfold f1 at e
  obtain ⟨t1, e1, e⟩ := Option.bind_eq_some_iff.mp e
  refine ha b F ρ σ X H t1 _ S e1 fun x F1 H1 S1 i1 s1 r1 => ?_
  exact hr b F1 ρ σ X H1 t1 τ x Q S1 r1 e (k.mono i1 s1)
theorem ev_op {op : Operator} {r : R2} {g : T → T → Option T} (ho : ∀ j, OpR (c.X j) (binaryOp op) r) (hr : S2 c.W r g) (ha : Ev c a fa) (hb : Ev c e' fb) : Ev c (.BinOp a op e' pos) (f2 g fa fb) := by
  obtain ⟨ta, pa, sa⟩ := ha
  obtain ⟨tb, pb, sb⟩ := hb
  exact ⟨_, fun j => pe_op (ho j) (pa j) (pb j), sv_2 sa sb hr⟩
theorem ev_cmp {op : CmpOp} {r : R2} {g : T → T → Option T} (ho : ∀ j, OpR (c.X j) (compareOp op) r) (hr : S2 c.W r g) (ha : Ev c a fa) (hb : Ev c e' fb) (hm : behindInMarks op e' = false) : Ev c (.Compare a [op] [e'] pos) (f2 g fa fb) := by
  obtain ⟨ta, pa, sa⟩ := ha
  obtain ⟨tb, pb, sb⟩ := hb
  exact ⟨_, fun j => pe_cmpR (ho j) (pa j) (pb j) hm, sv_2 sa sb hr⟩
/-- a value that is True or False, as a test -/
def fT (fa : List T → Option T) : List T → Option Bool := fun ρ => (fa ρ).bind T.b?
theorem stv_test {W : Wd} {t : TE} (h : Sv W t fa) : Stv W (tTest t) (fT fa) := by
  intro b F ρ σ X H cc Q S e k
  unfold fT at e
  obtain ⟨t1, e1, e⟩ := Option.bind_eq_some_iff.mp e
  refine h b F ρ σ X H t1 _ S e1 fun x F1 H1 S1 i1 s1 r1 => ?_
  exact ⟨cc, r1.bl e, k F1 H1 S1 i1 s1⟩
theorem tv_cmp {op : CmpOp} {r : R2} {g : T → T → Option T} (ho : ∀ j, OpR (c.X j) (compareOp op) r) (hr : S2 c.W r g) (ha : Ev c a fa) (hb : Ev c e' fb) (hm : behindInMarks op e' = false) : Tv c (.Compare a [op] [e'] pos) (fT (f2 g fa fb)) := by
  obtain ⟨ta, pa, sa⟩ := ha
  obtain ⟨tb, pb, sb⟩ := hb
  exact ⟨_, fun j => pt_cmpR (ho j) (pa j) (pb j) hm, stv_test (sv_2 sa sb hr)⟩
theorem tv_val (ha : Ev c a fa) (he : ∀ j whole, isTrue a (c.X j).env whole = (do let v ← whole; standAt a.pos; holding [v] (truthy v))) : Tv c a (fT fa) := by
  obtain ⟨ta, pa, sa⟩ := ha
  exact ⟨_, fun j => pt_val (pa j) (he j), stv_test sa⟩
theorem ev_un {op : UnaryOp} {r : V → Hp → VK → Prop} {g : T → Option T} (ho : ∀ j, UnR (c.X j) (unaryOp op) r) (hr : S1 c.W r g) (ha : Ev c a fa) : Ev c (.UnaryOp op a pos) (f1 g fa) := by
  obtain ⟨ta, pa, sa⟩ := ha
  exact ⟨_, fun j => pe_un (ho j) (pa j), sv_1 sa hr⟩
end

/-! ### and, or, not, if-else -/
section
variable {c : Ctx} {a b e' : Expr} {fa fb : List T → Option T} {ga gb gc : List T → Option Bool} {pos : Pos} {rest : List Expr}
def tAndF (ga gb : List T → Option Bool) : List T → Option Bool := fun ρ => (ga ρ).bind fun x => if x = true then gb ρ else some false
def tOrF (ga gb : List T → Option Bool) : List T → Option Bool := fun ρ => (ga ρ).bind fun x => if x = true then some true else gb ρ
def tNotF (ga : List T → Option Bool) : List T → Option Bool := fun ρ => (ga ρ).map (!·)
def Wv (c : Ctx) (e : Expr) (f : List T → Option Bool) : Prop := ∃ t, (∀ j, PW (c.X j) e t) ∧ Stv c.W t f
theorem Wv.tv (h : Wv c a ga) : Tv c a ga := by
  obtain ⟨t, p, s⟩ := h
  exact ⟨t, fun j => (p j).pt, s⟩
theorem wv_and1 (ha : Tv c a ga) : Wv c (.BoolOp .And [a] pos) ga := by
  obtain ⟨t, p, s⟩ := ha
  exact ⟨t, fun j => pw_and1 (p j), s⟩
theorem wv_or1 (ha : Tv c a ga) : Wv c (.BoolOp .Or [a] pos) ga := by
  obtain ⟨t, p, s⟩ := ha
  exact ⟨t, fun j => pw_or1 (p j), s⟩
theorem wv_and (ha : Tv c a ga) (hb : Wv c (.BoolOp .And (b :: rest) pos) gb) : Wv c (.BoolOp .And (a :: b :: rest) pos) (tAndF ga gb) := by
  obtain ⟨t, p, s⟩ := ha
  obtain ⟨u, q, s'⟩ := hb
  refine ⟨_, fun j => pw_and (p j) (q j), ?_⟩
  intro b F ρ σ X H cc Q S e k
  unfold tAndF at e
  obtain ⟨x, e1, e⟩ := Option.bind_eq_some_iff.mp e
  refine s b F ρ σ X H x _ S e1 fun F1 H1 S1 i1 s1 => ?_
  cases x with
  | true => exact iteT (s' b F1 ρ σ X H1 cc Q S1 e fun F2 H2 S2 i2 s2 => k F2 H2 S2 (i1.trans i2) (s1.trans s2))
  | false =>
    cases e
    exact iteF (k F1 H1 S1 i1 s1)
theorem wv_or (ha : Tv c a ga) (hb : Wv c (.BoolOp .Or (b :: rest) pos) gb) : Wv c (.BoolOp .Or (a :: b :: rest) pos) (tOrF ga gb) := by
  obtain ⟨t, p, s⟩ := ha
  obtain ⟨u, q, s'⟩ := hb
  refine ⟨_, fun j => pw_or (p j) (q j), ?_⟩
  intro b F ρ σ X H cc Q S e k
  unfold tOrF at e
  obtain ⟨x, e1, e⟩ := Option.bind_eq_some_iff.mp e
  refine s b F ρ σ X H x _ S e1 fun F1 H1 S1 i1 s1 => ?_
  cases x with
  | false => exact iteF (s' b F1 ρ σ X H1 cc Q S1 e fun F2 H2 S2 i2 s2 => k F2 H2 S2 (i1.trans i2) (s1.trans s2))
  | true =>
    cases e
    exact iteT (k F1 H1 S1 i1 s1)
theorem tv_not (ha : Tv c a ga) : Tv c (.UnaryOp .Not a pos) (tNotF ga) := by
  obtain ⟨t, p, s⟩ := ha
  refine ⟨_, fun j => pt_not (p j), ?_⟩
  intro b F ρ σ X H cc Q S e k
  unfold tNotF at e
  obtain ⟨x, e1, e⟩ := Option.map_eq_some_iff.mp e
  subst e
  exact s b F ρ σ X H x _ S e1 fun F1 H1 S1 i1 s1 => k F1 H1 S1 i1 s1
/-- as values -/
def fAnd (fa fb : List T → Option T) : List T → Option T := fun ρ => (fT fa ρ).bind fun x => if x = true then fb ρ else some (.f (.bl false))
def fOr (fa fb : List T → Option T) : List T → Option T := fun ρ => (fT fa ρ).bind fun x => if x = true then some (.f (.bl true)) else fb ρ
def fNot (fa : List T → Option T) : List T → Option T := fun ρ => (fT fa ρ).map fun x => .f (.bl (!x))
theorem ev_one {op : BoolOp} (ha : Ev c a fa) : Ev c (.BoolOp op [a] pos) fa := by
  obtain ⟨t, p, s⟩ := ha
  exact ⟨t, fun j => pe_one (p j), s⟩
theorem ev_and (ha : Ev c a fa) (hb : Ev c (.BoolOp .And (b :: rest) pos) fb) : Ev c (.BoolOp .And (a :: b :: rest) pos) (fAnd fa fb) := by
  obtain ⟨t, p, s⟩ := ha
  obtain ⟨u, q, s'⟩ := hb
  refine ⟨_, fun j => pe_and (p j) (q j), ?_⟩
  intro b F ρ σ X H τ Q S e k
  unfold fAnd fT at e
  obtain ⟨x, e1, e⟩ := Option.bind_eq_some_iff.mp e
  obtain ⟨t1, e0, e1⟩ := Option.bind_eq_some_iff.mp e1
  refine s b F ρ σ X H t1 _ S e0 fun v F1 H1 S1 i1 s1 r1 => ⟨x, r1.bl e1, ?_⟩
  cases x with
  | true => exact iteT (s' b F1 ρ σ X H1 τ Q S1 e (k.mono i1 s1))
  | false =>
    cases e
    exact iteF ((k.mono i1 s1).d S1 rfl)
theorem ev_or (ha : Ev c a fa) (hb : Ev c (.BoolOp .Or (b :: rest) pos) fb) : Ev c (.BoolOp .Or (a :: b :: rest) pos) (fOr fa fb) := by
  obtain ⟨t, p, s⟩ := ha
  obtain ⟨u, q, s'⟩ := hb
  refine ⟨_, fun j => pe_or (p j) (q j), ?_⟩
  intro b F ρ σ X H τ Q S e k
  unfold fOr fT at e
  obtain ⟨x, e1, e⟩ := Option.bind_eq_some_iff.mp e
  obtain ⟨t1, e0, e1⟩ := Option.bind_eq_some_iff.mp e1
  refine s b F ρ σ X H t1 _ S e0 fun v F1 H1 S1 i1 s1 r1 => ⟨x, r1.bl e1, ?_⟩
  cases x with
  | false => exact iteF (s' b F1 ρ σ X H1 τ Q S1 e (k.mono i1 s1))
  | true =>
    cases e
    exact iteT ((k.mono i1 s1).d S1 rfl)
theorem ev_not (ha : Ev c a fa) : Ev c (.UnaryOp .Not a pos) (fNot fa) := by
  obtain ⟨t, p, s⟩ := ha
  refine ⟨_, fun j => pe_not (p j), ?_⟩
  intro b F ρ σ X H τ Q S e k
  unfold fNot fT at e
  obtain ⟨x, e1, e⟩ := Option.map_eq_some_iff.mp e
  obtain ⟨t1, e0, e1⟩ := Option.bind_eq_some_iff.mp e1
  subst e
  exact s b F ρ σ X H t1 _ S e0 fun v F1 H1 S1 i1 s1 r1 => ⟨x, r1.bl e1, (k.mono i1 s1).d S1 rfl⟩
def fIf (g : List T → Option Bool) (fa fb : List T → Option T) : List T → Option T := fun ρ => (g ρ).bind fun x => if x = true then fa ρ else fb ρ
theorem ev_if {t : Expr} (ht : Tv c t ga) (ha : Ev c a fa) (hb : Ev c b fb) : Ev c (.IfExp t a b pos) (fIf ga fa fb) := by
  obtain ⟨t0, p0, s0⟩ := ht
  obtain ⟨t, p, s⟩ := ha
  obtain ⟨u, q, s'⟩ := hb
  refine ⟨_, fun j => pe_ifExp (p0 j) (p j) (q j), ?_⟩
  intro b F ρ σ X H τ Q S e k
  unfold fIf at e
  obtain ⟨x, e1, e⟩ := Option.bind_eq_some_iff.mp e
  refine s0 b F ρ σ X H x _ S e1 fun F1 H1 S1 i1 s1 => ?_
  cases x with
  | true => exact iteT (s b F1 ρ σ X H1 τ Q S1 e (k.mono i1 s1))
  | false => exact iteF (s' b F1 ρ σ X H1 τ Q S1 e (k.mono i1 s1))
end

/-! ### arguments, tuples, lists -/
section
variable {c : Ctx} {a : Expr} {es : List Expr} {fa : List T → Option T} {fs : List T → Option (List T)} {pos : Pos}
def aNil : List T → Option (List T) := fun _ => some []
def aCons (fa : List T → Option T) (fs : List T → Option (List T)) : List T → Option (List T) := fun ρ => (fa ρ).bind fun x => (fs ρ).map fun xs => x :: xs
theorem av_nil : Av c [] aNil := by
  refine ⟨_, fun _ => pa_nil, ?_⟩
  intro b F ρ σ X H τs Q S e k
  cases e
  exact k [] F H S (Inc.refl F) (Same.refl H) RelVs.nil
theorem av_cons (ha : Ev c a fa) (hr : Av c es fs) (hs : ∀ j, starEach (a :: es) (c.X j).env = (false, eval a (c.X j).env) :: starEach es (c.X j).env := by intro _; rfl) : Av c (a :: es) (aCons fa fs) := by
  obtain ⟨t, p, s⟩ := ha
  obtain ⟨u, q, s'⟩ := hr
  refine ⟨_, fun j => pa_cons (p j) (q j) (hs j), ?_⟩
  intro b F ρ σ X H τs Q S e k
  unfold aCons at e
  obtain ⟨x, e1, e⟩ := Option.bind_eq_some_iff.mp e
  obtain ⟨xs, e2, e⟩ := Option.map_eq_some_iff.mp e
  subst e
  refine s b F ρ σ X H x _ S e1 fun v F1 H1 S1 i1 s1 r1 => ?_
  exact s' b F1 ρ σ X H1 xs _ S1 e2 fun vs F2 H2 S2 i2 s2 r2 => k (v :: vs) F2 H2 S2 (i1.trans i2) (s1.trans s2) (.cons (r1.ext i2 s2) r2)
/-- deep data alone -/
def deep : List T → Option (List D)
  | [] => some []
  | t :: ts => (T.d? t).bind fun d => (deep ts).map fun ds => d :: ds
theorem RelVs.deep {W : Wd} {F H : Hp} : ∀ {ts : List T} {ds : List D} {vs : List V}, RelVs W F H ts vs → deep ts = some ds → Reps W F ds vs
  | [], _, _, r, e => by
    cases e
    exact r.inv0
  | t :: ts, _, _, r, e => by
    obtain ⟨v, vr, e1, a, b⟩ := r.inv
    obtain ⟨d, e2, e⟩ := Option.bind_eq_some_iff.mp (show (T.d? t).bind _ = _ from e)
    obtain ⟨ds, e3, e⟩ := Option.map_eq_some_iff.mp e
    subst e
    refine ⟨v, vr, e1, ?_, RelVs.deep b e3⟩
    cases t with
    | f d' =>
      cases e2
      exact a.rep
    | _ => cases e2
def gTup (ts : List T) : Option T := (deep ts).bind fun ds => if ds.length ≤ sizeLine then some (.f (.tup ds)) else none
def gLst (ts : List T) : Option T := (deep ts).bind fun ds => if ds.length ≤ sizeLine then some (.f (.lst ds)) else none
theorem ev_tup {m : Nat} (h : Av c es fs) : Ev c (.Tuple es m pos) (fN gTup fs) := by
  obtain ⟨t, p, s⟩ := h
  refine ⟨_, fun j => pe_tup (p j), ?_⟩
  intro b F ρ σ X H τ Q S e k
  unfold fN gTup at e
  obtain ⟨xs, e1, e⟩ := Option.bind_eq_some_iff.mp e
  obtain ⟨ds, e2, e⟩ := Option.bind_eq_some_iff.mp e
  split at e
  · rename_i hl
    cases e
    refine s b F ρ σ X H xs _ S e1 fun vs F1 H1 S1 i1 s1 r1 => ?_
    have r2 := r1.deep e2
    exact ⟨by rw [← r2.len]; exact hl, (k.mono i1 s1).tup S1 r2⟩
  · cases e
theorem ev_lst (h : Av c es fs) : Ev c (.List es pos) (fN gLst fs) := by
  obtain ⟨t, p, s⟩ := h
  refine ⟨_, fun j => pe_lst (p j), ?_⟩
  intro b F ρ σ X H τ Q S e k
  unfold fN gLst at e
  obtain ⟨xs, e1, e⟩ := Option.bind_eq_some_iff.mp e
  obtain ⟨ds, e2, e⟩ := Option.bind_eq_some_iff.mp e
  split at e
  · rename_i hl
    cases e
    refine s b F ρ σ X H xs _ S e1 fun vs F1 H1 S1 i1 s1 r1 => ?_
    have r2 := r1.deep e2
    exact ⟨by rw [← r2.len]; exact hl, (k.mono i1 s1).lst S1 r2⟩
  · cases e
/-- a builtin's call -/
theorem sv_cb {W : Wd} {r : List V → Hp → VK → Prop} {t : TA} {g : List T → Option T} (hr : Sn W r g) (h : Sav W t fs) : Sv W (tCB r t) (fN g fs) := by
  intro b F ρ σ X H τ Q S e k
  unfold fN at e
  obtain ⟨xs, e1, e⟩ := Option.bind_eq_some_iff.mp e
  exact h b F ρ σ X H xs _ S e1 fun vs F1 H1 S1 i1 s1 r1 => hr b F1 ρ σ X H1 xs τ vs Q S1 r1 e (k.mono i1 s1)
theorem ev_callB {id : String} {r : List V → Hp → VK → Prop} {g : List T → Option T} {x : Str} {p : Pos} (hc : ∀ j, CallR (c.X j) (.builtin id) r) (hr : Sn c.W r g) (hg : ∀ j, Gl (c.X j) x) (hm : ∀ j, (c.X j).mg x = none) (hv : bootBuiltins x = some (.builtin id))
    (ha : Av c (a :: es) fs) (hn : x ≠ "__name__" := by decide) (hdb : (x == ("__debug__" : Str)) = false := by decide)
    (he : ∀ j, starEach (a :: es) (c.X j).env = (false, eval a (c.X j).env) :: starEach es (c.X j).env := by intro _; rfl) (hpl : ∀ j, (backTo pos (starEach es (c.X j).env)).any (·.1) = false := by intro _; rfl) : Ev c (.Call (.Name x p) (a :: es) [] pos) (fN g fs) := by
  obtain ⟨t, q, s⟩ := ha
  exact ⟨_, fun j => pe_callB (hc j) (hg j) (hm j) hv (q j) hn hdb (he j) (hpl j), sv_cb hr s⟩
theorem ev_callTy {id : String} {r : List V → Hp → VK → Prop} {g : List T → Option T} {x : Str} {p : Pos} (hc : ∀ j, CallR (c.X j) (.type id) r) (hr : Sn c.W r g) (hg : ∀ j, Gl (c.X j) x) (hm : ∀ j, (c.X j).mg x = none) (hv : bootBuiltins x = some (.type id))
    (ha : Av c (a :: es) fs) (hn : x ≠ "__name__" := by decide) (hdb : (x == ("__debug__" : Str)) = false := by decide)
    (he : ∀ j, starEach (a :: es) (c.X j).env = (false, eval a (c.X j).env) :: starEach es (c.X j).env := by intro _; rfl) (hpl : ∀ j, (backTo pos (starEach es (c.X j).env)).any (·.1) = false := by intro _; rfl) : Ev c (.Call (.Name x p) (a :: es) [] pos) (fN g fs) := by
  obtain ⟨t, q, s⟩ := ha
  exact ⟨_, fun j => pe_callTy (hc j) (hg j) (hm j) hv (q j) hn hdb (he j) (hpl j), sv_cb hr s⟩
end
end Z

namespace Z
open PySem PySem.Spec PyProof.Rows L2
section
variable {W : Wd} {X : Cx}

/-! ### ints -/
def gI (C : Int → Int → Bool) (g : Int → Int → D) : T → T → Option T := fun a b => a.i?.bind fun i => b.i?.bind fun j => if C i j = true then some (.f (g i j)) else none
theorem s2_i {r : R2} {C : Int → Int → Bool} {g : Int → Int → D} {u : Int → Int → V} (hu : ∀ F i j, Rep W F (g i j) (u i j)) (hr : ∀ i j H Q, C i j = true → Q (u i j) H → r (.int i) (.int j) H Q) : S2 W r (gI C g) := by
  intro b F ρ σ X H t1 t2 τ x y Q S r1 r2 e k
  unfold gI at e
  obtain ⟨i, e1, e⟩ := Option.bind_eq_some_iff.mp e
  obtain ⟨j, e2, e⟩ := Option.bind_eq_some_iff.mp e
  split at e
  · rename_i hC
    cases e
    rw [r1.int e1, r2.int e2]
    exact hr i j H Q hC (k.d S (hu _ _ _))
  · cases e
def always : Int → Int → Bool := fun _ _ => true
abbrev gIa (g : Int → Int → D) := gI always g
theorem s2_i0 {g : Int → Int → D} {u : Int → Int → V} (hu : ∀ F i j, Rep W F (g i j) (u i j)) : S2 W (rI0 u) (gIa g) := s2_i hu fun i j H Q _ q => ⟨i, j, rfl, rfl, q⟩
theorem s2_iC {P : Int → Int → Prop} {C : Int → Int → Bool} {g : Int → Int → D} {u : Int → Int → V} (hu : ∀ F i j, Rep W F (g i j) (u i j)) (hC : ∀ i j, C i j = true → P i j) : S2 W (rI P u) (gI C g) := s2_i hu fun i j H Q h q => ⟨i, j, rfl, rfl, hC i j h, q⟩
theorem rep_int {W : Wd} {F : Hp} {i : Int} : Rep W F (.int i) (.int i) := rfl
theorem rep_bl {W : Wd} {F : Hp} {i : Bool} : Rep W F (.bl i) (.bl i) := rfl
theorem rep_str {W : Wd} {F : Hp} {i : Str} : Rep W F (.str i) (.str i) := rfl
theorem rep_non {W : Wd} {F : Hp} : Rep W F .non .non := rfl

def gSub := gIa fun i j => .int (i - j)
theorem s2_sub : S2 W (rI0 fun i j => .int (i - j)) gSub := s2_i0 fun _ _ _ => rfl
def mulC (i j : Int) : Bool := decide (i.natAbs.log2 + j.natAbs.log2 < 130000000)
def gMul := gI mulC fun i j => .int (i * j)
def CMulX (i j : Int) : Prop := i.natAbs.log2 + j.natAbs.log2 < 130000000
theorem CMulX.ok {i j : Int} (h : CMulX i j) : IntMulOk i j := by
  have b : ∀ x : Int, Builtin.Int.intBits x ≤ x.natAbs.log2 + 1 := fun x => by
    unfold Builtin.Int.intBits
    split <;> omega
  have h1 := b i
  have h2 := b j
  have h3 : i.natAbs.log2 + j.natAbs.log2 < 130000000 := h
  have e : bitsLine = 134217728 := by decide
  unfold IntMulOk
  intro z
  rw [Bool.and_eq_true] at z
  have z2 := z.2
  unfold Builtin.Int.intTooBig at z2
  have z3 := of_decide_eq_true z2
  rw [e] at z3
  omega
theorem op_mulX : OpR X (binaryOp .Mult) (rI CMulX fun i j => .int (i * j)) := opI fun _ _ _ _ _ _ _ hc q => PyProof.Rows.mul_int q hc.ok
theorem s2_mul : S2 W (rI CMulX fun i j => .int (i * j)) gMul := s2_iC (fun _ _ _ => rfl) fun i j h => (show i.natAbs.log2 + j.natAbs.log2 < 130000000 from of_decide_eq_true h)
def divC (_ j : Int) : Bool := decide (0 < j) && decide (j.natAbs.log2 < 9000)
def gDiv := gI divC fun i j => .int (i / j)
theorem s2_div : S2 W (rI CDivW fun i j => .int (i / j)) gDiv := s2_iC (fun _ _ _ => rfl) fun _ _ h => by
  unfold divC at h
  rw [Bool.and_eq_true] at h
  exact ⟨of_decide_eq_true h.1, of_decide_eq_true h.2⟩
def modC (_ j : Int) : Bool := decide (0 < j)
def gMod := gI modC fun i j => .int (i % j)
theorem s2_mod : S2 W (rI (fun _ j => 0 < j) fun i j => .int (i % j)) gMod := s2_iC (fun _ _ _ => rfl) fun _ _ h => of_decide_eq_true h
def powC (i j : Int) : Bool := decide (0 ≤ j) && decide (j ≤ 1000000) && decide (i.natAbs < 2 ^ 64)
theorem powC_ok {i j : Int} (h : powC i j = true) : CPow i j := by
  unfold powC at h
  rw [Bool.and_eq_true, Bool.and_eq_true] at h
  exact ⟨of_decide_eq_true h.1.1, of_decide_eq_true h.1.2, of_decide_eq_true h.2⟩
def gPow := gI powC fun i j => .int (i ^ j.toNat)
theorem s2_pow : S2 W (rI CPow fun i j => .int (i ^ j.toNat)) gPow := s2_iC (fun _ _ _ => rfl) fun _ _ h => powC_ok h
def gShl := gI powC fun i j => .int (i * 2 ^ j.toNat)
theorem s2_shl : S2 W (rI CPow fun i j => .int (i * 2 ^ j.toNat)) gShl := s2_iC (fun _ _ _ => rfl) fun _ _ h => powC_ok h
def shrC (_ j : Int) : Bool := decide (0 ≤ j)
def gShr := gI shrC fun i j => .int (i / 2 ^ j.toNat)
theorem s2_shr : S2 W (rI (fun _ j => 0 ≤ j) fun i j => .int (i / 2 ^ j.toNat)) gShr := s2_iC (fun _ _ _ => rfl) fun _ _ h => of_decide_eq_true h
def gBAnd := gIa fun i j => .int (Builtin.bitAnd i j)
theorem s2_band : S2 W (rI0 fun i j => .int (Builtin.bitAnd i j)) gBAnd := s2_i0 fun _ _ _ => rfl
def gBOr := gIa fun i j => .int (Builtin.bitOr i j)
theorem s2_bor : S2 W (rI0 fun i j => .int (Builtin.bitOr i j)) gBOr := s2_i0 fun _ _ _ => rfl
def gBXor := gIa fun i j => .int (Builtin.bitXor i j)
theorem s2_bxor : S2 W (rI0 fun i j => .int (Builtin.bitXor i j)) gBXor := s2_i0 fun _ _ _ => rfl
def gLt := gIa fun i j => .bl (decide (i < j))
theorem s2_lt : S2 W (rI0 fun i j => .bl (decide (i < j))) gLt := s2_i0 fun _ _ _ => rfl
def gLe := gIa fun i j => .bl (decide (i ≤ j))
theorem s2_le : S2 W (rI0 fun i j => .bl (decide (i ≤ j))) gLe := s2_i0 fun _ _ _ => rfl
def gGt := gIa fun i j => .bl (decide (j < i))
theorem s2_gt : S2 W (rI0 fun i j => .bl (decide (j < i))) gGt := s2_i0 fun _ _ _ => rfl
def gGe := gIa fun i j => .bl (decide (j ≤ i))
theorem s2_ge : S2 W (rI0 fun i j => .bl (decide (j ≤ i))) gGe := s2_i0 fun _ _ _ => rfl
def gNeg : T → Option T := fun t => t.i?.map fun i => .f (.int (-i))
theorem s1_neg : S1 W (rU fun i => .int (-i)) gNeg := by
  intro b F ρ σ X H t1 τ x Q S r1 e k
  unfold gNeg at e
  obtain ⟨i, e1, e⟩ := Option.map_eq_some_iff.mp e
  subst e
  exact ⟨i, r1.int e1, k.d S rfl⟩

/-! ### + -/
def gCatS : T → T → Option T := fun a b => a.s?.bind fun x => b.s?.bind fun y => if x.length + y.length ≤ sizeLine then some (.f (.str (x ++ y))) else none
def gCatL : T → T → Option T := fun a b => a.ls?.bind fun x => b.ls?.bind fun y => if x.length + y.length ≤ sizeLine then some (.f (.lst (x ++ y))) else none
def gCatT : T → T → Option T := fun a b => a.ts?.bind fun x => b.ts?.bind fun y => if x ≠ [] ∧ x.length + y.length ≤ sizeLine then some (.f (.tup (x ++ y))) else none
def rCatS : R2 := fun x y H Q => ∃ i j, x = .str i ∧ y = .str j ∧ i.length + j.length ≤ sizeLine ∧ Q (.str (i ++ j)) H
def rCatL (K : PySem.W.Frag) : R2 := fun x y H Q => ∃ l b xs zs, x = .ref l ∧ y = .ref b ∧ SqL K H l xs ∧ SqL K H b zs ∧ xs.length + zs.length ≤ sizeLine ∧ ∀ p, H p = none → Q (.ref p) (upd H p (.lst (xs ++ zs)))
theorem op_catL : OpR X (binaryOp .Add) (rCatL X.K) := by
  intro pins s σ H x y v u Q I rx ry h
  obtain ⟨l, b, xs, zs, rfl, rfl, hH, hB, hz, q⟩ := h
  cases rx
  cases ry
  obtain ⟨its, r, pl, hl⟩ := I.list hH
  obtain ⟨its2, r2, pl2, hl2⟩ := I.list hB
  obtain ⟨⟨cls, dd, data, sl⟩, ho, hc, n, hd⟩ := id pl.isList
  obtain ⟨⟨cls2, dd2, data2, sl2⟩, ho2, hc2, n2, hd2⟩ := id pl2.isList
  simp only at hc hd hc2 hd2
  subst hc hd hc2 hd2
  have e1 := r.length
  have e2 := r2.length
  have ea : its.toArray ++ its2.toArray = (its ++ its2).toArray := by simp
  refine concat_meets ⟨_, ho, rfl⟩ ⟨_, ho2, rfl⟩ noFill_list_add seq_list_add PySem.F.slot_list_add PySem.F.entry_list_add (PySem.F.args_list_add_2 _ _) (PyProof.Rows.list_addW l b its.toArray its2.toArray n n2 dd dd2 sl sl2 (by rw [List.size_toArray, List.size_toArray, ← e1, ← e2]; exact hz)) ⟨ho, ho2, ?_⟩
  rw [ea]
  exact ⟨.ref _, _, I.lnew (t' := s.toks) (r.append r2) (by rw [List.length_append]; omega), rfl, q _ I.fresh⟩
theorem s2_catS : S2 W rCatS gCatS := by
  intro b F ρ σ X H t1 t2 τ x y Q S r1 r2 e k
  unfold gCatS at e
  obtain ⟨i, e1, e⟩ := Option.bind_eq_some_iff.mp e
  obtain ⟨j, e2, e⟩ := Option.bind_eq_some_iff.mp e
  split at e
  · rename_i hz
    cases e
    exact ⟨i, j, r1.str e1, r2.str e2, hz, k.d S rfl⟩
  · cases e
theorem s2_catL : S2 W (rCatL W.K) gCatL := by
  intro b F ρ σ X H t1 t2 τ x y Q S r1 r2 e k
  unfold gCatL at e
  obtain ⟨i, e1, e⟩ := Option.bind_eq_some_iff.mp e
  obtain ⟨j, e2, e⟩ := Option.bind_eq_some_iff.mp e
  split at e
  · rename_i hz
    cases e
    obtain ⟨p, vs, ex, hs, q⟩ := r1.ls e1 S.le
    obtain ⟨p2, vs2, ex2, hs2, q2⟩ := r2.ls e2 S.le
    exact ⟨p, p2, vs, vs2, ex, ex2, hs, hs2, by rw [← q.len, ← q2.len]; exact hz, k.lst S (q.append q2)⟩
  · cases e
theorem s2_catT : S2 W (rCatT W.K) gCatT := by
  intro b F ρ σ X H t1 t2 τ x y Q S r1 r2 e k
  unfold gCatT at e
  obtain ⟨i, e1, e⟩ := Option.bind_eq_some_iff.mp e
  obtain ⟨j, e2, e⟩ := Option.bind_eq_some_iff.mp e
  split at e
  · rename_i hz
    cases e
    obtain ⟨p, vs, ex, hs, q⟩ := r1.ts e1 S.le
    obtain ⟨p2, vs2, ex2, hs2, q2⟩ := r2.ts e2 S.le
    refine ⟨p, p2, vs, vs2, ex, ex2, hs, hs2, fun z => ?_, by rw [← q.len, ← q2.len]; exact hz.2, fun z => ?_, fun z => k.tup S (q.append q2)⟩
    · have := q.len
      rw [z] at this
      exact hz.1 (List.length_eq_zero_iff.mp this)
    · have hj : j = [] := by
        have := q2.len
        rw [z] at this
        exact List.length_eq_zero_iff.mp this
      subst hj
      subst ex
      rw [List.append_nil] at k
      refine k.here S ?_
      cases t1 with
      | f d => cases d with
        | tup l => cases e1; exact r1
        | _ => cases e1
      | _ => cases e1
  · cases e
def gAddI := gIa fun i j => .int (i + j)
def gAdd : T → T → Option T := or2 gAddI (or2 gCatS (or2 gCatL gCatT))
def rAddU (K : PySem.W.Frag) : R2 := fun x y H Q => rI0 (fun i j => .int (i + j)) x y H Q ∨ rCatS x y H Q ∨ rCatL K x y H Q ∨ rCatT K x y H Q
theorem op_addU : OpR X (binaryOp .Add) (rAddU X.K) := OpR_or op_add (OpR_or op_add_str (OpR_or op_catL op_catT))
theorem s2_add : S2 W (rAddU W.K) gAdd := S2.or (s2_i0 fun _ _ _ => rfl) (S2.or s2_catS (S2.or s2_catL s2_catT))

/-! ### == -/
/-- scalars -/
def T.v? : T → Option V | .f .non => some .non | .f (.bl b) => some (.bl b) | .f (.int i) => some (.int i) | .f (.str x) => some (.str x) | _ => none
theorem RelV.v {F H : Hp} {t : T} {v x : V} (r : RelV W F H t v) (h : t.v? = some x) : v = x := by
  cases t with
  | f d => cases d with
    | non => cases h; exact r.rep
    | bl j => cases h; exact r.rep
    | int j => cases h; exact r.rep
    | str j => cases h; exact r.rep
    | _ => cases h
  | _ => cases h
def T.vd : T → Option D | .f d => some d | .l ds => some (.lst ds) | .dk ks ds => some (.dct ks ds) | _ => none
theorem RelV.vd {F H : Hp} {t : T} {v : V} {d : D} (r : RelV W F H t v) (h : t.vd = some d) (le : Le F H) : Rep W H d v := by
  cases t with
  | f d' => cases h; exact Rep.le le _ _ r.rep
  | l ds =>
    cases h
    obtain ⟨fp, p, vs, e, _, s, q⟩ := r
    exact ⟨p, vs, e, .inl (.inl s), Reps.le le _ _ q⟩
  | dk ks ds =>
    cases h
    obtain ⟨fp, p, kvs, e, _, s, k, q⟩ := r
    exact ⟨p, kvs, e, .inl s, k, Reps.le le _ _ q⟩
  | _ => cases h
mutual
def D.py : D → Option PyData
  | .non => some .none
  | .bl b => some (.bool b)
  | .int i => some (.int i)
  | .str x => some (.str x)
  | .tup l => (D.pys l).map .tuple
  | .lst l => (D.pys l).map .list
  | .nst l => (D.pys l).map .list
  | .dct _ _ => none
  | .obj _ _ _ => none
def D.pys : List D → Option (List PyData)
  | [] => some []
  | d :: ds => (D.py d).bind fun x => (D.pys ds).map fun xs => x :: xs
end
mutual
theorem Rep.dp {H : Hp} : ∀ (d : D) (v : V) (p : PyData), Rep W H d v → d.py = some p → Dp W.K H v p
  | .non, _, _, r, e => by
    unfold D.py at e
    cases e
    have r' : _ = V.non := r
    subst r'
    exact .non
  | .bl b, _, _, r, e => by
    unfold D.py at e
    cases e
    have r' : _ = V.bl b := r
    subst r'
    exact .bl b
  | .int b, _, _, r, e => by
    unfold D.py at e
    cases e
    have r' : _ = V.int b := r
    subst r'
    exact .int b
  | .str b, _, _, r, e => by
    unfold D.py at e
    cases e
    have r' : _ = V.str b := r
    subst r'
    exact .str b
  | .tup l, _, _, r, e => by
    unfold D.py at e
    obtain ⟨ps, e1, e⟩ := Option.map_eq_some_iff.mp e
    subst e
    obtain ⟨p, vs, e, s, q⟩ := r
    subst e
    exact .tup s (Reps.dp l vs ps q e1)
  | .lst l, _, _, r, e => by
    unfold D.py at e
    obtain ⟨ps, e1, e⟩ := Option.map_eq_some_iff.mp e
    subst e
    obtain ⟨p, vs, e, s, q⟩ := r
    subst e
    exact .lst s (Reps.dp l vs ps q e1)
  | .nst l, _, _, r, e => by
    unfold D.py at e
    obtain ⟨ps, e1, e⟩ := Option.map_eq_some_iff.mp e
    subst e
    obtain ⟨p, vs, e, s, _, q⟩ := r
    subst e
    exact .lst (.inl (.inl s)) (Reps.dp l vs ps q e1)
  | .dct _ _, _, _, _, e => by
    unfold D.py at e
    cases e
  | .obj _ _ _, _, _, _, e => by
    unfold D.py at e
    cases e
theorem Reps.dp {H : Hp} : ∀ (ds : List D) (vs : List V) (ps : List PyData), Reps W H ds vs → D.pys ds = some ps → DpAll W.K H vs ps
  | [], _, _, r, e => by
    unfold D.pys at e
    cases e
    have r' : _ = [] := r
    subst r'
    exact .nil
  | d :: ds, _, _, r, e => by
    unfold D.pys at e
    obtain ⟨x, e1, e⟩ := Option.bind_eq_some_iff.mp e
    obtain ⟨xs, e2, e⟩ := Option.map_eq_some_iff.mp e
    subst e
    obtain ⟨v, vr, e, a, b⟩ := r
    subst e
    exact .cons (Rep.dp d v x a e1) (Reps.dp ds vr xs b e2)
end
def gEqS (neg : Bool) : T → T → Option T := fun a b => a.v?.bind fun x => b.v?.bind fun y => if scal x y = true then some (.f (.bl (xor neg (decide (x = y))))) else none
def gEqD (neg : Bool) : T → T → Option T := fun a b => a.vd.bind fun x => b.vd.bind fun y => x.py.bind fun p => y.py.bind fun q => if SeqAt.shaped p = true ∧ SeqAt.shaped q = true then some (.f (.bl (xor neg (PyData.eqv p q)))) else none
def gEq := or2 (gEqS false) (gEqD false)
def gNe := or2 (gEqS true) (gEqD true)
theorem s2_eqS : S2 W rEq (gEqS false) := by
  intro b F ρ σ X H t1 t2 τ x y Q S r1 r2 e k
  unfold gEqS at e
  obtain ⟨i, e1, e⟩ := Option.bind_eq_some_iff.mp e
  obtain ⟨j, e2, e⟩ := Option.bind_eq_some_iff.mp e
  rw [r1.v e1, r2.v e2]
  split at e
  · rename_i hz
    cases e
    rw [Bool.false_xor] at k
    exact ⟨hz, k.d S rfl⟩
  · cases e
theorem s2_neS : S2 W rNe (gEqS true) := by
  intro b F ρ σ X H t1 t2 τ x y Q S r1 r2 e k
  unfold gEqS at e
  obtain ⟨i, e1, e⟩ := Option.bind_eq_some_iff.mp e
  obtain ⟨j, e2, e⟩ := Option.bind_eq_some_iff.mp e
  rw [r1.v e1, r2.v e2]
  split at e
  · rename_i hz
    cases e
    rw [Bool.true_xor] at k
    exact ⟨hz, k.d S rfl⟩
  · cases e
theorem s2_eqD : S2 W (rEqD W.K) (gEqD false) := by
  intro b F ρ σ X H t1 t2 τ x y Q S r1 r2 e k
  unfold gEqD at e
  obtain ⟨i, e1, e⟩ := Option.bind_eq_some_iff.mp e
  obtain ⟨j, e2, e⟩ := Option.bind_eq_some_iff.mp e
  obtain ⟨p, e3, e⟩ := Option.bind_eq_some_iff.mp e
  obtain ⟨q, e4, e⟩ := Option.bind_eq_some_iff.mp e
  split at e
  · rename_i hz
    cases e
    rw [Bool.false_xor] at k
    exact ⟨p, q, Rep.dp i x p (r1.vd e1 S.le) e3, Rep.dp j y q (r2.vd e2 S.le) e4, hz.1, hz.2, k.d S rfl⟩
  · cases e
theorem s2_neD : S2 W (rNeD W.K) (gEqD true) := by
  intro b F ρ σ X H t1 t2 τ x y Q S r1 r2 e k
  unfold gEqD at e
  obtain ⟨i, e1, e⟩ := Option.bind_eq_some_iff.mp e
  obtain ⟨j, e2, e⟩ := Option.bind_eq_some_iff.mp e
  obtain ⟨p, e3, e⟩ := Option.bind_eq_some_iff.mp e
  obtain ⟨q, e4, e⟩ := Option.bind_eq_some_iff.mp e
  split at e
  · rename_i hz
    cases e
    rw [Bool.true_xor] at k
    exact ⟨p, q, Rep.dp i x p (r1.vd e1 S.le) e3, Rep.dp j y q (r2.vd e2 S.le) e4, hz.1, hz.2, k.d S rfl⟩
  · cases e
def rEqU (K : PySem.W.Frag) : R2 := fun x y H Q => rEq x y H Q ∨ rEqD K x y H Q
def rNeU (K : PySem.W.Frag) : R2 := fun x y H Q => rNe x y H Q ∨ rNeD K x y H Q
theorem op_eqU (hu : X.A.units + 64 < cLine) : OpR X (compareOp .Eq) (rEqU X.K) := OpR_or op_eq (op_eqD hu)
theorem op_neU (hu : X.A.units + 64 < cLine) : OpR X (compareOp .NotEq) (rNeU X.K) := OpR_or op_ne (op_neD hu)
theorem s2_eq : S2 W (rEqU W.K) gEq := S2.or s2_eqS s2_eqD
theorem s2_ne : S2 W (rNeU W.K) gNe := S2.or s2_neS s2_neD
def gIsN : T → Option T := fun t => match t with
  | .f d => some (.f (.bl (match d with | .non => true | _ => false)))
  | .ln _ => none
  | .gb _ => none
  | .rg _ => none
  | _ => some (.f (.bl false))
theorem RelV.non {F H : Hp} {t : T} {v : V} {c : Bool} (r : RelV W F H t v) (h : gIsN t = some (.f (.bl c))) (hu : t ≠ .un) : decide (v = .non) = c := by
  cases t with
  | un => exact absurd rfl hu
  | f d => cases d with
    | non => cases h; rw [show v = V.non from r.rep]; rfl
    | bl j => cases h; rw [show v = V.bl j from r.rep]; rfl
    | int j => cases h; rw [show v = V.int j from r.rep]; rfl
    | str j => cases h; rw [show v = V.str j from r.rep]; rfl
    | tup j => cases h; obtain ⟨p, vs, e, _⟩ := r.rep; rw [e]; rfl
    | lst j => cases h; obtain ⟨p, vs, e, _⟩ := r.rep; rw [e]; rfl
    | nst j => cases h; obtain ⟨p, vs, e, _⟩ := r.rep; rw [e]; rfl
    | dct j => cases h; obtain ⟨p, vs, e, _⟩ := r.rep; rw [e]; rfl
    | obj j => cases h; obtain ⟨p, _, vs, e, _⟩ := r.rep; rw [e]; rfl
  | l ds => cases h; obtain ⟨fp, p, vs, e, _⟩ := r; rw [e]; rfl
  | dk ds => cases h; obtain ⟨fp, p, vs, e, _⟩ := r; rw [e]; rfl
  | di ks ds => cases h; obtain ⟨fp, p, vs, _, e, _⟩ := r; rw [e]; rfl
  | ll ds => cases h; obtain ⟨fp, p, vs, _, e, _⟩ := r; rw [e]; rfl
  | tu ds => cases h; obtain ⟨fp, p, vs, _, e, _⟩ := r; rw [e]; rfl
  | o ds => cases h; obtain ⟨fp, p, _, vs, _, e, _⟩ := r; rw [e]; rfl
  | ln d => cases h
  | gb l => cases h
  | rg n => cases h

/-! ### in -/
def flatD : D → Bool | .non => true | .bl _ => true | .int _ => true | .str _ => true | _ => false
def D.v : D → V | .bl b => .bl b | .int i => .int i | .str x => .str x | _ => .non
theorem Rep.flat {F : Hp} {d : D} {v : V} (r : Rep W F d v) (h : flatD d = true) : v = d.v ∧ flatV v = true := by
  cases d with
  | non => have r' : v = _ := r; subst r'; exact ⟨rfl, rfl⟩
  | bl b => have r' : v = _ := r; subst r'; exact ⟨rfl, rfl⟩
  | int b => have r' : v = _ := r; subst r'; exact ⟨rfl, rfl⟩
  | str b => have r' : v = _ := r; subst r'; exact ⟨rfl, rfl⟩
  | _ => cases h
theorem Reps.flat {F : Hp} : ∀ {ds : List D} {vs : List V}, Reps W F ds vs → ds.all flatD = true → vs = ds.map D.v ∧ vs.all flatV = true
  | [], _, r, _ => by
    have r' : _ = [] := r
    subst r'
    exact ⟨rfl, rfl⟩
  | d :: ds, _, r, h => by
    obtain ⟨v, vr, e, a, b⟩ := r
    rw [List.all_cons, Bool.and_eq_true] at h
    obtain ⟨h1, h2⟩ := a.flat h.1
    obtain ⟨h3, h4⟩ := Reps.flat b h.2
    subst e
    rw [List.all_cons, h2, h4, h3, List.map_cons, ← h1]
    exact ⟨rfl, rfl⟩
def gInQ (neg : Bool) : T → T → Option T := fun a b => a.v?.bind fun x => b.sq?.bind fun ds => if ds.all flatD = true then some (.f (.bl (xor neg (inV x (ds.map D.v))))) else none
def gInS (neg : Bool) : T → T → Option T := fun a b => a.s?.bind fun x => b.s?.bind fun y => some (.f (.bl (xor neg (!(Builtin.Str.occurrences y x 0 y.length 1).isEmpty))))
def gInD (neg : Bool) : T → T → Option T := fun a b => a.key?.bind fun k => b.dk?.bind fun ds => some (.f (.bl (xor neg (ds.1.any fun q => decide (q = k)))))
theorem v_flat {t : T} {x : V} (h : t.v? = some x) : flatV x = true := by
  cases t with
  | f d => cases d with
    | non => cases h; rfl
    | bl j => cases h; rfl
    | int j => cases h; rfl
    | str j => cases h; rfl
    | _ => cases h
  | _ => cases h
theorem s2_inQ (neg : Bool) : S2 W (rIn W.K neg) (gInQ neg) := by
  intro b F ρ σ X H t1 t2 τ x y Q S r1 r2 e k
  unfold gInQ at e
  obtain ⟨i, e1, e⟩ := Option.bind_eq_some_iff.mp e
  obtain ⟨ds, e2, e⟩ := Option.bind_eq_some_iff.mp e
  rw [r1.v e1]
  split at e
  · rename_i hz
    cases e
    obtain ⟨p, vs, ex, hs, q⟩ := r2.sq e2 S.le
    obtain ⟨h1, h2⟩ := q.flat hz
    subst h1
    refine ⟨p, _, ex, hs, v_flat e1, h2, ?_⟩
    cases neg with
    | true => rw [Bool.true_xor] at k; exact k.d S rfl
    | false => rw [Bool.false_xor] at k; exact k.d S rfl
  · cases e
def rInS (neg : Bool) : R2 := fun x y H Q => ∃ i j, x = .str i ∧ y = .str j ∧ Q (.bl (xor neg (!(Builtin.Str.occurrences j i 0 j.length 1).isEmpty))) H
theorem s2_inS (neg : Bool) : S2 W (rInS neg) (gInS neg) := by
  intro b F ρ σ X H t1 t2 τ x y Q S r1 r2 e k
  unfold gInS at e
  obtain ⟨i, e1, e⟩ := Option.bind_eq_some_iff.mp e
  obtain ⟨j, e2, e⟩ := Option.bind_eq_some_iff.mp e
  cases e
  exact ⟨i, j, r1.str e1, r2.str e2, k.d S rfl⟩
def rInD (neg : Bool) : R2 := fun y x H Q => ∃ a o, x = .ref a ∧ DGet H a y o ∧ Q (.bl (xor neg o.isSome)) H
theorem mem_valV {kvs : List (Key × V)} {k : Key} : (valV kvs k).isSome = (kvs.map (·.1)).any fun q => decide (q = k) := by
  rw [← valV_any, List.any_map]
  rfl
theorem s2_inD (neg : Bool) : S2 W (rInD neg) (gInD neg) := by
  intro b F ρ σ X H t1 t2 τ x y Q S r1 r2 e k
  unfold gInD at e
  obtain ⟨i, e1, e⟩ := Option.bind_eq_some_iff.mp e
  obtain ⟨⟨ks, ds⟩, e2, e⟩ := Option.bind_eq_some_iff.mp e
  cases e
  obtain ⟨p, kvs, ex, hs, hk, q⟩ := r2.dk e2 S.le
  rw [r1.key e1]
  refine ⟨p, _, ex, .inl ⟨kvs, i, hs, rfl, rfl⟩, ?_⟩
  rw [mem_valV, hk]
  exact k.d S rfl
theorem op_inD (hu : X.A.units + 1 < cLine) : OpR X (compareOp .In) (rInD false) := by
  intro pins s σ H x y v u Q I rx ry h
  obtain ⟨a, o, rfl, g, q⟩ := h
  cases ry
  rw [Bool.false_xor] at q
  exact d_in hu I g rx fun s' I' => ⟨.bl _, H, I', rfl, q⟩
theorem op_notInD (hu : X.A.units + 1 < cLine) : OpR X (compareOp .NotIn) (rInD true) := by
  intro pins s σ H x y v u Q I rx ry h
  obtain ⟨a, o, rfl, g, q⟩ := h
  cases ry
  rw [Bool.true_xor] at q
  exact d_notIn hu I g rx fun s' I' => ⟨.bl _, H, I', rfl, q⟩
theorem op_inS : OpR X (compareOp .In) (rInS false) := by
  intro pins s σ H x y v u Q I rx ry h
  obtain ⟨i, j, e1, e2, q⟩ := h
  rw [Bool.false_xor] at q
  exact op_in_str pins s σ H x y v u Q I rx ry ⟨i, j, e1, e2, q⟩
theorem op_notInS : OpR X (compareOp .NotIn) (rInS true) := by
  intro pins s σ H x y v u Q I rx ry h
  obtain ⟨i, j, e1, e2, q⟩ := h
  rw [Bool.true_xor] at q
  exact op_notin_str pins s σ H x y v u Q I rx ry ⟨i, j, e1, e2, q⟩
def rInU (K : PySem.W.Frag) (neg : Bool) : R2 := fun x y H Q => rIn K neg x y H Q ∨ rInS neg x y H Q ∨ rInD neg x y H Q
def gIn := or2 (gInQ false) (or2 (gInS false) (gInD false))
def gNotIn := or2 (gInQ true) (or2 (gInS true) (gInD true))
theorem op_inU (hu : X.A.units + 1 < cLine) : OpR X (compareOp .In) (rInU X.K false) := OpR_or op_in_seq (OpR_or op_inS (op_inD hu))
theorem op_notInU (hu : X.A.units + 1 < cLine) : OpR X (compareOp .NotIn) (rInU X.K true) := OpR_or op_notIn_seq (OpR_or op_notInS (op_notInD hu))
theorem s2_in : S2 W (rInU W.K false) gIn := S2.or (s2_inQ false) (S2.or (s2_inS false) (s2_inD false))
theorem s2_notIn : S2 W (rInU W.K true) gNotIn := S2.or (s2_inQ true) (S2.or (s2_inS true) (s2_inD true))

/-! ### [ ] -/
/-- what stands in a dict at a key -/
def dAt : List Key → List D → Key → Option D
  | k :: ks, d :: ds, q => if k = q then some d else dAt ks ds q
  | _, _, _ => none
theorem dAt_val {F : Hp} : ∀ {kvs : List (Key × V)} {ds : List D} {k : Key} {d : D}, Reps W F ds (kvs.map (·.2)) → dAt (kvs.map (·.1)) ds k = some d → ∃ v, valV kvs k = some v ∧ Rep W F d v
  | [], _, _, _, _, e => by simp [dAt] at e
  | p :: r, [], _, _, q, _ => by
    have q' : _ = [] := q
    cases q'
  | p :: r, d :: ds, k, d', q, e => by
    obtain ⟨v, vr, e1, a, b⟩ := q
    rw [List.map_cons] at e1 e
    have e2 : p.2 = v := (List.cons.inj e1).1
    have e3 : r.map (·.2) = vr := (List.cons.inj e1).2
    subst e2 e3
    unfold dAt at e
    split at e
    · rename_i hk
      cases e
      exact ⟨_, valV_pos hk, a⟩
    · rename_i hk
      rw [valV_neg hk]
      exact dAt_val b e
def gIxQ : T → T → Option T := fun a b => a.sq?.bind fun ds => b.i?.bind fun i => (atI ds i).map .f
def gIxS : T → T → Option T := fun a b => a.s?.bind fun z => b.i?.bind fun i => if z.length ≤ sizeLine then (atI z.cps.toList i).map fun c => .f (.str ⟨#[c]⟩) else none
def gIxD : T → T → Option T := fun a b => a.dk?.bind fun ds => b.key?.bind fun k => (dAt ds.1 ds.2 k).map .f
/-- a part of one's own -/
def T.tsq? : T → Option (List T) | .ll ts => some ts | .tu ts => some ts | _ => none
def gIxO : T → T → Option T := fun a b => a.tsq?.bind fun ds => b.i?.bind fun i => (atI ds i).bind fun t => match t with | .un => none | t => some t
theorem RelTs.at {F H : Hp} : ∀ {ts : List T} {vs : List V} {fps : List (List Addr)} {i : Nat} {t : T}, RelTs W F H ts vs fps → ts[i]? = some t → ∃ v f, vs[i]? = some v ∧ fps[i]? = some f ∧ RelT W F H t v f
  | [], _, _, _, _, _, e => by simp at e
  | t :: ts, _, _, 0, _, r, e => by
    obtain ⟨v, vr, f, fr, e1, e2, a, b⟩ := r
    simp at e
    subst e e1 e2
    exact ⟨v, f, rfl, rfl, a⟩
  | t :: ts, _, _, i + 1, _, r, e => by
    obtain ⟨v, vr, f, fr, e1, e2, a, b⟩ := r
    subst e1 e2
    obtain ⟨u, g, h1, h2, h3⟩ := RelTs.at (i := i) b (by simpa using e)
    exact ⟨u, g, by simpa using h1, by simpa using h2, h3⟩
theorem RelTs.len {F H : Hp} : ∀ {ts : List T} {vs : List V} {fps : List (List Addr)}, RelTs W F H ts vs fps → ts.length = vs.length ∧ ts.length = fps.length
  | [], _, _, r => by
    rw [r.1, r.2]
    exact ⟨rfl, rfl⟩
  | t :: ts, _, _, r => by
    obtain ⟨v, vr, f, fr, e1, e2, a, b⟩ := r
    have q := RelTs.len b
    rw [e1, e2]
    simp only [List.length_cons]
    omega
theorem atI_map {α β : Type} {xs : List α} {ys : List β} {i : Int} {a : α} (hl : xs.length = ys.length) (h : atI xs i = some a) : ∃ j : Nat, xs[j]? = some a ∧ ∀ c, ys[j]? = some c → atI ys i = some c := by
  unfold atI at h ⊢
  obtain ⟨j, e1, e2⟩ := Option.bind_eq_some_iff.mp h
  refine ⟨j, e2, fun c e => ?_⟩
  rw [← hl, e1]
  exact e
theorem s2_ixQ : S2 W (fun x y H Q => rIxL W.K x y H Q ∨ rIxT W.K x y H Q) gIxQ := by
  intro b F ρ σ X H t1 t2 τ x y Q S r1 r2 e k
  unfold gIxQ at e
  obtain ⟨ds, e1, e⟩ := Option.bind_eq_some_iff.mp e
  obtain ⟨i, e2, e⟩ := Option.bind_eq_some_iff.mp e
  obtain ⟨d, e3, e⟩ := Option.map_eq_some_iff.mp e
  subst e
  obtain ⟨p, vs, ex, hs, q⟩ := r1.sq e1 S.le
  obtain ⟨j, h1, h2⟩ := atI_map q.len e3
  obtain ⟨v, h3, h4⟩ := q.get h1
  rcases hs with hs | hs
  · exact .inl ⟨p, vs, i, v, ex, r2.int e2, hs, h2 v h3, k.d S h4⟩
  · exact .inr ⟨p, vs, i, v, ex, r2.int e2, hs, h2 v h3, k.d S h4⟩
theorem s2_ixO : S2 W (fun x y H Q => rIxL W.K x y H Q ∨ rIxT W.K x y H Q) gIxO := by
  intro b F ρ σ X H t1 t2 τ x y Q S r1 r2 e k
  unfold gIxO at e
  obtain ⟨ds, e1, e⟩ := Option.bind_eq_some_iff.mp e
  obtain ⟨i, e2, e⟩ := Option.bind_eq_some_iff.mp e
  obtain ⟨d, e3, e⟩ := Option.bind_eq_some_iff.mp e
  have e4 : d = τ := by
    cases d <;> first | exact Option.some.inj e | cases e
  subst e4
  cases t1 with
  | ll ts =>
    cases e1
    obtain ⟨fp, p, vs, fps, ex, _, hs, q⟩ := r1
    obtain ⟨j, h1, h2⟩ := atI_map q.len.1 e3
    obtain ⟨v, f, h3, _, h4⟩ := q.at h1
    exact .inl ⟨p, vs, i, v, ex, r2.int e2, .inl (.inl hs), h2 v h3, k.here S ⟨f, h4⟩⟩
  | tu ts =>
    cases e1
    obtain ⟨fp, p, vs, fps, ex, _, hs, q⟩ := r1
    obtain ⟨j, h1, h2⟩ := atI_map q.len.1 e3
    obtain ⟨v, f, h3, _, h4⟩ := q.at h1
    exact .inr ⟨p, vs, i, v, ex, r2.int e2, .inl (.inl hs), h2 v h3, k.here S ⟨f, h4⟩⟩
  | _ => cases e1
theorem s2_ixS : S2 W rIxS gIxS := by
  intro b F ρ σ X H t1 t2 τ x y Q S r1 r2 e k
  unfold gIxS at e
  obtain ⟨z, e1, e⟩ := Option.bind_eq_some_iff.mp e
  obtain ⟨i, e2, e⟩ := Option.bind_eq_some_iff.mp e
  split at e
  · rename_i hz
    obtain ⟨c, e3, e⟩ := Option.map_eq_some_iff.mp e
    subst e
    exact ⟨z, i, c, r1.str e1, r2.int e2, hz, e3, k.d S rfl⟩
  · cases e
def rIxDk : R2 := fun x y H Q => ∃ a v, x = .ref a ∧ DGet H a y (some v) ∧ Q v H
theorem s2_ixD : S2 W rIxDk gIxD := by
  intro b F ρ σ X H t1 t2 τ x y Q S r1 r2 e k
  unfold gIxD at e
  obtain ⟨⟨ks, ds⟩, e1, e⟩ := Option.bind_eq_some_iff.mp e
  obtain ⟨i, e2, e⟩ := Option.bind_eq_some_iff.mp e
  obtain ⟨d, e3, e⟩ := Option.map_eq_some_iff.mp e
  subst e
  obtain ⟨p, kvs, ex, hs, hk, q⟩ := r1.dk e1 S.le
  subst hk
  obtain ⟨v, h1, h2⟩ := dAt_val q e3
  rw [r2.key e2]
  exact ⟨p, v, ex, .inl ⟨kvs, i, hs, rfl, h1.symm⟩, k.d S h2⟩
theorem subT {prog : Program} {w : World} {A : Around} {E : Value → Shared → Prop} {s : Shared} {value slice : Expr} {o i : Value} {T id : String} {Q : Value → Shared → Prop} (hT : s.TypeIs o T)
    (hl : typeLookup (.type T) "__getitem__" = pure (some (.builtin id))) (h : wpAny (model prog w) A (getItem o i) Q E s)
    (hs : subscripted slice false o i = operate [o, i] (getItem o i)) :
    wpAny (model prog w) A (subscriptTail value slice o i) Q E s := by
  unfold subscriptTail
  refine wpAny_bind ?_
  rw [getitemInPython_of_ne hT.not_modules]
  refine wpAny_bind (wpAny_specialOf hT hl ?_)
  have fin : wpAny (model prog w) A (subscripted slice false o i) (fun r s₃ => wpAny (model prog w) A (letTemporaryGo value o r >>= fun _ => pure r) Q E s₃) E s := by
    rw [hs]
    exact wpAny_operating (wpAny_mono h (fun r s₃ h₃ => wpAny_bind (wpAny_letTemporaryGo (wpAny_pure h₃))) fun _ _ x => x)
  first
    | exact wpAny_pure (wpAny_bind fin)
    | exact wpAny_bind (wpAny_pure (wpAny_bind fin))
    | exact wpAny_bind fin
theorem ix_dict (hu : X.A.units + 1 < cLine) : IxR X rIxDk := by
  intro value slice pins s σ H x y v u Q I rx ry h hs
  obtain ⟨a, z, rfl, g, q⟩ := h
  cases rx
  exact subT (dict_typeIs I g) PySem.F.slot_dict_getitem.lookup (d_getItem hu I g ry fun w' s' I' rw' => ⟨z, H, I', rw', q⟩) hs
def rIxU (K : PySem.W.Frag) : R2 := fun x y H Q => ((rIxL K x y H Q ∨ rIxT K x y H Q) ∨ (rIxL K x y H Q ∨ rIxT K x y H Q)) ∨ rIxS x y H Q ∨ rIxDk x y H Q
def gIx := or2 (or2 gIxQ gIxO) (or2 gIxS gIxD)
theorem ix_U (hu : X.A.units + 1 < cLine) : IxR X (rIxU X.K) := ((ix_list.or ix_tup).or (ix_list.or ix_tup)).or (ix_str.or (ix_dict hu))
theorem s2_ix : S2 W (rIxU W.K) gIx := S2.or (S2.or s2_ixQ s2_ixO) (S2.or s2_ixS s2_ixD)
end
end Z

namespace Z
open PySem L2

/-! ### things on the way, in another order -/
theorem perm_lift {W : Wd} {b : Bs} {F H : Hp} {X Y : List Tm} (p : X.Perm Y) : ∀ xps, RelTs W F H (X.map (·.t)) (X.map (·.v)) xps → LocX b X xps → ∃ yps, RelTs W F H (Y.map (·.t)) (Y.map (·.v)) yps ∧ LocX b Y yps ∧ xps.flatten.Perm yps.flatten := by
  induction p with
  | nil => exact fun xps r l => ⟨xps, r, l, .refl _⟩
  | cons x p ih =>
    rintro xps ⟨v, vr, f, fr, e1, e2, a, r⟩ l
    have e3 := (List.cons.inj e1).1
    have e4 := (List.cons.inj e1).2
    subst e2 e3 e4
    obtain ⟨yps, r', l', q⟩ := ih fr r l.2
    exact ⟨f :: yps, ⟨_, _, _, _, rfl, rfl, a, r'⟩, ⟨l.1, l'⟩, by rw [List.flatten_cons, List.flatten_cons]; exact q.append_left f⟩
  | swap x y l =>
    rintro xps ⟨v, vr, f, fr, e1, e2, a, r⟩ lx
    have e3 := (List.cons.inj e1).1
    have e4 := (List.cons.inj e1).2
    subst e2 e3
    obtain ⟨v', vr', f', fr', e5, e6, a', r'⟩ := r
    rw [← e4] at e5
    have e7 := (List.cons.inj e5).1
    have e8 := (List.cons.inj e5).2
    subst e6 e7 e8
    refine ⟨f' :: f :: fr', ⟨_, _, _, _, rfl, rfl, a', _, _, _, _, rfl, rfl, a, r'⟩, ⟨lx.2.1, lx.1, lx.2.2⟩, ?_⟩
    rw [List.flatten_cons, List.flatten_cons, List.flatten_cons, List.flatten_cons, ← List.append_assoc, ← List.append_assoc]
    exact List.perm_append_comm.append_right _
  | trans p q ih1 ih2 =>
    intro xps r l
    obtain ⟨yps, r1, l1, q1⟩ := ih1 xps r l
    obtain ⟨zps, r2, l2, q2⟩ := ih2 yps r1 l1
    exact ⟨zps, r2, l2, q1.trans q2⟩
section
variable {W : Wd} {b : Bs} {F F' : Hp} {ρ : List T} {σ : St} {X Y : List Tm} {H H' : Hp}
theorem SR.perm (S : SR W b F ρ σ X H) (p : X.Perm Y) : SR W b F ρ σ Y H := by
  obtain ⟨le, f0, fn, kept, stab, pin, fps, xps, s1, s2, ⟨nd, ow⟩, lc1, lc2⟩ := S
  obtain ⟨yps, r, l, q⟩ := perm_lift p xps s2 lc2
  have q' := q.append_left fps.flatten
  exact ⟨le, f0, fn, kept, stab, pin, fps, yps, s1, r, ⟨q'.nodup_iff.mp nd, fun a ha => ow a (q'.mem_iff.mpr ha)⟩, lc1, l⟩
theorem SR.there (S : SR W b F ρ σ X H) : ∀ {fps xps : List (List Addr)}, Slots W F H ρ σ fps → RelTs W F H (X.map (·.t)) (X.map (·.v)) xps → ∀ a ∈ fps.flatten ++ xps.flatten, ∃ o, H a = some o := fun {fps xps} s1 s2 a ha => by
  rcases List.mem_append.mp ha with z | z
  · exact Slots.there s1 a z
  · exact RelTs.there _ _ _ s2 a z
/-- the thing held last is changed at one of its places -/
theorem SR.wrX {x : Tm} {t' : T} {p : Addr} {o o' : HO} (S : SR W b F ρ σ (x :: X) H)
    (h : ∀ fp, RelT W F H x.t x.v fp → fp.Nodup → (∀ a ∈ fp, F a = none) → H p = some o ∧ Stb (GF W F) o o' ∧ p ∈ fp ∧ ∃ fp', RelT W F (upd H p o') t' x.v fp' ∧ fp'.Nodup ∧ ∀ a ∈ fp', a ∈ fp) :
    SR W b F ρ σ (⟨x.og, t', x.v⟩ :: X) (upd H p o') := by
  obtain ⟨le, f0, fn, kept, stab, pin, fps, xps, s1, s2, ⟨nd, ow⟩, lc1, lc2⟩ := S
  obtain ⟨v, vr, f, fr, e1, e2, r, r2⟩ := s2
  have e3 : x.v = v := (List.cons.inj e1).1
  have e4 : X.map (·.v) = vr := (List.cons.inj e1).2
  subst e2 e3 e4
  rw [List.flatten_cons] at nd ow
  have n := List.nodup_append.mp nd
  have n2 := List.nodup_append.mp n.2.1
  obtain ⟨hp, hst, hpf, fp', r', nd', sub⟩ := h f r n2.1 fun a ha => ow a (List.mem_append_right _ (List.mem_append_left _ ha))
  have old : b.H0 p = none ∨ p ∈ b.A := Og.old (lc2.1 p hpf)
  have st1 : ∀ a ∈ fps.flatten, upd H p o' a = H a := fun a ha => upd_ne fun e => n.2.2 a ha p (List.mem_append_left _ hpf) e
  have st2 : ∀ a ∈ fr.flatten, upd H p o' a = H a := fun a ha => upd_ne fun e => n2.2.2 p hpf a ha e.symm
  have Fp : F p = none := ow p (List.mem_append_right _ (List.mem_append_left _ hpf))
  refine ⟨fun a u e => ?_, f0, fn, fun a u e na => ?_, fun a u e ha => ?_, pin, fps, fp' :: fr, s1.mono (Inc.refl F) st1, ⟨_, _, _, _, rfl, rfl, r', RelTs.mono (Inc.refl F) _ _ _ st2 r2⟩, ⟨?_, fun a ha => ?_⟩, lc1, fun a ha => lc2.1 a (sub a ha), lc2.2⟩
  · rw [upd_ne (ne_of_none e Fp)]
    exact le a u e
  · have ne : a ≠ p := fun q => by
      subst q
      rcases old with z | z
      · rw [z] at e; cases e
      · exact na z
    rw [upd_ne ne]
    exact kept a u e na
  · obtain ⟨u1, h1, h2⟩ := stab a u e ha
    by_cases q : a = p
    · subst q
      rw [hp] at h1
      cases h1
      exact ⟨o', upd_same, h2.trans hst⟩
    · exact ⟨u1, by rw [upd_ne q]; exact h1, h2⟩
  · rw [List.flatten_cons]
    exact List.nodup_append.mpr ⟨n.1, List.nodup_append.mpr ⟨nd', n2.2.1, fun a ha c hc e => n2.2.2 a (sub a ha) c hc e⟩, fun a ha c hc e => n.2.2 a ha c ((List.mem_append.mp hc).elim (fun z => List.mem_append_left _ (sub c z)) fun z => List.mem_append_right _ z) e⟩
  · rw [List.flatten_cons] at ha
    rcases List.mem_append.mp ha with z | z
    · exact ow a (List.mem_append_left _ z)
    · rcases List.mem_append.mp z with z | z
      · exact ow a (List.mem_append_right _ (List.mem_append_left _ (sub a z)))
      · exact ow a (List.mem_append_right _ (List.mem_append_right _ z))

/-! ### a thing of one's own becomes deep data -/
mutual
def T.fz : T → Option D
  | .un => none
  | .f d => some d
  | .l ds => some (.lst ds)
  | .dk ks ds => some (.dct ks ds)
  | .di _ _ => none
  | .ll ts => (T.fzs ts).map .lst
  | .tu ts => (T.fzs ts).map .tup
  | .o C ns ts => (T.fzs ts).map (.obj C ns)
  | .ln ds => some (.lst ds)
  | .gb _ => none
  | .rg _ => none
def T.fzs : List T → Option (List D)
  | [] => some []
  | t :: ts => (T.fz t).bind fun d => (T.fzs ts).map fun ds => d :: ds
end
mutual
theorem Rep.nwi {W : Wd} {F : Hp} {P Q : Addr → Prop} (h : ∀ a, P a → Q a) : ∀ (d : D) (v : V), Rep (W.re P) F d v → Rep (W.re Q) F d v
  | .non, _, r => r
  | .bl _, _, r => r
  | .int _, _, r => r
  | .str _, _, r => r
  | .tup l, _, ⟨p, vs, e, s, q⟩ => ⟨p, vs, e, s, Reps.nwi h l vs q⟩
  | .lst l, _, ⟨p, vs, e, s, q⟩ => ⟨p, vs, e, s, Reps.nwi h l vs q⟩
  | .nst l, _, ⟨p, vs, e, s, n, q⟩ => ⟨p, vs, e, s, h p n, Reps.nwi h l vs q⟩
  | .dct ks ds, _, ⟨p, kvs, e, s, k, q⟩ => ⟨p, kvs, e, s, k, Reps.nwi h ds _ q⟩
  | .obj C ns ds, _, ⟨p, dx, kvs, e, s, k, q⟩ => ⟨p, dx, kvs, e, s, k, Reps.nwi h ds _ q⟩
theorem Reps.nwi {W : Wd} {F : Hp} {P Q : Addr → Prop} (h : ∀ a, P a → Q a) : ∀ (ds : List D) (vs : List V), Reps (W.re P) F ds vs → Reps (W.re Q) F ds vs
  | [], _, r => r
  | d :: ds, _, ⟨v, vr, e, a, b⟩ => ⟨v, vr, e, Rep.nwi h d v a, Reps.nwi h ds vr b⟩
end
mutual
theorem RelT.fz {F F' H : Hp} (hF : Inc F F') : ∀ (t : T) (v : V) (fp : List Addr) (d : D), RelT W F H t v fp → (∀ a ∈ fp, F' a = H a) → t.fz = some d → Rep W F' d v
  | .un, _, _, _, _, _, e => by unfold T.fz at e; cases e
  | .f d, _, _, _, r, _, e => by
    unfold T.fz at e
    cases e
    exact r.2.inc hF
  | .l ds, _, _, _, r, h, e => by
    unfold T.fz at e
    cases e
    obtain ⟨p, vs, e1, e2, e3, q⟩ := r
    exact ⟨p, vs, e1, .inl (.inl (by rw [h p (by rw [e2]; exact List.mem_singleton.mpr rfl)]; exact e3)), q.inc hF⟩
  | .dk ks ds, _, _, _, r, h, e => by
    unfold T.fz at e
    cases e
    obtain ⟨p, kvs, e1, e2, e3, k, q⟩ := r
    exact ⟨p, kvs, e1, .inl (by rw [h p (by rw [e2]; exact List.mem_singleton.mpr rfl)]; exact e3), k, q.inc hF⟩
  | .di _ _, _, _, _, _, _, e => by unfold T.fz at e; cases e
  | .ll ts, _, _, _, r, h, e => by
    unfold T.fz at e
    obtain ⟨ds, e0, e⟩ := Option.map_eq_some_iff.mp e
    subst e
    obtain ⟨p, vs, fps, e1, e2, e3, q⟩ := r
    exact ⟨p, vs, e1, .inl (.inl (by rw [h p (by rw [e2]; exact List.mem_cons_self)]; exact e3)), RelTs.fz hF ts vs fps ds q (fun a ha => h a (by rw [e2]; exact List.mem_cons_of_mem _ ha)) e0⟩
  | .tu ts, _, _, _, r, h, e => by
    unfold T.fz at e
    obtain ⟨ds, e0, e⟩ := Option.map_eq_some_iff.mp e
    subst e
    obtain ⟨p, vs, fps, e1, e2, e3, q⟩ := r
    exact ⟨p, vs, e1, .inl (.inl (by rw [h p (by rw [e2]; exact List.mem_cons_self)]; exact e3)), RelTs.fz hF ts vs fps ds q (fun a ha => h a (by rw [e2]; exact List.mem_cons_of_mem _ ha)) e0⟩
  | .o C ns ts, _, _, _, r, h, e => by
    unfold T.fz at e
    obtain ⟨ds, e0, e⟩ := Option.map_eq_some_iff.mp e
    subst e
    obtain ⟨p, dx, kvs, fps, e1, e2, e3, k, q⟩ := r
    exact ⟨p, dx, kvs, e1, by rw [h p (by rw [e2]; exact List.mem_cons_self)]; exact e3, k, RelTs.fz hF ts _ fps ds q (fun a ha => h a (by rw [e2]; exact List.mem_cons_of_mem _ ha)) e0⟩
  | .ln ds, _, fp, _, r, h, e => by
    unfold T.fz at e
    cases e
    obtain ⟨p, vs, fr, e1, e2, e3, q, pl, nw⟩ := r
    refine ⟨p, vs, e1, .inl (.inl (by rw [h p (by rw [e2]; exact List.mem_cons_self)]; exact e3)), Reps.inc (fun a o q => ?_) (Reps.nwi nw _ _ q)⟩
    unfold mix at q
    split at q
    · rename_i ha
      rw [h a (by rw [e2]; exact List.mem_cons_of_mem _ ha)]
      exact q
    · exact hF a o q
  | .gb _, _, _, _, _, _, e => by unfold T.fz at e; cases e
  | .rg _, _, _, _, _, _, e => by unfold T.fz at e; cases e
theorem RelTs.fz {F F' H : Hp} (hF : Inc F F') : ∀ (ts : List T) (vs : List V) (fps : List (List Addr)) (ds : List D), RelTs W F H ts vs fps → (∀ a ∈ fps.flatten, F' a = H a) → T.fzs ts = some ds → Reps W F' ds vs
  | [], _, _, _, r, _, e => by
    unfold T.fzs at e
    cases e
    exact r.1
  | t :: ts, _, _, _, r, h, e => by
    unfold T.fzs at e
    obtain ⟨d, e1, e⟩ := Option.bind_eq_some_iff.mp e
    obtain ⟨ds, e2, e⟩ := Option.map_eq_some_iff.mp e
    subst e
    obtain ⟨v, vr, f, fr, e3, e4, a, b⟩ := r
    subst e4
    rw [List.flatten_cons] at h
    exact ⟨v, vr, e3, RelT.fz hF t v f d a (fun x hx => h x (List.mem_append_left _ hx)) e1, RelTs.fz hF ts vr fr ds b (fun x hx => h x (List.mem_append_right _ hx)) e2⟩
end
theorem SR.frz {x : Tm} {d : D} (S : SR W b F ρ σ (x :: X) H) (ho : x.og = none) (hd : x.t.fz = some d) : ∃ F', SR W b F' ρ σ (⟨none, .f d, x.v⟩ :: X) H ∧ Inc F F' := by
  obtain ⟨le, f0, fn, kept, stab, pin, fps, xps, s1, s2, ⟨nd, ow⟩, lc1, lc2⟩ := S
  obtain ⟨v, vr, f, fr, e1, e2, r, r2⟩ := s2
  have e3 : x.v = v := (List.cons.inj e1).1
  have e4 : X.map (·.v) = vr := (List.cons.inj e1).2
  subst e2 e3 e4
  rw [List.flatten_cons] at nd ow
  have n := List.nodup_append.mp nd
  have n2 := List.nodup_append.mp n.2.1
  have there := RelT.there _ _ _ r
  have new : ∀ a ∈ f, b.H0 a = none ∨ a ∈ b.A := fun a ha => lc2.1 a ha
  refine ⟨fun a => if a ∈ f then H a else F a, ⟨?_, ?_, ?_, kept, stab, pin, fps, [] :: fr, s1.mono ?_ fun _ _ => rfl, ⟨_, _, _, _, rfl, rfl, ⟨rfl, RelT.fz ?_ _ _ f d r (fun a ha => if_pos ha) hd⟩, RelTs.mono ?_ _ _ _ (fun _ _ => rfl) r2⟩, ⟨?_, fun a ha => ?_⟩, lc1, fun a ha => (by cases ha), lc2.2⟩, ?_⟩
  case refine_1 =>
    intro a o e
    by_cases h : a ∈ f
    · simp only [if_pos h] at e; exact .inl e
    · simp only [if_neg h] at e; exact le a o e
  case refine_3 =>
    intro a o e
    by_cases h : a ∈ f
    · exact .inr (new a h)
    · simp only [if_neg h] at e; exact fn a o e
  case refine_7 =>
    rw [List.flatten_cons, List.nil_append]
    exact List.nodup_append.mpr ⟨n.1, n2.2.1, fun a ha c hc e => n.2.2 a ha c (List.mem_append_right _ hc) e⟩
  case refine_8 =>
    rw [List.flatten_cons, List.nil_append] at ha
    have nf : a ∉ f := fun z => by
      rcases List.mem_append.mp ha with y | y
      · exact n.2.2 a y a (List.mem_append_left _ z) rfl
      · exact n2.2.2 a z a y rfl
    simp only [if_neg nf]
    rcases List.mem_append.mp ha with y | y
    · exact ow a (List.mem_append_left _ y)
    · exact ow a (List.mem_append_right _ (List.mem_append_right _ y))
  all_goals
    have i : Inc F (fun a => if a ∈ f then H a else F a) := fun a o e => by
      by_cases h : a ∈ f
      · rw [ow a (List.mem_append_right _ (List.mem_append_left _ h))] at e; cases e
      · show (if a ∈ f then H a else F a) = some o
        rw [if_neg h]; exact e
    first
      | exact i
      | exact f0.trans i
end

/-! ### a call: the things held first are handed to it -/
/-- the things Xa on the way, behind a call that left ts' of them -/
def setTs : List Tm → List T → List Tm
  | x :: X, t :: ts => ⟨x.og, t, x.v⟩ :: setTs X ts
  | X, _ => X
theorem setTs_v : ∀ (X : List Tm) (ts : List T), (setTs X ts).map (·.v) = X.map (·.v)
  | [], _ => by unfold setTs; rfl
  | x :: X, [] => rfl
  | x :: X, t :: ts => by
    show x.v :: (setTs X ts).map (·.v) = _
    rw [setTs_v X ts]
    rfl
theorem setTs_t : ∀ (X : List Tm) (ts : List T), X.length = ts.length → (setTs X ts).map (·.t) = ts
  | [], [], _ => rfl
  | [], _ :: _, h => by cases h
  | x :: X, [], h => by cases h
  | x :: X, t :: ts, h => by
    show t :: (setTs X ts).map (·.t) = _
    rw [setTs_t X ts (by simpa using h)]
theorem LocX.any {b : Bs} : ∀ {X : List Tm} {yps : List (List Addr)}, (∀ a ∈ yps.flatten, b.H0 a = none ∨ a ∈ b.A) → LocX b X yps
  | [], _, _ => trivial
  | _ :: _, [], _ => trivial
  | x :: X, f :: fs, h => ⟨fun a ha => h a (List.mem_flatten.mpr ⟨f, List.mem_cons_self, ha⟩), LocX.any fun a ha => h a (by rw [List.flatten_cons]; exact List.mem_append_right _ ha)⟩
theorem LocX.append {b : Bs} : ∀ {X Y : List Tm} {xps yps : List (List Addr)}, X.length = xps.length → (LocX b (X ++ Y) (xps ++ yps) ↔ LocX b X xps ∧ LocX b Y yps)
  | [], _, [], _, _ => ⟨fun h => ⟨trivial, h⟩, fun h => h.2⟩
  | [], _, _ :: _, _, h => by cases h
  | x :: X, _, [], _, h => by cases h
  | x :: X, Y, f :: fs, yps, h => by
    have ih := LocX.append (b := b) (X := X) (Y := Y) (xps := fs) (yps := yps) (by simpa using h)
    exact ⟨fun q => ⟨⟨q.1, (ih.mp q.2).1⟩, (ih.mp q.2).2⟩, fun q => ⟨q.1.1, ih.mpr ⟨q.1.2, q.2⟩⟩⟩
theorem RelTs.split {W : Wd} {F H : Hp} : ∀ {ts us : List T} {vs ws : List V} {fps : List (List Addr)}, ts.length = vs.length → RelTs W F H (ts ++ us) (vs ++ ws) fps → ∃ f1 f2, fps = f1 ++ f2 ∧ RelTs W F H ts vs f1 ∧ RelTs W F H us ws f2
  | [], _, [], _, fps, _, r => ⟨[], fps, rfl, ⟨rfl, rfl⟩, r⟩
  | [], _, _ :: _, _, _, h, _ => by cases h
  | _ :: _, _, [], _, _, h, _ => by cases h
  | t :: ts, us, v :: vs, ws, _, h, r => by
    obtain ⟨v', vr, f, fr, e1, e2, a, b⟩ := r
    have e3 := (List.cons.inj e1).1
    have e4 := (List.cons.inj e1).2
    subst e2 e3 e4
    obtain ⟨f1, f2, e, q1, q2⟩ := RelTs.split (by simpa using h) b
    subst e
    exact ⟨f :: f1, f2, rfl, ⟨_, _, _, _, rfl, rfl, a, q1⟩, q2⟩
theorem RelTs.join {W : Wd} {F H : Hp} : ∀ {ts us : List T} {vs ws : List V} {f1 f2 : List (List Addr)}, RelTs W F H ts vs f1 → RelTs W F H us ws f2 → RelTs W F H (ts ++ us) (vs ++ ws) (f1 ++ f2)
  | [], _, _, _, _, _, r, q => by
    rw [r.1, r.2]
    exact q
  | t :: ts, _, _, _, _, _, r, q => by
    obtain ⟨v', vr, f, fr, e1, e2, a, b⟩ := r
    rw [e1, e2]
    exact ⟨_, _, _, _, rfl, rfl, a, RelTs.join b q⟩

/-- a def's entry: its arguments, each at its place -/
def bsOf (H F : Hp) (fps : List (List Addr)) (io : List Nat) (vs : List V) : Bs := ⟨H, F, fps, io.filterMap fun i => vs[i]?.map fun v => (i, v)⟩
section
variable {W : Wd} {b : Bs} {F F' : Hp} {ρ : List T} {σ : St} {X Xa : List Tm} {H H' : Hp}
theorem SR.callX {ts' : List T} {io : List Nat} {xa : List (List Addr)} {τs : List Tm} (S : SR W b F ρ σ (Xa ++ X) H) {fps xps : List (List Addr)}
    (s1 : Slots W F H ρ σ fps) (sa : RelTs W F H (Xa.map (·.t)) (Xa.map (·.v)) xa) (s2 : RelTs W F H (X.map (·.t)) (X.map (·.v)) xps) (own : Own F (fps.flatten ++ (xa ++ xps).flatten)) (lc1 : LocS b fps) (lc2 : LocX b (Xa ++ X) (xa ++ xps))
    (hτ : ∀ x ∈ τs, x.og = none)
    (R : SR W (bsOf H F xa io (Xa.map (·.v))) F' ts' ((Xa.map (·.v)).map some) τs H') : SR W b F' ρ σ (τs ++ (setTs Xa ts' ++ X)) H' := by
  have la := RelTs.lenA sa
  have lxa : Xa.length = xa.length := by have := la.2; simpa using this
  obtain ⟨le, f0, fn, kept, stab, pin, _⟩ := id S
  obtain ⟨le', f0', fn', kept', stab', _, qps, tps, r1, r2, ⟨nd', ow'⟩, lr1, lr2⟩ := R
  have lts : ts'.length = xa.length := by
    have := r1.len.1
    simp only [List.length_map] at this
    omega
  -- the callee's places
  have hA : (bsOf H F xa io (Xa.map (·.v))).A = xa.flatten := rfl
  have hflat : (xa ++ xps).flatten = xa.flatten ++ xps.flatten := List.flatten_append
  rw [hflat] at own
  obtain ⟨nd, ow⟩ := own
  have n := List.nodup_append.mp nd
  have n2 := List.nodup_append.mp n.2.1
  have lcs := (LocX.append (b := b) lxa).mp lc2
  have thereF : ∀ a ∈ fps.flatten, ∃ o, H a = some o := Slots.there s1
  have thereX : ∀ a ∈ xps.flatten, ∃ o, H a = some o := RelTs.there _ _ _ s2
  have st1 : ∀ a ∈ fps.flatten, H' a = H a := fun a ha => by
    obtain ⟨o, e⟩ := thereF a ha
    rw [e]
    exact kept' a o e fun z => n.2.2 a ha a (List.mem_append_left _ z) rfl
  have st2 : ∀ a ∈ xps.flatten, H' a = H a := fun a ha => by
    obtain ⟨o, e⟩ := thereX a ha
    rw [e]
    exact kept' a o e fun z => n2.2.2 a z a ha rfl
  -- the result's places: new, or the arguments'
  have old : ∀ a ∈ qps.flatten ++ tps.flatten, H a = none ∨ a ∈ xa.flatten := fun a ha => by
    rcases List.mem_append.mp ha with z | z
    · exact LocS.old lr1 z
    · refine LocX.old ?_ lr2 z
      have := RelTs.lenA r2
      simpa using this.2
  have mine : ∀ a, H a = none ∨ a ∈ xa.flatten → b.H0 a = none ∨ a ∈ b.A := fun a h => by
    rcases h with z | z
    · exact .inl (S.new0 z)
    · exact LocX.old lxa lcs.1 z
  have slotsT : RelTs W F' H' ts' (Xa.map (·.v)) qps := by
    have key : ∀ {ts : List T} {vs : List V} {fs : List (List Addr)}, Slots W F' H' ts (vs.map some) fs → RelTs W F' H' ts vs fs := by
      intro ts
      induction ts with
      | nil =>
        intro vs fs r
        cases vs with
        | nil => exact ⟨rfl, r.2⟩
        | cons _ _ => cases r.1
      | cons t ts ih =>
        intro vs fs r
        obtain ⟨s, sr, f, fr, e1, e2, a, r⟩ := r
        cases vs with
        | nil => cases e1
        | cons v vs =>
          have e3 : some v = s := (List.cons.inj e1).1
          have e4 : vs.map some = sr := (List.cons.inj e1).2
          subst e3 e4
          exact ⟨v, vs, f, fr, rfl, e2, a, ih r⟩
    exact key r1
  have n' := List.nodup_append.mp nd'
  have tvs : ∀ {Y : List Tm}, True := trivial
  refine ⟨le', f0.trans f0', fun a o e => ?_, fun a o e na => ?_, fun a o e ha => ?_, pin, fps, tps ++ (qps ++ xps), s1.mono f0' st1, ?_, ⟨?_, fun a ha => ?_⟩, lc1, ?_⟩
  · rcases fn' a o e with z | z | z
    · exact fn a o z
    · exact .inr (.inl (S.new0 z))
    · exact .inr (LocX.old lxa lcs.1 z)
  · refine kept' a o (kept a o e na) fun z => ?_
    rcases LocX.old lxa lcs.1 z with q | q
    · rw [q] at e; cases e
    · exact na q
  · obtain ⟨u, h1, h2⟩ := stab a o e ha
    by_cases z : a ∈ xa.flatten
    · obtain ⟨u', h3, h4⟩ := stab' a u h1 z
      exact ⟨u', h3, h2.trans h4⟩
    · exact ⟨u, kept' a u h1 z, h2⟩
  · rw [List.map_append, List.map_append, List.map_append, List.map_append, setTs_v, setTs_t _ _ (by omega)]
    exact RelTs.join r2 (RelTs.join slotsT (RelTs.mono f0' _ _ _ st2 s2))
  · rw [List.flatten_append, List.flatten_append]
    have dj1 : ∀ a ∈ fps.flatten, a ∉ qps.flatten ++ tps.flatten := fun a ha z => by
      obtain ⟨o, e⟩ := thereF a ha
      rcases old a z with q | q
      · rw [q] at e; cases e
      · exact n.2.2 a ha a (List.mem_append_left _ q) rfl
    have dj2 : ∀ a ∈ xps.flatten, a ∉ qps.flatten ++ tps.flatten := fun a ha z => by
      obtain ⟨o, e⟩ := thereX a ha
      rcases old a z with q | q
      · rw [q] at e; cases e
      · exact n2.2.2 a q a ha rfl
    refine List.nodup_append.mpr ⟨n.1, List.nodup_append.mpr ⟨n'.2.1, List.nodup_append.mpr ⟨n'.1, n2.2.1, fun a ha c hc e => ?_⟩, fun a ha c hc e => ?_⟩, fun a ha c hc e => ?_⟩
    · subst e
      exact dj2 a hc (List.mem_append_left _ ha)
    · subst e
      rcases List.mem_append.mp hc with z | z
      · exact n'.2.2 a z a ha rfl
      · exact dj2 a z (List.mem_append_right _ ha)
    · subst e
      rcases List.mem_append.mp hc with z | z
      · exact dj1 a ha (List.mem_append_right _ z)
      · rcases List.mem_append.mp z with z | z
        · exact dj1 a ha (List.mem_append_left _ z)
        · exact n.2.2 a ha a (List.mem_append_right _ z) rfl
  · have unF : ∀ a, F a = none → (∃ o, H a = some o) → a ∉ xa.flatten → F' a = none := fun a h1 ⟨o, h2⟩ h3 => by
      cases y : F' a with
      | none => rfl
      | some w =>
        rcases fn' a w y with q | q | q
        · have q' : F a = some w := q
          rw [h1] at q'; cases q'
        · have q' : H a = none := q
          rw [h2] at q'; cases q'
        · exact absurd q h3
    rw [List.flatten_append, List.flatten_append] at ha
    rcases List.mem_append.mp ha with z | z
    · exact unF a (ow a (List.mem_append_left _ z)) (thereF a z) fun y => n.2.2 a z a (List.mem_append_left _ y) rfl
    · rcases List.mem_append.mp z with z | z
      · exact ow' a (List.mem_append_right _ z)
      · rcases List.mem_append.mp z with z | z
        · exact ow' a (List.mem_append_left _ z)
        · exact unF a (ow a (List.mem_append_right _ (List.mem_append_right _ z))) (thereX a z) fun y => n2.2.2 a y a z rfl
  · have l3 : τs.length = tps.length := by have := RelTs.lenA r2; simpa using this.2
    refine (LocX.append l3).mpr ⟨LocX.any fun a ha => mine a (old a (List.mem_append_right _ ha)), (LocX.append ?_).mpr ⟨LocX.any fun a ha => mine a (old a (List.mem_append_left _ ha)), lcs.2⟩⟩
    have h1 : (setTs Xa ts').length = Xa.length := by have := congrArg List.length (setTs_v Xa ts'); simpa using this
    rw [h1, lxa]
    have := r1.len.2
    omega
end
end Z

namespace Z
open PySem L2

/-- what an expression comes to: a value, or an exception of a class of the program; the slots behind it -/
inductive Re where
  | ok (t : T) (ρ : List T)
  | xc (C : Nat) (ρ : List T)
def Bok (P : Sg) (b : Bs) : Prop := b.As.length = P.m ∧ b.io.map (·.1) = P.io ∧ ∀ p ∈ P.al, ∃ v, (p.1, v) ∈ b.io ∧ (p.2, v) ∈ b.io
def Post (W : Wd) (b : Bs) (F : Hp) (σ : St) (X : List Tm) (Q : VK) (E : St → XK) : Re → Prop
  | .ok τ ρ => ∀ v F' H', SR W b F' ρ σ (⟨none, τ, v⟩ :: X) H' → Inc F F' → Q v H'
  | .xc C ρ => ∀ d F' H', SR W b F' ρ σ X H' → Inc F F' → E σ (.ref (W.cl C)) d H'
def So (W : Wd) (P : Sg) (E : St → XK) (t : TE) (f : List T → Option Re) : Prop :=
  ∀ b F ρ σ X H r Q, Bok P b → SR W b F ρ σ X H → f ρ = some r → Post W b F σ X Q E r → t σ H Q
def Eo (c : Ctx) (e : Expr) (f : List T → Option Re) : Prop := ∃ t, (∀ j, PE (c.X j) e t) ∧ So c.W c.P c.E t f
theorem Post.mono {W : Wd} {b : Bs} {F F1 : Hp} {σ : St} {X : List Tm} {Q : VK} {E : St → XK} {r : Re} (h : Post W b F σ X Q E r) (i : Inc F F1) : Post W b F1 σ X Q E r := by
  cases r with
  | ok τ ρ => exact fun v F' H' S i' => h v F' H' S (i.trans i')
  | xc C ρ => exact fun d F' H' S i' => h d F' H' S (i.trans i')

/-! ### pure things as such -/
def lift (f : List T → Option T) : List T → Option Re := fun ρ => (f ρ).bind fun t => t.d?.map fun d => .ok (.f d) ρ
theorem d_some {t : T} {d : D} (h : t.d? = some d) : t = .f d := by
  cases t with
  | f d' => cases h; rfl
  | _ => cases h
section
variable {c : Ctx} {e : Expr} {f : List T → Option T} {fo : List T → Option Re}
theorem so_lift {W : Wd} {P : Sg} {E : St → XK} {t : TE} (h : Sv W t f) : So W P E t (lift f) := by
  intro b F ρ σ X H r Q _ S e p
  unfold lift at e
  obtain ⟨τ, e1, e⟩ := Option.bind_eq_some_iff.mp e
  obtain ⟨d, e2, e⟩ := Option.map_eq_some_iff.mp e
  subst e
  rw [d_some e2] at e1
  exact h b F ρ σ X H _ Q S e1 fun v F' H' S' i s r => p v F' H' (S'.push r.rep) i
theorem Ev.o (h : Ev c e f) : Eo c e (lift f) := by
  obtain ⟨t, p, s⟩ := h
  exact ⟨t, p, so_lift s⟩
/-- a name's thing of its own is moved away (a name that is no parameter) -/
def fMv (i : Nat) : List T → Option Re := fun ρ => match ρ[i]? with
  | some .un => none
  | some t => some (.ok t (ρ.set i .un))
  | none => none
theorem eo_mv {i : Nat} {x : Str} {pos : Pos} (hi : c.N[i]? = some x) (hv : ∀ j, Vis (c.X j).env.scope x) (hm : c.P.m ≤ i) (hd : (x == ("__debug__" : Str)) = false := by decide) (hcd : (x == ("__classdict__" : Str)) = false := by decide) : Eo c (.Name x pos) (fMv i) := by
  refine ⟨_, fun j => pe_var (i := i) (by rw [c.hN j]; exact hi) (hv j) hd hcd, ?_⟩
  intro b F ρ σ X H r Q hb S e p
  unfold fMv at e
  cases q : ρ[i]? with
  | none => rw [q] at e; cases e
  | some t =>
    have ht : t ≠ .un := by
      rintro rfl
      rw [q] at e
      cases e
    have e2 : r = .ok t (ρ.set i .un) := by
      rw [q] at e
      cases t with
      | un => exact absurd rfl ht
      | _ => exact (Option.some.inj e).symm
    subst e2
    obtain ⟨s, fp, e1, r⟩ := S.slot q
    cases s with
    | none => exact absurd r.1 ht
    | some v =>
      have S' := S.take q e1
      refine ⟨v, e1, p v F H ?_ (Inc.refl F)⟩
      -- it is new
      obtain ⟨le, f0, fn, kept, stab, pin, fps, xps, s1, s2, ow, lc1, lc2⟩ := S'
      refine ⟨le, f0, fn, kept, stab, pin, fps, xps, s1, s2, ow, lc1, ?_⟩
      cases xps with
      | nil => exact trivial
      | cons f fs => exact lc2
/-- a thing of one's own becomes deep data -/
def fFz (f : List T → Option Re) : List T → Option Re := fun ρ => (f ρ).bind fun r => match r with
  | .ok t ρ' => t.fz.map fun d => .ok (.f d) ρ'
  | r => some r
theorem eo_fz (h : Eo c e fo) : Eo c e (fFz fo) := by
  obtain ⟨t, p, s⟩ := h
  refine ⟨t, p, ?_⟩
  intro b F ρ σ X H r Q hb S e k
  unfold fFz at e
  obtain ⟨r', e1, e⟩ := Option.bind_eq_some_iff.mp e
  refine s b F ρ σ X H r' Q hb S e1 ?_
  cases r' with
  | ok t ρ' =>
    obtain ⟨d, e2, e⟩ := Option.map_eq_some_iff.mp e
    subst e
    intro v F' H' S' i
    obtain ⟨F2, S2, i2⟩ := S'.frz rfl e2
    exact k v F2 H' S2 (i.trans i2)
  | xc C ρ' =>
    cases e
    exact k
end

/-! ### arguments -/
/-- a value, or what a slot holds (handed over for the call) -/
inductive Ar where
  | v (t : T)
  | s (j : Nat)
  | a (j : Nat)
inductive Rs where
  | ok (as : List Ar) (ρ : List T)
  | xc (C : Nat) (ρ : List T)
def Xv : List Ar → List V → List Tm
  | .v t :: r, v :: vs => ⟨none, t, v⟩ :: Xv r vs
  | .s _ :: r, _ :: vs => Xv r vs
  | .a _ :: r, _ :: vs => Xv r vs
  | _, _ => []
def Args (σ : St) : List Ar → List V → Prop
  | [], vs => vs = []
  | .v _ :: r, vs => ∃ v vr, vs = v :: vr ∧ Args σ r vr
  | .s j :: r, vs => ∃ v vr, vs = v :: vr ∧ σ[j]? = some (some v) ∧ Args σ r vr
  | .a j :: r, vs => ∃ v vr, vs = v :: vr ∧ σ[j]? = some (some v) ∧ Args σ r vr
def PostA (W : Wd) (b : Bs) (F : Hp) (σ : St) (X : List Tm) (Q : List V → Hp → Prop) (E : St → XK) : Rs → Prop
  | .ok as ρ => ∀ vs F' H', SR W b F' ρ σ (Xv as vs ++ X) H' → Args σ as vs → Inc F F' → Q vs H'
  | .xc C ρ => ∀ d F' H', SR W b F' ρ σ X H' → Inc F F' → E σ (.ref (W.cl C)) d H'
def Sa (W : Wd) (P : Sg) (E : St → XK) (t : TA) (f : List T → Option Rs) : Prop :=
  ∀ b F ρ σ X H r Q, Bok P b → SR W b F ρ σ X H → f ρ = some r → PostA W b F σ X Q E r → t σ H Q
def Ao (c : Ctx) (es : List Expr) (f : List T → Option Rs) : Prop := ∃ t, (∀ j, PA (c.X j) es t) ∧ Sa c.W c.P c.E t f
def bNil : List T → Option Rs := fun ρ => some (.ok [] ρ)
def bCons (f : List T → Option Re) (g : List T → Option Rs) : List T → Option Rs := fun ρ => (f ρ).bind fun r => match r with
  | .ok t ρ1 => (g ρ1).map fun r => match r with
    | .ok as ρ2 => .ok (.v t :: as) ρ2
    | r => r
  | .xc C ρ1 => some (.xc C ρ1)
def bSlot0 (i : Nat) (g : List T → Option Rs) : List T → Option Rs := fun ρ => (g ρ).map fun r => match r with
    | .ok as ρ2 => .ok (.s i :: as) ρ2
    | r => r
def bSlot (i : Nat) (g : List T → Option Rs) : List T → Option Rs := fun ρ => match ρ[i]? with
  | none => none
  | some .un => none
  | some _ => bSlot0 i g ρ
section
variable {c : Ctx} {a : Expr} {es : List Expr} {fo : List T → Option Re} {fs : List T → Option Rs}
theorem ao_nil : Ao c [] bNil := by
  refine ⟨_, fun _ => pa_nil, ?_⟩
  intro b F ρ σ X H r Q hb S e p
  cases e
  exact p [] F H S rfl (Inc.refl F)
theorem xc_drop {W : Wd} {b : Bs} {F : Hp} {ρ : List T} {σ : St} {Y X : List Tm} {H : Hp} (S : SR W b F ρ σ (Y ++ X) H) : SR W b F ρ σ X H := by
  induction Y with
  | nil => exact S
  | cons y Y ih => exact ih S.drop
theorem ao_cons (ha : Eo c a fo) (hr : Ao c es fs) (hs : ∀ j, starEach (a :: es) (c.X j).env = (false, eval a (c.X j).env) :: starEach es (c.X j).env := by intro _; rfl) : Ao c (a :: es) (bCons fo fs) := by
  obtain ⟨t, p, s⟩ := ha
  obtain ⟨u, q, s'⟩ := hr
  refine ⟨_, fun j => pa_cons (p j) (q j) (hs j), ?_⟩
  intro b F ρ σ X H r Q hb S e k
  unfold bCons at e
  obtain ⟨r1, e1, e⟩ := Option.bind_eq_some_iff.mp e
  refine s b F ρ σ X H r1 _ hb S e1 ?_
  cases r1 with
  | ok τ ρ1 =>
    obtain ⟨r2, e2, e⟩ := Option.map_eq_some_iff.mp e
    intro v F1 H1 S1 i1
    refine s' b F1 ρ1 σ (⟨none, τ, v⟩ :: X) H1 r2 _ hb S1 e2 ?_
    cases r2 with
    | ok as ρ2 =>
      subst e
      intro vs F2 H2 S2 g2 i2
      exact k (v :: vs) F2 H2 (S2.perm (List.perm_middle)) ⟨v, vs, rfl, g2⟩ (i1.trans i2)
    | xc C ρ2 =>
      subst e
      intro d F2 H2 S2 i2
      exact k d F2 H2 S2.drop (i1.trans i2)
  | xc C ρ1 =>
    cases e
    exact k
/-- a name's thing, handed over for the call -/
theorem ao_slot {i : Nat} {x : Str} {pos : Pos} (hi : c.N[i]? = some x) (hv : ∀ j, Vis (c.X j).env.scope x) (hr : Ao c es fs) (hs : ∀ j, starEach (.Name x pos :: es) (c.X j).env = (false, eval (.Name x pos) (c.X j).env) :: starEach es (c.X j).env := by intro _; rfl)
    (hd : (x == ("__debug__" : Str)) = false := by decide) (hcd : (x == ("__classdict__" : Str)) = false := by decide) : Ao c (.Name x pos :: es) (bSlot i fs) := by
  obtain ⟨u, q, s'⟩ := hr
  refine ⟨_, fun j => pa_cons (pe_var (i := i) (by rw [c.hN j]; exact hi) (hv j) hd hcd) (q j) (hs j), ?_⟩
  intro b F ρ σ X H r Q hb S e k
  unfold bSlot at e
  cases z : ρ[i]? with
  | none => rw [z] at e; cases e
  | some t =>
    have ht : t ≠ .un := by
      rintro rfl
      rw [z] at e
      cases e
    have e2 : bSlot0 i fs ρ = some r := by
      rw [z] at e
      cases t with
      | un => exact absurd rfl ht
      | _ => exact e
    unfold bSlot0 at e2
    obtain ⟨r2, e3, e4⟩ := Option.map_eq_some_iff.mp e2
    obtain ⟨s, fp, e1, rr⟩ := S.slot z
    cases s with
    | none => exact absurd rr.1 ht
    | some v =>
      refine ⟨v, e1, s' b F ρ σ X H r2 _ hb S e3 ?_⟩
      cases r2 with
      | ok as ρ2 =>
        subst e4
        intro vs F2 H2 S2 g2 i2
        exact k (v :: vs) F2 H2 S2 ⟨v, vs, rfl, e1, g2⟩ i2
      | xc C ρ2 =>
        subst e4
        exact k
/-- what the slots hold is taken out, the arguments lie in order -/
def takeF : List Ar → List T → Option (List T × List T)
  | [], ρ => some ([], ρ)
  | .v t :: r, ρ => (takeF r ρ).map fun p => (t :: p.1, p.2)
  | .s j :: r, ρ => match ρ[j]? with
    | none => none
    | some .un => none
    | some t => (takeF r (ρ.set j .un)).map fun p => (t :: p.1, p.2)
  | .a _ :: r, ρ => (takeF r ρ).map fun p => (.un :: p.1, p.2)
def Xo : List Ar → List T → List V → List Tm
  | .v _ :: r, t :: ts, v :: vs => ⟨none, t, v⟩ :: Xo r ts vs
  | .s j :: r, t :: ts, v :: vs => ⟨some j, t, v⟩ :: Xo r ts vs
  | .a _ :: r, t :: ts, v :: vs => ⟨none, t, v⟩ :: Xo r ts vs
  | _, _, _ => []
/-- .. and put back -/
def putF : List Ar → List T → List T → List T
  | .v _ :: r, _ :: ts, ρ => putF r ts ρ
  | .s j :: r, t :: ts, ρ => putF r ts (ρ.set j t)
  | .a _ :: r, _ :: ts, ρ => putF r ts ρ
  | _, _, ρ => ρ
theorem SR.pushUn {W : Wd} {b : Bs} {F : Hp} {ρ : List T} {σ : St} {X : List Tm} {H : Hp} (v : V) (S : SR W b F ρ σ X H) : SR W b F ρ σ (⟨none, .un, v⟩ :: X) H := by
  obtain ⟨le, f0, fn, kept, stab, pin, fps, xps, s1, s2, ⟨nd, ow⟩, lc1, lc2⟩ := S
  exact ⟨le, f0, fn, kept, stab, pin, fps, [] :: xps, s1, ⟨_, _, _, _, rfl, rfl, rfl, s2⟩, ⟨by rw [List.flatten_cons]; exact nd, fun a ha => ow a (by rw [List.flatten_cons] at ha; exact ha)⟩, lc1, ⟨fun a ha => (nomatch ha), lc2⟩⟩
theorem take_ok {W : Wd} {b : Bs} {F : Hp} {σ : St} {H : Hp} : ∀ {as : List Ar} {vs : List V} {ρ ρ' : List T} {ts : List T} {Y : List Tm}, SR W b F ρ σ (Xv as vs ++ Y) H → Args σ as vs → takeF as ρ = some (ts, ρ') →
    SR W b F ρ' σ (Xo as ts vs ++ Y) H ∧ (Xo as ts vs).map (·.t) = ts ∧ (Xo as ts vs).map (·.v) = vs
  | [], _, _, _, _, _, S, g, e => by
    cases e
    have g' : _ = [] := g
    subst g'
    exact ⟨S, rfl, rfl⟩
  | .v t :: r, _, ρ, _, _, Y, S, g, e => by
    obtain ⟨v, vr, e1, g⟩ := g
    subst e1
    obtain ⟨p, e2, e⟩ := Option.map_eq_some_iff.mp (show (takeF r ρ).map _ = _ from e)
    cases e
    obtain ⟨S', h1, h2⟩ := take_ok (Y := ⟨none, t, v⟩ :: Y) (S.perm List.perm_middle.symm) g e2
    exact ⟨S'.perm List.perm_middle, by show t :: _ = _; rw [h1], by show v :: _ = _; rw [h2]⟩
  | .s j :: r, _, ρ, ρz, tsz, Y, S, g, e => by
    obtain ⟨v, vr, e1, hv, g⟩ := g
    subst e1
    unfold takeF at e
    cases z : ρ[j]? with
    | none => rw [z] at e; cases e
    | some t =>
      have ht : t ≠ .un := by
        rintro rfl
        rw [z] at e
        cases e
      have e3 : (takeF r (ρ.set j .un)).map (fun p => (t :: p.1, p.2)) = some (tsz, ρz) := by
        rw [z] at e
        cases t with
        | un => exact absurd rfl ht
        | _ => exact e
      obtain ⟨p, e2, e⟩ := Option.map_eq_some_iff.mp e3
      cases e
      have S1 := S.take z hv
      obtain ⟨S', h1, h2⟩ := take_ok (as := r) (vs := vr) (Y := ⟨some j, t, v⟩ :: Y) (S1.perm List.perm_middle.symm) g e2
      exact ⟨S'.perm List.perm_middle, by show t :: _ = _; rw [h1], by show v :: _ = _; rw [h2]⟩
  | .a j :: r, _, ρ, _, _, Y, S, g, e => by
    obtain ⟨v, vr, e1, hv, g⟩ := g
    subst e1
    obtain ⟨p, e2, e⟩ := Option.map_eq_some_iff.mp (show (takeF r ρ).map _ = _ from e)
    cases e
    obtain ⟨S', h1, h2⟩ := take_ok (as := r) (vs := vr) (Y := ⟨none, .un, v⟩ :: Y) ((SR.pushUn v S).perm List.perm_middle.symm) g e2
    exact ⟨S'.perm List.perm_middle, by show T.un :: _ = _; rw [h1], by show v :: _ = _; rw [h2]⟩
theorem put_ok {W : Wd} {b : Bs} {F : Hp} {σ : St} {H : Hp} : ∀ {as : List Ar} {vs : List V} {ρ : List T} {ts us : List T} {Z Y : List Tm}, SR W b F ρ σ (Z ++ (setTs (Xo as ts vs) us ++ Y)) H → Args σ as vs → ts.length = as.length → us.length = as.length → SR W b F (putF as us ρ) σ (Z ++ Y) H
  | [], _, _, [], [], _, _, S, _, _, _ => S
  | [], _, _, _ :: _, _, _, _, _, _, h, _ => by cases h
  | [], _, _, [], _ :: _, _, _, _, _, _, h => by cases h
  | _ :: _, _, _, [], _, _, _, _, _, h, _ => by cases h
  | _ :: _, _, _, _ :: _, [], _, _, _, _, _, h => by cases h
  | .v t :: r, _, ρ, t1 :: ts, u :: us, Z, Y, S, g, h1, h2 => by
    obtain ⟨v, vr, e1, g⟩ := g
    subst e1
    have S' : SR W b F ρ σ (Z ++ (⟨none, u, v⟩ :: (setTs (Xo r ts vr) us ++ Y))) H := S
    exact put_ok (as := r) (S'.perm List.perm_middle).drop g (by simpa using h1) (by simpa using h2)
  | .s j :: r, _, ρ, t1 :: ts, u :: us, Z, Y, S, g, h1, h2 => by
    obtain ⟨v, vr, e1, hv, g⟩ := g
    subst e1
    have S' : SR W b F ρ σ (Z ++ (⟨some j, u, v⟩ :: (setTs (Xo r ts vr) us ++ Y))) H := S
    exact put_ok (as := r) ((S'.perm List.perm_middle).back hv) g (by simpa using h1) (by simpa using h2)
  | .a j :: r, _, ρ, t1 :: ts, u :: us, Z, Y, S, g, h1, h2 => by
    obtain ⟨v, vr, e1, hv, g⟩ := g
    subst e1
    have S' : SR W b F ρ σ (Z ++ (⟨none, u, v⟩ :: (setTs (Xo r ts vr) us ++ Y))) H := S
    exact put_ok (as := r) (S'.perm List.perm_middle).drop g (by simpa using h1) (by simpa using h2)
theorem take_len : ∀ {as : List Ar} {ρ ρ' ts : List T}, takeF as ρ = some (ts, ρ') → ts.length = as.length
  | [], _, _, _, e => by cases e; rfl
  | .v t :: r, ρ, _, _, e => by
    obtain ⟨p, e2, e⟩ := Option.map_eq_some_iff.mp (show (takeF r ρ).map _ = _ from e)
    cases e
    simp [take_len e2]
  | .s j :: r, ρ, _, _, e => by
    unfold takeF at e
    split at e
    · cases e
    · cases e
    · obtain ⟨p, e2, e⟩ := Option.map_eq_some_iff.mp e
      cases e
      simp [take_len e2]
  | .a j :: r, ρ, _, _, e => by
    obtain ⟨p, e2, e⟩ := Option.map_eq_some_iff.mp (show (takeF r ρ).map _ = _ from e)
    cases e
    simp [take_len e2]
end

/-! ### the promise of a def -/
def isF : T → Bool | .f _ => true | _ => false
/-- parameters that are not handed back are deep -/
def ioOk (io : List Nat) : Nat → List T → Bool
  | _, [] => true
  | i, t :: ts => (io.contains i || isF t) && ioOk io (i + 1) ts
def spF (W : Wd) (io : List Nat) (G : List T → Option Re) : Sp := fun vs H Q E => ∃ F ts fps r, Le F H ∧ (∀ a, H a = none ∨ a ∈ fps.flatten → W.nw a) ∧ RelTs W F H ts vs fps ∧ Own F fps.flatten ∧ ioOk io 0 ts = true ∧ G ts = some r ∧
  match r with
  | .ok τ us => ∀ v F' H', SR W (bsOf H F fps io vs) F' us (vs.map some) [⟨none, τ, v⟩] H' → Inc F F' → Q v H'
  | .xc C us => ∀ d F' H', SR W (bsOf H F fps io vs) F' us (vs.map some) [] H' → Inc F F' → E (.ref (W.cl C)) d H'

theorem SR.call {W : Wd} {b : Bs} {F : Hp} {ρ : List T} {σ : St} {Xa X : List Tm} {H : Hp} (S : SR W b F ρ σ (Xa ++ X) H) : ∃ xa, RelTs W F H (Xa.map (·.t)) (Xa.map (·.v)) xa ∧ (∀ a, H a = none ∨ a ∈ xa.flatten → W.nw a) ∧ Own F xa.flatten ∧
    ∀ io us F' τs H', (∀ x ∈ τs, x.og = none) → SR W (bsOf H F xa io (Xa.map (·.v))) F' us ((Xa.map (·.v)).map some) τs H' → SR W b F' ρ σ (τs ++ (setTs Xa us ++ X)) H' := by
  have S0 := S
  obtain ⟨le, f0, fn, kept, stab, pin, fps, xps, s1, s2, ⟨nd, ow⟩, lc1, lc2⟩ := S
  rw [List.map_append, List.map_append] at s2
  obtain ⟨xa, xr, e, q1, q2⟩ := RelTs.split (by simp) s2
  subst e
  rw [List.flatten_append] at nd ow
  have n := List.nodup_append.mp nd
  have n2 := List.nodup_append.mp n.2.1
  have hlx : (Xa ++ X).length = (xa ++ xr).length := by
    have h1 := (RelTs.lenA q1).2
    have h2 := (RelTs.lenA q2).2
    rw [List.length_append, List.length_append, ← h1, ← h2, List.length_map, List.length_map]
  refine ⟨xa, q1, fun a h => pin.2 a (h.elim (fun z => .inl (S0.new0 z)) fun z => LocX.old hlx lc2 (by rw [List.flatten_append]; exact List.mem_append_left _ z)), ⟨n2.1, fun a ha => ow a (List.mem_append_right _ (List.mem_append_left _ ha))⟩, fun io us F' τs H' hτ R => ?_⟩
  exact SR.callX S0 s1 q1 q2 ⟨by rw [List.flatten_append]; exact nd, fun a ha => ow a (by rw [List.flatten_append] at ha; exact ha)⟩ lc1 lc2 hτ R

def fCall (io : List Nat) (G : List T → Option Re) (fs : List T → Option Rs) : List T → Option Re := fun ρ => (fs ρ).bind fun r => match r with
  | .xc C ρ1 => some (.xc C ρ1)
  | .ok as ρ1 => (takeF as ρ1).bind fun p => if ioOk io 0 p.1 = true then (G p.1).bind fun r => match r with
    | .ok τ us => if us.length = as.length then some (.ok τ (putF as us p.2)) else none
    | .xc C us => if us.length = as.length then some (.xc C (putF as us p.2)) else none
    else none
theorem so_call {W : Wd} {P : Sg} {E : St → XK} {E' : XK} {t : TA} {io : List Nat} {G : List T → Option Re} {fs : List T → Option Rs} (hE : ∀ σ, E σ = E') (h : Sa W P E t fs) : So W P E (tCall (spF W io G) [] E' t) (fCall io G fs) := by
  intro b F ρ σ X H r Q hb S e k
  unfold fCall at e
  obtain ⟨r1, e1, e⟩ := Option.bind_eq_some_iff.mp e
  refine h b F ρ σ X H r1 _ hb S e1 ?_
  cases r1 with
  | xc C ρ1 =>
    cases e
    exact k
  | ok as ρ1 =>
    intro vs F1 H1 S1 g1 i1
    obtain ⟨⟨ts, ρ2⟩, e2, e⟩ := Option.bind_eq_some_iff.mp e
    obtain ⟨S2, h1, h2⟩ := take_ok S1 g1 e2
    split at e
    · rename_i hio
      obtain ⟨r2, e3, e⟩ := Option.bind_eq_some_iff.mp e
      obtain ⟨xa, q1, qn, q2, q3⟩ := S2.call
      rw [h1, h2] at q1
      rw [h2] at q3
      rw [List.append_nil]
      refine ⟨F1, ts, xa, r2, S2.le, qn, q1, q2, hio, e3, ?_⟩
      cases r2 with
      | ok τ us =>
        intro v F' H' R i2
        simp only at e
        split at e
        · rename_i hl
          cases e
          have S3 := q3 io us F' _ H' (fun x hx => by rw [List.mem_singleton.mp hx]) R
          exact k v F' H' (put_ok S3 g1 (take_len e2) hl) (i1.trans i2)
        · cases e
      | xc C us =>
        intro d F' H' R i2
        simp only at e
        split at e
        · rename_i hl
          cases e
          have S3 := q3 io us F' _ H' (fun x hx => by cases hx) R
          have S4 := put_ok (Z := []) S3 g1 (take_len e2) hl
          have := k d F' H' S4 (i1.trans i2)
          rw [hE σ] at this
          exact this
        · cases e
    · cases e
end Z

namespace Z
open PySem L2

inductive Out where
  | nx (ρ : List T)
  | rt (t : T) (ρ : List T)
  | bk (ρ : List T)
  | ct (ρ : List T)
  | xc (C : Nat) (ρ : List T)
def PostS (W : Wd) (b : Bs) (F : Hp) (X : List Tm) (D : Ends) (E : St → XK) : Out → Prop
  | .nx ρ => ∀ σ F' H, SR W b F' ρ σ X H → Inc F F' → D.nx σ H
  | .rt t ρ => ∀ v σ F' H, SR W b F' ρ σ (⟨none, t, v⟩ :: X) H → Inc F F' → D.rt v H
  | .bk ρ => ∀ σ F' H, SR W b F' ρ σ X H → Inc F F' → D.bk σ H
  | .ct ρ => ∀ σ F' H, SR W b F' ρ σ X H → Inc F F' → D.ct σ H
  | .xc C ρ => ∀ d σ F' H, SR W b F' ρ σ X H → Inc F F' → E σ (.ref (W.cl C)) d H
theorem PostS.mono {W : Wd} {b : Bs} {F F1 : Hp} {X : List Tm} {D : Ends} {E : St → XK} {o : Out} (h : PostS W b F X D E o) (i : Inc F F1) : PostS W b F1 X D E o := by
  cases o with
  | nx ρ => exact fun σ F' H S i' => h σ F' H S (i.trans i')
  | rt t ρ => exact fun v σ F' H S i' => h v σ F' H S (i.trans i')
  | bk ρ => exact fun σ F' H S i' => h σ F' H S (i.trans i')
  | ct ρ => exact fun σ F' H S i' => h σ F' H S (i.trans i')
  | xc C ρ => exact fun d σ F' H S i' => h d σ F' H S (i.trans i')
abbrev FS := List T → Option Out
def Ss (W : Wd) (P : Sg) (E : St → XK) (t : TS) (f : FS) : Prop :=
  ∀ b F ρ σ X H o D, Bok P b → SR W b F ρ σ X H → f ρ = some o → PostS W b F X D E o → t D σ H
def Sm (c : Ctx) (s : Stmt) (f : FS) : Prop := ∃ t, (∀ j, PS (c.X j) s t) ∧ Ss c.W c.P c.E t f
def Sms (c : Ctx) (s : List Stmt) (f : FS) : Prop := ∃ t, (∀ j, PSs (c.X j) s t) ∧ Ss c.W c.P c.E t f

section
variable {c : Ctx} {s : Stmt} {ss : List Stmt} {f g : FS} {e : Expr} {fo : List T → Option Re} {pos pos' : Pos}
def sNil : FS := fun ρ => some (.nx ρ)
def sSeq (f g : FS) : FS := fun ρ => (f ρ).bind fun o => match o with
  | .nx ρ1 => g ρ1
  | o => some o
theorem sms_nil : Sms c [] sNil := by
  refine ⟨_, fun _ => pss_nil, ?_⟩
  intro b F ρ σ X H o D hb S e p
  cases e
  exact p σ F H S (Inc.refl F)
theorem sms_one (h : Sm c s f) : Sms c [s] f := by
  obtain ⟨t, p, q⟩ := h
  exact ⟨t, fun j => pss_one (p j), q⟩
theorem sms_cons (h : Sm c s f) (k : Sms c ss g) : Sms c (s :: ss) (sSeq f g) := by
  obtain ⟨t, p, q⟩ := h
  obtain ⟨u, p', q'⟩ := k
  refine ⟨_, fun j => pss_cons (p j) (p' j), ?_⟩
  intro b F ρ σ X H o D hb S e k
  unfold sSeq at e
  obtain ⟨o1, e1, e⟩ := Option.bind_eq_some_iff.mp e
  refine q b F ρ σ X H o1 _ hb S e1 ?_
  cases o1 with
  | nx ρ1 => exact fun σ' F' H' S' i => q' b F' ρ1 σ' X H' o D hb S' e (k.mono i)
  | rt t ρ1 => cases e; exact k
  | bk ρ1 => cases e; exact k
  | ct ρ1 => cases e; exact k
  | xc C ρ1 => cases e; exact k
theorem sm_pass : Sm c (.Pass pos) sNil := by
  refine ⟨_, fun _ => ps_pass, ?_⟩
  intro b F ρ σ X H o D hb S e p
  cases e
  exact p σ F H S (Inc.refl F)
def sBk : FS := fun ρ => some (.bk ρ)
def sCt : FS := fun ρ => some (.ct ρ)
theorem sm_break : Sm c (.Break pos) sBk := by
  refine ⟨_, fun _ => ps_break, ?_⟩
  intro b F ρ σ X H o D hb S e p
  cases e
  exact p σ F H S (Inc.refl F)
theorem sm_cont : Sm c (.Continue pos) sCt := by
  refine ⟨_, fun _ => ps_continue, ?_⟩
  intro b F ρ σ X H o D hb S e p
  cases e
  exact p σ F H S (Inc.refl F)
/-- name = value -/
def sSet (i : Nat) (f : List T → Option Re) : FS := fun ρ => (f ρ).map fun r => match r with
  | .ok t ρ1 => .nx (ρ1.set i t)
  | .xc C ρ1 => .xc C ρ1
theorem notio {P : Sg} {b : Bs} {i : Nat} (hb : Bok P b) (h : i ∉ P.io) : ∀ p ∈ b.io, p.1 ≠ i := fun p hp e => h (by rw [← hb.2.1, ← e]; exact List.mem_map_of_mem hp)
theorem sm_set {i : Nat} {x : Str} (he : Eo c e fo) (hi : c.N[i]? = some x) (hx : ∀ j, L2.Loc (c.X j).env.scope x) (hio : i ∉ c.P.io) (hs : ∀ j, swapsWith e (some (.Name x pos')) pos.line (c.X j).env = pure false)
    (hf : ∀ j, (c.X j).fn x = true ∨ (c.X j).env.scope.names.lookup x = some .local) : Sm c (.Assign [.Name x pos'] e pos) (sSet i fo) := by
  obtain ⟨t, p, q⟩ := he
  refine ⟨_, fun j => ps_set (i := i) (c.hNd j) (by rw [c.hN j]; exact hi) (hx j) (p j) (hs j) (hf j), ?_⟩
  intro b F ρ σ X H o D hb S e k
  unfold sSet at e
  obtain ⟨r, e1, e⟩ := Option.map_eq_some_iff.mp e
  refine q b F ρ σ X H r _ hb S e1 ?_
  cases r with
  | ok τ ρ1 =>
    subst e
    exact fun v F' H' S' i' => k _ _ _ (S'.store (.inl rfl) (.inl (notio hb hio))) i'
  | xc C ρ1 =>
    subst e
    exact fun d F' H' S' i' => k d σ F' H' S' i'
/-- an expression whose value is dropped -/
def sExpr (f : List T → Option Re) : FS := fun ρ => (f ρ).map fun r => match r with
  | .ok t ρ1 => .nx ρ1
  | .xc C ρ1 => .xc C ρ1
theorem sm_expr (he : Eo c e fo) (hs : ∀ j, swapsWith e none pos.line (c.X j).env = pure false := by intro _; rfl) : Sm c (.Expr e pos) (sExpr fo) := by
  obtain ⟨t, p, q⟩ := he
  refine ⟨_, fun j => ps_expr (p j) (hs j), ?_⟩
  intro b F ρ σ X H o D hb S e k
  unfold sExpr at e
  obtain ⟨r, e1, e⟩ := Option.map_eq_some_iff.mp e
  refine q b F ρ σ X H r _ hb S e1 ?_
  cases r with
  | ok τ ρ1 =>
    subst e
    exact fun v F' H' S' i' => k _ _ _ S'.drop i'
  | xc C ρ1 =>
    subst e
    exact fun d F' H' S' i' => k d σ F' H' S' i'
def sRet (f : List T → Option Re) : FS := fun ρ => (f ρ).map fun r => match r with
  | .ok t ρ1 => .rt t ρ1
  | .xc C ρ1 => .xc C ρ1
theorem sm_ret (he : Eo c e fo) : Sm c (.Return (some e) pos) (sRet fo) := by
  obtain ⟨t, p, q⟩ := he
  refine ⟨_, fun j => ps_ret (p j), ?_⟩
  intro b F ρ σ X H o D hb S e k
  unfold sRet at e
  obtain ⟨r, e1, e⟩ := Option.map_eq_some_iff.mp e
  refine q b F ρ σ X H r _ hb S e1 ?_
  cases r with
  | ok τ ρ1 =>
    subst e
    exact fun v F' H' S' i' => k v σ F' H' S' i'
  | xc C ρ1 =>
    subst e
    exact fun d F' H' S' i' => k d σ F' H' S' i'
def sRetN : FS := fun ρ => some (.rt (.f .non) ρ)
theorem sm_retN : Sm c (.Return none pos) sRetN := by
  refine ⟨_, fun _ => ps_retN, ?_⟩
  intro b F ρ σ X H o D hb S e p
  cases e
  exact p .non σ F H (S.push rfl) (Inc.refl F)
/-- tests -/
inductive Rb where
  | ok (b : Bool) (ρ : List T)
  | xc (C : Nat) (ρ : List T)
def PostB (W : Wd) (b : Bs) (F : Hp) (σ : St) (X : List Tm) (Q : Bool → Hp → Prop) (E : St → XK) : Rb → Prop
  | .ok x ρ => ∀ F' H', SR W b F' ρ σ X H' → Inc F F' → Q x H'
  | .xc C ρ => ∀ d F' H', SR W b F' ρ σ X H' → Inc F F' → E σ (.ref (W.cl C)) d H'
def Sto (W : Wd) (P : Sg) (E : St → XK) (t : TT) (f : List T → Option Rb) : Prop :=
  ∀ b F ρ σ X H r Q, Bok P b → SR W b F ρ σ X H → f ρ = some r → PostB W b F σ X Q E r → t σ H Q
def To (c : Ctx) (e : Expr) (f : List T → Option Rb) : Prop := ∃ t, (∀ j, PT (c.X j) e t) ∧ Sto c.W c.P c.E t f
def liftB (f : List T → Option Bool) : List T → Option Rb := fun ρ => (f ρ).map fun x => .ok x ρ
theorem Tv.o {fb : List T → Option Bool} (h : Tv c e fb) : To c e (liftB fb) := by
  obtain ⟨t, p, q⟩ := h
  refine ⟨t, p, ?_⟩
  intro b F ρ σ X H r Q hb S e k
  unfold liftB at e
  obtain ⟨x, e1, e⟩ := Option.map_eq_some_iff.mp e
  subst e
  exact q b F ρ σ X H x Q S e1 fun F' H' S' i s => k F' H' S' i
def oTest (f : List T → Option Re) : List T → Option Rb := fun ρ => (f ρ).bind fun r => match r with
  | .ok t ρ1 => t.b?.map fun x => .ok x ρ1
  | .xc C ρ1 => some (.xc C ρ1)
theorem to_val (ha : Eo c e fo) (he : ∀ j whole, isTrue e (c.X j).env whole = (do let v ← whole; standAt e.pos; holding [v] (truthy v))) : To c e (oTest fo) := by
  obtain ⟨ta, pa, sa⟩ := ha
  refine ⟨_, fun j => pt_val (pa j) (he j), ?_⟩
  intro b F ρ σ X H r Q hb S e k
  unfold oTest at e
  obtain ⟨r1, e1, e⟩ := Option.bind_eq_some_iff.mp e
  refine sa b F ρ σ X H r1 _ hb S e1 ?_
  cases r1 with
  | ok τ ρ1 =>
    obtain ⟨x, e2, e⟩ := Option.map_eq_some_iff.mp e
    subst e
    intro v F' H' S' i'
    have hx : τ = .f (.bl x) := by
      cases τ with
      | f d => cases d with
        | bl y => cases e2; rfl
        | _ => cases e2
      | _ => cases e2
    subst hx
    exact ⟨x, S'.top, k F' H' S'.drop i'⟩
  | xc C ρ1 =>
    cases e
    exact k
def oNot (f : List T → Option Rb) : List T → Option Rb := fun ρ => (f ρ).map fun r => match r with
  | .ok x ρ1 => .ok (!x) ρ1
  | r => r
theorem to_not {ga : List T → Option Rb} (ha : To c e ga) : To c (.UnaryOp .Not e pos) (oNot ga) := by
  obtain ⟨t, p, s⟩ := ha
  refine ⟨_, fun j => pt_not (p j), ?_⟩
  intro b F ρ σ X H r Q hb S e k
  unfold oNot at e
  obtain ⟨r1, e1, e⟩ := Option.map_eq_some_iff.mp e
  subst e
  refine s b F ρ σ X H r1 _ hb S e1 ?_
  cases r1 with
  | ok x ρ1 => exact fun F' H' S' i => k F' H' S' i
  | xc C ρ1 => exact k
def Wo (c : Ctx) (e : Expr) (f : List T → Option Rb) : Prop := ∃ t, (∀ j, PW (c.X j) e t) ∧ Sto c.W c.P c.E t f
theorem Wo.to {ga : List T → Option Rb} (h : Wo c e ga) : To c e ga := by
  obtain ⟨t, p, s⟩ := h
  exact ⟨t, fun j => (p j).pt, s⟩
theorem wo_and1 {ga : List T → Option Rb} (ha : To c e ga) : Wo c (.BoolOp .And [e] pos) ga := by
  obtain ⟨t, p, s⟩ := ha
  exact ⟨t, fun j => pw_and1 (p j), s⟩
theorem wo_or1 {ga : List T → Option Rb} (ha : To c e ga) : Wo c (.BoolOp .Or [e] pos) ga := by
  obtain ⟨t, p, s⟩ := ha
  exact ⟨t, fun j => pw_or1 (p j), s⟩
def oAnd (ga gb : List T → Option Rb) : List T → Option Rb := fun ρ => (ga ρ).bind fun r => match r with
  | .ok true ρ1 => gb ρ1
  | r => some r
def oOr (ga gb : List T → Option Rb) : List T → Option Rb := fun ρ => (ga ρ).bind fun r => match r with
  | .ok false ρ1 => gb ρ1
  | r => some r
theorem wo_and {ga gb : List T → Option Rb} {b : Expr} {rest : List Expr} (ha : To c e ga) (hb : Wo c (.BoolOp .And (b :: rest) pos) gb) : Wo c (.BoolOp .And (e :: b :: rest) pos) (oAnd ga gb) := by
  obtain ⟨t, p, s⟩ := ha
  obtain ⟨u, q, s'⟩ := hb
  refine ⟨_, fun j => pw_and (p j) (q j), ?_⟩
  intro b F ρ σ X H r Q hb S e k
  unfold oAnd at e
  obtain ⟨x, e1, e⟩ := Option.bind_eq_some_iff.mp e
  refine s b F ρ σ X H x _ hb S e1 ?_
  cases x with
  | ok x ρ1 =>
    cases x with
    | true => exact fun F1 H1 S1 i1 => iteT (s' b F1 ρ1 σ X H1 r Q hb S1 e (by
        cases r with
        | ok y ρ2 => exact fun F2 H2 S2 i2 => k F2 H2 S2 (i1.trans i2)
        | xc C ρ2 => exact fun d F2 H2 S2 i2 => k d F2 H2 S2 (i1.trans i2)))
    | false =>
      cases e
      exact fun F1 H1 S1 i1 => iteF (k F1 H1 S1 i1)
  | xc C ρ1 =>
    cases e
    exact k
theorem wo_or {ga gb : List T → Option Rb} {b : Expr} {rest : List Expr} (ha : To c e ga) (hb : Wo c (.BoolOp .Or (b :: rest) pos) gb) : Wo c (.BoolOp .Or (e :: b :: rest) pos) (oOr ga gb) := by
  obtain ⟨t, p, s⟩ := ha
  obtain ⟨u, q, s'⟩ := hb
  refine ⟨_, fun j => pw_or (p j) (q j), ?_⟩
  intro b F ρ σ X H r Q hb S e k
  unfold oOr at e
  obtain ⟨x, e1, e⟩ := Option.bind_eq_some_iff.mp e
  refine s b F ρ σ X H x _ hb S e1 ?_
  cases x with
  | ok x ρ1 =>
    cases x with
    | false => exact fun F1 H1 S1 i1 => iteF (s' b F1 ρ1 σ X H1 r Q hb S1 e (by
        cases r with
        | ok y ρ2 => exact fun F2 H2 S2 i2 => k F2 H2 S2 (i1.trans i2)
        | xc C ρ2 => exact fun d F2 H2 S2 i2 => k d F2 H2 S2 (i1.trans i2)))
    | true =>
      cases e
      exact fun F1 H1 S1 i1 => iteT (k F1 H1 S1 i1)
  | xc C ρ1 =>
    cases e
    exact k
def sIf (t : List T → Option Rb) (f g : FS) : FS := fun ρ => (t ρ).bind fun r => match r with
  | .ok x ρ1 => if x = true then f ρ1 else g ρ1
  | .xc C ρ1 => some (.xc C ρ1)
theorem sm_if {ft : List T → Option Rb} {as bs : List Stmt} (ht : To c e ft) (hf : Sms c as f) (hg : Sms c bs g) : Sm c (.If e as bs pos) (sIf ft f g) := by
  obtain ⟨t0, p0, q0⟩ := ht
  obtain ⟨t, p, q⟩ := hf
  obtain ⟨u, p', q'⟩ := hg
  refine ⟨_, fun j => ps_if (p0 j) (p j) (p' j), ?_⟩
  intro b F ρ σ X H o D hb S e k
  unfold sIf at e
  obtain ⟨r, e1, e⟩ := Option.bind_eq_some_iff.mp e
  refine q0 b F ρ σ X H r _ hb S e1 ?_
  cases r with
  | ok x ρ1 =>
    intro F' H' S' i'
    cases x with
    | true => exact iteT (q b F' ρ1 σ X H' o D hb S' e (k.mono i'))
    | false => exact iteF (q' b F' ρ1 σ X H' o D hb S' e (k.mono i'))
  | xc C ρ1 =>
    cases e
    exact fun d F' H' S' i' => k d σ F' H' S' i'

/-! ### while -/
def whileF (ft : List T → Option Rb) (fb : FS) : Nat → FS
  | 0, _ => none
  | n + 1, ρ => (ft ρ).bind fun r => match r with
    | .xc C ρ1 => some (.xc C ρ1)
    | .ok false ρ1 => some (.nx ρ1)
    | .ok true ρ1 => (fb ρ1).bind fun o => match o with
      | .nx ρ2 => whileF ft fb n ρ2
      | .ct ρ2 => whileF ft fb n ρ2
      | .bk ρ2 => some (.nx ρ2)
      | o => some o
/-- μ: how many looks are enough -/
def sWhile (μ : List T → Nat) (ft : List T → Option Rb) (fb : FS) : FS := fun ρ => whileF ft fb (μ ρ) ρ
theorem ss_while {W : Wd} {P : Sg} {E : St → XK} {tc : TT} {tb : TS} {ft : List T → Option Rb} {fb : FS} (μ : List T → Nat) (q0 : Sto W P E tc ft) (q : Ss W P E tb fb) : Ss W P E (tWhile tc tb) (sWhile μ ft fb) := by
  intro b F ρ σ X H o D hb S e k
  refine ⟨fun m σ' H' => ∃ F' ρ', SR W b F' ρ' σ' X H' ∧ Inc F F' ∧ whileF ft fb m ρ' = some o, ⟨μ ρ, F, ρ, S, Inc.refl F, e⟩, ?_⟩
  rintro m σ1 H1 ⟨F1, ρ1, S1, i1, e1⟩
  cases m with
  | zero => cases e1
  | succ m =>
    unfold whileF at e1
    obtain ⟨r, e2, e1⟩ := Option.bind_eq_some_iff.mp e1
    refine q0 b F1 ρ1 σ1 X H1 r _ hb S1 e2 ?_
    cases r with
    | xc C ρ2 =>
      cases e1
      exact fun d F' H' S' i' => k d σ1 F' H' S' (i1.trans i')
    | ok x ρ2 =>
      intro F2 H2 S2 i2
      cases x with
      | false =>
        cases e1
        exact iteF (k σ1 F2 H2 S2 (i1.trans i2))
      | true =>
        refine iteT ⟨fun σ' H' => ∃ F' ρ', SR W b F' ρ' σ' X H' ∧ Inc F F' ∧ whileF ft fb m ρ' = some o, fun σ' H' h => ⟨m, Nat.lt_succ_self m, h⟩, ?_⟩
        obtain ⟨o1, e3, e4⟩ := Option.bind_eq_some_iff.mp e1
        refine q b F2 ρ2 σ1 X H2 o1 _ hb S2 e3 ?_
        cases o1 with
        | nx ρ3 => exact fun σ' F' H' S' i' => ⟨F', ρ3, S', (i1.trans i2).trans i', e4⟩
        | ct ρ3 => exact fun σ' F' H' S' i' => ⟨F', ρ3, S', (i1.trans i2).trans i', e4⟩
        | bk ρ3 =>
          cases e4
          exact fun σ' F' H' S' i' => k σ' F' H' S' ((i1.trans i2).trans i')
        | rt t ρ3 =>
          cases e4
          exact fun v σ' F' H' S' i' => k v σ' F' H' S' ((i1.trans i2).trans i')
        | xc C ρ3 =>
          cases e4
          exact fun d σ' F' H' S' i' => k d σ' F' H' S' ((i1.trans i2).trans i')
theorem sm_while {ft : List T → Option Rb} {as : List Stmt} (μ : List T → Nat) (hp : ∀ j, PassesOwn (model (c.X j).prog (c.X j).w) (c.X j).A (c.X j).env (c.X j).xe) (ht : To c e ft) (hf : Sms c as f) : Sm c (.While e as [] pos) (sWhile μ ft f) := by
  obtain ⟨t0, p0, q0⟩ := ht
  obtain ⟨t, p, q⟩ := hf
  exact ⟨_, fun j => ps_while (hp j) (p0 j) (p j), ss_while μ q0 q⟩
end

/-! ### targets -/
def Sgt (W : Wd) (P : Sg) (g : TG) (f : T → List T → Option (List T)) : Prop :=
  ∀ b F ρ ρ' σ X H t v Q, Bok P b → SR W b F ρ σ (⟨none, t, v⟩ :: X) H → f t ρ = some ρ' → (∀ σ' F' H', SR W b F' ρ' σ' X H' → Inc F F' → Q σ' H') → g v σ H Q
def Gt (c : Ctx) (e : Expr) (f : T → List T → Option (List T)) : Prop := ∃ g, (∀ j, PG (c.X j) e g) ∧ Sgt c.W c.P g f
def gSet (i : Nat) : T → List T → Option (List T) := fun t ρ => some (ρ.set i t)
/-- several things on the way -/
def Xn : List T → List V → List Tm
  | t :: ts, v :: vs => ⟨none, t, v⟩ :: Xn ts vs
  | _, _ => []
def Sgts (W : Wd) (P : Sg) (g : TGs) (f : List T → List T → Option (List T)) : Prop :=
  ∀ b F ρ ρ' σ X H ts vs Q, Bok P b → ts.length = vs.length → SR W b F ρ σ (Xn ts vs ++ X) H → f ts ρ = some ρ' → (∀ σ' F' H', SR W b F' ρ' σ' X H' → Inc F F' → Q σ' H') → g vs σ H Q
def Gts (c : Ctx) (es : List Expr) (f : List T → List T → Option (List T)) : Prop := ∃ g, (∀ j, PGs (c.X j) es g) ∧ Sgts c.W c.P g f
section
variable {c : Ctx} {e : Expr} {es : List Expr} {pos : Pos} {f : T → List T → Option (List T)} {fs : List T → List T → Option (List T)}
theorem gt_name {i : Nat} {x : Str} (hi : c.N[i]? = some x) (hx : ∀ j, L2.Loc (c.X j).env.scope x) (hio : i ∉ c.P.io) (hf : ∀ j, (c.X j).fn x = true ∨ (c.X j).env.scope.names.lookup x = some .local) : Gt c (.Name x pos) (gSet i) := by
  refine ⟨_, fun j => pg_name (i := i) (c.hNd j) (by rw [c.hN j]; exact hi) (hx j) (hf j), ?_⟩
  intro b F ρ ρ' σ X H t v Q hb S e k
  cases e
  exact k _ _ _ (S.store (.inl rfl) (.inl (notio hb hio))) (Inc.refl F)
def gsNil : List T → List T → Option (List T) := fun ts ρ => match ts with | [] => some ρ | _ => none
def gsCons (f : T → List T → Option (List T)) (g : List T → List T → Option (List T)) : List T → List T → Option (List T) := fun ts ρ => match ts with
  | t :: ts => (f t ρ).bind fun ρ1 => g ts ρ1
  | [] => none
theorem gts_nil : Gts c [] gsNil := by
  refine ⟨_, fun _ => pgs_nil, ?_⟩
  intro b F ρ ρ' σ X H ts vs Q hb hl S e k
  cases ts with
  | nil =>
    cases vs with
    | nil =>
      cases e
      exact ⟨rfl, k _ _ _ S (Inc.refl F)⟩
    | cons _ _ => cases hl
  | cons _ _ => cases e
theorem gts_cons (h : Gt c e f) (k : Gts c es fs) (hs : ∀ j, (assignEach (e :: es) (c.X j).env).map (·.2) = assign e (c.X j).env :: (assignEach es (c.X j).env).map (·.2) := by intro _; rfl) : Gts c (e :: es) (gsCons f fs) := by
  obtain ⟨g, p, q⟩ := h
  obtain ⟨g', p', q'⟩ := k
  refine ⟨_, fun j => pgs_cons (p j) (p' j) (hs j), ?_⟩
  intro b F ρ ρ' σ X H ts vs Q hb hl S e k
  cases ts with
  | nil => cases e
  | cons t ts =>
    cases vs with
    | nil => cases hl
    | cons v vs =>
      obtain ⟨ρ1, e1, e⟩ := Option.bind_eq_some_iff.mp (show (f t ρ).bind _ = _ from e)
      refine ⟨v, vs, rfl, q b F ρ ρ1 σ (Xn ts vs ++ X) H t v _ hb S e1 fun σ' F' H' S' i => ?_⟩
      exact q' b F' ρ1 ρ' σ' X H' ts vs Q hb (by simpa using hl) S' e fun σ2 F2 H2 S2 i2 => k σ2 F2 H2 S2 (i.trans i2)
theorem SR.pushes {W : Wd} {b : Bs} {F : Hp} {ρ : List T} {σ : St} {H : Hp} : ∀ {ds : List D} {vs : List V} {X : List Tm}, SR W b F ρ σ X H → Reps W F ds vs → SR W b F ρ σ (Xn (ds.map .f) vs ++ X) H
  | [], _, _, S, r => by
    have r' : _ = [] := r
    subst r'
    exact S
  | d :: ds, _, _, S, r => by
    obtain ⟨v, vr, e, a, q⟩ := r
    subst e
    exact (SR.pushes S q).push a
/-- (a, b, ..) = a deep tuple -/
def gTupT (n : Nat) (f : List T → List T → Option (List T)) : T → List T → Option (List T) := fun t ρ => match t with
  | .f (.tup ds) => if ds.length = n then f (ds.map .f) ρ else none
  | _ => none
theorem gt_tup {n m : Nat} (h : Gts c es fs) (hn : ∀ j, (assignEach es (c.X j).env).length = n := by intro _; rfl) (hst : ∀ j, (assignEach es (c.X j).env).findIdx? (·.1) = none := by intro _; rfl) : Gt c (.Tuple es m pos) (gTupT n fs) := by
  obtain ⟨g, p, q⟩ := h
  refine ⟨L2.gTup c.W.K n g, fun j => ?_, ?_⟩
  · have := pg_tup (pos := pos) (k := m) (c.calm j) (p j) (hn j) (hst j)
    rw [c.hK j] at this
    exact this
  intro b F ρ ρ' σ X H t v Q hb S e k
  unfold gTupT at e
  cases t with
  | f d => cases d with
    | tup ds =>
      simp only at e
      split at e
      · rename_i hl
        obtain ⟨p, vs, ex, hs, r⟩ := S.top
        refine ⟨p, vs, ex, SqT.le S.le hs, by rw [← r.len]; exact hl, ?_⟩
        exact q b F ρ ρ' σ X H (ds.map .f) vs Q hb (by rw [List.length_map]; exact r.len) (S.drop.pushes r) e k
      · cases e
    | _ => cases e
  | _ => cases e
end

/-! ### what is walked -/
structure Wk (W : Wd) (F0 : Hp) (J : It) (ds : List D) : Prop where
  go : ∀ i F H, Inc F0 F → Le F H → i < ds.length → J.go i H
  stop : ∀ F H, Inc F0 F → Le F H → J.stop ds.length H
  yld : ∀ i F H x H' d, Inc F0 F → Le F H → ds[i]? = some d → J.yld i H x H' → (H' = H ∧ Rep W F d x) ∨ ∃ p o, H p = none ∧ H' = upd H p o ∧ x = .ref p ∧ (Inc F (upd F p o) → Rep W (upd F p o) d (.ref p))
inductive Ri where
  | ok (ds : List D) (ρ : List T)
  | xc (C : Nat) (ρ : List T)
def PostI (W : Wd) (b : Bs) (F : Hp) (σ : St) (X : List Tm) (R : It → Hp → Prop) (E : St → XK) : Ri → Prop
  | .ok ds ρ => ∀ J F' H', SR W b F' ρ σ X H' → Inc F F' → Wk W F' J ds → R J H'
  | .xc C ρ => ∀ d F' H', SR W b F' ρ σ X H' → Inc F F' → E σ (.ref (W.cl C)) d H'
def Si (W : Wd) (P : Sg) (E : St → XK) (wi : TI) (f : List T → Option Ri) : Prop :=
  ∀ b F ρ σ X H r R, Bok P b → SR W b F ρ σ X H → f ρ = some r → PostI W b F σ X R E r → wi σ H R
def Iw (c : Ctx) (tg e : Expr) (f : List T → Option Ri) : Prop := ∃ wi, (∀ j, PI (c.X j) tg e wi) ∧ Si c.W c.P c.E wi f

def forF (fg : T → List T → Option (List T)) (fb : FS) : List D → FS
  | [], ρ => some (.nx ρ)
  | d :: ds, ρ => (fg (.f d) ρ).bind fun ρ1 => (fb ρ1).bind fun o => match o with
    | .nx ρ2 => forF fg fb ds ρ2
    | .ct ρ2 => forF fg fb ds ρ2
    | .bk ρ2 => some (.nx ρ2)
    | o => some o
def sFor (fi : List T → Option Ri) (fg : T → List T → Option (List T)) (fb : FS) : FS := fun ρ => (fi ρ).bind fun r => match r with
  | .ok ds ρ1 => forF fg fb ds ρ1
  | .xc C ρ1 => some (.xc C ρ1)
section
variable {c : Ctx} {tg e : Expr} {ss : List Stmt} {pos : Pos} {fi : List T → Option Ri} {fg : T → List T → Option (List T)} {fb : FS}
theorem Wk.item {W : Wd} {b : Bs} {F0 F : Hp} {ρ : List T} {σ : St} {X : List Tm} {H H' : Hp} {J : It} {ds : List D} {i : Nat} {d : D} {x : V} (w : Wk W F0 J ds) (S : SR W b F ρ σ X H) (hi : Inc F0 F) (hd : ds[i]? = some d) (y : J.yld i H x H') :
    ∃ F', SR W b F' ρ σ (⟨none, .f d, x⟩ :: X) H' ∧ Inc F F' := by
  rcases w.yld i F H x H' d hi S.le hd y with ⟨e, r⟩ | ⟨p, o, hp, e, ex, r⟩
  · subst e
    exact ⟨F, S.push r, Inc.refl F⟩
  · subst e ex
    obtain ⟨S', i', s'⟩ := S.laid (o := o) hp
    exact ⟨_, S'.push (r i'), i'⟩
theorem ss_for {W : Wd} {P : Sg} {E : St → XK} {wi : TI} {g : TG} {tb : TS} (hi : Si W P E wi fi) (hg : Sgt W P g fg) (hb : Ss W P E tb fb) : Ss W P E (tFor wi g tb) (sFor fi fg fb) := by
  intro b F ρ σ X H o D bok S e k
  unfold sFor at e
  obtain ⟨r, e1, e⟩ := Option.bind_eq_some_iff.mp e
  refine hi b F ρ σ X H r _ bok S e1 ?_
  cases r with
  | xc C ρ1 =>
    cases e
    exact fun d F' H' S' i' => k d σ F' H' S' i'
  | ok ds ρ1 =>
    intro J F1 H1 S1 i1 wk
    refine ⟨fun i m σ' H' => m = ds.length - i ∧ i ≤ ds.length ∧ ∃ F' ρ', SR W b F' ρ' σ' X H' ∧ Inc F1 F' ∧ forF fg fb (ds.drop i) ρ' = some o, ⟨ds.length, by simp, Nat.zero_le _, F1, ρ1, S1, Inc.refl F1, e⟩, ?_⟩
    rintro i m σ2 H2 ⟨rfl, hi2, F2, ρ2, S2, i2, e2⟩
    by_cases hlt : i < ds.length
    · refine .inr ⟨wk.go i F2 H2 i2 S2.le hlt, fun σ' H' => i + 1 ≤ ds.length ∧ ∃ F' ρ', SR W b F' ρ' σ' X H' ∧ Inc F1 F' ∧ forF fg fb (ds.drop (i + 1)) ρ' = some o, fun σ' H' h => ⟨ds.length - (i + 1), by omega, rfl, h⟩, fun x H3 y => ?_⟩
      have hd : ds[i]? = some ds[i] := List.getElem?_eq_getElem hlt
      rw [List.drop_eq_getElem_cons hlt] at e2
      unfold forF at e2
      obtain ⟨ρ3, e3, e2⟩ := Option.bind_eq_some_iff.mp e2
      obtain ⟨o1, e4, e2⟩ := Option.bind_eq_some_iff.mp e2
      obtain ⟨F3, S3, i3⟩ := wk.item S2 i2 hd y
      refine hg b F3 ρ2 ρ3 σ2 X H3 _ x _ bok S3 e3 fun σ4 F4 H4 S4 i4 => ?_
      have i14 := i2.trans (i3.trans i4)
      refine hb b F4 ρ3 σ4 X H4 o1 _ bok S4 e4 ?_
      cases o1 with
      | nx ρ5 => exact fun σ' F' H' S' i' => ⟨hlt, F', ρ5, S', i14.trans i', e2⟩
      | ct ρ5 => exact fun σ' F' H' S' i' => ⟨hlt, F', ρ5, S', i14.trans i', e2⟩
      | bk ρ5 =>
        cases e2
        exact fun σ' F' H' S' i' => k σ' F' H' S' ((i1.trans i14).trans i')
      | rt t ρ5 =>
        cases e2
        exact fun v σ' F' H' S' i' => k v σ' F' H' S' ((i1.trans i14).trans i')
      | xc C ρ5 =>
        cases e2
        exact fun d σ' F' H' S' i' => k d σ' F' H' S' ((i1.trans i14).trans i')
    · have hi3 : i = ds.length := by omega
      subst hi3
      rw [List.drop_length] at e2
      cases e2
      exact .inl ⟨wk.stop F2 H2 i2 S2.le, k σ2 F2 H2 S2 (i1.trans i2)⟩
theorem sm_for (hp : ∀ j, PassesOwn (model (c.X j).prog (c.X j).w) (c.X j).A (c.X j).env (c.X j).xe) (hi : Iw c tg e fi) (hg : Gt c tg fg) (hb : Sms c ss fb) (hs : ∀ j x, foldedSetIterable e (c.X j).env x = pure x := by intro _ _; rfl) : Sm c (.For tg e ss [] pos) (sFor fi fg fb) := by
  obtain ⟨wi, p1, q1⟩ := hi
  obtain ⟨g, p2, q2⟩ := hg
  obtain ⟨t, p3, q3⟩ := hb
  exact ⟨_, fun j => ps_for (hp j) (c.calm j) (p1 j) (p2 j) (p3 j) (hs j), ss_for q1 q2 q3⟩
end
end Z

namespace Z
open PySem L2

/-! ### ready expressions -/
section
variable {c : Ctx} {a e' : Expr} {es : List Expr} {fa fb : List T → Option T} {fs : List T → Option (List T)} {pos : Pos}
theorem ev_add (ha : Ev c a fa) (hb : Ev c e' fb) : Ev c (.BinOp a .Add e' pos) (f2 gAdd fa fb) := ev_op (fun j => by have h := op_addU (X := c.X j); rw [c.hK j] at h; exact h) s2_add ha hb
theorem ev_sub (ha : Ev c a fa) (hb : Ev c e' fb) : Ev c (.BinOp a .Sub e' pos) (f2 gSub fa fb) := ev_op (fun _ => op_sub) s2_sub ha hb
theorem ev_mul (ha : Ev c a fa) (hb : Ev c e' fb) : Ev c (.BinOp a .Mult e' pos) (f2 gMul fa fb) := ev_op (fun _ => op_mulX) s2_mul ha hb
theorem ev_div (ha : Ev c a fa) (hb : Ev c e' fb) : Ev c (.BinOp a .FloorDiv e' pos) (f2 gDiv fa fb) := ev_op (fun _ => op_fdivW) s2_div ha hb
theorem ev_mod (ha : Ev c a fa) (hb : Ev c e' fb) : Ev c (.BinOp a .Mod e' pos) (f2 gMod fa fb) := ev_op (fun _ => op_mod) s2_mod ha hb
theorem ev_pow (ha : Ev c a fa) (hb : Ev c e' fb) : Ev c (.BinOp a .Pow e' pos) (f2 gPow fa fb) := ev_op (fun _ => op_pow) s2_pow ha hb
theorem ev_shl (ha : Ev c a fa) (hb : Ev c e' fb) : Ev c (.BinOp a .LShift e' pos) (f2 gShl fa fb) := ev_op (fun _ => op_shl) s2_shl ha hb
theorem ev_shr (ha : Ev c a fa) (hb : Ev c e' fb) : Ev c (.BinOp a .RShift e' pos) (f2 gShr fa fb) := ev_op (fun _ => op_shr) s2_shr ha hb
theorem ev_band (ha : Ev c a fa) (hb : Ev c e' fb) : Ev c (.BinOp a .BitAnd e' pos) (f2 gBAnd fa fb) := ev_op (fun _ => op_and) s2_band ha hb
theorem ev_bor (ha : Ev c a fa) (hb : Ev c e' fb) : Ev c (.BinOp a .BitOr e' pos) (f2 gBOr fa fb) := ev_op (fun _ => op_or) s2_bor ha hb
theorem ev_bxor (ha : Ev c a fa) (hb : Ev c e' fb) : Ev c (.BinOp a .BitXor e' pos) (f2 gBXor fa fb) := ev_op (fun _ => op_xor) s2_bxor ha hb
theorem ev_neg (ha : Ev c a fa) : Ev c (.UnaryOp .USub a pos) (f1 gNeg fa) := ev_un (fun _ => un_neg) s1_neg ha
/-- comparisons: the rule and its function -/
structure CmpR (c : Ctx) (op : CmpOp) (g : T → T → Option T) : Prop where
  ex : ∃ r, (∀ j, OpR (c.X j) (compareOp op) r) ∧ S2 c.W r g
theorem c_lt : CmpR c .Lt gLt := ⟨_, fun _ => op_lt, s2_lt⟩
theorem c_le : CmpR c .LtE gLe := ⟨_, fun _ => op_le, s2_le⟩
theorem c_gt : CmpR c .Gt gGt := ⟨_, fun _ => op_gt, s2_gt⟩
theorem c_ge : CmpR c .GtE gGe := ⟨_, fun _ => op_ge, s2_ge⟩
theorem c_eq : CmpR c .Eq gEq := ⟨_, fun j => by have h := op_eqU (X := c.X j) (c.hu j); rw [c.hK j] at h; exact h, s2_eq⟩
theorem c_ne : CmpR c .NotEq gNe := ⟨_, fun j => by have h := op_neU (X := c.X j) (c.hu j); rw [c.hK j] at h; exact h, s2_ne⟩
theorem c_in : CmpR c .In gIn := ⟨_, fun j => by have h := op_inU (X := c.X j) (c.hu1 j); rw [c.hK j] at h; exact h, s2_in⟩
theorem c_notIn : CmpR c .NotIn gNotIn := ⟨_, fun j => by have h := op_notInU (X := c.X j) (c.hu1 j); rw [c.hK j] at h; exact h, s2_notIn⟩
theorem ev_c {op : CmpOp} {g : T → T → Option T} (r : CmpR c op g) (ha : Ev c a fa) (hb : Ev c e' fb) (hm : behindInMarks op e' = false := by first | exact nomark _ | with_unfolding_all rfl) : Ev c (.Compare a [op] [e'] pos) (f2 g fa fb) := by
  obtain ⟨_, h1, h2⟩ := r.ex
  exact ev_cmp h1 h2 ha hb hm
theorem tv_c {op : CmpOp} {g : T → T → Option T} (r : CmpR c op g) (ha : Ev c a fa) (hb : Ev c e' fb) (hm : behindInMarks op e' = false := by first | exact nomark _ | with_unfolding_all rfl) : Tv c (.Compare a [op] [e'] pos) (fT (f2 g fa fb)) := by
  obtain ⟨_, h1, h2⟩ := r.ex
  exact tv_cmp h1 h2 ha hb hm
/-- a < b < d -/
def fChain (g h : T → T → Option T) (fa fb fd : List T → Option T) : List T → Option T := fun ρ => (fa ρ).bind fun x => (fb ρ).bind fun y => (g x y).bind fun z => z.b?.bind fun k => if k = true then (fd ρ).bind fun w => h y w else some (.f (.bl false))
theorem sv_chain {W : Wd} {fd : List T → Option T} {ta tb td : TE} {r r' : R2} {g h : T → T → Option T} (hr : S2 W r g) (hr' : S2 W r' h) (ha : Sv W ta fa) (hb : Sv W tb fb) (hd : Sv W td fd) : Sv W (tChain r r' ta tb td) (fChain g h fa fb fd) := by
  intro b F ρ σ X H τ Q S e k
  unfold fChain at e
  obtain ⟨x, e1, e⟩ := Option.bind_eq_some_iff.mp e
  obtain ⟨y, e2, e⟩ := Option.bind_eq_some_iff.mp e
  obtain ⟨z, e3, e⟩ := Option.bind_eq_some_iff.mp e
  obtain ⟨m, e4, e⟩ := Option.bind_eq_some_iff.mp e
  refine ha b F ρ σ X H x _ S e1 fun v1 F1 H1 S1 i1 s1 r1 => ?_
  refine hb b F1 ρ σ X H1 y _ S1 e2 fun v2 F2 H2 S2 i2 s2 r2 => ?_
  refine hr b F2 ρ σ X H2 x y z v1 v2 _ S2 (r1.ext i2 s2) r2 e3 fun v3 F3 H3 S3 i3 s3 r3 => ?_
  refine ⟨m, r3.bl e4, ?_⟩
  have i13 := i1.trans (i2.trans i3)
  have s13 := s1.trans (s2.trans s3)
  cases m with
  | true =>
    refine iteT ?_
    obtain ⟨w, e5, e6⟩ := Option.bind_eq_some_iff.mp e
    refine hd b F3 ρ σ X H3 w _ S3 e5 fun v4 F4 H4 S4 i4 s4 r4 => ?_
    exact hr' b F4 ρ σ X H4 y w τ v2 v4 _ S4 ((r2.ext i3 s3).ext i4 s4) r4 e6 (k.mono (i13.trans i4) (s13.trans s4))
  | false =>
    cases e
    exact iteF ((k.mono i13 s13).d S3 rfl)
theorem ev_chain {op op' : CmpOp} {d : Expr} {fd : List T → Option T} {g h : T → T → Option T} (r : CmpR c op g) (r' : CmpR c op' h) (ha : Ev c a fa) (hb : Ev c e' fb) (hd : Ev c d fd) (hm : lastMarks [op, op'] [e', d] = false := by with_unfolding_all rfl) : Ev c (.Compare a [op, op'] [e', d] pos) (fChain g h fa fb fd) := by
  obtain ⟨_, h1, h2⟩ := r.ex
  obtain ⟨_, h3, h4⟩ := r'.ex
  obtain ⟨ta, pa, sa⟩ := ha
  obtain ⟨tb, pb, sb⟩ := hb
  obtain ⟨td, pd, sd⟩ := hd
  exact ⟨_, fun j => pe_chain (h1 j) (h3 j) (pa j) (pb j) (pd j) hm, sv_chain h2 h4 sa sb sd⟩
theorem tv_chain {op op' : CmpOp} {d : Expr} {fd : List T → Option T} {g h : T → T → Option T} (r : CmpR c op g) (r' : CmpR c op' h) (ha : Ev c a fa) (hb : Ev c e' fb) (hd : Ev c d fd) (hm : lastMarks [op, op'] [e', d] = false := by with_unfolding_all rfl) : Tv c (.Compare a [op, op'] [e', d] pos) (fT (fChain g h fa fb fd)) := by
  obtain ⟨_, h1, h2⟩ := r.ex
  obtain ⟨_, h3, h4⟩ := r'.ex
  obtain ⟨ta, pa, sa⟩ := ha
  obtain ⟨tb, pb, sb⟩ := hb
  obtain ⟨td, pd, sd⟩ := hd
  exact ⟨_, fun j => pt_chain (h1 j) (h3 j) (pa j) (pb j) (pd j) hm, stv_test (sv_chain h2 h4 sa sb sd)⟩
/-- is None -/
def gIsNn (neg : Bool) (t : T) : Option T := match t with
  | .un => none
  | t => match gIsN t with
    | some (.f (.bl b)) => some (.f (.bl (xor neg b)))
    | _ => none
def fIsN (neg : Bool) (fa : List T → Option T) : List T → Option T := f1 (gIsNn neg) fa
theorem isN_out {W : Wd} {F H : Hp} {t τ : T} {v : V} {neg : Bool} (r : RelV W F H t v) (e : gIsNn neg t = some τ) : τ = .f (.bl (xor neg (decide (v = .non)))) := by
  unfold gIsNn at e
  have ht : t ≠ .un := by
    rintro rfl
    cases e
  have e2 : (match gIsN t with | some (.f (.bl b)) => some (T.f (.bl (xor neg b))) | _ => none) = some τ := by
    cases t with
    | un => exact absurd rfl ht
    | _ => exact e
  split at e2
  · rename_i b hb
    cases e2
    rw [r.non hb ht]
  · cases e2
theorem ev_isN {m : Nat} {p2 : Pos} (ha : Ev c a fa) : Ev c (.Compare a [.Is] [.Constant .none m p2] pos) (fIsN false fa) := by
  obtain ⟨ta, pa, sa⟩ := ha
  refine ⟨_, fun j => pe_cmp (pc_isN (pa j)) rfl, ?_⟩
  intro b F ρ σ X H τ Q S e k
  obtain ⟨t, e1, e⟩ := Option.bind_eq_some_iff.mp e
  refine sa b F ρ σ X H t _ S e1 fun v F1 H1 S1 i1 s1 r1 => ?_
  have := isN_out r1 e
  subst this
  rw [Bool.false_xor] at k
  exact (k.mono i1 s1).d S1 rfl
theorem ev_notN {m : Nat} {p2 : Pos} (ha : Ev c a fa) : Ev c (.Compare a [.IsNot] [.Constant .none m p2] pos) (fIsN true fa) := by
  obtain ⟨ta, pa, sa⟩ := ha
  refine ⟨_, fun j => pe_cmp (pc_notN (pa j)) rfl, ?_⟩
  intro b F ρ σ X H τ Q S e k
  obtain ⟨t, e1, e⟩ := Option.bind_eq_some_iff.mp e
  refine sa b F ρ σ X H t _ S e1 fun v F1 H1 S1 i1 s1 r1 => ?_
  have := isN_out r1 e
  subst this
  rw [Bool.true_xor] at k
  exact (k.mono i1 s1).d S1 rfl

/-- [ ] -/
theorem ev_ix (ha : Ev c a fa) (hb : Ev c e' fb) (hs : PlainIx e' := by exact fun _ _ => rfl) : Ev c (.Subscript a e' pos) (f2 gIx fa fb) := by
  obtain ⟨ta, pa, sa⟩ := ha
  obtain ⟨tb, pb, sb⟩ := hb
  refine ⟨_, fun j => pe_ix (by have h := ix_U (X := c.X j) (c.hu1 j); rw [c.hK j] at h; exact h) (pa j) (pb j) hs, sv_2 sa sb s2_ix⟩
/-- slices -/
def cutD {α : Type} (xs : List α) (lo hi : Option Int) : List α := (xs.drop (HT.sIx xs.length 0 lo)).take (HT.sIx xs.length xs.length hi - HT.sIx xs.length 0 lo)
def gSl (t : T) (lo hi : Option Int) : Option T := match t.ls? with
  | some ds => some (.f (.lst (cutD ds lo hi)))
  | none => match t.s? with
    | some z => if z.length ≤ sizeLine then some (.f (.str (cutS z lo hi))) else none
    | none => match t.ts? with
      | some ds => some (.f (.tup (cutD ds lo hi)))
      | none => none
def rSlU (K : PySem.W.Frag) : V → Option Int → Option Int → Hp → VK → Prop := fun x lo hi H Q => rSlL K x lo hi H Q ∨ rSlS x lo hi H Q ∨ rSlA K x lo hi H Q
theorem sl_U {X : Cx} : SlR X (rSlU X.K) := sl_list.or (sl_str.or sl_tupA)
theorem Reps.cut {W : Wd} {F : Hp} {ds : List D} {vs : List V} {lo hi : Option Int} (r : Reps W F ds vs) : Reps W F (cutD ds lo hi) (cutV vs lo hi) := by
  unfold cutD cutV
  rw [r.len]
  exact (r.drop _).take _
theorem gSl_ok {W : Wd} {b : Bs} {F : Hp} {ρ : List T} {σ : St} {X : List Tm} {H : Hp} {t τ : T} {x : V} {lo hi : Option Int} {Q : VK} (S : SR W b F ρ σ X H) (r : RelV W F H t x) (e : gSl t lo hi = some τ) (k : Kp W b F ρ σ X H τ Q) : rSlU W.K x lo hi H Q := by
  unfold gSl at e
  split at e
  · rename_i ds h
    cases e
    obtain ⟨p, vs, ex, hs, q⟩ := r.ls h S.le
    exact .inl ⟨p, vs, ex, hs, k.lst S q.cut⟩
  · split at e
    · rename_i z h
      split at e
      · rename_i hz
        cases e
        exact .inr (.inl ⟨z, r.str h, hz, k.d S rfl⟩)
      · cases e
    · split at e
      · rename_i ds h
        cases e
        obtain ⟨p, vs, ex, hs, q⟩ := r.ts h S.le
        subst ex
        refine .inr (.inr ⟨p, vs, rfl, hs, fun hw => k.d S ?_, fun _ => k.tup S q.cut⟩)
        have hc : cutD ds lo hi = ds := by
          unfold cutD
          rw [← q.len] at hw
          rw [hw.1, hw.2, List.drop_zero, Nat.sub_zero, List.take_length]
        rw [hc]
        cases t with
        | f d =>
          cases d with
          | tup l => cases h; exact r.rep
          | _ => cases h
        | _ => cases h
      · cases e
def fSl (fa : List T → Option T) (fl fh : Option (List T → Option T)) : List T → Option T := fun ρ => (fa ρ).bind fun t => match fl, fh with
  | none, none => gSl t none none
  | some l, none => (l ρ).bind fun x => x.i?.bind fun i => gSl t (some i) none
  | none, some h => (h ρ).bind fun x => x.i?.bind fun i => gSl t none (some i)
  | some l, some h => (l ρ).bind fun x => x.i?.bind fun i => (h ρ).bind fun y => y.i?.bind fun j => gSl t (some i) (some j)
theorem slj {c : Ctx} (j : c.J) : SlR (c.X j) (rSlU c.W.K) := by have h := sl_U (X := c.X j); rw [c.hK j] at h; exact h
theorem ev_sl00 {p2 : Pos} (ha : Ev c a fa) : Ev c (.Subscript a (.Slice none none none p2) pos) (fSl fa none none) := by
  obtain ⟨ta, pa, sa⟩ := ha
  refine ⟨_, fun j => pe_slice (slj j) (pa j) po_none po_none, ?_⟩
  intro b F ρ σ X H τ Q S e k
  obtain ⟨t, e1, e⟩ := Option.bind_eq_some_iff.mp e
  exact sa b F ρ σ X H t _ S e1 fun v F1 H1 S1 i1 s1 r1 => gSl_ok S1 r1 e (k.mono i1 s1)
theorem ev_sl10 {p2 : Pos} {l : Expr} {fl : List T → Option T} (ha : Ev c a fa) (hl : Ev c l fl) : Ev c (.Subscript a (.Slice (some l) none none p2) pos) (fSl fa (some fl) none) := by
  obtain ⟨ta, pa, sa⟩ := ha
  obtain ⟨tl, pl, sl⟩ := hl
  refine ⟨_, fun j => pe_slice (slj j) (pa j) (po_some (pl j)) po_none, ?_⟩
  intro b F ρ σ X H τ Q S e k
  obtain ⟨t, e1, e⟩ := Option.bind_eq_some_iff.mp e
  obtain ⟨x, e2, e⟩ := Option.bind_eq_some_iff.mp e
  obtain ⟨i, e3, e⟩ := Option.bind_eq_some_iff.mp e
  refine sa b F ρ σ X H t _ S e1 fun v F1 H1 S1 i1 s1 r1 => ?_
  refine sl b F1 ρ σ X H1 x _ S1 e2 fun v2 F2 H2 S2 i2 s2 r2 => ⟨i, r2.int e3, ?_⟩
  exact gSl_ok S2 (r1.ext i2 s2) e (k.mono (i1.trans i2) (s1.trans s2))
theorem ev_sl01 {p2 : Pos} {l : Expr} {fl : List T → Option T} (ha : Ev c a fa) (hl : Ev c l fl) : Ev c (.Subscript a (.Slice none (some l) none p2) pos) (fSl fa none (some fl)) := by
  obtain ⟨ta, pa, sa⟩ := ha
  obtain ⟨tl, pl, sl⟩ := hl
  refine ⟨_, fun j => pe_slice (slj j) (pa j) po_none (po_some (pl j)), ?_⟩
  intro b F ρ σ X H τ Q S e k
  obtain ⟨t, e1, e⟩ := Option.bind_eq_some_iff.mp e
  obtain ⟨x, e2, e⟩ := Option.bind_eq_some_iff.mp e
  obtain ⟨i, e3, e⟩ := Option.bind_eq_some_iff.mp e
  refine sa b F ρ σ X H t _ S e1 fun v F1 H1 S1 i1 s1 r1 => ?_
  refine sl b F1 ρ σ X H1 x _ S1 e2 fun v2 F2 H2 S2 i2 s2 r2 => ⟨i, r2.int e3, ?_⟩
  exact gSl_ok S2 (r1.ext i2 s2) e (k.mono (i1.trans i2) (s1.trans s2))
theorem ev_sl11 {p2 : Pos} {l h : Expr} {fl fh : List T → Option T} (ha : Ev c a fa) (hl : Ev c l fl) (hh : Ev c h fh) : Ev c (.Subscript a (.Slice (some l) (some h) none p2) pos) (fSl fa (some fl) (some fh)) := by
  obtain ⟨ta, pa, sa⟩ := ha
  obtain ⟨tl, pl, sl⟩ := hl
  obtain ⟨th, ph, sh⟩ := hh
  refine ⟨_, fun j => pe_slice (slj j) (pa j) (po_some (pl j)) (po_some (ph j)), ?_⟩
  intro b F ρ σ X H τ Q S e k
  obtain ⟨t, e1, e⟩ := Option.bind_eq_some_iff.mp e
  obtain ⟨x, e2, e⟩ := Option.bind_eq_some_iff.mp e
  obtain ⟨i, e3, e⟩ := Option.bind_eq_some_iff.mp e
  obtain ⟨y, e4, e⟩ := Option.bind_eq_some_iff.mp e
  obtain ⟨m, e5, e⟩ := Option.bind_eq_some_iff.mp e
  refine sa b F ρ σ X H t _ S e1 fun v F1 H1 S1 i1 s1 r1 => ?_
  refine sl b F1 ρ σ X H1 x _ S1 e2 fun v2 F2 H2 S2 i2 s2 r2 => ⟨i, r2.int e3, ?_⟩
  refine sh b F2 ρ σ X H2 y _ S2 e4 fun v3 F3 H3 S3 i3 s3 r3 => ⟨m, r3.int e5, ?_⟩
  exact gSl_ok S3 ((r1.ext i2 s2).ext i3 s3) e (k.mono (i1.trans (i2.trans i3)) (s1.trans (s2.trans s3)))
end

/-! ### builtins by values -/
section
variable {W : Wd}
theorem rv1 {F H : Hp} {t : T} {xs : List V} (r : RelVs W F H [t] xs) : ∃ x, xs = [x] ∧ RelV W F H t x := by
  obtain ⟨v, vr, e, a, b⟩ := r.inv
  rw [b.inv0] at e
  exact ⟨v, e, a⟩
theorem rv2 {F H : Hp} {t u : T} {xs : List V} (r : RelVs W F H [t, u] xs) : ∃ x y, xs = [x, y] ∧ RelV W F H t x ∧ RelV W F H u y := by
  obtain ⟨v, vr, e, a, b⟩ := r.inv
  obtain ⟨y, e2, q⟩ := rv1 b
  subst e2
  exact ⟨v, y, e, a, q⟩
def gLen (ts : List T) : Option T := match ts with
  | [t] => match t with
    | .ll us => some (.f (.int us.length))
    | .tu us => some (.f (.int us.length))
    | t => match t.sq? with
      | some ds => some (.f (.int ds.length))
      | none => match t.s? with
        | some z => if z.length ≤ sizeLine then some (.f (.int z.length)) else none
        | none => match t.dk? with
          | some p => some (.f (.int p.1.length))
          | none => none
  | _ => none
def rLenU (K : PySem.W.Frag) : List V → Hp → VK → Prop := fun xs H Q => (∃ x n, xs = [x] ∧ LenV K x H n ∧ Q (.int n) H) ∨ ∃ a kvs, xs = [V.ref a] ∧ Rd H a (.dK kvs) ∧ Q (.int kvs.length) H
theorem call_lenU {X : Cx} : CallR X (.builtin "len") (rLenU X.K) := CallR_or call_len (by
  intro pins s σ H xs us Q I r h
  obtain ⟨a, kvs, rfl, ha, q⟩ := h
  obtain ⟨u, rfl, ru⟩ := vals1 r
  cases ru
  exact d_len I ha fun t s' I' => ⟨.int kvs.length, H, I', ⟨t, rfl⟩, q⟩)
theorem sn_len : Sn W (rLenU W.K) gLen := by
  intro b F ρ σ X H ts τ xs Q S r e k
  match ts, e with
  | [t], e =>
    obtain ⟨x, rfl, r1⟩ := rv1 r
    have main : ∀ t' : T, t' = t → (match t'.sq? with | some ds => some (T.f (.int ds.length)) | none => match t'.s? with | some z => if z.length ≤ sizeLine then some (T.f (.int z.length)) else none | none => match t'.dk? with | some p => some (T.f (.int p.1.length)) | none => none) = some τ → rLenU W.K [x] H Q := by
      intro t' et ee
      subst et
      split at ee
      · rename_i ds h
        cases ee
        obtain ⟨p, vs, ex, hs, q⟩ := r1.sq h S.le
        subst ex
        refine .inl ⟨_, vs.length, rfl, ?_, by rw [← q.len]; exact k.d S rfl⟩
        rcases hs with hs | hs
        · exact .inl ⟨vs, hs, rfl⟩
        · exact .inr ⟨vs, hs, rfl⟩
      · split at ee
        · rename_i z h
          split at ee
          · rename_i hz
            cases ee
            rw [r1.str h]
            exact .inl ⟨_, z.length, rfl, ⟨hz, rfl⟩, k.d S rfl⟩
          · cases ee
        · split at ee
          · rename_i p h
            cases ee
            obtain ⟨ks, ds⟩ := p
            obtain ⟨a, kvs, ex, hs, hk, q⟩ := r1.dk h S.le
            subst ex hk
            refine .inr ⟨a, kvs, rfl, hs, ?_⟩
            have h2 : Rep W F (.int ((kvs.map (·.1)).length : Nat)) (.int (kvs.length : Nat)) := by
              rw [List.length_map]
              rfl
            exact k.d S h2
          · cases ee
    cases t with
    | ll us =>
      cases e
      obtain ⟨fp, p, vs, fps, ex, _, hs, q⟩ := r1
      subst ex
      exact .inl ⟨_, vs.length, rfl, .inl ⟨vs, .inl (.inl hs), rfl⟩, by rw [← q.len.1]; exact k.d S rfl⟩
    | tu us =>
      cases e
      obtain ⟨fp, p, vs, fps, ex, _, hs, q⟩ := r1
      subst ex
      exact .inl ⟨_, vs.length, rfl, .inr ⟨vs, .inl (.inl hs), rfl⟩, by rw [← q.len.1]; exact k.d S rfl⟩
    | un => exact main _ rfl e
    | f d => exact main _ rfl e
    | l ds => exact main _ rfl e
    | dk ks ds => exact main _ rfl e
    | di ks ds => exact main _ rfl e
    | o C ns us => exact main _ rfl e
    | ln _ => exact main _ rfl e
    | gb _ => exact main _ rfl e
    | rg _ => exact main _ rfl e
def gInt1 (ts : List T) : Option T := match ts with
  | [t] => match t.i? with
    | some i => some (.f (.int i))
    | none => match t.b? with
      | some b => some (.f (.int (if b = true then 1 else 0)))
      | none => none
  | _ => none
theorem sn_int1 : Sn W (fun xs H Q => (∃ i, xs = [.int i] ∧ Q (.int i) H) ∨ ∃ k, xs = [.bl k] ∧ Q (.int (if k then 1 else 0)) H) gInt1 := by
  intro b F ρ σ X H ts τ xs Q S r e k
  match ts, e with
  | [t], e =>
    obtain ⟨x, rfl, r1⟩ := rv1 r
    simp only [gInt1] at e
    split at e
    · rename_i i h
      cases e
      exact .inl ⟨i, by rw [r1.int h], k.d S rfl⟩
    · split at e
      · rename_i i h
        cases e
        exact .inr ⟨i, by rw [r1.bl h], k.d S rfl⟩
      · cases e
def gMax2 (ts : List T) : Option T := match ts with
  | [t, u] => t.i?.bind fun i => u.i?.bind fun j => some (.f (.int (if j > i then j else i)))
  | _ => none
def gMin2 (ts : List T) : Option T := match ts with
  | [t, u] => t.i?.bind fun i => u.i?.bind fun j => some (.f (.int (if j < i then j else i)))
  | _ => none
theorem sn_max2 : Sn W (fun xs H Q => ∃ i j, xs = [.int i, .int j] ∧ Q (.int (if j > i then j else i)) H) gMax2 := by
  intro b F ρ σ X H ts τ xs Q S r e k
  match ts, e with
  | [t, u], e =>
    obtain ⟨x, y, rfl, r1, r2⟩ := rv2 r
    obtain ⟨i, e1, e⟩ := Option.bind_eq_some_iff.mp e
    obtain ⟨j, e2, e⟩ := Option.bind_eq_some_iff.mp e
    cases e
    exact ⟨i, j, by rw [r1.int e1, r2.int e2], k.d S rfl⟩
theorem sn_min2 : Sn W (fun xs H Q => ∃ i j, xs = [.int i, .int j] ∧ Q (.int (if j < i then j else i)) H) gMin2 := by
  intro b F ρ σ X H ts τ xs Q S r e k
  match ts, e with
  | [t, u], e =>
    obtain ⟨x, y, rfl, r1, r2⟩ := rv2 r
    obtain ⟨i, e1, e⟩ := Option.bind_eq_some_iff.mp e
    obtain ⟨j, e2, e⟩ := Option.bind_eq_some_iff.mp e
    cases e
    exact ⟨i, j, by rw [r1.int e1, r2.int e2], k.d S rfl⟩
def gAbs (ts : List T) : Option T := match ts with
  | [t] => t.i?.bind fun i => some (.f (.int (if i < 0 then -i else i)))
  | _ => none
theorem sn_abs : Sn W (fun xs H Q => ∃ i, xs = [.int i] ∧ Q (.int (if i < 0 then -i else i)) H) gAbs := by
  intro b F ρ σ X H ts τ xs Q S r e k
  match ts, e with
  | [t], e =>
    obtain ⟨x, rfl, r1⟩ := rv1 r
    obtain ⟨i, e1, e⟩ := Option.bind_eq_some_iff.mp e
    cases e
    exact ⟨i, by rw [r1.int e1], k.d S rfl⟩
def intsOf : List D → Option (List Int)
  | [] => some []
  | .int i :: ds => (intsOf ds).map fun r => i :: r
  | _ :: _ => none
theorem intsOf_eq : ∀ {ds : List D} {ns : List Int}, intsOf ds = some ns → ds = ns.map .int
  | [], _, e => by cases e; rfl
  | .int i :: ds, _, e => by
    obtain ⟨r, e1, e⟩ := Option.map_eq_some_iff.mp (show (intsOf ds).map _ = _ from e)
    subst e
    rw [intsOf_eq e1]
    rfl
def gSum (ts : List T) : Option T := match ts with
  | [t] => t.ls?.bind fun ds => (intsOf ds).map fun ns => .f (.int ns.sum)
  | _ => none
theorem sn_sum : Sn W (rSum W.K) gSum := by
  intro b F ρ σ X H ts τ xs Q S r e k
  match ts, e with
  | [t], e =>
    obtain ⟨x, rfl, r1⟩ := rv1 r
    obtain ⟨ds, e1, e⟩ := Option.bind_eq_some_iff.mp e
    obtain ⟨ns, e2, e⟩ := Option.map_eq_some_iff.mp e
    subst e
    obtain ⟨p, vs, ex, hs, q⟩ := r1.ls e1 S.le
    rw [intsOf_eq e2] at q
    rw [q.ints] at hs
    subst ex
    exact ⟨p, ns, rfl, hs, k.d S rfl⟩
def blsOf : List D → Option (List Bool)
  | [] => some []
  | .bl i :: ds => (blsOf ds).map fun r => i :: r
  | _ :: _ => none
theorem blsOf_eq : ∀ {ds : List D} {ns : List Bool}, blsOf ds = some ns → ds = ns.map .bl
  | [], _, e => by cases e; rfl
  | .bl i :: ds, _, e => by
    obtain ⟨r, e1, e⟩ := Option.map_eq_some_iff.mp (show (blsOf ds).map _ = _ from e)
    subst e
    rw [blsOf_eq e1]
    rfl
def gAll (ts : List T) : Option T := match ts with
  | [t] => t.ls?.bind fun ds => (blsOf ds).map fun ns => .f (.bl (ns.all id))
  | _ => none
theorem sn_all : Sn W (rAll W.K) gAll := by
  intro b F ρ σ X H ts τ xs Q S r e k
  match ts, e with
  | [t], e =>
    obtain ⟨x, rfl, r1⟩ := rv1 r
    obtain ⟨ds, e1, e⟩ := Option.bind_eq_some_iff.mp e
    obtain ⟨ns, e2, e⟩ := Option.map_eq_some_iff.mp e
    subst e
    obtain ⟨p, vs, ex, hs, q⟩ := r1.ls e1 S.le
    rw [blsOf_eq e2] at q
    rw [q.bls] at hs
    subst ex
    exact ⟨p, ns, rfl, hs, k.d S rfl⟩
/-- str -/
def gStr (ts : List T) : Option T := match ts with
  | [t] => match t.i? with
    | some i => if i.natAbs.log2 < 1920 then some (.f (.str (toString i))) else none
    | none => match t.s? with
      | some z => some (.f (.str z))
      | none => none
  | _ => none
theorem sn_str : Sn W (fun xs H Q => (∃ i : Int, xs = [.int i] ∧ i.natAbs.log2 < 1920 ∧ Q (.str (toString i)) H) ∨ ∃ a, xs = [.str a] ∧ Q (.str a) H) gStr := by
  intro b F ρ σ X H ts τ xs Q S r e k
  match ts, e with
  | [t], e =>
    obtain ⟨x, rfl, r1⟩ := rv1 r
    simp only [gStr] at e
    split at e
    · rename_i i h
      split at e
      · rename_i hz
        cases e
        exact .inl ⟨i, by rw [r1.int h], hz, k.d S rfl⟩
      · cases e
    · split at e
      · rename_i z h
        cases e
        exact .inr ⟨z, by rw [r1.str h], k.d S rfl⟩
      · cases e
/-- list(x), tuple(x) -/
def gList (ts : List T) : Option T := match ts with
  | [t] => t.sq?.map fun ds => .f (.lst ds)
  | _ => none
theorem sn_list : Sn W (fun xs H Q => ∃ p ys, xs = [.ref p] ∧ (SqL W.K H p ys ∨ SqT W.K H p ys) ∧ ∀ l, H l = none → Q (.ref l) (upd H l (.lst ys))) gList := by
  intro b F ρ σ X H ts τ xs Q S r e k
  match ts, e with
  | [t], e =>
    obtain ⟨x, rfl, r1⟩ := rv1 r
    obtain ⟨ds, e1, e⟩ := Option.map_eq_some_iff.mp e
    subst e
    obtain ⟨p, vs, ex, hs, q⟩ := r1.sq e1 S.le
    subst ex
    exact ⟨p, vs, rfl, hs, k.lst S q⟩
def gTuple (ts : List T) : Option T := match ts with
  | [t] => match t.ls? with
    | some ds => some (.f (.tup ds))
    | none => t.ts?.map fun ds => .f (.tup ds)
  | _ => none
theorem sn_tuple : Sn W (fun xs H Q => ∃ p ys, xs = [.ref p] ∧ ((SqL W.K H p ys ∧ ∀ l, H l = none → Q (.ref l) (upd H l (.tup ys))) ∨ (SqT W.K H p ys ∧ Q (.ref p) H))) gTuple := by
  intro b F ρ σ X H ts τ xs Q S r e k
  match ts, e with
  | [t], e =>
    obtain ⟨x, rfl, r1⟩ := rv1 r
    simp only [gTuple] at e
    split at e
    · rename_i ds h
      cases e
      obtain ⟨p, vs, ex, hs, q⟩ := r1.ls h S.le
      subst ex
      exact ⟨p, vs, rfl, .inl ⟨hs, k.tup S q⟩⟩
    · obtain ⟨ds, e1, e⟩ := Option.map_eq_some_iff.mp e
      subst e
      obtain ⟨p, vs, ex, hs, q⟩ := r1.ts e1 S.le
      subst ex
      refine ⟨p, vs, rfl, .inr ⟨hs, k.here S ?_⟩⟩
      cases t with
      | f d => cases d with
        | tup l => cases e1; exact r1
        | _ => cases e1
      | _ => cases e1
/-- isinstance(x, T) -/
def T.ty : T → Option String
  | .f .non => some "NoneType" | .f (.bl _) => some "bool" | .f (.int _) => some "int" | .f (.str _) => some "str"
  | .l _ => some "list" | .ll _ => some "list" | .tu _ => some "tuple" | .dk _ _ => some "dict"
  | .f (.lst _) => some "list" | .f (.nst _) => some "list" | .f (.tup _) => some "tuple" | .f (.dct _ _) => some "dict" | _ => none
theorem RelV.ty {F H : Hp} {t : T} {v : V} {n : String} (r : RelV W F H t v) (h : t.ty = some n) (le : Le F H) : TyX W.K H v (.type n) := by
  cases t with
  | f d => cases d with
    | non => cases h; rw [show v = V.non from r.rep]; exact .base .non
    | bl b => cases h; rw [show v = V.bl b from r.rep]; exact .base (.bl b)
    | int b => cases h; rw [show v = V.int b from r.rep]; exact .base (.int b)
    | str b => cases h; rw [show v = V.str b from r.rep]; exact .base (.str b)
    | lst l =>
      cases h
      obtain ⟨p, vs, ex, hs, q⟩ := r.rep
      subst ex
      rcases SqL.le le hs with (e | ⟨o, e⟩) | ⟨o, its, n, e, hc, _⟩
      · exact .base (.lst e)
      · exact .base (.frz e)
      · exact .kList e hc
    | nst l =>
      cases h
      obtain ⟨p, vs, ex, hs, _, q⟩ := r.rep
      subst ex
      rcases le _ _ hs with z | ⟨_, _, e1, _⟩
      · exact .base (.lst z)
      · cases e1
    | tup l =>
      cases h
      obtain ⟨p, vs, ex, hs, q⟩ := r.rep
      subst ex
      rcases SqT.le le hs with (e | ⟨o, e⟩) | ⟨o, its, n, e, hc, _⟩
      · exact .base (.tup e)
      · exact .fTuple e
      · exact .kTuple e hc
    | dct ks l =>
      cases h
      obtain ⟨p, vs, ex, hs, q⟩ := r.rep
      subst ex
      rcases Rd.le le hs with e | ⟨o, e⟩
      · exact .base (.dK e)
      · exact .fDict e
    | obj _ _ _ => cases h
  | l ds => cases h; obtain ⟨fp, p, vs, ex, _, hs, q⟩ := r; subst ex; exact .base (.lst hs)
  | ll ds => cases h; obtain ⟨fp, p, vs, _, ex, _, hs, q⟩ := r; subst ex; exact .base (.lst hs)
  | tu ds => cases h; obtain ⟨fp, p, vs, _, ex, _, hs, q⟩ := r; subst ex; exact .base (.tup hs)
  | dk ks ds => cases h; obtain ⟨fp, p, vs, ex, _, hs, q⟩ := r; subst ex; exact .base (.dK hs)
  | un => cases h
  | di _ _ => cases h
  | o _ _ _ => cases h
  | ln _ => cases h
  | gb _ => cases h
  | rg _ => cases h
def fIsi (n : String) (fa : List T → Option T) : List T → Option T := fun ρ => (fa ρ).bind fun t => t.ty.bind fun m => (kitB m n).map fun b => .f (.bl b)
end
section
variable {c : Ctx} {a e' : Expr} {es : List Expr} {fa fb : List T → Option T} {fs : List T → Option (List T)} {pos : Pos} {p : Pos}
theorem ev_isi {n : String} {x : Str} {p2 : Pos} (hg : ∀ j, Gl (c.X j) "isinstance") (hm : ∀ j, (c.X j).mg "isinstance" = none) (ha : Ev c a fa) (hg2 : ∀ j, Gl (c.X j) x) (hm2 : ∀ j, (c.X j).mg x = none) (hv : bootBuiltins x = some (.type n)) (hn : x ≠ "__name__" := by decide) (hdb : (x == ("__debug__" : Str)) = false := by decide)
    (he : ∀ j, starEach [a, .Name x p2] (c.X j).env = (false, eval a (c.X j).env) :: starEach [.Name x p2] (c.X j).env := by intro _; rfl) (he2 : ∀ j, starEach [.Name x p2] (c.X j).env = (false, eval (.Name x p2) (c.X j).env) :: starEach [] (c.X j).env := by intro _; rfl) (hpl : ∀ j, (backTo pos (starEach [.Name x p2] (c.X j).env)).any (·.1) = false := by intro _; rfl) :
    Ev c (.Call (.Name "isinstance" p) [a, .Name x p2] [] pos) (fIsi n fa) := by
  obtain ⟨t, q, s⟩ := ha
  refine ⟨tCB (rIsi c.W.K) (tCons t (tCons (tC (.ty n)) tNil)), fun j => ?_, ?_⟩
  · have h := pe_callB (p := p) (pos := pos) (call_isi (X := c.X j)) (hg j) (hm j) (by decide +kernel) (pa_cons (q j) (pa_cons (pe_bltn (v := .ty n) (pos := p2) (hg2 j) (hm2 j) hv rfl hn hdb) pa_nil (he2 j)) (he j)) (by decide) (by decide) (he j) (hpl j)
    rw [c.hK j] at h
    exact h
  intro b F ρ σ X H τ Q S e k
  obtain ⟨t1, e1, e⟩ := Option.bind_eq_some_iff.mp e
  obtain ⟨m, e2, e⟩ := Option.bind_eq_some_iff.mp e
  obtain ⟨r, e3, e⟩ := Option.map_eq_some_iff.mp e
  subst e
  refine s b F ρ σ X H t1 _ S e1 fun v F1 H1 S1 i1 s1 r1 => ?_
  exact ⟨v, _, _, _, r, rfl, .ty n, r1.ty e2 S1.le, kit_ty e3, (k.mono i1 s1).d S1 rfl⟩
end
end Z

namespace Z
open PySem PySem.Spec PyProof.Rows L2

/-! ### what is walked -/
def IvR (X : Cx) (tg : Expr) (r : V → Hp → (It → Hp → Prop) → Prop) : Prop :=
  ∀ (pins : List (Addr × Obj)) (s : Shared) (σ : L2.St) (H : Hp) (x : V) (v : Value) (R : It → Hp → Prop), Inv X pins σ H s → L2.RelV x v → r x H R → wpAny (model X.prog X.w) X.A (pyIter v) (PIE X pins σ tg R) X.xe s
theorem pi_of {X : Cx} {tg e : Expr} {t : TE} {r : V → Hp → (It → Hp → Prop) → Prop} (he : PE X e t) (hr : IvR X tg r) : PI X tg e (fun σ H R => t σ H fun x H1 => r x H1 R) := by
  refine ⟨fun pins s σ H R I h => ?_⟩
  exact thn (he.run pins s σ H _ I h) fun v s1 ⟨x, H1, I1, r1, q1⟩ => hr pins s1 σ H1 x v R I1 r1 q1
def rivL (K : PySem.W.Frag) : V → Hp → (It → Hp → Prop) → Prop := fun x H R => ∃ a, x = .ref a ∧ (∃ xs, SqL K H a xs) ∧ R (Itl K a) H
def rivT (K : PySem.W.Frag) : V → Hp → (It → Hp → Prop) → Prop := fun x H R => ∃ a, x = .ref a ∧ (∃ xs, SqT K H a xs) ∧ R (Itt K a) H
def rivS : V → Hp → (It → Hp → Prop) → Prop := fun v H R => ∃ x, v = .str x ∧ R (Its x) H
theorem iv_list {X : Cx} {tg : Expr} : IvR X tg (rivL X.K) := by
  intro pins s1 σ H1 x v R I1 r1 q1
  obtain ⟨a, e, ⟨xs, hq⟩, q⟩ := q1
  subst e
  cases r1
  obtain ⟨its, rv, p, hz⟩ := I1.list hq
  refine wpAny_pyIter_list p.isList ?_
  refine ⟨s1.heap.objs.size, [s1.heap.objs.size], _, _, H1, rfl, I1.kept (t' := s1.toks) fun b o e => Heap.get?_push_of_some _ e, turn_list a _, ⟨_, Heap.get?_push_size _ rfl, rfl, rfl⟩, fun b hb => ?_, q⟩
  have e : b = s1.heap.objs.size := by simpa using hb
  subst e
  exact I1.fpOk (Nat.le_refl _) (I1.hok.fresh (Nat.le_refl _))
theorem iv_tup {X : Cx} {tg : Expr} : IvR X tg (rivT X.K) := by
  intro pins s1 σ H1 x v R I1 r1 q1
  obtain ⟨a, e, ⟨xs, hq⟩, q⟩ := q1
  subst e
  cases r1
  obtain ⟨its, rv, p, hz⟩ := I1.tuple hq
  refine wpAny_pyIter_tuple (show s1.heap.IsTuple a its.toArray from p) ?_
  refine ⟨s1.heap.objs.size, [s1.heap.objs.size], _, _, H1, rfl, I1.kept (t' := s1.toks) fun b o e => Heap.get?_push_of_some _ e, turn_tuple a _, ⟨_, Heap.get?_push_size _ rfl, rfl, rfl⟩, fun b hb => ?_, q⟩
  have e : b = s1.heap.objs.size := by simpa using hb
  subst e
  exact I1.fpOk (Nat.le_refl _) (I1.hok.fresh (Nat.le_refl _))
theorem iv_str {X : Cx} {tg : Expr} : IvR X tg rivS := by
  intro pins s1 σ H1 y v R I1 r1 q1
  obtain ⟨x, ex, q⟩ := q1
  subst ex
  obtain ⟨t, rfl⟩ := r1
  cases ha : x.cps.all (· < 128)
  · exact wpAny_pyIter_wide ha (pi_one (tk := s1.toks) I1 _ (turn_str _ x t "str_iterator" (.inr rfl)) ⟨_, Heap.get?_push_size _ rfl, rfl, rfl⟩ q)
  · exact wpAny_pyIter_ascii ha (pi_one (tk := s1.toks) I1 _ (turn_str _ x t "str_ascii_iterator" (.inl rfl)) ⟨_, Heap.get?_push_size _ rfl, rfl, rfl⟩ q)
def rivU (K : PySem.W.Frag) : V → Hp → (It → Hp → Prop) → Prop := fun x H R => rivL K x H R ∨ rivT K x H R ∨ rivS x H R
theorem iv_U {X : Cx} {tg : Expr} : IvR X tg (rivU X.K) := by
  intro pins s σ H x v R I r q
  rcases q with q | q | q
  · exact iv_list pins s σ H x v R I r q
  · exact iv_tup pins s σ H x v R I r q
  · exact iv_str pins s σ H x v R I r q
def signs (x : Str) : List D := x.cps.toList.map fun c => .str ⟨#[c]⟩
def D.its : D → Option (List D) | .lst ds => some ds | .nst ds => some ds | .tup ds => some ds | .str x => some (signs x) | _ => none
section
variable {W : Wd} {F : Hp}
theorem wk_list {a : Addr} {ds : List D} {vs : List V} (hs : SqL W.K F a vs) (r : Reps W F ds vs) : Wk W F (Itl W.K a) ds where
  go := fun i G H i1 le h => by
    obtain ⟨v, e, _⟩ := r.get (List.getElem?_eq_getElem h)
    exact ⟨vs, v, SqL.le (i1.le le) hs, e⟩
  stop := fun G H i1 le => ⟨vs, SqL.le (i1.le le) hs, by rw [r.len]; exact Nat.le_refl _⟩
  yld := fun i G H x H' d i1 le hd y => by
    obtain ⟨e, y⟩ := y
    obtain ⟨v, e2, q⟩ := r.get hd
    have := y vs (SqL.le (i1.le le) hs)
    rw [e2] at this
    cases this
    exact .inl ⟨e, q.inc i1⟩
theorem wk_tup {a : Addr} {ds : List D} {vs : List V} (hs : SqT W.K F a vs) (r : Reps W F ds vs) : Wk W F (Itt W.K a) ds where
  go := fun i G H i1 le h => by
    obtain ⟨v, e, _⟩ := r.get (List.getElem?_eq_getElem h)
    exact ⟨vs, v, SqT.le (i1.le le) hs, e⟩
  stop := fun G H i1 le => ⟨vs, SqT.le (i1.le le) hs, by rw [r.len]; exact Nat.le_refl _⟩
  yld := fun i G H x H' d i1 le hd y => by
    obtain ⟨e, y⟩ := y
    obtain ⟨v, e2, q⟩ := r.get hd
    have := y vs (SqT.le (i1.le le) hs)
    rw [e2] at this
    cases this
    exact .inl ⟨e, q.inc i1⟩
theorem wk_str {x : Str} : Wk W F (Its x) (signs x) where
  go := fun i G H i1 le h => by
    unfold signs at h
    rw [List.length_map] at h
    exact (by simpa using h : i < x.cps.size)
  stop := fun G H i1 le => by
    show x.cps.size ≤ _
    unfold signs
    rw [List.length_map]
    simp
  yld := fun i G H v H' d i1 le hd y => by
    obtain ⟨e, c, ec, ev⟩ := y
    refine .inl ⟨e, ?_⟩
    unfold signs at hd
    rw [List.getElem?_map] at hd
    have ec' : x.cps.toList[i]? = some c := by simpa using ec
    rw [ec'] at hd
    cases hd
    exact ev
theorem wk_its {x : V} {d : D} {ds : List D} {H : Hp} {R : It → Hp → Prop} (le : Le F H) (r : Rep W F d x) (h : d.its = some ds) (k : ∀ J, Wk W F J ds → R J H) : rivU W.K x H R := by
  cases d with
  | lst l =>
    cases h
    obtain ⟨p, vs, ex, hs, q⟩ := r
    exact .inl ⟨p, ex, ⟨vs, SqL.le le hs⟩, k _ (wk_list hs q)⟩
  | nst l =>
    cases h
    obtain ⟨p, vs, ex, hs, _, q⟩ := r
    exact .inl ⟨p, ex, ⟨vs, SqL.le le (SqL.of hs)⟩, k _ (wk_list (SqL.of hs) q)⟩
  | tup l =>
    cases h
    obtain ⟨p, vs, ex, hs, q⟩ := r
    exact .inr (.inl ⟨p, ex, ⟨vs, SqT.le le hs⟩, k _ (wk_tup hs q)⟩)
  | str z =>
    cases h
    exact .inr (.inr ⟨z, r, k _ wk_str⟩)
  | _ => cases h
def rangeD (lo : Int) (n : Nat) : List D := (List.range n).map fun (i : Nat) => .int (lo + (i : Int))
theorem wk_range {lo : Int} {n : Nat} : Wk W F (Itr lo n) (rangeD lo n) where
  go := fun i G H i1 le h => by
    unfold rangeD at h
    rw [List.length_map, List.length_range] at h
    exact h
  stop := fun G H i1 le => by
    show n ≤ _
    unfold rangeD
    rw [List.length_map, List.length_range]
    exact Nat.le_refl _
  yld := fun i G H v H' d i1 le hd y => by
    obtain ⟨e, ev⟩ := y
    refine .inl ⟨e, ?_⟩
    unfold rangeD at hd
    rw [List.getElem?_map] at hd
    obtain ⟨j, ej, hd⟩ := Option.map_eq_some_iff.mp hd
    obtain ⟨hlt, ej⟩ := List.getElem?_eq_some_iff.mp ej
    rw [List.getElem_range] at ej
    subst ej hd
    exact ev
def enumD : Nat → List D → List D
  | _, [] => []
  | i, d :: ds => .tup [.int (i : Int), d] :: enumD (i + 1) ds
theorem enumD_len : ∀ (ds : List D) (i : Nat), (enumD i ds).length = ds.length
  | [], _ => rfl
  | d :: ds, i => by
    show (enumD (i + 1) ds).length + 1 = ds.length + 1
    rw [enumD_len ds]
theorem enumD_get : ∀ (ds : List D) (j i : Nat) (d : D), (enumD j ds)[i]? = some d → ∃ e, ds[i]? = some e ∧ d = .tup [.int ((j + i : Nat) : Int), e]
  | [], _, _, _, h => by simp [enumD] at h
  | x :: ds, j, 0, d, h => by
    have h' : D.tup [.int (j : Int), x] = d := by simpa [enumD] using h
    exact ⟨x, rfl, by rw [← h']; rfl⟩
  | x :: ds, j, i + 1, d, h => by
    have h' : (enumD (j + 1) ds)[i]? = some d := by simpa [enumD] using h
    obtain ⟨e, e1, e2⟩ := enumD_get ds (j + 1) i d h'
    exact ⟨e, by simpa using e1, by rw [e2, show j + 1 + i = j + (i + 1) by omega]⟩
theorem wk_enum {a : Addr} {ds : List D} {vs : List V} (hs : SqL W.K F a vs) (r : Reps W F ds vs) : Wk W F (Ite W.K a) (enumD 0 ds) where
  go := fun i G H i1 le h => by
    rw [enumD_len] at h
    obtain ⟨v, e, _⟩ := r.get (List.getElem?_eq_getElem h)
    exact ⟨vs, v, SqL.le (i1.le le) hs, e⟩
  stop := fun G H i1 le => ⟨vs, SqL.le (i1.le le) hs, by rw [enumD_len, r.len]; exact Nat.le_refl _⟩
  yld := fun i G H x H' d i1 le hd y => by
    obtain ⟨p, z, ex, hp, eH, y⟩ := y
    obtain ⟨e, e1, e2⟩ := enumD_get ds 0 i d hd
    obtain ⟨v, e3, q⟩ := r.get e1
    have := y vs (SqL.le (i1.le le) hs)
    rw [e3] at this
    cases this
    refine .inr ⟨p, _, hp, eH, ex, fun i2 => ?_⟩
    subst e2
    refine ⟨p, _, rfl, .inl (.inl upd_same), _, _, rfl, ?_, _, _, rfl, (q.inc i1).inc i2, rfl⟩
    show V.int _ = V.int _
    rw [Nat.zero_add]
def zipD : List D → List D → List D
  | a :: as, b :: bs => .tup [a, b] :: zipD as bs
  | _, _ => []
theorem zipD_get : ∀ (as bs : List D) (i : Nat) (d : D), (zipD as bs)[i]? = some d → ∃ a b, as[i]? = some a ∧ bs[i]? = some b ∧ d = .tup [a, b]
  | [], _, _, _, h => by simp [zipD] at h
  | _ :: _, [], _, _, h => by simp [zipD] at h
  | a :: as, b :: bs, 0, d, h => ⟨a, b, rfl, rfl, by simpa [zipD] using h.symm⟩
  | a :: as, b :: bs, i + 1, d, h => by
    obtain ⟨x, y, e1, e2, e3⟩ := zipD_get as bs i d (by simpa [zipD] using h)
    exact ⟨x, y, by simpa using e1, by simpa using e2, e3⟩
theorem zipD_len : ∀ (as bs : List D), (zipD as bs).length = min as.length bs.length
  | [], _ => by simp [zipD]
  | _ :: _, [] => by simp [zipD]
  | a :: as, b :: bs => by
    show (zipD as bs).length + 1 = _
    rw [zipD_len as bs]
    simp only [List.length_cons]
    omega
theorem wk_zip {a a2 : Addr} {ds es : List D} {vs us : List V} (hs : SqL W.K F a vs) (r : Reps W F ds vs) (hs2 : SqL W.K F a2 us) (r2 : Reps W F es us) : Wk W F (Itz W.K a a2) (zipD ds es) where
  go := fun i G H i1 le h => by
    rw [zipD_len] at h
    obtain ⟨v, e, _⟩ := r.get (List.getElem?_eq_getElem (show i < ds.length by omega))
    obtain ⟨u, e2, _⟩ := r2.get (List.getElem?_eq_getElem (show i < es.length by omega))
    exact ⟨vs, us, v, u, SqL.le (i1.le le) hs, SqL.le (i1.le le) hs2, e, e2⟩
  stop := fun G H i1 le => ⟨vs, us, SqL.le (i1.le le) hs, SqL.le (i1.le le) hs2, by rw [zipD_len, ← r.len, ← r2.len]; omega⟩
  yld := fun i G H x H' d i1 le hd y => by
    obtain ⟨p, z, z2, ex, hp, eH, y, y2⟩ := y
    obtain ⟨e, e', e1, e2, e3⟩ := zipD_get ds es i d hd
    obtain ⟨v, h1, q⟩ := r.get e1
    obtain ⟨u, h2, q2⟩ := r2.get e2
    have t1 := y vs (SqL.le (i1.le le) hs)
    have t2 := y2 us (SqL.le (i1.le le) hs2)
    rw [h1] at t1
    rw [h2] at t2
    cases t1
    cases t2
    refine .inr ⟨p, _, hp, eH, ex, fun i2 => ?_⟩
    subst e3
    exact ⟨p, _, rfl, .inl (.inl upd_same), _, _, rfl, (q.inc i1).inc i2, _, _, rfl, (q2.inc i1).inc i2, rfl⟩
theorem wk_rev {a : Addr} {ds : List D} {vs : List V} (hs : SqL W.K F a vs) (r : Reps W F ds vs) : Wk W F (Itv W.K a vs.length) ds.reverse where
  go := fun i G H i1 le h => by
    rw [List.length_reverse] at h
    obtain ⟨v, e, _⟩ := r.get (List.getElem?_eq_getElem (show vs.length - 1 - i < ds.length by rw [r.len] at h ⊢; omega))
    exact ⟨by rw [← r.len]; exact h, vs, v, SqL.le (i1.le le) hs, e⟩
  stop := fun G H i1 le => by
    show vs.length ≤ _
    rw [List.length_reverse, r.len]
    exact Nat.le_refl _
  yld := fun i G H x H' d i1 le hd y => by
    obtain ⟨e, y⟩ := y
    have hi : i < ds.length := by
      have := (List.getElem?_eq_some_iff.mp hd).1
      rw [List.length_reverse] at this
      exact this
    rw [List.getElem?_reverse hi, r.len] at hd
    obtain ⟨v, e2, q⟩ := r.get hd
    have := y vs (SqL.le (i1.le le) hs)
    rw [e2] at this
    cases this
    exact .inl ⟨e, q.inc i1⟩
end
section
variable {c : Ctx} {tg e e2 : Expr} {fo : List T → Option Re} {fs : List T → Option (List T)} {p pos : Pos}
def iVal (fo : List T → Option Re) : List T → Option Ri := fun ρ => (fo ρ).bind fun r => match r with
  | .ok t ρ1 => t.d?.bind fun d => d.its.map fun ds => .ok ds ρ1
  | .xc C ρ1 => some (.xc C ρ1)
theorem iw_val (he : Eo c e fo) : Iw c tg e (iVal fo) := by
  obtain ⟨t, p, s⟩ := he
  refine ⟨_, fun j => pi_of (p j) (by have h := iv_U (X := c.X j) (tg := tg); rw [c.hK j] at h; exact h), ?_⟩
  intro b F ρ σ X H r R hb S e k
  unfold iVal at e
  obtain ⟨r1, e1, e⟩ := Option.bind_eq_some_iff.mp e
  refine s b F ρ σ X H r1 _ hb S e1 ?_
  cases r1 with
  | xc C ρ1 =>
    cases e
    exact k
  | ok τ ρ1 =>
    obtain ⟨d, e2, e⟩ := Option.bind_eq_some_iff.mp e
    obtain ⟨ds, e3, e⟩ := Option.map_eq_some_iff.mp e
    subst e
    rw [d_some e2]
    intro v F' H' S' i'
    exact wk_its S'.le S'.top e3 fun J w => k J F' H' S'.drop i' w
/-- by one or two deep lists -/
def iL1 (g : List D → List D) (fs : List T → Option (List T)) : List T → Option Ri := fun ρ => (fs ρ).bind fun ts => match ts with
  | [.f (.lst ds)] => some (.ok (g ds) ρ)
  | _ => none
theorem iw_enum {elts : List Expr} {kk : Nat} {tpos : Pos} (hg : ∀ j, Gl (c.X j) "enumerate") (hm : ∀ j, (c.X j).mg "enumerate" = none) (ha : Av c [e] fs) (hs : ∀ j, starEach [e] (c.X j).env = [(false, eval e (c.X j).env)] := by intro _; rfl) :
    Iw c (.Tuple elts kk tpos) (.Call (.Name "enumerate" p) [e] [] pos) (iL1 (enumD 0) fs) := by
  obtain ⟨t, q, s⟩ := ha
  refine ⟨iEnum c.W.K t, fun j => by have h := pi_enum (p := p) (pos := pos) (tpos := tpos) (elts := elts) (kk := kk) (hg j) (hm j) (q j) (hs j); rw [c.hK j] at h; exact h, ?_⟩
  intro b F ρ σ X H r R hb S e k
  unfold iL1 at e
  obtain ⟨ts, e1, e⟩ := Option.bind_eq_some_iff.mp e
  refine s b F ρ σ X H ts _ S e1 fun vs F1 H1 S1 i1 s1 r1 => ?_
  match ts, e with
  | [.f (.lst ds)], e =>
    cases e
    obtain ⟨x, rfl, r2⟩ := rv1 r1
    obtain ⟨a, us, ex, hs, q⟩ := r2.rep
    subst ex
    exact ⟨a, us, rfl, SqL.le S1.le hs, k _ F1 H1 S1 i1 (wk_enum hs q)⟩
theorem iw_rev (hg : ∀ j, Gl (c.X j) "reversed") (hm : ∀ j, (c.X j).mg "reversed" = none) (ha : Av c [e] fs) (hs : ∀ j, starEach [e] (c.X j).env = [(false, eval e (c.X j).env)] := by intro _; rfl) :
    Iw c tg (.Call (.Name "reversed" p) [e] [] pos) (iL1 List.reverse fs) := by
  obtain ⟨t, q, s⟩ := ha
  refine ⟨iRev c.W.K t, fun j => by have h := pi_reversed (tg := tg) (p := p) (pos := pos) (hg j) (hm j) (q j) (hs j); rw [c.hK j] at h; exact h, ?_⟩
  intro b F ρ σ X H r R hb S e k
  unfold iL1 at e
  obtain ⟨ts, e1, e⟩ := Option.bind_eq_some_iff.mp e
  refine s b F ρ σ X H ts _ S e1 fun vs F1 H1 S1 i1 s1 r1 => ?_
  match ts, e with
  | [.f (.lst ds)], e =>
    cases e
    obtain ⟨x, rfl, r2⟩ := rv1 r1
    obtain ⟨a, us, ex, hs, q⟩ := r2.rep
    subst ex
    exact ⟨a, us, rfl, SqL.le S1.le hs, k _ F1 H1 S1 i1 (wk_rev hs q)⟩
def iL2 (g : List D → List D → List D) (fs : List T → Option (List T)) : List T → Option Ri := fun ρ => (fs ρ).bind fun ts => match ts with
  | [.f (.lst ds), .f (.lst es)] => some (.ok (g ds es) ρ)
  | _ => none
theorem iw_zip {elts : List Expr} {kk : Nat} {tpos : Pos} (hg : ∀ j, Gl (c.X j) "zip") (hm : ∀ j, (c.X j).mg "zip" = none) (ha : Av c [e, e2] fs) (hs : ∀ j, starEach [e, e2] (c.X j).env = (false, eval e (c.X j).env) :: starEach [e2] (c.X j).env := by intro _; rfl) (hpl : ∀ j, (backTo pos (starEach [e2] (c.X j).env)).any (·.1) = false := by intro _; rfl) :
    Iw c (.Tuple elts kk tpos) (.Call (.Name "zip" p) [e, e2] [] pos) (iL2 zipD fs) := by
  obtain ⟨t, q, s⟩ := ha
  refine ⟨iZip c.W.K t, fun j => by have h := pi_zip (p := p) (pos := pos) (tpos := tpos) (elts := elts) (kk := kk) (hg j) (hm j) (q j) (hs j) (hpl j); rw [c.hK j] at h; exact h, ?_⟩
  intro b F ρ σ X H r R hb S e k
  unfold iL2 at e
  obtain ⟨ts, e1, e⟩ := Option.bind_eq_some_iff.mp e
  refine s b F ρ σ X H ts _ S e1 fun vs F1 H1 S1 i1 s1 r1 => ?_
  match ts, e with
  | [.f (.lst ds), .f (.lst es)], e =>
    cases e
    obtain ⟨x, y, rfl, r2, r3⟩ := rv2 r1
    obtain ⟨a, us, ex, hs, q⟩ := r2.rep
    obtain ⟨a2, us2, ex2, hs2, q2⟩ := r3.rep
    subst ex ex2
    exact ⟨a, a2, us, us2, rfl, SqL.le S1.le hs, SqL.le S1.le hs2, k _ F1 H1 S1 i1 (wk_zip hs q hs2 q2)⟩
def iR1 (fs : List T → Option (List T)) : List T → Option Ri := fun ρ => (fs ρ).bind fun ts => match ts with
  | [.f (.int n)] => if -(2 ^ 62) ≤ n ∧ n < 2 ^ 62 then some (.ok (rangeD 0 n.toNat) ρ) else none
  | _ => none
def iR2 (fs : List T → Option (List T)) : List T → Option Ri := fun ρ => (fs ρ).bind fun ts => match ts with
  | [.f (.int m), .f (.int n)] => if -(2 ^ 62) ≤ m ∧ m < 2 ^ 62 ∧ -(2 ^ 62) ≤ n ∧ n < 2 ^ 62 then some (.ok (rangeD m (n - m).toNat) ρ) else none
  | _ => none
theorem iw_range1 (hg : ∀ j, Gl (c.X j) "range") (hm : ∀ j, (c.X j).mg "range" = none) (ha : Av c [e] fs) (hs : ∀ j, starEach [e] (c.X j).env = [(false, eval e (c.X j).env)] := by intro _; rfl) : Iw c tg (.Call (.Name "range" p) [e] [] pos) (iR1 fs) := by
  obtain ⟨t, q, s⟩ := ha
  refine ⟨_, fun j => pi_range1 (hg j) (hm j) (q j) (hs j), ?_⟩
  intro b F ρ σ X H r R hb S e k
  unfold iR1 at e
  obtain ⟨ts, e1, e⟩ := Option.bind_eq_some_iff.mp e
  refine s b F ρ σ X H ts _ S e1 fun vs F1 H1 S1 i1 s1 r1 => ?_
  match ts, e with
  | [.f (.int n)], e =>
    simp only at e
    split at e
    · rename_i hn
      cases e
      obtain ⟨x, rfl, r2⟩ := rv1 r1
      exact ⟨n, by rw [show x = V.int n from r2.rep], hn.1, hn.2, k _ F1 H1 S1 i1 wk_range⟩
    · cases e
theorem iw_range2 (hg : ∀ j, Gl (c.X j) "range") (hm : ∀ j, (c.X j).mg "range" = none) (ha : Av c [e, e2] fs) (hs : ∀ j, starEach [e, e2] (c.X j).env = [(false, eval e (c.X j).env), (false, eval e2 (c.X j).env)] := by intro _; rfl) (hs2 : ∀ j, starEach [e2] (c.X j).env = [(false, eval e2 (c.X j).env)] := by intro _; rfl) : Iw c tg (.Call (.Name "range" p) [e, e2] [] pos) (iR2 fs) := by
  obtain ⟨t, q, s⟩ := ha
  refine ⟨_, fun j => pi_range2 (hg j) (hm j) (q j) (hs j) (hs2 j), ?_⟩
  intro b F ρ σ X H r R hb S e k
  unfold iR2 at e
  obtain ⟨ts, e1, e⟩ := Option.bind_eq_some_iff.mp e
  refine s b F ρ σ X H ts _ S e1 fun vs F1 H1 S1 i1 s1 r1 => ?_
  match ts, e with
  | [.f (.int m), .f (.int n)], e =>
    simp only at e
    split at e
    · rename_i hn
      cases e
      obtain ⟨x, y, rfl, r2, r3⟩ := rv2 r1
      exact ⟨m, n, by rw [show x = V.int m from r2.rep, show y = V.int n from r3.rep], hn, k _ F1 H1 S1 i1 wk_range⟩
    · cases e
end

/-! ### a def -/
def outs (io : List Nat) : Nat → List T → List T → List T
  | _, [], _ => []
  | _, t :: ts, [] => t :: ts
  | i, t :: ts, r :: ρ => (if i ∈ io then r else t) :: outs io (i + 1) ts ρ
def runF (m n : Nat) (io : List Nat) (fb : FS) : List T → Option Re := fun ts => if ts.length = m then (fb (ts ++ List.replicate (n - m) .un)).bind fun o => match o with
  | .rt τ ρ => if m ≤ ρ.length then some (.ok τ (outs io 0 ts ρ)) else none
  | .nx ρ => if m ≤ ρ.length then some (.ok (.f .non) (outs io 0 ts ρ)) else none
  | .xc C ρ => if m ≤ ρ.length then some (.xc C (outs io 0 ts ρ)) else none
  | _ => none
  else none
section
variable {W : Wd} {F F' H H' : Hp}
theorem slots_un : ∀ (k : Nat), Slots W F H (List.replicate k .un) (List.replicate k none) (List.replicate k [])
  | 0 => ⟨rfl, rfl⟩
  | k + 1 => ⟨none, _, [], _, rfl, rfl, ⟨rfl, rfl⟩, slots_un k⟩
theorem slots_of : ∀ {ts : List T} {vs : List V} {fps : List (List Addr)}, RelTs W F H ts vs fps → Slots W F H ts (vs.map some) fps
  | [], _, _, r => by
    rw [r.1, r.2]
    exact ⟨rfl, rfl⟩
  | t :: ts, _, _, r => by
    obtain ⟨v, vr, f, fr, e1, e2, a, b⟩ := r
    rw [e1, e2]
    exact ⟨some v, _, f, _, rfl, rfl, a, slots_of b⟩
theorem slots_app : ∀ {ts us : List T} {σ τ : L2.St} {f g : List (List Addr)}, Slots W F H ts σ f → Slots W F H us τ g → Slots W F H (ts ++ us) (σ ++ τ) (f ++ g)
  | [], _, _, _, _, _, r, q => by
    rw [r.1, r.2]
    exact q
  | t :: ts, _, _, _, _, _, r, q => by
    obtain ⟨s, sr, f, fr, e1, e2, a, b⟩ := r
    rw [e1, e2]
    exact ⟨s, _, f, _, rfl, rfl, a, slots_app b q⟩
theorem SR.init {ts : List T} {vs : List V} {fps : List (List Addr)} {io : List Nat} {N : List Str} (le : Le F H) (hnw : ∀ a, H a = none ∨ a ∈ fps.flatten → W.nw a) (r : RelTs W F H ts vs fps) (own : Own F fps.flatten) :
    SR W (bsOf H F fps io vs) F (ts ++ List.replicate (N.length - vs.length) .un) (start N vs) [] H := by
  have hr : ∀ k, (List.replicate k ([] : List Addr)).flatten = [] := fun k => by induction k with
    | zero => rfl
    | succ k ih => rw [List.replicate_succ, List.flatten_cons, ih]; rfl
  refine ⟨le, Inc.refl F, fun a o e => .inl e, fun a o e _ => e, fun a o e _ => ⟨o, e, Stb.refl o⟩, ⟨fun p hp => ?_, hnw⟩, fps ++ List.replicate (N.length - vs.length) [], [], slots_app (slots_of r) (slots_un _), ⟨rfl, rfl⟩, ⟨?_, fun a ha => ?_⟩, fun i f e a ha => ?_, trivial⟩
  · obtain ⟨i, hi, e⟩ := List.mem_filterMap.mp hp
    obtain ⟨v, hv, e⟩ := Option.map_eq_some_iff.mp e
    subst e
    show (vs.map some ++ _)[i]? = _
    rw [List.getElem?_append_left (by rw [List.length_map]; exact (List.getElem?_eq_some_iff.mp hv).1), List.getElem?_map, hv]
    rfl
  · rw [List.flatten_append, hr, List.append_nil, List.flatten_nil, List.append_nil]
    exact own.1
  · rw [List.flatten_append, hr, List.append_nil, List.flatten_nil, List.append_nil] at ha
    exact own.2 a ha
  · refine .inr ?_
    show a ∈ fps.flatten
    by_cases h : i < fps.length
    · rw [List.getElem?_append_left h] at e
      exact List.mem_flatten.mpr ⟨f, List.mem_of_getElem? e, ha⟩
    · rw [List.getElem?_append_right (by omega), List.getElem?_replicate] at e
      split at e
      · cases e
        cases ha
      · cases e
theorem outs_slots {io : List Nat} (hF : Inc F F') : ∀ {ts : List T} {vs : List V} {fps : List (List Addr)} {i : Nat} {ρ : List T} {σ : L2.St} {gps : List (List Addr)}, RelTs W F H ts vs fps → ioOk io i ts = true → Slots W F' H' ρ σ gps → ts.length ≤ ρ.length →
    (∀ j v, i + j ∈ io → vs[j]? = some v → σ[j]? = some (some v)) → ∃ hps, Slots W F' H' (outs io i ts ρ) (vs.map some) hps ∧ List.Sublist hps.flatten gps.flatten ∧ ∀ (j : Nat) (f : List Addr), hps[j]? = some f → f = [] ∨ gps[j]? = some f
  | [], _, _, _, _, _, _, r, _, _, _, _ => by
    rw [r.1]
    exact ⟨[], ⟨rfl, rfl⟩, List.nil_sublist _, fun j f e => by simp at e⟩
  | t :: ts, _, _, i, [], _, _, _, _, _, h, _ => by simp at h
  | t :: ts, _, _, i, r0 :: ρ, σ, gps, r, ho, s, h, hp => by
    obtain ⟨v, vr, f, fr, e1, e2, a, b⟩ := r
    subst e1 e2
    obtain ⟨s0, sr, g, gr, e3, e4, a', b'⟩ := s
    subst e3 e4
    have ho' : (io.contains i || isF t) = true ∧ ioOk io (i + 1) ts = true := by
      have := ho
      unfold ioOk at this
      rwa [Bool.and_eq_true] at this
    obtain ⟨hps, q1, q2, q3⟩ := outs_slots (i := i + 1) hF b ho'.2 b' (by simpa using h) fun j w hj hw => by
      have := hp (j + 1) w (by rw [show i + (j + 1) = i + 1 + j by omega]; exact hj) (by simpa using hw)
      simpa using this
    by_cases hio : i ∈ io
    · have e5 := hp 0 v hio rfl
      have e6 : s0 = some v := by simpa using e5
      subst e6
      refine ⟨g :: hps, ⟨some v, _, g, _, rfl, rfl, ?_, q1⟩, ?_, fun j f' e => ?_⟩
      · rw [if_pos hio]; exact a'
      · rw [List.flatten_cons, List.flatten_cons]
        exact List.Sublist.append (List.Sublist.refl _) q2
      · cases j with
        | zero => exact .inr e
        | succ j => exact q3 j f' (by simpa using e)
    · have hf : isF t = true := by
        rcases Bool.or_eq_true_iff.mp ho'.1 with z | z
        · exact absurd (by simpa using z) hio
        · exact z
      cases t with
      | f d =>
        refine ⟨[] :: hps, ⟨some v, _, [], _, rfl, rfl, ?_, q1⟩, ?_, fun j f' e => ?_⟩
        · rw [if_neg hio]
          exact ⟨rfl, a.2.inc hF⟩
        · rw [List.flatten_cons, List.flatten_cons, List.nil_append]
          exact q2.trans (List.sublist_append_right _ _)
        · cases j with
          | zero => exact .inl (by simpa using e.symm)
          | succ j => exact q3 j f' (by simpa using e)
      | _ => cases hf
theorem SR.outs {ts : List T} {vs : List V} {fps : List (List Addr)} {io : List Nat} {ρ : List T} {σ : L2.St} {X : List Tm} (r : RelTs W F H ts vs fps) (ho : ioOk io 0 ts = true) (hl : ts.length ≤ ρ.length)
    (S : SR W (bsOf H F fps io vs) F' ρ σ X H') : SR W (bsOf H F fps io vs) F' (outs io 0 ts ρ) (vs.map some) X H' := by
  obtain ⟨le, f0, fn, kept, stab, pin, gps, xps, s1, s2, ⟨nd, ow⟩, lc1, lc2⟩ := S
  have pins : ∀ j v, j ∈ io → vs[j]? = some v → σ[j]? = some (some v) := fun j v hj hv => pin.1 (j, v) (List.mem_filterMap.mpr ⟨j, hj, by rw [hv]; rfl⟩)
  obtain ⟨hps, q1, q2, q3⟩ := outs_slots (i := 0) f0 r ho s1 hl fun j v hj hv => pins j v (by simpa using hj) hv
  have sub : List.Sublist (hps.flatten ++ xps.flatten) (gps.flatten ++ xps.flatten) := List.Sublist.append q2 (List.Sublist.refl _)
  refine ⟨le, f0, fn, kept, stab, ⟨fun p hp => ?_, pin.2⟩, hps, xps, q1, s2, ⟨nd.sublist sub, fun a ha => ow a (sub.subset ha)⟩, fun i f e a ha => ?_, lc2⟩
  · obtain ⟨i, hi, e⟩ := List.mem_filterMap.mp hp
    obtain ⟨v, hv, e⟩ := Option.map_eq_some_iff.mp e
    subst e
    show (vs.map some)[i]? = _
    rw [List.getElem?_map, hv]
    rfl
  · rcases q3 i f e with z | z
    · subst z; cases ha
    · exact lc1 i f z a ha
end
/-- the context of a def's body -/
def ctx0 {P : Program} {w : World} (W : Wd) (ew : w = W.w) {mg : Str → Option Value} {base : Heap} {N : List Str} (nd : N.Nodup) {m k : Nat} {io : List Nat} {al : List (Nat × Nat)} {qual : Str} {sc : Scope} {f : Addr} {cdv : Value} {A : Around} {outer : List Env} {s : Shared} {H : Hp} {E : XK} (hr : Room k (A.deeper (envOfC qual sc s.heap.objs.size f cdv))) : Ctx where
  J := Unit
  X := fun _ => (cxOf CX0 P w W.K mg base N qual sc f cdv A outer s H E).nox
  W := W
  P := ⟨m, io, al⟩
  E := fun _ => E
  N := N
  k := k
  hK := fun _ => rfl
  hw := fun _ => ew
  hN := fun _ => rfl
  nd := nd
  calm := fun _ => rfl
  room := fun _ => hr
section
variable {P : Program} {w : World} {W : Wd} {mg : Str → Option Value} {base : Heap}
theorem spF_end {io : List Nat} {fb : FS} {N ps : List Str} {vs : List V} {H : Hp} {Q : VK} {E : XK} {t : TS} {p : Sg} {al : List (Nat × Nat)} (hal : ∀ q ∈ al, q.1 ∈ io ∧ q.2 ∈ io ∧ ∃ v, vs[q.1]? = some v ∧ vs[q.2]? = some v) (hp : p = ⟨ps.length, io, al⟩) (hN : ps.length ≤ N.length) (hio : ∀ i ∈ io, i < ps.length) (len : vs.length = ps.length) (h : spF W io (runF ps.length N.length io fb) vs H Q E) (q : Ss W p (fun _ => E) t fb) :
    t { nx := fun _ H' => Q .non H', rt := Q } (start N vs) H := by
  subst hp
  obtain ⟨F, ts, fps, r, le, hnw, rel, own, ho, e, k⟩ := h
  unfold runF at e
  have hlt := RelTs.lenA rel
  split at e
  · rename_i hl
    obtain ⟨o, e1, e⟩ := Option.bind_eq_some_iff.mp e
    have S0 := SR.init (io := io) (N := N) le hnw rel own
    rw [len] at S0
    have bok : Bok ⟨ps.length, io, al⟩ (bsOf H F fps io vs) := by
      refine ⟨by show fps.length = ps.length; omega, ?_, fun q hq => ?_⟩
      rotate_left
      · obtain ⟨h1, h2, v, h3, h4⟩ := hal q hq
        exact ⟨v, List.mem_filterMap.mpr ⟨q.1, h1, by rw [h3]; rfl⟩, List.mem_filterMap.mpr ⟨q.2, h2, by rw [h4]; rfl⟩⟩
      show (io.filterMap _).map _ = io
      have key : ∀ l : List Nat, (∀ i ∈ l, i < vs.length) → (l.filterMap fun i => vs[i]?.map fun v => (i, v)).map (·.1) = l := by
        intro l
        induction l with
        | nil => intro _; rfl
        | cons i l ih =>
          intro h
          have hi := h i List.mem_cons_self
          rw [List.filterMap_cons, List.getElem?_eq_getElem hi]
          show i :: _ = _
          rw [ih fun j hj => h j (List.mem_cons_of_mem _ hj)]
      exact key io fun i hi => by rw [len]; exact hio i hi
    refine q _ F _ _ [] H o _ bok S0 e1 ?_
    cases o with
    | nx ρ =>
      simp only at e
      split at e
      · rename_i hρ
        cases e
        intro σ F' H' S' i'
        exact k .non F' H' ((SR.outs rel ho (by omega) S').push rfl) i'
      · cases e
    | rt τ ρ =>
      simp only at e
      split at e
      · rename_i hρ
        cases e
        intro v σ F' H' S' i'
        exact k v F' H' (SR.outs rel ho (by omega) S') i'
      · cases e
    | xc C ρ =>
      simp only at e
      split at e
      · rename_i hρ
        cases e
        intro d σ F' H' S' i'
        exact k d F' H' (SR.outs rel ho (by omega) S') i'
      · cases e
    | bk ρ => cases e
    | ct ρ => cases e
  · cases e
end
end Z

namespace Z
open PySem PySem.Spec PyProof.Rows L2

/-! ### defs and their calls -/
section
variable {P : Program} {w : World} {W : Wd} {mg : Str → Option Value} {base : Heap}
theorem fnZ {x qual : Str} {st : Stmt} {f : Addr} {fd : FuncData} {N ps : List Str} {k : Nat} {io : List Nat} {fb : FS} (ew : w = W.w) (F : Fun W.K x qual st f fd) (S : FnScope N ps (defScope st)) (hN : ps.length ≤ N.length) (hio : ∀ i ∈ io, i < ps.length)
    (body : ∀ (cdv : Value) (A : Around) (outer : List Env) (s : Shared) (H : Hp) (E : XK) (hr : Room k (A.deeper (envOfC qual (defScope st) s.heap.objs.size f cdv))),
      Sms (ctx0 (P := P) (w := w) W ew (mg := mg) (base := base) S.nd (m := ps.length) (io := io) (al := []) (outer := outer) (H := H) (E := E) hr) (defBody st) fb) :
    FnOk P w W.K mg base CX0 (k + 1) f fd ps (spF W io (runF ps.length N.length io fb)) := by
  have len : ∀ vs H Q E, spF W io (runF ps.length N.length io fb) vs H Q E → vs.length = ps.length := by
    rintro vs H Q E ⟨F, ts, fps, r, _, _, rel, _, _, e, _⟩
    unfold runF at e
    split at e
    · rename_i hl
      have := RelTs.lenA rel
      omega
    · cases e
  refine F.ok S len fun cdv A outer s H vs Q E hr h => ?_
  obtain ⟨t, p, q⟩ := body cdv A outer s H E hr
  exact ⟨t, p (), spF_end (al := []) (fun _ h => absurd h List.not_mem_nil) rfl hN hio (len _ _ _ _ h) h q⟩
/-- a def of the module, ready to be called -/
structure Cl (P : Program) (w : World) (W : Wd) (mg : Str → Option Value) (base : Heap) (CX : CXT) (k : Nat) (x : Str) (io : List Nat) (G : List T → Option Re) : Prop where
  ex : ∃ f fd ps, FnOk P w W.K mg base CX k f fd ps (spF W io G) ∧ mg x = some (.ref f) ∧ PySem.W.keepIn W.K (.ref f) = true ∧ Binds W.K fd ps []
theorem Cl.mk' {CX : CXT} {k : Nat} {x : Str} {io : List Nat} {G : List T → Option Re} {f : Addr} {fd : FuncData} {ps : List Str} (h : FnOk P w W.K mg base CX k f fd ps (spF W io G)) (hm : mg x = some (.ref f)) (hk : PySem.W.keepIn W.K (.ref f) = true) (hb : Binds W.K fd ps []) : Cl P w W mg base CX k x io G := ⟨f, fd, ps, h, hm, hk, hb⟩
theorem Cl.mono {CX : CXT} {j k : Nat} {x : Str} {io : List Nat} {G : List T → Option Re} (h : Cl P w W mg base CX j x io G) (hj : j ≤ k) : Cl P w W mg base CX k x io G := by
  obtain ⟨f, fd, ps, h, a, b, d⟩ := h
  exact ⟨f, fd, ps, h.mono hj, a, b, d⟩
/-- the same function, told otherwise -/
theorem Cl.imp {CX : CXT} {k : Nat} {x : Str} {io : List Nat} {G G' : List T → Option Re} (h : Cl P w W mg base CX k x io G) (e : ∀ ts r, G' ts = some r → G ts = some r) : Cl P w W mg base CX k x io G' := by
  obtain ⟨f, fd, ps, h, a, b, d⟩ := h
  refine ⟨f, fd, ps, h.imp ?_, a, b, d⟩
  rintro vs H Q E ⟨F, ts, fps, r, h1, hnw, h2, h3, h4, h5, h6⟩
  exact ⟨F, ts, fps, r, h1, hnw, h2, h3, h4, e _ _ h5, h6⟩
end
theorem pass0' {X : Cx} {E : XK} : Passes CX0 X E := fun _ _ _ _ _ _ _ h => h.elim
section
variable {c : Ctx} {a e : Expr} {es : List Expr} {fs : List T → Option (List T)} {fo : List T → Option Rs} {x : Str} {p pos : Pos} {io : List Nat} {G : List T → Option Re} {k : Nat} {CX : CXT}
abbrev Cj (c : Ctx) (CX : CXT) (k : Nat) (x : Str) (io : List Nat) (G : List T → Option Re) : Prop := ∀ j, Cl (c.X j).prog (c.X j).w c.W (c.X j).mg (c.X j).base CX k x io G
theorem pe_cl {t : TA} {E : XK} (C : Cj c CX k x io G) (hk : k ≤ c.k) (hg : ∀ j, Gl (c.X j) x) (hx : ∀ j, Passes CX (c.X j) E) (ha : ∀ j, PA (c.X j) (a :: es) t) (hdb : (x == ("__debug__" : Str)) = false)
    (he : ∀ j, starEach (a :: es) (c.X j).env = (false, eval a (c.X j).env) :: starEach es (c.X j).env) (hpl : ∀ j, (backTo pos (starEach es (c.X j).env)).any (·.1) = false) (j : c.J) : PE (c.X j) (.Call (.Name x p) (a :: es) [] pos) (tCall (spF c.W io G) [] E t) := by
  obtain ⟨f, fd, ps, h, hm, hkp, hb⟩ := C j
  have hKj := c.hK j
  exact pe_call (by rw [hKj]; exact h) ((c.room j).mono hk) (hg j) hm (by rw [hKj]; exact hkp) (by rw [hKj]; exact hb) .nil (hx j) (ha j) hdb (he j) (hpl j)
theorem pe_cl0 {E : XK} (C : Cj c CX k x io G) (hk : k ≤ c.k) (hg : ∀ j, Gl (c.X j) x) (hx : ∀ j, Passes CX (c.X j) E) (hdb : (x == ("__debug__" : Str)) = false) (j : c.J) : PE (c.X j) (.Call (.Name x p) [] [] pos) (tCall (spF c.W io G) [] E tNil) := by
  obtain ⟨f, fd, ps, h, hm, hkp, hb⟩ := C j
  have hKj := c.hK j
  exact pe_call0 (by rw [hKj]; exact h) ((c.room j).mono hk) (hg j) hm (by rw [hKj]; exact hkp) (by rw [hKj]; exact hb) .nil (hx j) hdb
/-- f(e, ..) with effect -/
theorem eo_call {E : XK} (C : Cj c CX k x io G) (hk : k ≤ c.k) (hg : ∀ j, Gl (c.X j) x) (hE : ∀ σ, c.E σ = E) (hx : ∀ j, Passes CX (c.X j) E) (ha : Ao c (a :: es) fo) (hdb : (x == ("__debug__" : Str)) = false := by decide)
    (he : ∀ j, starEach (a :: es) (c.X j).env = (false, eval a (c.X j).env) :: starEach es (c.X j).env := by intro _; rfl) (hpl : ∀ j, (backTo pos (starEach es (c.X j).env)).any (·.1) = false := by intro _; rfl) : Eo c (.Call (.Name x p) (a :: es) [] pos) (fCall io G fo) := by
  obtain ⟨t, q, s⟩ := ha
  exact ⟨_, pe_cl C hk hg hx q hdb he hpl, so_call hE s⟩
theorem eo_call0 {E : XK} (C : Cj c CX k x io G) (hk : k ≤ c.k) (hg : ∀ j, Gl (c.X j) x) (hE : ∀ σ, c.E σ = E) (hx : ∀ j, Passes CX (c.X j) E) (hdb : (x == ("__debug__" : Str)) = false := by decide) : Eo c (.Call (.Name x p) [] [] pos) (fCall io G bNil) := by
  obtain ⟨t, q, s⟩ := (ao_nil : Ao c [] bNil)
  refine ⟨_, pe_cl0 C hk hg hx hdb, so_call hE ?_⟩
  intro b F ρ σ X H r Q hb S e p
  cases e
  exact p [] F H S rfl (Inc.refl F)
/-- f(e, ..) without effect: what is one's own is only looked at -/
def D.atom : D → Bool | .non => true | .bl _ => true | .int _ => true | .str _ => true | _ => false
theorem Rep.atom {W : Wd} {F F' : Hp} {d : D} {v : V} (r : Rep W F d v) (h : d.atom = true) : Rep W F' d v := by
  cases d with
  | non => exact r
  | bl b => exact r
  | int b => exact r
  | str b => exact r
  | _ => cases h
def fCallV (G : List T → Option Re) (fs : List T → Option (List T)) : List T → Option T := fun ρ => (fs ρ).bind fun ts => (T.fzs ts).bind fun ds => (G (ds.map .f)).bind fun r => match r with
  | .ok (.f d) _ => if (ts.all isF || d.atom) = true then some (.f d) else none
  | _ => none
theorem relTs_deep {W : Wd} {F H : Hp} : ∀ {ds : List D} {vs : List V}, Reps W F ds vs → RelTs W F H (ds.map .f) vs (List.replicate ds.length [])
  | [], _, r => ⟨r, rfl⟩
  | d :: ds, _, r => by
    obtain ⟨v, vr, e, a, b⟩ := r
    exact ⟨v, vr, [], _, e, rfl, ⟨rfl, a⟩, relTs_deep b⟩
theorem flat_nil : ∀ n : Nat, (List.replicate n ([] : List Addr)).flatten = []
  | 0 => rfl
  | n + 1 => by rw [List.replicate_succ, List.flatten_cons, flat_nil n]; rfl
theorem ioOk_deep : ∀ (ds : List D) (i : Nat), ioOk [] i (ds.map .f) = true
  | [], _ => rfl
  | d :: ds, i => by
    unfold List.map ioOk
    rw [ioOk_deep ds]
    simp [isF]
theorem allF_fz : ∀ {ts : List T} {ds : List D}, ts.all isF = true → T.fzs ts = some ds → ts = ds.map .f
  | [], _, _, e => by unfold T.fzs at e; cases e; rfl
  | t :: ts, _, h, e => by
    unfold T.fzs at e
    obtain ⟨d, e1, e⟩ := Option.bind_eq_some_iff.mp e
    obtain ⟨ds, e2, e⟩ := Option.map_eq_some_iff.mp e
    subst e
    rw [List.all_cons, Bool.and_eq_true] at h
    cases t with
    | f d' =>
      unfold T.fz at e1
      cases e1
      rw [allF_fz h.2 e2]
      rfl
    | _ => cases h.1
theorem allF_fps {W : Wd} {F H : Hp} : ∀ {ts : List T} {vs : List V} {fps : List (List Addr)}, ts.all isF = true → RelTs W F H ts vs fps → fps.flatten = []
  | [], _, _, _, r => by rw [r.2]; rfl
  | t :: ts, _, _, h, r => by
    obtain ⟨v, vr, f, fr, e1, e2, a, b⟩ := r
    subst e2
    rw [List.all_cons, Bool.and_eq_true] at h
    cases t with
    | f d' => rw [List.flatten_cons, a.1, List.nil_append]; exact allF_fps h.2 b
    | _ => cases h.1
mutual
theorem RelT.nofrz {W : Wd} {F H : Hp} : ∀ (t : T) (v : V) (fp : List Addr), RelT W F H t v fp → ∀ a ∈ fp, ∀ o u, H a ≠ some (.frz o u)
  | .un, _, fp, r, a, ha => by
    have r' : fp = [] := r
    subst r'
    cases ha
  | .f d, _, fp, r, a, ha => by
    have r' : fp = [] := r.1
    subst r'
    cases ha
  | .l ds, _, _, r, a, ha => by
    obtain ⟨p, vs, e1, e2, e3, q⟩ := r
    subst e2
    cases List.mem_singleton.mp ha
    rw [e3]
    intro o u z
    cases z
  | .dk ks ds, _, _, r, a, ha => by
    obtain ⟨p, kvs, e1, e2, e3, k, q⟩ := r
    subst e2
    cases List.mem_singleton.mp ha
    rw [e3]
    intro o u z
    cases z
  | .di ks ts, _, _, r, a, ha => by
    obtain ⟨p, xs, fps, e1, e2, e3, k, kk, q⟩ := r
    subst e2
    rcases List.mem_cons.mp ha with z | z
    · subst z
      rw [e3]
      intro o u z
      cases z
    · exact RelTs.nofrz ts _ fps q a z
  | .ll ts, _, _, r, a, ha => by
    obtain ⟨p, vs, fps, e1, e2, e3, q⟩ := r
    subst e2
    rcases List.mem_cons.mp ha with z | z
    · subst z
      rw [e3]
      intro o u z
      cases z
    · exact RelTs.nofrz ts vs fps q a z
  | .tu ts, _, _, r, a, ha => by
    obtain ⟨p, vs, fps, e1, e2, e3, q⟩ := r
    subst e2
    rcases List.mem_cons.mp ha with z | z
    · subst z
      rw [e3]
      intro o u z
      cases z
    · exact RelTs.nofrz ts vs fps q a z
  | .o C ns ts, _, _, r, a, ha => by
    obtain ⟨p, dx, kvs, fps, e1, e2, e3, k, q⟩ := r
    subst e2
    rcases List.mem_cons.mp ha with z | z
    · subst z
      rw [e3]
      intro o u z
      cases z
    · exact RelTs.nofrz ts _ fps q a z
  | .ln ds, _, _, r, a, ha => fun o u z => by
    obtain ⟨p, vs, fr, e1, e2, e3, q, pl, nw⟩ := r
    subst e2
    rcases List.mem_cons.mp ha with y | y
    · subst y
      rw [e3] at z
      cases z
    · obtain ⟨o', h1, h2⟩ := pl a y
      rw [h1] at z
      cases z
      exact h2 _ _ rfl
  | .gb _, _, _, r, a, ha => fun o u z => by
    obtain ⟨o', h1, h2⟩ := r.2 a ha
    rw [h1] at z
    cases z
    exact h2 _ _ rfl
  | .rg n, _, _, r, a, ha => fun o u z => by
    obtain ⟨p, vs, fr, e1, e2, e3, q, pl⟩ := r
    subst e2
    rcases List.mem_cons.mp ha with y | y
    · subst y
      rw [e3] at z
      cases z
    · obtain ⟨o', h1, h2⟩ := pl a y
      rw [h1] at z
      cases z
      exact h2 _ _ rfl
theorem RelTs.nofrz {W : Wd} {F H : Hp} : ∀ (ts : List T) (vs : List V) (fps : List (List Addr)), RelTs W F H ts vs fps → ∀ a ∈ fps.flatten, ∀ o u, H a ≠ some (.frz o u)
  | [], _, fps, r, a, ha => by
    have r' : fps = [] := r.2
    subst r'
    cases ha
  | t :: ts, _, _, r, a, ha => by
    obtain ⟨v, vr, f, fr, e1, e2, q1, q2⟩ := r
    subst e2
    rw [List.flatten_cons] at ha
    rcases List.mem_append.mp ha with z | z
    · exact RelT.nofrz t v f q1 a z
    · exact RelTs.nofrz ts vr fr q2 a z
end
theorem sv_call {W : Wd} {E : XK} {t : TA} (h : Sav W t fs) : Sv W (tCall (spF W [] G) [] E t) (fCallV G fs) := by
  intro b F ρ σ X H τ Q S e k
  unfold fCallV at e
  obtain ⟨ts, e1, e⟩ := Option.bind_eq_some_iff.mp e
  obtain ⟨ds, e2, e⟩ := Option.bind_eq_some_iff.mp e
  obtain ⟨r, e3, e⟩ := Option.bind_eq_some_iff.mp e
  refine h b F ρ σ X H ts _ S e1 fun vs F1 H1 S1 i1 s1 r1 => ?_
  rw [List.append_nil]
  obtain ⟨fps, r1⟩ := r1
  -- all that is looked at, as deep data
  obtain ⟨Fc, hFc⟩ : ∃ Fc : Hp, ∀ a, Fc a = match F1 a with | some o => some o | none => if a ∈ fps.flatten then H1 a else none := ⟨_, fun _ => rfl⟩
  have hF : Inc F1 Fc := fun a o e => by rw [hFc a, e]
  have hfp : ∀ a ∈ fps.flatten, Fc a = H1 a := fun a ha => by
    rw [hFc a]
    cases z : F1 a with
    | none => simp only [if_pos ha]
    | some o =>
      rcases S1.le a o z with q | ⟨u, kvs, _, q⟩
      · exact q.symm
      · exact absurd q (RelTs.nofrz _ _ _ r1 a ha _ _)
  have hle : Le Fc H1 := fun a o e => by
    rw [hFc a] at e
    cases z : F1 a with
    | none =>
      rw [z] at e
      simp only at e
      split at e
      · exact .inl e
      · cases e
    | some o' =>
      rw [z] at e
      cases e
      exact S1.le a _ z
  have r2 : Reps W Fc ds vs := RelTs.fz hF ts vs fps ds r1 hfp e2
  refine ⟨Fc, ds.map .f, _, r, hle, (fun a h => S1.nwok a (h.elim id fun z => by rw [flat_nil] at z; cases z)), relTs_deep r2, ⟨by rw [flat_nil]; exact List.nodup_nil, fun a ha => by rw [flat_nil] at ha; cases ha⟩, ioOk_deep ds 0, e3, ?_⟩
  cases r with
  | xc C us => cases e
  | ok τ' us =>
    cases τ' with
    | f d =>
      simp only at e
      split at e
      · rename_i hc
        cases e
        intro v F' H' R i2
        have hs : Same H1 H' := fun a o e => R.kept a o e (by
          show a ∉ (List.replicate ds.length ([] : List Addr)).flatten
          rw [flat_nil]
          intro z
          cases z)
        by_cases hat : d.atom = true
        · exact k v F1 H' (S1.ext hs (Inc.refl F1) (S1.le.inc hs) fun a o e => .inl e) i1 (s1.trans hs) (.f (Rep.atom R.top hat))
        · have hall : ts.all isF = true := by
            rcases Bool.or_eq_true_iff.mp hc with z | z
            · exact z
            · exact absurd z hat
          have hnil := allF_fps hall r1
          have heq : ∀ a, Fc a = F1 a := fun a => by
            rw [hFc a, hnil]
            cases F1 a with
            | none => rfl
            | some o => rfl
          refine k v F' H' (S1.ext hs (hF.trans i2) R.le fun a o e => ?_) (i1.trans (hF.trans i2)) (s1.trans hs) (.f R.top)
          rcases R.fn a o e with z | z | z
          · have z' : Fc a = some o := z
            rw [heq a] at z'
            exact .inl z'
          · exact .inr z
          · exfalso
            have z' : a ∈ (List.replicate ds.length ([] : List Addr)).flatten := z
            rw [flat_nil] at z'
            cases z'
      · cases e
    | _ => cases e
theorem ev_call {E : XK} (C : Cj c CX k x [] G) (hk : k ≤ c.k) (hg : ∀ j, Gl (c.X j) x) (hx : ∀ j, Passes CX (c.X j) E) (ha : Av c (a :: es) fs) (hdb : (x == ("__debug__" : Str)) = false := by decide)
    (he : ∀ j, starEach (a :: es) (c.X j).env = (false, eval a (c.X j).env) :: starEach es (c.X j).env := by intro _; rfl) (hpl : ∀ j, (backTo pos (starEach es (c.X j).env)).any (·.1) = false := by intro _; rfl) : Ev c (.Call (.Name x p) (a :: es) [] pos) (fCallV G fs) := by
  obtain ⟨t, q, s⟩ := ha
  exact ⟨_, pe_cl C hk hg hx q hdb he hpl, sv_call s⟩
end

/-! ### dict displays -/
def Sps (W : Wd) (trs : List (TE × TE)) (f : List T → Option (List (Key × D))) : Prop :=
  ∀ b F ρ σ X H kds Q, SR W b F ρ σ X H → f ρ = some kds → (∀ (kvs : List (Key × V)) F' H', SR W b F' ρ σ X H' → Inc F F' → Same H H' → kvs.map (·.1) = kds.map (·.1) → Reps W F' (kds.map (·.2)) (kvs.map (·.2)) → Q (kvs.map fun kv => (kV kv.1, kv.2)) H') → tPairs trs σ H Q
def Dp' (c : Ctx) (pos : Pos) (ks : List (Option Expr)) (vs : List Expr) (f : List T → Option (List (Key × D))) : Prop := ∃ trs, (∀ j, PPs (c.X j) pos ks vs trs) ∧ Sps c.W trs f
def pNil : List T → Option (List (Key × D)) := fun _ => some []
def pCons (fk fv : List T → Option T) (g : List T → Option (List (Key × D))) : List T → Option (List (Key × D)) := fun ρ => (fk ρ).bind fun k => k.key?.bind fun k => (fv ρ).bind fun v => v.d?.bind fun d => (g ρ).map fun r => (k, d) :: r
section
variable {c : Ctx} {ek ev : Expr} {ks : List (Option Expr)} {vs : List Expr} {fk fv : List T → Option T} {g : List T → Option (List (Key × D))} {pos : Pos}
theorem dp_nil : Dp' c pos [] [] pNil := by
  refine ⟨[], fun _ => pps_nil, ?_⟩
  intro b F ρ σ X H kds Q S e k
  cases e
  exact k [] F H S (Inc.refl F) (Same.refl H) rfl rfl
theorem dp_cons (hk : Ev c ek fk) (hv : Ev c ev fv) (hr : Dp' c pos ks vs g) : Dp' c pos (some ek :: ks) (ev :: vs) (pCons fk fv g) := by
  obtain ⟨tk, pk, sk⟩ := hk
  obtain ⟨tv, pv, sv⟩ := hv
  obtain ⟨trs, pr, sr⟩ := hr
  refine ⟨(tk, tv) :: trs, fun j => pps_cons (pk j) (pv j) (pr j), ?_⟩
  intro b F ρ σ X H kds Q S e k
  unfold pCons at e
  obtain ⟨t1, e1, e⟩ := Option.bind_eq_some_iff.mp e
  obtain ⟨k1, e2, e⟩ := Option.bind_eq_some_iff.mp e
  obtain ⟨t2, e3, e⟩ := Option.bind_eq_some_iff.mp e
  obtain ⟨d2, e4, e⟩ := Option.bind_eq_some_iff.mp e
  obtain ⟨r, e5, e⟩ := Option.map_eq_some_iff.mp e
  subst e
  rw [d_some e4] at e3
  refine sk b F ρ σ X H t1 _ S e1 fun x F1 H1 S1 i1 s1 r1 => ?_
  refine sv b F1 ρ σ X H1 _ _ S1 e3 fun y F2 H2 S2 i2 s2 r2 => ?_
  refine sr b F2 ρ σ X H2 r _ S2 e5 fun kvs F3 H3 S3 i3 s3 h1 h2 => ?_
  rw [r1.key e2]
  exact k ((k1, y) :: kvs) F3 H3 S3 (i1.trans (i2.trans i3)) (s1.trans (s2.trans s3)) (by rw [List.map_cons, List.map_cons, h1]) ⟨y, _, rfl, r2.rep.inc i3, h2⟩
end
/-- a dict with d at k -/
def dput (ks : List Key) (ds : List D) (k : Key) (d : D) : List Key × List D :=
  if (ks.any fun q => decide (q = k)) = true then (ks, List.zipWith (fun q e => if q = k then d else e) ks ds) else (ks ++ [k], ds ++ [d])
theorem dput_ok {W : Wd} {F : Hp} {kvs : List (Key × V)} {ks : List Key} {ds : List D} {k : Key} {d : D} {v : V} (hk : kvs.map (·.1) = ks) (r : Reps W F ds (kvs.map (·.2))) (rv : Rep W F d v) :
    (putK kvs k v).map (·.1) = (dput ks ds k d).1 ∧ Reps W F (dput ks ds k d).2 ((putK kvs k v).map (·.2)) := by
  subst hk
  unfold putK dput
  have e : (kvs.any fun kv => decide (kv.1 = k)) = ((kvs.map (·.1)).any fun q => decide (q = k)) := by rw [List.any_map]; rfl
  rw [e]
  split
  · rename_i hany
    clear hany e
    refine ⟨?_, ?_⟩
    · rw [List.map_map]
      refine List.map_congr_left fun kv _ => ?_
      show (if kv.1 = k then (kv.1, v) else kv).1 = kv.1
      split <;> rfl
    · induction kvs generalizing ds with
      | nil =>
        cases ds with
        | nil => exact rfl
        | cons _ _ =>
          obtain ⟨_, _, e, _⟩ := r
          cases e
      | cons kv kvs ih =>
        cases ds with
        | nil =>
          have r' : _ = [] := r
          cases r'
        | cons d0 ds =>
          obtain ⟨v0, vr, e, a, b⟩ := r
          have e1 : kv.2 = v0 := (List.cons.inj e).1
          have e2 : kvs.map (·.2) = vr := (List.cons.inj e).2
          subst e1 e2
          refine ⟨(if kv.1 = k then (kv.1, v) else kv).2, _, rfl, ?_, ih b⟩
          show Rep W F (if kv.1 = k then d else d0) _
          split
          · exact rv
          · exact a
  · refine ⟨by simp, ?_⟩
    rw [List.map_append]
    exact r.append ⟨v, [], rfl, rv, rfl⟩
def dmerge (ks : List Key) (ds : List D) : List (Key × D) → List Key × List D
  | [] => (ks, ds)
  | (k, d) :: r => dmerge (dput ks ds k d).1 (dput ks ds k d).2 r
theorem dmerge_ok {W : Wd} {F : Hp} : ∀ {kds : List (Key × D)} {more kvs : List (Key × V)} {ks : List Key} {ds : List D}, kvs.map (·.1) = ks → Reps W F ds (kvs.map (·.2)) → more.map (·.1) = kds.map (·.1) → Reps W F (kds.map (·.2)) (more.map (·.2)) →
    (mergeK kvs more).map (·.1) = (dmerge ks ds kds).1 ∧ Reps W F (dmerge ks ds kds).2 ((mergeK kvs more).map (·.2))
  | [], [], _, _, _, h1, h2, _, _ => ⟨h1, h2⟩
  | [], _ :: _, _, _, _, _, _, h, _ => by cases h
  | _ :: _, [], _, _, _, _, _, h, _ => by cases h
  | (k, d) :: kds, (k', v) :: more, kvs, ks0, ds0, h1, h2, h3, h4 => by
    have e1 : k' = k := (List.cons.inj h3).1
    subst e1
    obtain ⟨v0, vr, e, a, b⟩ := h4
    have e2 : v = v0 := (List.cons.inj e).1
    have e3 : more.map (·.2) = vr := (List.cons.inj e).2
    subst e2 e3
    obtain ⟨q1, q2⟩ := dput_ok h1 h2 a
    exact dmerge_ok (kds := kds) (kvs := putK kvs k' v) (ks := (dput ks0 ds0 k' d).1) (ds := (dput ks0 ds0 k' d).2) q1 q2 (List.cons.inj h3).2 b
section
variable {c : Ctx} {ks : List (Option Expr)} {vs : List Expr} {g : List T → Option (List (Key × D))} {pos : Pos}
def fDisp (g : List T → Option (List (Key × D))) : List T → Option Re := fun ρ => (g ρ).bind fun kds => if kds.length ≤ 15 then some (.ok (.dk (dmerge [] [] kds).1 (dmerge [] [] kds).2) ρ) else none
theorem eo_disp (h : Dp' c pos ks vs g) (hall : ks.all (·.isSome) = true) (hl : ks.length = vs.length) (h0 : ks ≠ []) (h15 : ks.length ≤ 15) : Eo c (.Dict ks vs pos) (fDisp g) := by
  obtain ⟨trs, p, q⟩ := h
  refine ⟨_, fun j => pe_disp (p j) hall hl h0 h15, ?_⟩
  intro b F ρ σ X H r Q hb S e k
  unfold fDisp at e
  obtain ⟨kds, e1, e⟩ := Option.bind_eq_some_iff.mp e
  split at e
  · rename_i h15'
    cases e
    intro p hp
    have S1 := S.own (t := .dk [] []) (o := .dK []) hp ⟨p, [], rfl, rfl, upd_same, rfl, rfl⟩
    refine q b F ρ σ _ _ kds _ S1 e1 fun kvs F2 H2 S2 i2 s2 h1 h2 => ?_
    have hp2 : H2 p = some (.dK []) := s2 _ _ upd_same
    refine ⟨hp2, kvs, rfl, ?_, ?_⟩
    · have := congrArg List.length h1
      simp only [List.length_map] at this
      omega
    · obtain ⟨m1, m2⟩ := dmerge_ok (kvs := []) (ks := []) (ds := []) rfl rfl h1 h2
      have S3 := S2.wrX (t' := .dk (dmerge [] [] kds).1 (dmerge [] [] kds).2) (p := p) (o := .dK []) (o' := .dK (mergeK [] kvs)) fun fp r nd hn => by
        obtain ⟨p', kvs', e1, e2, e3, _⟩ := r
        cases e1
        subst e2
        exact ⟨hp2, Stb.dk, List.mem_singleton.mpr rfl, [p], ⟨p, _, rfl, rfl, upd_same, m1, m2⟩, nd, fun a ha => ha⟩
      exact k _ F2 _ S3 i2
  · cases e
/-- {} -/
def fNewD : List T → Option Re := fun ρ => some (.ok (.dk [] []) ρ)
theorem eo_newd : Eo c (.Dict [] [] pos) fNewD := by
  refine ⟨_, fun _ => pe_dnewK, ?_⟩
  intro b F ρ σ X H r Q hb S e k
  cases e
  intro p hp
  exact k _ F _ (S.own hp ⟨p, [], rfl, rfl, upd_same, rfl, rfl⟩) (Inc.refl F)
/-- [a, b], one's own -/
def fNewL (fs : List T → Option (List T)) : List T → Option Re := fun ρ => (fs ρ).bind fun ts => (deep ts).bind fun ds => if ds.length ≤ sizeLine then some (.ok (.l ds) ρ) else none
theorem eo_newl {es : List Expr} {fs : List T → Option (List T)} (h : Av c es fs) : Eo c (.List es pos) (fNewL fs) := by
  obtain ⟨t, p, s⟩ := h
  refine ⟨_, fun j => pe_lst (p j), ?_⟩
  intro b F ρ σ X H r Q hb S e k
  unfold fNewL at e
  obtain ⟨xs, e1, e⟩ := Option.bind_eq_some_iff.mp e
  obtain ⟨ds, e2, e⟩ := Option.bind_eq_some_iff.mp e
  split at e
  · rename_i hl
    cases e
    refine s b F ρ σ X H xs _ S e1 fun vs F1 H1 S1 i1 s1 r1 => ?_
    have r2 := r1.deep e2
    refine ⟨by rw [← r2.len]; exact hl, fun p hp => ?_⟩
    exact k _ F1 _ (S1.own hp ⟨p, vs, rfl, rfl, upd_same, r2⟩) i1
  · cases e
/-- the same, deep -/
def fDispD (g : List T → Option (List (Key × D))) : List T → Option T := fun ρ => (g ρ).bind fun kds => if kds.length ≤ 15 then some (.f (.dct (dmerge [] [] kds).1 (dmerge [] [] kds).2)) else none
theorem ev_disp (h : Dp' c pos ks vs g) (hall : ks.all (·.isSome) = true) (hl : ks.length = vs.length) (h0 : ks ≠ []) (h15 : ks.length ≤ 15) : Ev c (.Dict ks vs pos) (fDispD g) := by
  obtain ⟨trs, p, q⟩ := h
  refine ⟨_, fun j => pe_disp (p j) hall hl h0 h15, ?_⟩
  intro b F ρ σ X H τ Q S e k
  unfold fDispD at e
  obtain ⟨kds, e1, e⟩ := Option.bind_eq_some_iff.mp e
  split at e
  · rename_i h15'
    cases e
    intro p hp
    have S1 := S.own (t := .dk [] []) (o := .dK []) hp ⟨p, [], rfl, rfl, upd_same, rfl, rfl⟩
    refine q b F ρ σ _ _ kds _ S1 e1 fun kvs F2 H2 S2 i2 s2 h1 h2 => ?_
    have hp2 : H2 p = some (.dK []) := s2 _ _ upd_same
    refine ⟨hp2, kvs, rfl, ?_, ?_⟩
    · have := congrArg List.length h1
      simp only [List.length_map] at this
      omega
    · obtain ⟨m1, m2⟩ := dmerge_ok (kvs := []) (ks := []) (ds := []) rfl rfl h1 h2
      have S3 := S2.wrX (t' := .dk (dmerge [] [] kds).1 (dmerge [] [] kds).2) (p := p) (o := .dK []) (o' := .dK (mergeK [] kvs)) fun fp r nd hn => by
        obtain ⟨p', kvs', e1, e2, e3, _⟩ := r
        cases e1
        subst e2
        exact ⟨hp2, Stb.dk, List.mem_singleton.mpr rfl, [p], ⟨p, _, rfl, rfl, upd_same, m1, m2⟩, nd, fun a ha => ha⟩
      obtain ⟨F3, S4, i3⟩ := S3.frz rfl (d := .dct (dmerge [] [] kds).1 (dmerge [] [] kds).2) rfl
      refine k _ F3 _ S4.drop (i2.trans i3) (fun a o e => ?_) (.f S4.top)
      have hap : a ≠ p := ne_of_none e hp
      rw [upd_ne hap]
      exact s2 _ _ (by rw [upd_ne hap]; exact e)
  · cases e
end
end Z

namespace Z
open PySem PySem.Spec PyProof.Rows L2
/-! ### short words -/
theorem notin_of {l : List Nat} {i : Nat} (h : l.contains i = false) : i ∉ l := fun m => by
  have := List.contains_iff_mem.mpr m
  rw [h] at this
  cases this
section
variable {c : Ctx} {e : Expr} {fo : List T → Option Re} {pos pos' : Pos}
theorem ev_v (i : Nat) {x : Str} (hi : c.N[i]? = some x := by rfl) (hv : ∀ j, Vis (c.X j).env.scope x := by intro _; first | exact Or.inl rfl | exact Or.inr (Or.inl rfl) | exact Or.inr (Or.inr rfl)) (hd : (x == ("__debug__" : Str)) = false := by decide) (hcd : (x == ("__classdict__" : Str)) = false := by decide) : Ev c (.Name x pos) (fVar i) := ev_var hi hv hd hcd
theorem eo_m (i : Nat) {x : Str} (hi : c.N[i]? = some x := by rfl) (hv : ∀ j, Vis (c.X j).env.scope x := by intro _; first | exact Or.inl rfl | exact Or.inr (Or.inl rfl) | exact Or.inr (Or.inr rfl)) (hm : Nat.ble c.P.m i = true := by rfl) (hd : (x == ("__debug__" : Str)) = false := by decide) (hcd : (x == ("__classdict__" : Str)) = false := by decide) : Eo c (.Name x pos) (fMv i) := eo_mv hi hv (Nat.le_of_ble_eq_true hm) hd hcd
theorem sm_s (i : Nat) {x : Str} (he : Eo c e fo) (hi : c.N[i]? = some x := by rfl) (hx : ∀ j, L2.Loc (c.X j).env.scope x := by intro _; first | exact Or.inl rfl | exact Or.inr rfl) (hio : c.P.io.contains i = false := by rfl) (hs : ∀ j, swapsWith e (some (.Name x pos')) pos.line (c.X j).env = pure false := by intro _; rfl)
    (hf : ∀ j, (c.X j).fn x = true ∨ (c.X j).env.scope.names.lookup x = some .local := by intro _; first | exact Or.inl rfl | exact Or.inr rfl) : Sm c (.Assign [.Name x pos'] e pos) (sSet i fo) := sm_set he hi hx (notin_of hio) hs hf
theorem gt_n (i : Nat) {x : Str} (hi : c.N[i]? = some x := by rfl) (hx : ∀ j, L2.Loc (c.X j).env.scope x := by intro _; first | exact Or.inl rfl | exact Or.inr rfl) (hio : c.P.io.contains i = false := by rfl) (hf : ∀ j, (c.X j).fn x = true ∨ (c.X j).env.scope.names.lookup x = some .local := by intro _; first | exact Or.inl rfl | exact Or.inr rfl) : Gt c (.Name x pos) (gSet i) := gt_name hi hx (notin_of hio) hf
end
section
variable {c : Ctx}
theorem callLen (j : c.J) : CallR (c.X j) (.builtin "len") (rLenU c.W.K) := by have h := call_lenU (X := c.X j); rw [c.hK j] at h; exact h
theorem callList (j : c.J) : CallR (c.X j) (.type "list") (fun xs H Q => ∃ p ys, xs = [.ref p] ∧ (SqL c.W.K H p ys ∨ SqT c.W.K H p ys) ∧ ∀ l, H l = none → Q (.ref l) (upd H l (.lst ys))) := by have h := call_list_of (X := c.X j); rw [c.hK j] at h; exact h
theorem callTuple (j : c.J) : CallR (c.X j) (.type "tuple") (fun xs H Q => ∃ p ys, xs = [.ref p] ∧ ((SqL c.W.K H p ys ∧ ∀ l, H l = none → Q (.ref l) (upd H l (.tup ys))) ∨ (SqT c.W.K H p ys ∧ Q (.ref p) H))) := by have h := call_tuple_of (X := c.X j); rw [c.hK j] at h; exact h
theorem callSum (j : c.J) : CallR (c.X j) (.builtin "sum") (rSum c.W.K) := by have h := cr_sum (c.calm j); rw [c.hK j] at h; exact h
theorem callAll (j : c.J) : CallR (c.X j) (.builtin "all") (rAll c.W.K) := by have h := cr_all (c.calm j); rw [c.hK j] at h; exact h
theorem callMax2 (j : c.J) : CallR (c.X j) (.builtin "max") (fun xs H Q => ∃ i j, xs = [.int i, .int j] ∧ Q (.int (if j > i then j else i)) H) := call_max2 (c.calm j)
theorem callMin2 (j : c.J) : CallR (c.X j) (.builtin "min") (fun xs H Q => ∃ i j, xs = [.int i, .int j] ∧ Q (.int (if j < i then j else i)) H) := call_min2 (c.calm j)
theorem callStr (j : c.J) : CallR (c.X j) (.type "str") (fun xs H Q => (∃ i : Int, xs = [.int i] ∧ i.natAbs.log2 < 1920 ∧ Q (.str (toString i)) H) ∨ ∃ a, xs = [.str a] ∧ Q (.str a) H) := CallR_or call_str_int SkE.call_str_str
end
/-- the end: a law's promise from what its function gives -/
theorem law_sp {W : Wd} {G : List T → Option Re} {H : Hp} {a : Addr} {ns : List Int} (hS : SqL W.K H a (ns.map V.int)) (hnw : ∀ a, W.nw a) (h : ∃ us, G [.f (.lst (ns.map .int))] = some (.ok (.f (.bl true)) us)) : spF W [] G [.ref a] H (fun v _ => v = .bl true) fun _ _ _ => False := by
  obtain ⟨us, e⟩ := h
  refine ⟨H, [.f (.lst (ns.map .int))], [[]], _, Le.refl H, fun a _ => hnw a, ⟨_, _, _, _, rfl, rfl, ⟨rfl, a, _, rfl, hS, Reps.of_ints ns⟩, rfl, rfl⟩, ⟨List.nodup_nil, fun a ha => by cases ha⟩, rfl, e, ?_⟩
  intro v F' H' R _
  exact R.top
end Z

namespace Z
open PySem PySem.Spec PyProof.Rows L2
/-! ### parts of a thing of one's own, changed in place -/
inductive Sel where
  | ix (n : Nat)
  | at (nm : Str)
def atN : List Str → List T → Str → Option T
  | n :: ns, t :: ts, x => if n = x then some t else atN ns ts x
  | _, _, _ => none
def setN : List Str → List T → Str → T → List T
  | n :: ns, t :: ts, x, u => if n = x then u :: ts else t :: setN ns ts x u
  | _, ts, _, _ => ts
def T.sub : T → Sel → Option T
  | .ll ts, .ix n => ts[n]?
  | .tu ts, .ix n => ts[n]?
  | .o _ ns ts, .at x => atN ns ts x
  | _, _ => none
def T.upd : T → Sel → T → T
  | .ll ts, .ix n, u => .ll (ts.set n u)
  | .tu ts, .ix n, u => .tu (ts.set n u)
  | .o C ns ts, .at x, u => .o C ns (setN ns ts x u)
  | t, _, _ => t
def T.getP : T → List Sel → Option T
  | t, [] => some t
  | t, s :: π => (t.sub s).bind fun u => u.getP π
def T.putP : T → List Sel → T → T
  | _, [], u => u
  | t, s :: π, u => match t.sub s with
    | some t1 => t.upd s (t1.putP π u)
    | none => t
def AtV (H : Hp) : V → List Sel → Addr → Prop
  | v, [], p => v = .ref p
  | v, .ix n :: π, p => ∃ a vs w, v = .ref a ∧ (H a = some (.lst vs) ∨ H a = some (.tup vs)) ∧ vs[n]? = some w ∧ AtV H w π p
  | v, .at x :: π, p => ∃ a C dx kvs w, v = .ref a ∧ H a = some (.ins C dx kvs) ∧ kvs.lookup x = some w ∧ AtV H w π p
theorem AtV.same {H H' : Hp} (h : Same H H') : ∀ {π : List Sel} {v : V} {p : Addr}, AtV H v π p → AtV H' v π p
  | [], _, _, r => r
  | .ix n :: π, _, _, r => by
    obtain ⟨a, vs, w, e, r1, r2, r3⟩ := r
    exact ⟨a, vs, w, e, r1.imp (h a _) (h a _), r2, AtV.same h r3⟩
  | .at x :: π, _, _, r => by
    obtain ⟨a, C, dx, kvs, w, e, r1, r2, r3⟩ := r
    exact ⟨a, C, dx, kvs, w, e, h a _ r1, r2, AtV.same h r3⟩
section
variable {W : Wd} {F F' H H' : Hp} {p : Addr}
theorem RelTs.put {v : V} {f : List Addr} {t' : T} (hp : p ∈ f) (hr : RelT W F H' t' v f) (hH : ∀ a, a ≠ p → H' a = H a) : ∀ {ts : List T} {vs : List V} {fps : List (List Addr)} {n : Nat}, RelTs W F H ts vs fps → fps.flatten.Nodup → vs[n]? = some v → fps[n]? = some f → RelTs W F H' (ts.set n t') vs fps
  | [], _, _, _, r, _, e, _ => by rw [r.1] at e; simp at e
  | t :: ts, _, _, 0, r, nd, e1, e2 => by
    obtain ⟨v0, vr, f0, fr, rfl, rfl, a, b⟩ := r
    simp at e1 e2
    subst e1 e2
    rw [List.flatten_cons] at nd
    have n := List.nodup_append.mp nd
    exact ⟨_, _, _, _, rfl, rfl, hr, RelTs.mono (Inc.refl F) ts vr fr (fun x hx => hH x fun q => n.2.2 p hp x hx q.symm) b⟩
  | t :: ts, _, _, n + 1, r, nd, e1, e2 => by
    obtain ⟨v0, vr, f0, fr, rfl, rfl, a, b⟩ := r
    simp at e1 e2
    rw [List.flatten_cons] at nd
    have n0 := List.nodup_append.mp nd
    refine ⟨_, _, _, _, rfl, rfl, RelT.mono (Inc.refl F) t v0 f0 (fun x hx => hH x fun q => n0.2.2 x hx p (List.mem_flatten.mpr ⟨f, List.mem_of_getElem? e2, hp⟩) q) a, RelTs.put hp hr hH b n0.2.1 e1 e2⟩
theorem RelTs.putN {x : Str} {t' : T} : ∀ {ns : List Str} {ts : List T} {kvs : List (Str × V)} {fps : List (List Addr)} {t : T}, kvs.map (·.1) = ns → RelTs W F H ts (kvs.map (·.2)) fps → fps.flatten.Nodup → atN ns ts x = some t →
    ∃ w f, kvs.lookup x = some w ∧ f ∈ fps ∧ RelT W F H t w f ∧ ∀ H', (∀ a, a ≠ p → H' a = H a) → p ∈ f → RelT W F H' t' w f → RelTs W F H' (setN ns ts x t') (kvs.map (·.2)) fps
  | _, [], [], _, _, h, _, _, e => by subst h; simp [atN] at e
  | _, [], k :: kvs, _, _, h, _, _, e => by subst h; simp [atN] at e
  | _, t0 :: ts, [], _, _, h, _, _, e => by subst h; simp [atN] at e
  | _, t0 :: ts, k :: kvs, fps, t, h, r, nd, e => by
    subst h
    obtain ⟨v0, vr, f0, fr, e1, rfl, a, b⟩ := r
    have e1a : k.2 = v0 := (List.cons.inj e1).1
    have e1b : kvs.map (·.2) = vr := (List.cons.inj e1).2
    subst e1a e1b
    rw [List.flatten_cons] at nd
    have n0 := List.nodup_append.mp nd
    by_cases hk : k.1 = x
    · have e2 : t0 = t := by
        have e' : (if k.1 = x then some t0 else _) = some t := e
        rw [if_pos hk] at e'
        exact Option.some.inj e'
      subst e2
      refine ⟨k.2, f0, ?_, List.mem_cons_self, a, fun H' hH hp hr => ?_⟩
      · rw [List.lookup_cons]
        rw [show (x == k.1) = true by rw [hk]; exact beq_self_eq_true x]
      · show RelTs W F H' (if k.1 = x then t' :: ts else _) _ _
        rw [if_pos hk]
        exact ⟨_, _, _, _, rfl, rfl, hr, RelTs.mono (Inc.refl F) ts _ fr (fun y hy => hH y fun q => n0.2.2 p hp y hy q.symm) b⟩
    · have e2 : atN (kvs.map (·.1)) ts x = some t := by
        have e' : (if k.1 = x then some t0 else atN (kvs.map (·.1)) ts x) = some t := e
        rwa [if_neg hk] at e'
      obtain ⟨w, f, q1, q2, q3, q4⟩ := RelTs.putN (t' := t') rfl b n0.2.1 e2
      refine ⟨w, f, ?_, List.mem_cons_of_mem _ q2, q3, fun H' hH hp hr => ?_⟩
      · rw [List.lookup_cons]
        rw [show (x == k.1) = false from beq_eq_false_iff_ne.mpr fun z => hk z.symm]
        exact q1
      · show RelTs W F H' (if k.1 = x then _ else t0 :: setN (kvs.map (·.1)) ts x t') _ _
        rw [if_neg hk]
        exact ⟨_, _, _, _, rfl, rfl, RelT.mono (Inc.refl F) t0 _ f0 (fun y hy => hH y fun q => n0.2.2 y hy p (List.mem_flatten.mpr ⟨f, q2, hp⟩) q) a, q4 H' hH hp hr⟩
/-- the part at a place: what it is, and the whole where the part is changed at its own place -/
theorem RelT.mut {u u' : T} : ∀ {π : List Sel} {t : T} {v : V} {fp : List Addr}, RelT W F H t v fp → fp.Nodup → t.getP π = some u → AtV H v π p →
    ∃ fu, (fu.Nodup ∧ ∀ a ∈ fu, a ∈ fp) ∧ RelT W F H u (.ref p) fu ∧ ∀ H', (∀ a, a ≠ p → H' a = H a) → p ∈ fu → RelT W F H' u' (.ref p) fu → RelT W F H' (t.putP π u') v fp
  | [], t, v, fp, r, nd, e, hv => by
    have hv : v = _ := hv
    subst hv
    cases e
    exact ⟨fp, ⟨nd, fun _ h => h⟩, r, fun H' _ _ h => h⟩
  | .ix n :: π, t, v, fp, r, nd, e, hv => by
    obtain ⟨a, vs, w, rfl, hH, hw, hv⟩ := hv
    obtain ⟨t1, e1, e0⟩ := Option.bind_eq_some_iff.mp (show (t.sub (.ix n)).bind _ = _ from e)
    have hput : t.putP (.ix n :: π) u' = t.upd (.ix n) (t1.putP π u') := by
      show (match t.sub (.ix n) with | some t1 => t.upd (.ix n) (t1.putP π u') | none => t) = _
      rw [e1]
    rw [hput]
    cases t with
    | ll ts =>
      obtain ⟨q, vs', fps, ev, rfl, hq, rs⟩ := r
      cases ev
      have evs : vs' = vs := by
        rcases hH with h | h
        · rw [hq] at h; cases h; rfl
        · rw [hq] at h; cases h
      subst evs
      have n0 := List.nodup_cons.mp nd
      obtain ⟨w', f, q1, q2, q3⟩ := rs.at e1
      rw [hw] at q1
      cases q1
      have hfm : ∀ x ∈ f, x ∈ fps.flatten := fun x hx => List.mem_flatten.mpr ⟨f, List.mem_of_getElem? q2, hx⟩
      obtain ⟨fu, h1, h2, h3⟩ := RelT.mut (u' := u') q3 ((List.sublist_flatten_of_mem (List.mem_of_getElem? q2)).nodup n0.2) e0 hv
      have hnd := h1.1
      have h1 := h1.2
      refine ⟨fu, ⟨hnd, fun x hx => List.mem_cons_of_mem _ (hfm x (h1 x hx))⟩, h2, fun H' hH' hp hr => ?_⟩
      refine ⟨_, _, fps, rfl, rfl, ?_, RelTs.put (h1 p hp) (h3 H' hH' hp hr) hH' rs n0.2 hw q2⟩
      rw [hH' _ fun z => n0.1 (by rw [z]; exact hfm p (h1 p hp))]
      exact hq
    | tu ts =>
      obtain ⟨q, vs', fps, ev, rfl, hq, rs⟩ := r
      cases ev
      have evs : vs' = vs := by
        rcases hH with h | h
        · rw [hq] at h; cases h
        · rw [hq] at h; cases h; rfl
      subst evs
      have n0 := List.nodup_cons.mp nd
      obtain ⟨w', f, q1, q2, q3⟩ := rs.at e1
      rw [hw] at q1
      cases q1
      have hfm : ∀ x ∈ f, x ∈ fps.flatten := fun x hx => List.mem_flatten.mpr ⟨f, List.mem_of_getElem? q2, hx⟩
      obtain ⟨fu, h1, h2, h3⟩ := RelT.mut (u' := u') q3 ((List.sublist_flatten_of_mem (List.mem_of_getElem? q2)).nodup n0.2) e0 hv
      have hnd := h1.1
      have h1 := h1.2
      refine ⟨fu, ⟨hnd, fun x hx => List.mem_cons_of_mem _ (hfm x (h1 x hx))⟩, h2, fun H' hH' hp hr => ?_⟩
      refine ⟨_, _, fps, rfl, rfl, ?_, RelTs.put (h1 p hp) (h3 H' hH' hp hr) hH' rs n0.2 hw q2⟩
      rw [hH' _ fun z => n0.1 (by rw [z]; exact hfm p (h1 p hp))]
      exact hq
    | _ => cases e1
  | .at x :: π, t, v, fp, r, nd, e, hv => by
    obtain ⟨a, C, dx, kvs, w, rfl, hH, hw, hv⟩ := hv
    obtain ⟨t1, e1, e0⟩ := Option.bind_eq_some_iff.mp (show (t.sub (.at x)).bind _ = _ from e)
    have hput : t.putP (.at x :: π) u' = t.upd (.at x) (t1.putP π u') := by
      show (match t.sub (.at x) with | some t1 => t.upd (.at x) (t1.putP π u') | none => t) = _
      rw [e1]
    rw [hput]
    cases t with
    | o C' ns ts =>
      obtain ⟨q, dx', kvs', fps, ev, rfl, hq, hk, rs⟩ := r
      cases ev
      rw [hq] at hH
      cases hH
      have n0 := List.nodup_cons.mp nd
      obtain ⟨w', f, q1, q2, q3, q4⟩ := RelTs.putN (p := p) (t' := t1.putP π u') hk rs n0.2 e1
      rw [hw] at q1
      cases q1
      have hfm : ∀ x ∈ f, x ∈ fps.flatten := fun x hx => List.mem_flatten.mpr ⟨f, q2, hx⟩
      obtain ⟨fu, h1, h2, h3⟩ := RelT.mut (u' := u') q3 ((List.sublist_flatten_of_mem q2).nodup n0.2) e0 hv
      have hnd := h1.1
      have h1 := h1.2
      refine ⟨fu, ⟨hnd, fun x hx => List.mem_cons_of_mem _ (hfm x (h1 x hx))⟩, h2, fun H' hH' hp hr => ?_⟩
      refine ⟨_, dx, _, fps, rfl, rfl, ?_, hk, q4 H' hH' (h1 p hp) (h3 H' hH' hp hr)⟩
      rw [hH' _ fun z => n0.1 (by rw [z]; exact hfm p (h1 p hp))]
      exact hq
    | _ => cases e1
theorem Slots.put {v : V} {f : List Addr} {t' : T} (hp : p ∈ f) (hr : RelT W F H' t' v f) (hH : ∀ a, a ≠ p → H' a = H a) : ∀ {ts : List T} {σ : L2.St} {fps : List (List Addr)} {n : Nat}, Slots W F H ts σ fps → fps.flatten.Nodup → σ[n]? = some (some v) → fps[n]? = some f → Slots W F H' (ts.set n t') σ fps
  | [], _, _, _, r, _, e, _ => by rw [r.1] at e; simp at e
  | t :: ts, _, _, 0, r, nd, e1, e2 => by
    obtain ⟨v0, vr, f0, fr, rfl, rfl, a, b⟩ := r
    simp at e1 e2
    subst e1 e2
    rw [List.flatten_cons] at nd
    have n := List.nodup_append.mp nd
    exact ⟨_, _, _, _, rfl, rfl, hr, Slots.mono (Inc.refl F) (fun x hx => hH x fun q => n.2.2 p hp x hx q.symm) b⟩
  | t :: ts, _, _, n + 1, r, nd, e1, e2 => by
    obtain ⟨v0, vr, f0, fr, rfl, rfl, a, b⟩ := r
    simp at e1 e2
    rw [List.flatten_cons] at nd
    have n0 := List.nodup_append.mp nd
    refine ⟨_, _, _, _, rfl, rfl, Slot.mono (Inc.refl F) (fun x hx => hH x fun q => n0.2.2 x hx p (List.mem_flatten.mpr ⟨f, List.mem_of_getElem? e2, hp⟩) q) a, Slots.put hp hr hH b n0.2.1 e1 e2⟩
/-- a slot's thing is changed at one place of its own -/
theorem SR.mut {b : Bs} {ρ : List T} {σ : L2.St} {X : List Tm} {i : Nat} {t u u' : T} {v : V} {π : List Sel} (S : SR W b F ρ σ X H) (hi : ρ[i]? = some t) (hv : σ[i]? = some (some v)) (hu : t.getP π = some u) (ha : AtV H v π p) :
    ∃ fu, RelT W F H u (.ref p) fu ∧ (fu.Nodup ∧ ∀ a ∈ fu, F a = none) ∧ ∀ o o', H p = some o → (b.H0 p ≠ none → Stb (GB W b) o o') → p ∈ fu → RelT W F (upd H p o') u' (.ref p) fu → SR W b F (ρ.set i (t.putP π u')) σ X (upd H p o') := by
  obtain ⟨le, f0, fn, kept, stab, pin, fps, xps, s1, s2, ⟨nd, ow⟩, lc1, lc2⟩ := S
  obtain ⟨s, f, e1, e2, r⟩ := s1.get hi
  rw [hv] at e1
  cases e1
  have n := List.nodup_append.mp nd
  have hf : ∀ a ∈ f, a ∈ fps.flatten := fun a ha => List.mem_flatten.mpr ⟨f, List.mem_of_getElem? e2, ha⟩
  have nf : f.Nodup := (List.sublist_flatten_of_mem (List.mem_of_getElem? e2)).nodup n.1
  obtain ⟨fu, h1, h2, h3⟩ := RelT.mut (u' := u') r nf hu ha
  have hnd := h1.1
  have h1 := h1.2
  refine ⟨fu, h2, ⟨hnd, fun a ha => ow a (List.mem_append_left _ (hf a (h1 a ha)))⟩, fun o o' ho hst hp hr => ?_⟩
  have hpf : p ∈ fps.flatten := hf p (h1 p hp)
  have hpn : F p = none := ow p (List.mem_append_left _ hpf)
  have hne : ∀ a, a ≠ p → upd H p o' a = H a := fun a e => upd_ne e
  refine ⟨fun a x e => ?_, f0, fn, fun a x e hA => ?_, fun a x e hA => ?_, pin, fps, xps, Slots.put (h1 p hp) (h3 _ hne hp hr) hne s1 n.1 hv e2, RelTs.mono (Inc.refl F) _ _ xps (fun a ha => hne a fun q => n.2.2 p hpf a ha q.symm) s2, ⟨nd, ow⟩, lc1, lc2⟩
  · have : a ≠ p := fun q => by rw [q, hpn] at e; cases e
    rw [hne a this]
    exact le a x e
  · have : a ≠ p := fun q => by
      subst q
      rcases LocS.old lc1 hpf with z | z
      · rw [z] at e; cases e
      · exact hA z
    rw [hne a this]
    exact kept a x e hA
  · by_cases q : a = p
    · subst q
      obtain ⟨w, hw, st⟩ := stab a x e hA
      rw [ho] at hw
      cases hw
      exact ⟨o', upd_same, st.trans (hst (by rw [e]; exact fun z => nomatch z))⟩
    · obtain ⟨w, hw, st⟩ := stab a x e hA
      exact ⟨w, by rw [hne a q]; exact hw, st⟩
theorem stb_lst {b : Bs} {ρ : List T} {σ : L2.St} {X : List Tm} {ds : List D} {vs : List V} {vs' : List V} (S : SR W b F ρ σ X H) (r : Reps W F ds vs) : Stb (GB W b) (.lst vs) (.lst vs') := Stb.lst
end
end Z

namespace Z
open PySem PySem.Spec PyProof.Rows L2
section
variable {W : Wd} {F F' H H' : Hp}
theorem rep_ref {d : D} {a : Addr} (q : Rep W F d (.ref a)) : F a ≠ none ∨ W.K.lookup a ≠ none := by
  cases d with
  | non => cases (show V.ref a = _ from q)
  | bl b => cases (show V.ref a = _ from q)
  | int b => cases (show V.ref a = _ from q)
  | str b => cases (show V.ref a = _ from q)
  | tup l =>
    obtain ⟨p, us, e, s, _⟩ := q
    cases e
    rcases s with (s | ⟨o, s⟩) | ⟨o, its, n, s, _⟩
    · exact .inl (by rw [s]; simp)
    · exact .inl (by rw [s]; simp)
    · exact .inr (by rw [s]; simp)
  | lst l =>
    obtain ⟨p, us, e, s, _⟩ := q
    cases e
    rcases s with (s | ⟨o, s⟩) | ⟨o, its, n, s, _⟩
    · exact .inl (by rw [s]; simp)
    · exact .inl (by rw [s]; simp)
    · exact .inr (by rw [s]; simp)
  | nst l =>
    obtain ⟨p, us, e, s, _⟩ := q
    cases e
    exact .inl (by rw [s]; simp)
  | dct ks l =>
    obtain ⟨p, us, e, s, _⟩ := q
    cases e
    rcases s with s | ⟨o, s⟩
    · exact .inl (by rw [s]; simp)
    · exact .inl (by rw [s]; simp)
  | obj C ns l =>
    obtain ⟨p, dx, us, e, s, _⟩ := q
    cases e
    exact .inl (by rw [s]; simp)
theorem stb_lstF {ds : List D} {vs vs' : List V} (r : Reps W F ds vs) : Stb (GF W F) (.lst vs) (.lst vs') := Stb.lst
theorem stb_dk {kvs kvs' : List (Key × V)} {G : Addr → Prop} : Stb G (.dK kvs) (.dK kvs') := Stb.dk
end
/-! ### where a thing of one's own stands -/
def owned : T → Bool | .un => false | .f _ => false | .ln _ => false | .gb _ => false | .rg _ => false | _ => true
def Sl (W : Wd) (te : TE) (i : Nat) (f : List T → Option (List Sel)) : Prop :=
  ∀ b F ρ σ X H π t u Q, SR W b F ρ σ X H → f ρ = some π → ρ[i]? = some t → t.getP π = some u → owned u = true → (∀ p v F' H', SR W b F' ρ σ X H' → Inc F F' → Same H H' → σ[i]? = some (some v) → AtV H' v π p → Q (.ref p) H') → te σ H Q
def Lo (c : Ctx) (e : Expr) (i : Nat) (f : List T → Option (List Sel)) : Prop := ∃ t, (∀ j, PE (c.X j) e t) ∧ Sl c.W t i f
def pHere : List T → Option (List Sel) := fun _ => some []
theorem owned_ref {W : Wd} {F H : Hp} {t : T} {v : V} {fp : List Addr} (r : RelT W F H t v fp) (h : owned t = true) : ∃ p, v = .ref p := by
  cases t with
  | un => cases h
  | f d => cases h
  | l ds => obtain ⟨p, _, e, _⟩ := r; exact ⟨p, e⟩
  | dk ks ds => obtain ⟨p, _, e, _⟩ := r; exact ⟨p, e⟩
  | di ks ds => obtain ⟨p, _, _, e, _⟩ := r; exact ⟨p, e⟩
  | ll ts => obtain ⟨p, _, _, e, _⟩ := r; exact ⟨p, e⟩
  | tu ts => obtain ⟨p, _, _, e, _⟩ := r; exact ⟨p, e⟩
  | o C ns ts => obtain ⟨p, _, _, _, e, _⟩ := r; exact ⟨p, e⟩
  | ln _ => cases h
  | gb _ => cases h
  | rg _ => cases h
section
variable {c : Ctx} {pos : Pos}
theorem lo_v (i : Nat) {x : Str} (hi : c.N[i]? = some x := by rfl) (hv : ∀ j, Vis (c.X j).env.scope x := by intro _; first | exact Or.inl rfl | exact Or.inr (Or.inl rfl) | exact Or.inr (Or.inr rfl)) (hd : (x == ("__debug__" : Str)) = false := by decide) (hcd : (x == ("__classdict__" : Str)) = false := by decide) : Lo c (.Name x pos) i pHere := by
  refine ⟨_, fun j => pe_var (i := i) (by rw [c.hN j]; exact hi) (hv j) hd hcd, ?_⟩
  intro b F ρ σ X H π t u Q S e ht hu ho k
  cases e
  cases hu
  obtain ⟨s, fp, e1, r⟩ := S.slot ht
  cases s with
  | none => rw [r.1] at ho; cases ho
  | some v =>
    obtain ⟨p, rfl⟩ := owned_ref r ho
    exact ⟨_, e1, k p _ F H S (Inc.refl F) (Same.refl H) e1 rfl⟩
end
/-- a slot's thing with one part changed -/
def mutF (i : Nat) (π : List Sel) (g : T → Option T) (ρ : List T) : Option (List T) := ρ[i]?.bind fun t => (t.getP π).bind fun u => (g u).map fun u' => ρ.set i (t.putP π u')
theorem mutF_some {i : Nat} {π : List Sel} {g : T → Option T} {ρ ρ' : List T} (h : mutF i π g ρ = some ρ') : ∃ t u u', ρ[i]? = some t ∧ t.getP π = some u ∧ g u = some u' ∧ ρ' = ρ.set i (t.putP π u') := by
  obtain ⟨t, e1, h⟩ := Option.bind_eq_some_iff.mp h
  obtain ⟨u, e2, h⟩ := Option.bind_eq_some_iff.mp h
  obtain ⟨u', e3, h⟩ := Option.map_eq_some_iff.mp h
  exact ⟨t, u, u', e1, e2, e3, h.symm⟩
def appT (d : D) : T → Option T
  | .l ds => if ds.length < sizeLine then some (.l (ds ++ [d])) else none
  | _ => none
/-- xs.append(e) -/
def sApp (i : Nat) (fp : List T → Option (List Sel)) (fe : List T → Option T) : FS := fun ρ => (fp ρ).bind fun π => (fe ρ).bind fun x => x.d?.bind fun d => (mutF i π (appT d) ρ).map .nx
theorem SR.app {W : Wd} {b : Bs} {F : Hp} {ρ ρ' : List T} {σ : L2.St} {X : List Tm} {H : Hp} {i : Nat} {π : List Sel} {d : D} {v y : V} {p : Addr} (S : SR W b F ρ σ X H) (h : mutF i π (appT d) ρ = some ρ') (hv : σ[i]? = some (some v)) (ha : AtV H v π p) (r : Rep W F d y) :
    ∃ vs, H p = some (.lst vs) ∧ vs.length < sizeLine ∧ SR W b F ρ' σ X (upd H p (.lst (vs ++ [y]))) := by
  obtain ⟨t, u, u', e1, e2, e3, rfl⟩ := mutF_some h
  cases u with
  | l ds =>
    have e3' : (if ds.length < sizeLine then some (T.l (ds ++ [d])) else none) = some u' := e3
    split at e3'
    · rename_i hl
      cases e3'
      obtain ⟨fu, q1, q2, q3⟩ := S.mut (u' := .l (ds ++ [d])) e1 hv e2 ha
      obtain ⟨p', vs, ep, rfl, hp, rs⟩ := q1
      cases ep
      refine ⟨vs, hp, by rw [← rs.len]; exact hl, q3 _ _ hp (fun _ => stb_lst S rs) (List.mem_singleton.mpr rfl) ⟨p, _, rfl, rfl, upd_same, rs.append ⟨y, [], rfl, r, rfl⟩⟩⟩
    · cases e3'
  | _ => cases e3
section
variable {c : Ctx} {e o : Expr} {i : Nat} {fp : List T → Option (List Sel)} {fe fk : List T → Option T} {pos apos cpos : Pos}
theorem mutF_own {i : Nat} {π : List Sel} {g : T → Option T} {ρ ρ' : List T} (h : mutF i π g ρ = some ρ') (hg : ∀ u u', g u = some u' → owned u = true) : ∃ t u, ρ[i]? = some t ∧ t.getP π = some u ∧ owned u = true := by
  obtain ⟨t, u, u', e1, e2, e3, _⟩ := mutF_some h
  exact ⟨t, u, e1, e2, hg u u' e3⟩
theorem appT_own {d : D} (u u' : T) (h : appT d u = some u') : owned u = true := by
  cases u with
  | un => cases h
  | f d => cases h
  | ln d => cases h
  | gb _ => cases h
  | rg _ => cases h
  | _ => rfl
theorem sm_app (ho : Lo c o i fp) (he : Ev c e fe)
    (hbase : ∀ j, attributeBase o "append" (c.X j).env (eval o (c.X j).env) = eval o (c.X j).env := by intro _; rfl)
    (hfew : ∀ j, ((backTo cpos (starEach [e] (c.X j).env)).all (fun x => !x.1) && (backToKw cpos (keywordEach [] (c.X j).env)).all (fun x => x.1.isSome)
      && decide (([e] : List Expr).length + ([] : List Keyword).length + (if ([] : List Keyword).isEmpty then 0 else 1) < 30)) = true := by intro _; rfl)
    (hline : (apos.endLine == cpos.line) = true := by rfl) (hs : ∀ j, starEach [e] (c.X j).env = (false, eval e (c.X j).env) :: starEach [] (c.X j).env := by intro _; rfl) (hplain : ∀ j, (backTo cpos (starEach [] (c.X j).env)).any (·.1) = false := by intro _; rfl)
    (hsw : ∀ j, swapsWith (.Call (.Attribute o "append" apos) [e] [] cpos) none pos.line (c.X j).env = pure false := by intro _; rfl) :
    Sm c (.Expr (.Call (.Attribute o "append" apos) [e] [] cpos) pos) (sApp i fp fe) := by
  obtain ⟨to, po, so⟩ := ho
  obtain ⟨te, pe, se⟩ := he
  refine ⟨tDrop (tBM c.W.K "list" rAppend to (tCons te tNil)), fun j => by
    have h := ps_expr (pe_bm PySem.F.plainAttrs_list PySem.F.slot_list_append PySem.F.type_list_append mt_append (po j) (pa_cons (pe j) pa_nil (hs j)) (hbase j) (hfew j) hline (hs j) (hplain j)) (hsw j)
    rw [c.hK j] at h
    exact h, ?_⟩
  intro b F ρ σ X H out D hb S eq k
  unfold sApp at eq
  obtain ⟨π, e1, eq⟩ := Option.bind_eq_some_iff.mp eq
  obtain ⟨x, e2, eq⟩ := Option.bind_eq_some_iff.mp eq
  obtain ⟨d, e3, eq⟩ := Option.bind_eq_some_iff.mp eq
  obtain ⟨ρ', e4, eq⟩ := Option.map_eq_some_iff.mp eq
  subst eq
  cases d_some e3
  obtain ⟨tt, uu, h1, h2, h3⟩ := mutF_own e4 appT_own
  refine so b F ρ σ X H π tt uu _ S e1 h1 h2 h3 fun p v F1 H1 S1 i1 s1 hv hat => ?_
  obtain ⟨t9, u9, u9', f1, f2, f3, _⟩ := mutF_some e4
  obtain ⟨fu, q1, _⟩ := S1.mut (u' := .un) f1 hv f2 hat
  have hl : ∃ vs, H1 p = some (.lst vs) := by
    cases u9 with
    | l ds => obtain ⟨p', vs, ep, _, hp, _⟩ := q1; cases ep; exact ⟨vs, hp⟩
    | _ => cases f3
  obtain ⟨vs0, hl⟩ := hl
  refine ⟨.inl ⟨rfl, vs0, SqL.of hl⟩, ?_⟩
  refine se b F1 ρ σ X H1 _ _ S1 e2 fun y F2 H2 S2 i2 s2 r2 => ?_
  obtain ⟨vs, hp, hz, S3⟩ := S2.app e4 hv (hat.same s2) r2.rep
  exact ⟨p, vs, y, rfl, rfl, hp, hz, k σ F2 _ S3 (i1.trans i2)⟩
/-! o[k] = e -/
def setT (k d : D) : T → Option T
  | .l ds => (T.f k).i?.bind fun j => (ixN ds.length j).map fun n => .l (ds.set n d)
  | .dk ks ds => (T.f k).key?.bind fun q => if ks.length < sizeLine then some (.dk (dput ks ds q d).1 (dput ks ds q d).2) else none
  | _ => none
def sSetIx (i : Nat) (fp : List T → Option (List Sel)) (fk fe : List T → Option T) : FS := fun ρ => (fe ρ).bind fun x => x.d?.bind fun d => (fp ρ).bind fun π => (fk ρ).bind fun z => z.d?.bind fun q => (mutF i π (setT q d) ρ).map .nx
theorem setT_own {k d : D} (u u' : T) (h : setT k d u = some u') : owned u = true := by
  cases u with
  | un => cases h
  | f d => cases h
  | ln d => cases h
  | gb _ => cases h
  | rg _ => cases h
  | _ => rfl
def rSetU : TSet := fun o i v H Q => rSetL o i v H Q ∨ rSetD o i v H Q
theorem set_U {X : Cx} (hu : X.A.units + 1 < cLine) : PSet X rSetU := by
  intro pins s σ H o i v ov iv u Q I ro ri rv h
  rcases h with h | h
  · exact set_list pins s σ H o i v ov iv u Q I ro ri rv h
  · exact set_dict hu pins s σ H o i v ov iv u Q I ro ri rv h
theorem rep_key {W : Wd} {F : Hp} {d : D} {k : Key} {v : V} (r : Rep W F d v) (h : (T.f d).key? = some k) : v = kV k := by
  cases d with
  | int i => cases h; exact r
  | str x => cases h; exact r
  | _ => cases h
theorem SR.setIx {W : Wd} {b : Bs} {F : Hp} {ρ ρ' : List T} {σ : L2.St} {X : List Tm} {H : Hp} {i : Nat} {π : List Sel} {d q : D} {v y z : V} {p : Addr} (S : SR W b F ρ σ X H) (h : mutF i π (setT q d) ρ = some ρ') (hv : σ[i]? = some (some v)) (ha : AtV H v π p) (r : Rep W F d y) (rq : Rep W F q z)
    {Q : Hp → Prop} (k : ∀ H', SR W b F ρ' σ X H' → Q H') : rSetU (.ref p) z y H Q := by
  obtain ⟨t, u, u', e1, e2, e3, rfl⟩ := mutF_some h
  cases u with
  | l ds =>
    obtain ⟨j, e4, e3⟩ := Option.bind_eq_some_iff.mp (show (T.f q).i?.bind _ = some u' from e3)
    obtain ⟨n, e5, e3⟩ := Option.map_eq_some_iff.mp e3
    subst e3
    have hq : q = .int j := by cases q <;> first | (cases e4; rfl) | cases e4
    subst hq
    obtain ⟨fu, q1, q2, q3⟩ := S.mut (u' := .l (ds.set n d)) e1 hv e2 ha
    obtain ⟨p', vs, ep, rfl, hp, rs⟩ := q1
    cases ep
    have hz : z = .int j := rq
    subst hz
    refine .inl ⟨p, vs, j, n, rfl, rfl, hp, by rw [← rs.len]; exact e5, k _ (q3 _ _ hp (fun _ => stb_lst S rs) (List.mem_singleton.mpr rfl) ⟨p, _, rfl, rfl, upd_same, Reps.set r n rs⟩)⟩
  | dk ks ds =>
    obtain ⟨j, e4, e3⟩ := Option.bind_eq_some_iff.mp (show (T.f q).key?.bind _ = some u' from e3)
    split at e3
    · rename_i hl
      cases e3
      obtain ⟨fu, q1, q2, q3⟩ := S.mut (u' := .dk (dput ks ds j d).1 (dput ks ds j d).2) e1 hv e2 ha
      obtain ⟨p', kvs, ep, rfl, hp, hk, rs⟩ := q1
      cases ep
      have hz := rep_key rq e4
      subst hz
      have hk2 : kvs.length < sizeLine := by rw [← hk, List.length_map] at hl; exact hl
      have dp := dput_ok hk rs r (k := j)
      exact .inr ⟨p, _, rfl, DPut.k hp hk2, k _ (q3 _ _ hp (fun _ => stb_dk) (List.mem_singleton.mpr rfl) ⟨p, _, rfl, rfl, upd_same, dp.1, dp.2⟩)⟩
    · cases e3
  | _ => cases e3
theorem sm_setIx {ek : Expr} {pos' : Pos} (ho : Lo c o i fp) (hk : Ev c ek fk) (he : Ev c e fe)
    (hsw : ∀ j, swapsWithSole [.Subscript o ek pos'] e pos.line (c.X j).env = pure false := by intro _; rfl) (hw : ∀ j, swappedStores [.Subscript o ek pos'] e (c.X j).env = pure none := by intro _; rfl)
    (h1 : ∀ j, (assignEach [.Subscript o ek pos'] (c.X j).env).map (·.2) = [assign (.Subscript o ek pos') (c.X j).env] := by intro _; rfl)
    (ha : ∀ j v, assign (.Subscript o ek pos') (c.X j).env v = (do
      let ov ← holding [v] (eval o (c.X j).env)
      let iv ← holding [v, ov] (eval ek (c.X j).env)
      standAt pos'
      holding [v, ov, iv] (setItem ov iv v)
      release [v, ov, iv] []) := by intro _ _; rfl) : Sm c (.Assign [.Subscript o ek pos'] e pos) (sSetIx i fp fk fe) := by
  obtain ⟨to, po, so⟩ := ho
  obtain ⟨te, pe, se⟩ := he
  obtain ⟨tk, pk, sk⟩ := hk
  refine ⟨tAsg te (L2.gSub to tk rSetU), fun j => ps_asg (pe j) (pg_sub (po j) (pk j) (set_U (c.hu1 j)) (ha j)) (hsw j) (hw j) (h1 j), ?_⟩
  intro b F ρ σ X H out D hb S eq k
  unfold sSetIx at eq
  obtain ⟨x, e2, eq⟩ := Option.bind_eq_some_iff.mp eq
  obtain ⟨d, e3, eq⟩ := Option.bind_eq_some_iff.mp eq
  obtain ⟨π, e1, eq⟩ := Option.bind_eq_some_iff.mp eq
  obtain ⟨z, e5, eq⟩ := Option.bind_eq_some_iff.mp eq
  obtain ⟨q, e6, eq⟩ := Option.bind_eq_some_iff.mp eq
  obtain ⟨ρ', e4, eq⟩ := Option.map_eq_some_iff.mp eq
  subst eq
  cases d_some e3
  cases d_some e6
  obtain ⟨tt, uu, h1, h2, h3⟩ := mutF_own e4 setT_own
  refine se b F ρ σ X H _ _ S e2 fun y F1 H1 S1 i1 s1 r1 => ?_
  refine so b F1 ρ σ X H1 π tt uu _ S1 e1 h1 h2 h3 fun p v F2 H2 S2 i2 s2 hv hat => ?_
  refine sk b F2 ρ σ X H2 _ _ S2 e5 fun w F3 H3 S3 i3 s3 r3 => ?_
  exact S3.setIx e4 hv (hat.same s3) ((r1.ext i2 s2).ext i3 s3).rep r3.rep fun H' S' => k σ F3 H' S' ((i1.trans i2).trans i3)
end
end Z

namespace Z
open PySem PySem.Spec PyProof.Rows L2
/-! ### comprehensions -/
/-- what a pure thing goes over -/
def Sip (W : Wd) (wi : TI) (f : List T → Option (List D)) : Prop :=
  ∀ b F ρ σ X H ds R, SR W b F ρ σ X H → f ρ = some ds → (∀ J F' H', SR W b F' ρ σ X H' → Inc F F' → Same H H' → Wk W F' J ds → R J H') → wi σ H R
def Ip (c : Ctx) (tg e : Expr) (f : List T → Option (List D)) : Prop := ∃ wi, (∀ j, PI (c.X j) tg e wi) ∧ Sip c.W wi f
/-- a target that sets the slots vs alone -/
def Sgc (W : Wd) (g : TG) (f : T → List T → Option (List T)) (vs : List Nat) : Prop :=
  ∀ b F ρ ρ' σ X H t v Q, SR W b F ρ σ (⟨none, t, v⟩ :: X) H → b.io = [] → f t ρ = some ρ' → (∀ σ' F' H', SR W b F' ρ' σ' X H' → Inc F F' → Same H H' → L2.wipe σ' vs = L2.wipe σ vs → Q σ' H') → g v σ H Q
def wipeR (ρ : List T) : List Nat → List T
  | [] => ρ
  | v :: vs => (wipeR ρ vs).set v .un
def Gc (c : Ctx) (e : Expr) (f : T → List T → Option (List T)) (vs : List Nat) : Prop := ∃ g, (∀ j, PG (c.X j) e g) ∧ Sgc c.W g f vs ∧ ∀ t ρ ρ', f t ρ = some ρ' → wipeR ρ' vs = wipeR ρ vs
def Sgcs (W : Wd) (g : TGs) (f : List T → List T → Option (List T)) (vs : List Nat) : Prop :=
  ∀ b F ρ ρ' σ X H ts us Q, ts.length = us.length → SR W b F ρ σ (Xn ts us ++ X) H → b.io = [] → f ts ρ = some ρ' → (∀ σ' F' H', SR W b F' ρ' σ' X H' → Inc F F' → Same H H' → L2.wipe σ' vs = L2.wipe σ vs → Q σ' H') → g us σ H Q
def Gcs (c : Ctx) (es : List Expr) (f : List T → List T → Option (List T)) (vs : List Nat) : Prop := ∃ g, (∀ j, PGs (c.X j) es g) ∧ Sgcs c.W g f vs ∧ ∀ ts ρ ρ', f ts ρ = some ρ' → wipeR ρ' vs = wipeR ρ vs
theorem set_set_comm {α : Type} (l : List α) (i j : Nat) (a : α) : (l.set i a).set j a = (l.set j a).set i a := by
  by_cases h : i = j
  · subst h; rfl
  · exact List.set_comm _ _ h
theorem wipe_set {s : Option V} : ∀ {vs : List Nat} {σ : L2.St} {i : Nat}, i ∈ vs → L2.wipe (σ.set i s) vs = L2.wipe σ vs
  | [], _, _, h => by cases h
  | v :: vs, σ, i, h => by
    have key : ∀ (us : List Nat) (τ : L2.St) (j : Nat) (a : Option V), j ∉ us → L2.wipe (τ.set j a) us = (L2.wipe τ us).set j a := by
      intro us
      induction us with
      | nil => intro τ j a _; rfl
      | cons u us ih =>
        intro τ j a hj
        have hj' : j ≠ u ∧ j ∉ us := ⟨fun h => hj (h ▸ List.mem_cons_self), fun h => hj (List.mem_cons_of_mem _ h)⟩
        show (L2.wipe (τ.set j a) us).set u none = ((L2.wipe τ us).set u none).set j a
        rw [ih τ j a hj'.2, List.set_comm _ _ hj'.1]
    by_cases hm : i ∈ vs
    · show (L2.wipe (σ.set i s) vs).set v none = (L2.wipe σ vs).set v none
      rw [wipe_set hm]
    · have hv : i = v := by
        rcases List.mem_cons.mp h with z | z
        · exact z
        · exact absurd z hm
      subst hv
      show (L2.wipe (σ.set i s) vs).set i none = (L2.wipe σ vs).set i none
      rw [key vs σ i s hm, List.set_set]
theorem wipeR_set {t : T} : ∀ {vs : List Nat} {ρ : List T} {i : Nat}, i ∈ vs → wipeR (ρ.set i t) vs = wipeR ρ vs
  | [], _, _, h => by cases h
  | v :: vs, ρ, i, h => by
    have key : ∀ (us : List Nat) (τ : List T) (j : Nat) (a : T), j ∉ us → wipeR (τ.set j a) us = (wipeR τ us).set j a := by
      intro us
      induction us with
      | nil => intro τ j a _; rfl
      | cons u us ih =>
        intro τ j a hj
        have hj' : j ≠ u ∧ j ∉ us := ⟨fun h => hj (h ▸ List.mem_cons_self), fun h => hj (List.mem_cons_of_mem _ h)⟩
        show (wipeR (τ.set j a) us).set u .un = ((wipeR τ us).set u .un).set j a
        rw [ih τ j a hj'.2, List.set_comm _ _ hj'.1]
    by_cases hm : i ∈ vs
    · show (wipeR (ρ.set i t) vs).set v .un = (wipeR ρ vs).set v .un
      rw [wipeR_set hm]
    · have hv : i = v := by
        rcases List.mem_cons.mp h with z | z
        · exact z
        · exact absurd z hm
      subst hv
      show (wipeR (ρ.set i t) vs).set i .un = (wipeR ρ vs).set i .un
      rw [key vs ρ i t hm, List.set_set]
theorem wipe_wipe (σ : L2.St) : ∀ vs us : List Nat, (∀ v ∈ us, v ∈ vs) → L2.wipe (L2.wipe σ us) vs = L2.wipe σ vs
  | vs, [], _ => rfl
  | vs, u :: us, h => by
    show L2.wipe ((L2.wipe σ us).set u none) vs = _
    rw [wipe_set (h u List.mem_cons_self), wipe_wipe σ vs us fun v hv => h v (List.mem_cons_of_mem _ hv)]
section
variable {W : Wd} {b : Bs} {F F' : Hp} {ρ : List T} {σ : L2.St} {X : List Tm} {H H' : Hp}
def Bs.noio (b : Bs) : Bs := ⟨b.H0, b.F0, b.As, []⟩
theorem locX_noio : ∀ {X : List Tm} {xps : List (List Addr)}, LocX b X xps → LocX b.noio X xps
  | [], _, _ => trivial
  | _ :: _, [], _ => trivial
  | _ :: _, _ :: _, h => ⟨h.1, locX_noio h.2⟩
theorem locX_io : ∀ {X : List Tm} {xps : List (List Addr)}, LocX b.noio X xps → LocX b X xps
  | [], _, _ => trivial
  | _ :: _, [], _ => trivial
  | _ :: _, _ :: _, h => ⟨h.1, locX_io h.2⟩
theorem SR.noio (S : SR W b F ρ σ X H) : SR W b.noio F ρ σ X H := by
  obtain ⟨le, f0, fn, kept, stab, pin, fps, xps, s1, s2, ow, lc1, lc2⟩ := S
  exact ⟨le, f0, fn, kept, stab, ⟨(fun p hp => by cases hp), pin.2⟩, fps, xps, s1, s2, ow, lc1, locX_noio lc2⟩
theorem SR.io (S : SR W b.noio F' ρ σ X H') (h : ∀ p ∈ b.io, σ[p.1]? = some (some p.2)) : SR W b F' ρ σ X H' := by
  obtain ⟨le, f0, fn, kept, stab, pin, fps, xps, s1, s2, ow, lc1, lc2⟩ := S
  exact ⟨le, f0, fn, kept, stab, ⟨h, pin.2⟩, fps, xps, s1, s2, ow, lc1, locX_io lc2⟩
/-- a slot is forgotten -/
theorem SR.unset {i : Nat} (S : SR W b F ρ σ X H) (hio : b.io = []) : SR W b F (ρ.set i .un) (σ.set i none) X H := by
  obtain ⟨le, f0, fn, kept, stab, pin, fps, xps, s1, s2, ⟨nd, ow⟩, lc1, lc2⟩ := S
  have s1' : Slots W F H (ρ.set i .un) (σ.set i none) (fps.set i []) := Slots.set (s' := none) (u := .un) (f' := []) ⟨rfl, rfl⟩ i s1
  have mset : ∀ a ∈ (fps.set i []).flatten, a ∈ fps.flatten := fun a ha => (mem_set_flat ha).elim id fun z => nomatch z
  have n := List.nodup_append.mp nd
  have nset : (fps.set i []).flatten.Nodup := by
    by_cases hi : i < fps.length
    · exact nodup_set n.1 (List.getElem?_eq_getElem hi) List.nodup_nil (fun a ha => nomatch ha)
    · rw [List.set_eq_of_length_le (by omega)]; exact n.1
  refine ⟨le, f0, fn, kept, stab, ⟨(by rw [hio]; exact fun p hp => by cases hp), pin.2⟩, _, xps, s1', s2, ⟨List.nodup_append.mpr ⟨nset, n.2.1, fun a ha c hc e => n.2.2 a (mset a ha) c hc e⟩, fun a ha => ?_⟩, fun j f hj a ha => ?_, lc2⟩
  · rcases List.mem_append.mp ha with z | z
    · exact ow a (List.mem_append_left _ (mset a z))
    · exact ow a (List.mem_append_right _ z)
  · by_cases hij : i = j
    · subst hij
      rw [List.getElem?_set] at hj
      split at hj
      · split at hj
        · cases hj; cases ha
        · cases hj
      · exact lc1 _ f hj a ha
    · rw [List.getElem?_set_ne hij] at hj
      exact lc1 j f hj a ha
/-- .. and told again -/
theorem SR.reset {i : Nat} {ρ' : List T} {σ' : L2.St} (S : SR W b F (ρ'.set i .un) (σ'.set i none) X H) (hio : b.io = []) (h : ∀ t s, ρ'[i]? = some t → σ'[i]? = some s → Slot W F H t s []) (hl : ρ'.length = σ'.length) : SR W b F ρ' σ' X H := by
  by_cases hi : i < ρ'.length
  · obtain ⟨le, f0, fn, kept, stab, pin, fps, xps, s1, s2, ⟨nd, ow⟩, lc1, lc2⟩ := S
    have hlen := s1.len
    rw [List.length_set, List.length_set] at hlen
    have s1' := Slots.set (h ρ'[i] (σ'[i]'(by omega)) (List.getElem?_eq_getElem hi) (List.getElem?_eq_getElem _)) i s1
    rw [List.set_set, List.set_set] at s1'
    rw [List.set_getElem_self, List.set_getElem_self] at s1'
    have mset : ∀ a ∈ (fps.set i []).flatten, a ∈ fps.flatten := fun a ha => (mem_set_flat ha).elim id fun z => nomatch z
    have n := List.nodup_append.mp nd
    have nset : (fps.set i []).flatten.Nodup := nodup_set n.1 (List.getElem?_eq_getElem (show i < fps.length by omega)) List.nodup_nil (fun a ha => nomatch ha)
    refine ⟨le, f0, fn, kept, stab, ⟨(by rw [hio]; exact fun p hp => by cases hp), pin.2⟩, _, xps, s1', s2, ⟨List.nodup_append.mpr ⟨nset, n.2.1, fun a ha c hc e => n.2.2 a (mset a ha) c hc e⟩, fun a ha => ?_⟩, fun j f hj a ha => ?_, lc2⟩
    · rcases List.mem_append.mp ha with z | z
      · exact ow a (List.mem_append_left _ (mset a z))
      · exact ow a (List.mem_append_right _ z)
    · by_cases hij : i = j
      · subst hij
        rw [List.getElem?_set] at hj
        split at hj
        · split at hj
          · cases hj; cases ha
          · cases hj
        · exact lc1 _ f hj a ha
      · rw [List.getElem?_set_ne hij] at hj
        exact lc1 j f hj a ha
  · rw [List.set_eq_of_length_le (by omega), List.set_eq_of_length_le (by omega)] at S
    exact S
theorem SR.wipes (hio : b.io = []) : ∀ (vs : List Nat), SR W b F ρ σ X H → SR W b F (wipeR ρ vs) (L2.wipe σ vs) X H
  | [], S => S
  | v :: vs, S => (SR.wipes hio vs S).unset hio
/-- the slots that a block may have as its own: deep ones -/
def okW (ρ : List T) (vs : List Nat) : Bool := vs.all fun v => match ρ[v]? with
  | none => true
  | some .un => true
  | some (.f _) => true
  | _ => false
theorem wipeR_length (ρ : List T) : ∀ vs : List Nat, (wipeR ρ vs).length = ρ.length
  | [] => rfl
  | v :: vs => by show ((wipeR ρ vs).set v .un).length = _; rw [List.length_set, wipeR_length ρ vs]
theorem wipeR_at (ρ : List T) (i : Nat) : ∀ vs : List Nat, (wipeR ρ vs)[i]? = ρ[i]? ∨ (wipeR ρ vs)[i]? = some .un
  | [] => .inl rfl
  | v :: vs => by
    show ((wipeR ρ vs).set v .un)[i]? = _ ∨ ((wipeR ρ vs).set v .un)[i]? = _
    by_cases h : v = i
    · subst h
      by_cases hl : v < (wipeR ρ vs).length
      · rw [List.getElem?_set_self hl]; exact .inr rfl
      · rw [List.set_eq_of_length_le (by omega)]; exact wipeR_at ρ v vs
    · rw [List.getElem?_set_ne h]
      exact wipeR_at ρ i vs
theorem SR.unwipes {X' : List Tm} {us : List Nat} (hio : b.io = []) (S : SR W b F ρ σ X H) (i1 : Inc F F') (hw : okW ρ us = true) : ∀ (vs : List Nat), (∀ v ∈ vs, v ∈ us) → SR W b F' (wipeR ρ vs) (L2.wipe σ vs) X' H' → SR W b F' ρ σ X' H'
  | [], _, R => R
  | v :: vs, hv, R => by
    have R' : SR W b F' ((wipeR ρ vs).set v .un) ((L2.wipe σ vs).set v none) X' H' := R
    have Sv := SR.wipes hio vs S
    refine SR.unwipes hio S i1 hw vs (fun x hx => hv x (List.mem_cons_of_mem _ hx)) (R'.reset hio (fun t s et es => ?_) Sv.len)
    obtain ⟨s0, fp, e0, r⟩ := Sv.slot et
    rw [es] at e0
    cases e0
    have ht : t = .un ∨ ∃ d, t = .f d := by
      rcases wipeR_at ρ v vs with z | z
      · rw [z] at et
        have := List.all_eq_true.mp hw v (hv v List.mem_cons_self)
        rw [et] at this
        cases t with
        | un => exact .inl rfl
        | f d => exact .inr ⟨d, rfl⟩
        | _ => cases this
      · rw [z] at et; cases et; exact .inl rfl
    rcases ht with rfl | ⟨d, rfl⟩
    · cases s with
      | none => exact ⟨rfl, rfl⟩
      | some w => exact (rfl : ([] : List Addr) = [])
    · cases s with
      | none => exact nomatch r.1
      | some w => exact ⟨rfl, Rep.inc i1 r.2⟩
/-- the list that is being made -/
theorem SR.topApp {ds : List D} {d : D} {D0 : Addr} {y : V} (S : SR W b F ρ σ (⟨none, .l ds, .ref D0⟩ :: X) H) (r : Rep W F d y) : ∃ vs, H D0 = some (.lst vs) ∧ vs.length = ds.length ∧ SR W b F ρ σ (⟨none, .l (ds ++ [d]), .ref D0⟩ :: X) (upd H D0 (.lst (vs ++ [y]))) := by
  obtain ⟨vs, hD, rs⟩ : ∃ vs, H D0 = some (.lst vs) ∧ Reps W F ds vs := by
    obtain ⟨_, _, _, _, _, _, fps, xps, _, s2, _⟩ := S
    obtain ⟨v, vr, f, fr, e1, e2, r1, r2⟩ := s2
    obtain ⟨p, vs, ep, _, hp, rs⟩ := r1
    have e3 : V.ref D0 = v := (List.cons.inj e1).1
    rw [ep] at e3
    cases e3
    exact ⟨vs, hp, rs⟩
  refine ⟨vs, hD, rs.len.symm, ?_⟩
  refine S.wrX (t' := .l (ds ++ [d])) (o := .lst vs) fun fp rf nd hn => ?_
  obtain ⟨p, vs', ep, rfl, hp, rs'⟩ := rf
  cases ep
  rw [hD] at hp
  cases hp
  exact ⟨hD, stb_lstF rs, List.mem_singleton.mpr rfl, [D0], ⟨D0, _, rfl, rfl, upd_same, rs.append ⟨y, [], rfl, r, rfl⟩⟩, nd, fun a h => h⟩
end
/-- the block's contexts -/
def cB (c : Ctx) (scope : Scope) : Ctx where
  J := c.J × Shared × Hp × Addr × List (Str × Addr) × List Addr
  X := fun q => (c.X q.1).blk q.2.1 q.2.2.1 scope (compEnvC scope q.2.2.2.2.1 q.2.2.2.1 (c.X q.1).env) q.2.2.2.2.2
  W := c.W
  P := ⟨c.P.m, [], []⟩
  E := fun _ _ _ _ => False
  N := c.N
  k := c.k
  hK := fun q => c.hK q.1
  hw := fun q => c.hw q.1
  hN := fun q => c.hN q.1
  nd := c.nd
  calm := fun q => c.calm q.1
  room := fun q => c.room q.1
def Tvs (c : Ctx) (es : List Expr) (f : List T → Option Bool) : Prop := ∃ t, (∀ j, PTs (c.X j) es t) ∧ Stv c.W t f
def tYesF : List T → Option Bool := fun _ => some true
theorem tvs_nil {c : Ctx} : Tvs c [] tYesF := ⟨_, fun _ => pts_nil, fun b F ρ σ X H cc Q S e k => by cases e; exact k F H S (Inc.refl F) (Same.refl H)⟩
theorem tvs_one {c : Ctx} {e : Expr} {f : List T → Option Bool} (h : Tv c e f) : Tvs c [e] f := by
  obtain ⟨t, p, s⟩ := h
  exact ⟨t, fun j => pts_one (p j), s⟩
def lcF (fg : T → List T → Option (List T)) (ft : List T → Option Bool) (fe : List T → Option T) (ρ0 : List T) : List D → Option (List D)
  | [] => some []
  | d :: ds => (fg (.f d) ρ0).bind fun ρ1 => (ft ρ1).bind fun b => if b = true then (fe ρ1).bind fun t => t.d?.bind fun e => (lcF fg ft fe ρ0 ds).map fun r => e :: r else lcF fg ft fe ρ0 ds
def fLc (vs : List Nat) (fi : List T → Option (List D)) (fg : T → List T → Option (List T)) (ft : List T → Option Bool) (fe : List T → Option T) : List T → Option T :=
  fun ρ => if okW ρ vs = true then (fi ρ).bind fun ds => (lcF fg ft fe (wipeR ρ vs) ds).bind fun es => if es.length ≤ sizeLine then some (.f (.lst es)) else none else none
theorem slc_core {W : Wd} {wi : TI} {g : TG} {tt : TT} {te : TE} {vs : List Nat} {fi : List T → Option (List D)} {fg : T → List T → Option (List T)} {ft : List T → Option Bool} {fe : List T → Option T}
    (hi : Sip W wi fi) (hg : Sgc W g fg vs) (hgw : ∀ t ρ ρ', fg t ρ = some ρ' → wipeR ρ' vs = wipeR ρ vs) (ht : Stv W tt ft) (he : Sv W te fe) {b : Bs} {F : Hp} {ρ : List T} {σ : L2.St} {X : List Tm} {H : Hp} {ds es : List D} {Q : VK} (S : SR W b F ρ σ X H) (hok : okW ρ vs = true) (e1 : fi ρ = some ds) (e2 : lcF fg ft fe (wipeR ρ vs) ds = some es) (hz : es.length ≤ sizeLine)
    (k : ∀ D0 F' H', SR W b F' ρ σ (⟨none, .l es, .ref D0⟩ :: X) H' → Inc F F' → Same H H' → Q (.ref D0) H') : tLc wi g tt te vs σ H Q := by
  refine hi b F ρ σ X H ds _ S e1 fun J F1 H1 S1 i1 s1 wk => ?_
  intro D0 hD
  have S2 : SR W b F1 ρ σ (⟨none, .l [], .ref D0⟩ :: X) (upd H1 D0 (.lst [])) := S1.own hD ⟨D0, [], rfl, rfl, upd_same, rfl⟩
  have s2 : Same H1 (upd H1 D0 (.lst [])) := fun a u e => by rw [upd_ne (ne_of_none e hD)]; exact e
  refine ⟨fun i m H' => m = ds.length - i ∧ i ≤ ds.length ∧ ∃ F' acc rest, SR W b F' ρ σ (⟨none, .l acc, .ref D0⟩ :: X) H' ∧ Inc F1 F' ∧ Same H1 H' ∧ lcF fg ft fe (wipeR ρ vs) (ds.drop i) = some rest ∧ acc ++ rest = es, ⟨ds.length, by simp, Nat.zero_le _, F1, [], es, S2, Inc.refl F1, s2, e2, rfl⟩, ?_⟩
  rintro i m H' ⟨rfl, hi2, F2, acc, rest, S3, i2, s3, e3, e4⟩
  by_cases hlt : i < ds.length
  · refine .inr ⟨wk.go i F2 H' i2 S3.le hlt, fun H'' => i + 1 ≤ ds.length ∧ ∃ F' acc rest, SR W b F' ρ σ (⟨none, .l acc, .ref D0⟩ :: X) H'' ∧ Inc F1 F' ∧ Same H1 H'' ∧ lcF fg ft fe (wipeR ρ vs) (ds.drop (i + 1)) = some rest ∧ acc ++ rest = es, fun H'' h => ⟨ds.length - (i + 1), by omega, rfl, h⟩, fun x H3 y => ?_⟩
    have hd : ds[i]? = some ds[i] := List.getElem?_eq_getElem hlt
    rw [List.drop_eq_getElem_cons hlt] at e3
    obtain ⟨ρ1, e5, e3⟩ := Option.bind_eq_some_iff.mp (show (fg (.f ds[i]) (wipeR ρ vs)).bind _ = some rest from e3)
    obtain ⟨c, e6, e3⟩ := Option.bind_eq_some_iff.mp e3
    -- the item
    obtain ⟨F3, S4, i3, s4⟩ : ∃ F3, SR W b F3 ρ σ (⟨none, .f ds[i], x⟩ :: ⟨none, .l acc, .ref D0⟩ :: X) H3 ∧ Inc F2 F3 ∧ Same H' H3 := by
      rcases wk.yld i F2 H' x H3 ds[i] i2 S3.le hd y with ⟨e, r⟩ | ⟨p, o, hp, e, ex, r⟩
      · subst e
        exact ⟨F2, S3.push r, Inc.refl F2, Same.refl _⟩
      · subst e ex
        obtain ⟨S', i', s'⟩ := S3.laid (o := o) hp
        exact ⟨_, S'.push (r i'), i', s'⟩
    have S5 := SR.wipes (b := b.noio) rfl vs S4.noio
    have S0 := S4.drop.noio
    refine hg b.noio F3 _ ρ1 _ _ H3 _ x _ S5 rfl e5 fun σ4 F4 H4 S6 i4 s5 hw => ?_
    have hw2 : L2.wipe σ4 vs = L2.wipe σ vs := by rw [hw, wipe_wipe σ vs vs fun v h => h]
    refine ⟨hw2, ?_⟩
    refine ht b.noio F4 ρ1 σ4 _ H4 c _ S6 e6 fun F5 H5 S7 i5 s6 => ?_
    have back : ∀ {F6 H6 Y}, SR W b.noio F6 ρ1 σ4 Y H6 → Inc F3 F6 → SR W b F6 ρ σ Y H6 := fun {F6 H6 Y} R ii => by
      have R1 := SR.wipes (b := b.noio) rfl vs R
      rw [hw2, hgw _ _ _ e5] at R1
      have hwR : wipeR (wipeR ρ vs) vs = wipeR ρ vs := by
        have key : ∀ (l l' : List Nat), (∀ v ∈ l', v ∈ l) → wipeR (wipeR ρ l') l = wipeR ρ l := by
          intro l l'
          induction l' with
          | nil => intro _; rfl
          | cons u l' ih =>
            intro h
            show wipeR ((wipeR ρ l').set u .un) l = _
            rw [wipeR_set (h u List.mem_cons_self)]
            exact ih fun v hv => h v (List.mem_cons_of_mem _ hv)
        exact key vs vs fun v h => h
      rw [hwR] at R1
      exact (SR.unwipes rfl S0 ii hok vs (fun v h => h) R1).io S4.pin.1
    cases c with
    | false =>
      simp only [Bool.false_eq_true, if_false] at e3 ⊢
      exact ⟨hlt, F5, acc, rest, back S7 (i4.trans i5), ((i2.trans i3).trans i4).trans i5, ((s3.trans s4).trans s5).trans s6, e3, e4⟩
    | true =>
      simp only [if_true] at e3 ⊢
      obtain ⟨t, e7, e3⟩ := Option.bind_eq_some_iff.mp e3
      obtain ⟨e, e8, e3⟩ := Option.bind_eq_some_iff.mp e3
      obtain ⟨r, e9, e3⟩ := Option.map_eq_some_iff.mp e3
      subst e3
      cases d_some e8
      refine he b.noio F5 ρ1 σ4 _ H5 _ _ S7 e7 fun w F6 H6 S8 i6 s7 r6 => ?_
      have S9 := back S8 ((i4.trans i5).trans i6)
      obtain ⟨us, hD6, hl6, S10⟩ := S9.topApp r6.rep
      have hlen : acc.length + (r.length + 1) ≤ sizeLine := by
        have := hz
        rw [← e4, List.length_append, List.length_cons] at this
        exact this
      refine ⟨us, hD6, by omega, hlt, F6, acc ++ [e], r, S10, (((i2.trans i3).trans i4).trans i5).trans i6, ?_, e9, by rw [List.append_assoc]; exact e4⟩
      have s10 := (((s3.trans s4).trans s5).trans s6).trans s7
      intro a u ea
      have : a ≠ D0 := fun z => by rw [z, hD] at ea; cases ea
      rw [upd_ne this]
      exact s10 a u ea
  · have hi3 : i = ds.length := by omega
    subst hi3
    rw [List.drop_length] at e3
    cases e3
    rw [List.append_nil] at e4
    subst e4
    refine .inl ⟨wk.stop F2 H' i2 S3.le, ?_⟩
    exact k D0 F2 H' S3 (i1.trans i2) (s1.trans s3)
theorem sv_lc {W : Wd} {wi : TI} {g : TG} {tt : TT} {te : TE} {vs : List Nat} {fi : List T → Option (List D)} {fg : T → List T → Option (List T)} {ft : List T → Option Bool} {fe : List T → Option T}
    (hi : Sip W wi fi) (hg : Sgc W g fg vs) (hgw : ∀ t ρ ρ', fg t ρ = some ρ' → wipeR ρ' vs = wipeR ρ vs) (ht : Stv W tt ft) (he : Sv W te fe) : Sv W (tLc wi g tt te vs) (fLc vs fi fg ft fe) := by
  intro b F ρ σ X H τ Q S eq k
  unfold fLc at eq
  split at eq
  · rename_i hok
    obtain ⟨ds, e1, eq⟩ := Option.bind_eq_some_iff.mp eq
    obtain ⟨es, e2, eq⟩ := Option.bind_eq_some_iff.mp eq
    split at eq
    · rename_i hz
      cases eq
      refine slc_core hi hg hgw ht he S hok e1 e2 hz fun D0 F2 H' S3 i2 s2 => ?_
      obtain ⟨F3, S4, i3⟩ := S3.frz (d := .lst es) rfl rfl
      exact k _ F3 H' S4.drop (i2.trans i3) s2 (.f S4.top)
    · cases eq
  · cases eq
end Z
namespace Z
open PySem PySem.Spec PyProof.Rows L2
/-! ### their parts -/
section
variable {c : Ctx} {tg e e2 : Expr} {fe : List T → Option T} {fs : List T → Option (List T)} {p pos : Pos} {pos' : Pos}
def jVal (fe : List T → Option T) : List T → Option (List D) := fun ρ => (fe ρ).bind fun t => match t with
  | .f d => d.its
  | _ => none
theorem ip_val (he : Ev c e fe) : Ip c tg e (jVal fe) := by
  obtain ⟨t, q, s⟩ := he
  refine ⟨_, fun j => pi_of (q j) (by have h := iv_U (X := c.X j) (tg := tg); rw [c.hK j] at h; exact h), ?_⟩
  intro b F ρ σ X H ds R S eq k
  unfold jVal at eq
  obtain ⟨τ, e1, eq⟩ := Option.bind_eq_some_iff.mp eq
  refine s b F ρ σ X H _ _ S e1 fun v F1 H1 S1 i1 s1 r1 => ?_
  cases τ with
  | f d =>
    cases d with
    | lst l =>
      cases eq
      obtain ⟨a, vs, ex, hs, r⟩ := r1.rep
      subst ex
      exact .inl ⟨a, rfl, ⟨vs, SqL.le S1.le hs⟩, k _ F1 H1 S1 i1 s1 (wk_list hs r)⟩
    | nst l =>
      cases eq
      obtain ⟨a, vs, ex, hs, _, r⟩ := r1.rep
      subst ex
      exact .inl ⟨a, rfl, ⟨vs, SqL.le S1.le (SqL.of hs)⟩, k _ F1 H1 S1 i1 s1 (wk_list (SqL.of hs) r)⟩
    | tup l =>
      cases eq
      obtain ⟨a, vs, ex, hs, r⟩ := r1.rep
      subst ex
      exact .inr (.inl ⟨a, rfl, ⟨vs, SqT.le S1.le hs⟩, k _ F1 H1 S1 i1 s1 (wk_tup hs r)⟩)
    | str x =>
      cases eq
      exact .inr (.inr ⟨x, r1.rep, k _ F1 H1 S1 i1 s1 wk_str⟩)
    | _ => cases eq
  | _ => cases eq
def jL1 (g : List D → List D) (fs : List T → Option (List T)) : List T → Option (List D) := fun ρ => (fs ρ).bind fun ts => match ts with
  | [.f (.lst ds)] => some (g ds)
  | _ => none
def jL2 (g : List D → List D → List D) (fs : List T → Option (List T)) : List T → Option (List D) := fun ρ => (fs ρ).bind fun ts => match ts with
  | [.f (.lst ds), .f (.lst es)] => some (g ds es)
  | _ => none
def jR1 (fs : List T → Option (List T)) : List T → Option (List D) := fun ρ => (fs ρ).bind fun ts => match ts with
  | [.f (.int n)] => if -(2 ^ 62) ≤ n ∧ n < 2 ^ 62 then some (rangeD 0 n.toNat) else none
  | _ => none
def jR2 (fs : List T → Option (List T)) : List T → Option (List D) := fun ρ => (fs ρ).bind fun ts => match ts with
  | [.f (.int m), .f (.int n)] => if -(2 ^ 62) ≤ m ∧ m < 2 ^ 62 ∧ -(2 ^ 62) ≤ n ∧ n < 2 ^ 62 then some (rangeD m (n - m).toNat) else none
  | _ => none
theorem ip_enum {elts : List Expr} {kk : Nat} {tpos : Pos} (hg : ∀ j, Gl (c.X j) "enumerate") (hm : ∀ j, (c.X j).mg "enumerate" = none) (ha : Av c [e] fs) (hs : ∀ j, starEach [e] (c.X j).env = [(false, eval e (c.X j).env)] := by intro _; rfl) :
    Ip c (.Tuple elts kk tpos) (.Call (.Name "enumerate" p) [e] [] pos) (jL1 (enumD 0) fs) := by
  obtain ⟨t, q, s⟩ := ha
  refine ⟨iEnum c.W.K t, fun j => by have h := pi_enum (p := p) (pos := pos) (tpos := tpos) (elts := elts) (kk := kk) (hg j) (hm j) (q j) (hs j); rw [c.hK j] at h; exact h, ?_⟩
  intro b F ρ σ X H r R S e k
  unfold jL1 at e
  obtain ⟨ts, e1, e⟩ := Option.bind_eq_some_iff.mp e
  refine s b F ρ σ X H ts _ S e1 fun vs F1 H1 S1 i1 s1 r1 => ?_
  match ts, e with
  | [.f (.lst ds)], e =>
    cases e
    obtain ⟨x, rfl, r2⟩ := rv1 r1
    obtain ⟨a, us, ex, hs, q⟩ := r2.rep
    subst ex
    exact ⟨a, us, rfl, SqL.le S1.le hs, k _ F1 H1 S1 i1 s1 (wk_enum hs q)⟩
theorem ip_rev (hg : ∀ j, Gl (c.X j) "reversed") (hm : ∀ j, (c.X j).mg "reversed" = none) (ha : Av c [e] fs) (hs : ∀ j, starEach [e] (c.X j).env = [(false, eval e (c.X j).env)] := by intro _; rfl) :
    Ip c tg (.Call (.Name "reversed" p) [e] [] pos) (jL1 List.reverse fs) := by
  obtain ⟨t, q, s⟩ := ha
  refine ⟨iRev c.W.K t, fun j => by have h := pi_reversed (tg := tg) (p := p) (pos := pos) (hg j) (hm j) (q j) (hs j); rw [c.hK j] at h; exact h, ?_⟩
  intro b F ρ σ X H r R S e k
  unfold jL1 at e
  obtain ⟨ts, e1, e⟩ := Option.bind_eq_some_iff.mp e
  refine s b F ρ σ X H ts _ S e1 fun vs F1 H1 S1 i1 s1 r1 => ?_
  match ts, e with
  | [.f (.lst ds)], e =>
    cases e
    obtain ⟨x, rfl, r2⟩ := rv1 r1
    obtain ⟨a, us, ex, hs, q⟩ := r2.rep
    subst ex
    exact ⟨a, us, rfl, SqL.le S1.le hs, k _ F1 H1 S1 i1 s1 (wk_rev hs q)⟩
theorem ip_zip {elts : List Expr} {kk : Nat} {tpos : Pos} (hg : ∀ j, Gl (c.X j) "zip") (hm : ∀ j, (c.X j).mg "zip" = none) (ha : Av c [e, e2] fs) (hs : ∀ j, starEach [e, e2] (c.X j).env = (false, eval e (c.X j).env) :: starEach [e2] (c.X j).env := by intro _; rfl) (hpl : ∀ j, (backTo pos (starEach [e2] (c.X j).env)).any (·.1) = false := by intro _; rfl) :
    Ip c (.Tuple elts kk tpos) (.Call (.Name "zip" p) [e, e2] [] pos) (jL2 zipD fs) := by
  obtain ⟨t, q, s⟩ := ha
  refine ⟨iZip c.W.K t, fun j => by have h := pi_zip (p := p) (pos := pos) (tpos := tpos) (elts := elts) (kk := kk) (hg j) (hm j) (q j) (hs j) (hpl j); rw [c.hK j] at h; exact h, ?_⟩
  intro b F ρ σ X H r R S e k
  unfold jL2 at e
  obtain ⟨ts, e1, e⟩ := Option.bind_eq_some_iff.mp e
  refine s b F ρ σ X H ts _ S e1 fun vs F1 H1 S1 i1 s1 r1 => ?_
  match ts, e with
  | [.f (.lst ds), .f (.lst es)], e =>
    cases e
    obtain ⟨x, y, rfl, r2, r3⟩ := rv2 r1
    obtain ⟨a, us, ex, hs, q⟩ := r2.rep
    obtain ⟨a2, us2, ex2, hs2, q2⟩ := r3.rep
    subst ex ex2
    exact ⟨a, a2, us, us2, rfl, SqL.le S1.le hs, SqL.le S1.le hs2, k _ F1 H1 S1 i1 s1 (wk_zip hs q hs2 q2)⟩
theorem ip_range1 (hg : ∀ j, Gl (c.X j) "range") (hm : ∀ j, (c.X j).mg "range" = none) (ha : Av c [e] fs) (hs : ∀ j, starEach [e] (c.X j).env = [(false, eval e (c.X j).env)] := by intro _; rfl) : Ip c tg (.Call (.Name "range" p) [e] [] pos) (jR1 fs) := by
  obtain ⟨t, q, s⟩ := ha
  refine ⟨_, fun j => pi_range1 (hg j) (hm j) (q j) (hs j), ?_⟩
  intro b F ρ σ X H r R S e k
  unfold jR1 at e
  obtain ⟨ts, e1, e⟩ := Option.bind_eq_some_iff.mp e
  refine s b F ρ σ X H ts _ S e1 fun vs F1 H1 S1 i1 s1 r1 => ?_
  match ts, e with
  | [.f (.int n)], e =>
    simp only at e
    split at e
    · rename_i hn
      cases e
      obtain ⟨x, rfl, r2⟩ := rv1 r1
      exact ⟨n, by rw [show x = V.int n from r2.rep], hn.1, hn.2, k _ F1 H1 S1 i1 s1 wk_range⟩
    · cases e
theorem ip_range2 (hg : ∀ j, Gl (c.X j) "range") (hm : ∀ j, (c.X j).mg "range" = none) (ha : Av c [e, e2] fs) (hs : ∀ j, starEach [e, e2] (c.X j).env = [(false, eval e (c.X j).env), (false, eval e2 (c.X j).env)] := by intro _; rfl) (hs2 : ∀ j, starEach [e2] (c.X j).env = [(false, eval e2 (c.X j).env)] := by intro _; rfl) : Ip c tg (.Call (.Name "range" p) [e, e2] [] pos) (jR2 fs) := by
  obtain ⟨t, q, s⟩ := ha
  refine ⟨_, fun j => pi_range2 (hg j) (hm j) (q j) (hs j) (hs2 j), ?_⟩
  intro b F ρ σ X H r R S e k
  unfold jR2 at e
  obtain ⟨ts, e1, e⟩ := Option.bind_eq_some_iff.mp e
  refine s b F ρ σ X H ts _ S e1 fun vs F1 H1 S1 i1 s1 r1 => ?_
  match ts, e with
  | [.f (.int m), .f (.int n)], e =>
    simp only at e
    split at e
    · rename_i hn
      cases e
      obtain ⟨x, y, rfl, r2, r3⟩ := rv2 r1
      exact ⟨m, n, by rw [show x = V.int m from r2.rep, show y = V.int n from r3.rep], hn, k _ F1 H1 S1 i1 s1 wk_range⟩
    · cases e
end
/-! targets -/
section
variable {c : Ctx} {e : Expr} {es : List Expr} {pos : Pos} {f : T → List T → Option (List T)} {fs : List T → List T → Option (List T)} {vs : List Nat}
theorem gc_n (i : Nat) {x : Str} (hm : vs.contains i = true := by rfl) (hi : c.N[i]? = some x := by rfl) (hx : ∀ j, L2.Loc (c.X j).env.scope x := by intro _; first | exact Or.inl rfl | exact Or.inr rfl) (hf : ∀ j, (c.X j).fn x = true ∨ (c.X j).env.scope.names.lookup x = some .local := by intro _; first | exact Or.inl rfl | exact Or.inr rfl) : Gc c (.Name x pos) (gSet i) vs := by
  have hmem : i ∈ vs := List.contains_iff_mem.mp hm
  refine ⟨_, fun j => pg_name (i := i) (c.hNd j) (by rw [c.hN j]; exact hi) (hx j) (hf j), ?_, fun t ρ ρ' h => by cases h; exact wipeR_set hmem⟩
  intro b F ρ ρ' σ X H t v Q S hio e k
  cases e
  exact k _ F H (S.store (.inl rfl) (.inl (by rw [hio]; exact fun p hp => by cases hp))) (Inc.refl F) (Same.refl H) (wipe_set hmem)
theorem gcs_nil : Gcs c [] gsNil vs := by
  refine ⟨_, fun _ => pgs_nil, ?_, fun ts ρ ρ' h => by cases ts <;> cases h; rfl⟩
  intro b F ρ ρ' σ X H ts us Q hl S hio e k
  cases ts with
  | nil =>
    cases us with
    | nil => cases e; exact ⟨rfl, k _ F H S (Inc.refl F) (Same.refl H) rfl⟩
    | cons _ _ => cases hl
  | cons _ _ => cases e
theorem gcs_cons (h : Gc c e f vs) (k : Gcs c es fs vs) (hs : ∀ j, (assignEach (e :: es) (c.X j).env).map (·.2) = assign e (c.X j).env :: (assignEach es (c.X j).env).map (·.2) := by intro _; rfl) : Gcs c (e :: es) (gsCons f fs) vs := by
  obtain ⟨g, p, q, w⟩ := h
  obtain ⟨g', p', q', w'⟩ := k
  refine ⟨_, fun j => pgs_cons (p j) (p' j) (hs j), ?_, fun ts ρ ρ' h => ?_⟩
  · intro b F ρ ρ' σ X H ts us Q hl S hio e k
    cases ts with
    | nil => cases e
    | cons t ts =>
      cases us with
      | nil => cases hl
      | cons v us =>
        obtain ⟨ρ1, e1, e⟩ := Option.bind_eq_some_iff.mp (show (f t ρ).bind _ = _ from e)
        refine ⟨v, us, rfl, q b F ρ ρ1 σ (Xn ts us ++ X) H t v _ S hio e1 fun σ' F' H' S' i s hw => ?_⟩
        exact q' b F' ρ1 ρ' σ' X H' ts us Q (by simpa using hl) S' hio e fun σ2 F2 H2 S2 i2 s2 hw2 => k σ2 F2 H2 S2 (i.trans i2) (s.trans s2) (hw2.trans hw)
  · cases ts with
    | nil => cases h
    | cons t ts =>
      obtain ⟨ρ1, e1, e⟩ := Option.bind_eq_some_iff.mp (show (f t ρ).bind _ = _ from h)
      rw [w' _ _ _ e, w _ _ _ e1]
theorem gc_tup {n m : Nat} (h : Gcs c es fs vs) (hn : ∀ j, (assignEach es (c.X j).env).length = n := by intro _; rfl) (hst : ∀ j, (assignEach es (c.X j).env).findIdx? (·.1) = none := by intro _; rfl) : Gc c (.Tuple es m pos) (gTupT n fs) vs := by
  obtain ⟨g, p, q, w⟩ := h
  refine ⟨L2.gTup c.W.K n g, fun j => ?_, ?_, fun t ρ ρ' h => ?_⟩
  · have := pg_tup (pos := pos) (k := m) (c.calm j) (p j) (hn j) (hst j)
    rw [c.hK j] at this
    exact this
  · intro b F ρ ρ' σ X H t v Q S hio e k
    unfold gTupT at e
    cases t with
    | f d => cases d with
      | tup ds =>
        simp only at e
        split at e
        · rename_i hl
          obtain ⟨p, us, ex, hs, r⟩ := S.top
          refine ⟨p, us, ex, SqT.le S.le hs, by rw [← r.len]; exact hl, ?_⟩
          exact q b F ρ ρ' σ X H (ds.map .f) us Q (by rw [List.length_map]; exact r.len) (S.drop.pushes r) hio e k
        · cases e
      | _ => cases e
    | _ => cases e
  · unfold gTupT at h
    cases t with
    | f d => cases d with
      | tup ds =>
        simp only at h
        split at h
        · exact w _ _ _ h
        · cases h
      | _ => cases h
    | _ => cases h
end
/-! the whole -/
section
variable {c : Ctx} {elt tg iter : Expr} {ifs : List Expr} {scope : Scope} {pos spos : Pos} {fi : List T → Option (List D)} {fg : T → List T → Option (List T)} {ft : List T → Option Bool} {fe : List T → Option T}
theorem ev_lc (own : List (Str × Nat)) (hi : Ip c tg iter fi) (hg : Gc (cB c scope) tg fg (own.map (·.2))) (ht : Tvs (cB c scope) ifs ft) (he : Ev (cB c scope) elt fe) (ok : ∀ j, blkC c.N (c.X j).env.scope scope own = true := by intro _; rfl)
    (hs : ∀ j x, foldedSetIterable iter (c.X j).env x = pure x := by intro _ _; rfl) : Ev c (.ListComp elt [⟨tg, iter, ifs, 0⟩] scope pos) (fLc (own.map (·.2)) fi fg ft fe) := by
  obtain ⟨wi, pi, si⟩ := hi
  obtain ⟨g, pg, sg, wg⟩ := hg
  obtain ⟨tt, pt, st⟩ := ht
  obtain ⟨te, pe, se⟩ := he
  exact ⟨tLc wi g tt te (own.map (·.2)), fun j => pe_lc (c.calm j) (c.hNd j) (pi j) (blkOk_by (by rw [c.hN j]; exact ok j)) (fun s H C cl fp => pg (j, s, H, C, cl, fp)) (fun s H C cl fp => pt (j, s, H, C, cl, fp)) (fun s H C cl fp => pe (j, s, H, C, cl, fp)) (hs j), sv_lc si sg wg st se⟩
theorem sm_setLc (i : Nat) {y : Str} {py : Pos} (own : List (Str × Nat)) (hi : Ip c tg iter fi) (hg : Gc (cB c scope) tg fg (own.map (·.2))) (ht : Tvs (cB c scope) ifs ft) (he : Ev (cB c scope) elt fe) (ok : ∀ j, blkC c.N (c.X j).env.scope scope own = true := by intro _; rfl)
    (hy : c.N[i]? = some y := by rfl) (hyl : ∀ j, (c.X j).env.scope.names.lookup y = some .local := by intro _; rfl) (hio : c.P.io.contains i = false := by rfl)
    (hsw : ∀ j, swapsWith (.ListComp elt [⟨tg, iter, ifs, 0⟩] scope pos) (some (.Name y py)) spos.line (c.X j).env = pure true := by intro _; rfl)
    (hs : ∀ j x, foldedSetIterable iter (c.X j).env x = pure x := by intro _ _; rfl) : Sm c (.Assign [.Name y py] (.ListComp elt [⟨tg, iter, ifs, 0⟩] scope pos) spos) (sSet i (lift (fLc (own.map (·.2)) fi fg ft fe))) := by
  obtain ⟨wi, pi, si⟩ := hi
  obtain ⟨g, pg, sg, wg⟩ := hg
  obtain ⟨tt, pt, st⟩ := ht
  obtain ⟨te, pe, se⟩ := he
  refine ⟨tAsg (tLc wi g tt te (own.map (·.2))) (gName i), fun j => ps_setLc (c.calm j) (c.hNd j) (by rw [c.hN j]; exact hy) (hyl j) (hsw j) (pi j) (blkOk_by (by rw [c.hN j]; exact ok j)) (fun s H C cl fp => pg (j, s, H, C, cl, fp)) (fun s H C cl fp => pt (j, s, H, C, cl, fp)) (fun s H C cl fp => pe (j, s, H, C, cl, fp)) (hs j), ?_⟩
  intro b F ρ σ X H o D hb S eq k
  unfold sSet lift at eq
  obtain ⟨r, e1, eq⟩ := Option.map_eq_some_iff.mp eq
  obtain ⟨t, e2, e3⟩ := Option.bind_eq_some_iff.mp e1
  obtain ⟨d, e4, e5⟩ := Option.map_eq_some_iff.mp e3
  subst e5 eq
  cases d_some e4
  refine sv_lc si sg wg st se b F ρ σ X H _ _ S e2 fun v F1 H1 S1 i1 s1 r1 => ?_
  exact k _ F1 H1 ((S1.push (o := none) r1.rep).store (.inl rfl) (.inl (notio hb (notin_of hio)))) i1
end
/-! ### a local becomes deep data between two statements -/
def fzS (i : Nat) (ρ : List T) : Option (List T) := match ρ[i]? with
  | some .un => some ρ
  | some t => t.fz.map fun d => ρ.set i (.f d)
  | none => none
def sFz (i : Nat) (f : FS) : FS := fun ρ => (fzS i ρ).bind f
theorem sms_fz (i : Nat) {c : Ctx} {ss : List Stmt} {f : FS} (h : Sms c ss f) (hm : Nat.ble c.P.m i = true := by rfl) (hio : c.P.io.contains i = false := by rfl) : Sms c ss (sFz i f) := by
  obtain ⟨t, p, q⟩ := h
  refine ⟨t, p, ?_⟩
  intro b F ρ σ X H o D hb S e k
  unfold sFz at e
  obtain ⟨ρ1, e1, e⟩ := Option.bind_eq_some_iff.mp e
  unfold fzS at e1
  cases q1 : ρ[i]? with
  | none => rw [q1] at e1; cases e1
  | some t1 =>
    by_cases hu : t1 = .un
    · subst hu
      rw [q1] at e1
      cases e1
      exact q b F ρ σ X H o D hb S e k
    · obtain ⟨d, e2, e3⟩ : ∃ d, t1.fz = some d ∧ ρ.set i (.f d) = ρ1 := by
        rw [q1] at e1
        cases t1 with
        | un => exact absurd rfl hu
        | _ => exact Option.map_eq_some_iff.mp e1
      subst e3
      obtain ⟨s, fp, e4, r⟩ := S.slot q1
      cases s with
      | none => exact absurd r.1 hu
      | some v =>
        have S' := S.take q1 e4
        -- it is new
        have S2 : SR c.W b F (ρ.set i .un) σ (⟨none, t1, v⟩ :: X) H := by
          obtain ⟨le, f0, fn, kept, stab, pin, fps, xps, s1, s2, ow, lc1, lc2⟩ := S'
          refine ⟨le, f0, fn, kept, stab, pin, fps, xps, s1, s2, ow, lc1, ?_⟩
          cases xps with
          | nil => exact trivial
          | cons f fs => exact lc2
        obtain ⟨F3, S3, i3⟩ := S2.frz rfl e2
        have S4 := S3.store (i := i) (.inl rfl) (.inl (notio hb (notin_of hio)))
        have eσ : σ.set i (some v) = σ := by
          apply List.ext_getElem?
          intro j
          by_cases h : j = i
          · subst h
            have := (List.getElem?_eq_some_iff.mp e4).1
            rw [List.getElem?_set_self (by omega), e4]
          · rw [List.getElem?_set_ne (fun e => h e.symm)]
        rw [eσ, List.set_set] at S4
        exact q b F3 _ σ X H o D hb S4 e (k.mono i3)
section
variable {c : Ctx} {a : Expr} {fa : List T → Option T} {pos : Pos} {ss : List Stmt} {e : Expr} {f : List T → Option T} {fb : List T → Option Bool}
theorem sv_isN {W : Wd} {ta : TE} (sa : Sv W ta fa) : Sv W (tIsN ta) (fIsN false fa) := by
  intro b F ρ σ X H τ Q S e k
  obtain ⟨t, e1, e⟩ := Option.bind_eq_some_iff.mp e
  refine sa b F ρ σ X H t _ S e1 fun v F1 H1 S1 i1 s1 r1 => ?_
  have := isN_out r1 e
  subst this
  rw [Bool.false_xor] at k
  exact (k.mono i1 s1).d S1 rfl
theorem sv_notN {W : Wd} {ta : TE} (sa : Sv W ta fa) : Sv W (tNotN ta) (fIsN true fa) := by
  intro b F ρ σ X H τ Q S e k
  obtain ⟨t, e1, e⟩ := Option.bind_eq_some_iff.mp e
  refine sa b F ρ σ X H t _ S e1 fun v F1 H1 S1 i1 s1 r1 => ?_
  have := isN_out r1 e
  subst this
  rw [Bool.true_xor] at k
  exact (k.mono i1 s1).d S1 rfl
theorem tv_isN {m : Nat} {p2 : Pos} (ha : Ev c a fa) : Tv c (.Compare a [.Is] [.Constant .none m p2] pos) (fT (fIsN false fa)) := by
  obtain ⟨ta, pa, sa⟩ := ha
  exact ⟨_, fun j => pt_cmp (pc_isN (pa j)) rfl, stv_test (sv_isN sa)⟩
theorem tv_notN {m : Nat} {p2 : Pos} (ha : Ev c a fa) : Tv c (.Compare a [.IsNot] [.Constant .none m p2] pos) (fT (fIsN true fa)) := by
  obtain ⟨ta, pa, sa⟩ := ha
  exact ⟨_, fun j => pt_cmp (pc_notN (pa j)) rfl, stv_test (sv_notN sa)⟩
theorem evo (h : Ev c e f) : Eo c e (lift f) := h.o
theorem tvo (h : Tv c e fb) : To c e (liftB fb) := h.o
theorem wvt (h : Wv c e fb) : Tv c e fb := h.tv
end
end Z

namespace Z
open PySem PySem.Spec PyProof.Rows L2
/-! ### objects -/
def atD : List Str → List D → Str → Option D
  | n :: ns, d :: ds, x => if n = x then some d else atD ns ds x
  | _, _, _ => none
def gAtt (C : Nat) (f : Str) : T → Option T
  | .f (.obj C' ns ds) => if C' = C then (atD ns ds f).map .f else none
  | .o C' ns ts => if C' = C then (atN ns ts f).bind fun t => match t with
    | .un => none
    | t => some t
    else none
  | _ => none
theorem atD_ok {W : Wd} {F : Hp} {f : Str} : ∀ {ns : List Str} {ds : List D} {kvs : List (Str × V)} {d : D}, kvs.map (·.1) = ns → Reps W F ds (kvs.map (·.2)) → atD ns ds f = some d → ∃ v, kvs.lookup f = some v ∧ Rep W F d v
  | _, [], kvs, _, h, _, e => by subst h; cases kvs <;> simp [atD] at e
  | _, d0 :: ds, [], _, h, _, e => by subst h; simp [atD] at e
  | _, d0 :: ds, k :: kvs, d, h, r, e => by
    subst h
    obtain ⟨v, vr, e1, a, b⟩ := r
    have e1a : k.2 = v := (List.cons.inj e1).1
    have e1b : kvs.map (·.2) = vr := (List.cons.inj e1).2
    subst e1a e1b
    have e' : (if k.1 = f then some d0 else atD (kvs.map (·.1)) ds f) = some d := e
    by_cases hk : k.1 = f
    · rw [if_pos hk] at e'
      cases e'
      refine ⟨k.2, ?_, a⟩
      rw [List.lookup_cons, show (f == k.1) = true by rw [hk]; exact beq_self_eq_true f]
    · rw [if_neg hk] at e'
      obtain ⟨v, q1, q2⟩ := atD_ok rfl b e'
      refine ⟨v, ?_, q2⟩
      rw [List.lookup_cons, show (f == k.1) = false from beq_eq_false_iff_ne.mpr fun z => hk z.symm]
      exact q1
theorem atN_ok {W : Wd} {F H : Hp} {f : Str} : ∀ {ns : List Str} {ts : List T} {kvs : List (Str × V)} {fps : List (List Addr)} {t : T}, kvs.map (·.1) = ns → RelTs W F H ts (kvs.map (·.2)) fps → atN ns ts f = some t → ∃ v fp, kvs.lookup f = some v ∧ RelT W F H t v fp
  | _, [], kvs, _, _, h, _, e => by subst h; cases kvs <;> simp [atN] at e
  | _, t0 :: ts, [], _, _, h, _, e => by subst h; simp [atN] at e
  | _, t0 :: ts, k :: kvs, fps, t, h, r, e => by
    subst h
    obtain ⟨v, vr, f0, fr, e1, rfl, a, b⟩ := r
    have e1a : k.2 = v := (List.cons.inj e1).1
    have e1b : kvs.map (·.2) = vr := (List.cons.inj e1).2
    subst e1a e1b
    have e' : (if k.1 = f then some t0 else atN (kvs.map (·.1)) ts f) = some t := e
    by_cases hk : k.1 = f
    · rw [if_pos hk] at e'
      cases e'
      refine ⟨k.2, f0, ?_, a⟩
      rw [List.lookup_cons, show (f == k.1) = true by rw [hk]; exact beq_self_eq_true f]
    · rw [if_neg hk] at e'
      obtain ⟨v, fp, q1, q2⟩ := atN_ok rfl b e'
      refine ⟨v, fp, ?_, q2⟩
      rw [List.lookup_cons, show (f == k.1) = false from beq_eq_false_iff_ne.mpr fun z => hk z.symm]
      exact q1
section
variable {c : Ctx} {e o : Expr} {fa fe : List T → Option T} {pos : Pos} {C : Nat} {f : Str}
theorem sv_att {W : Wd} {ta : TE} (hC : Cls W.K (W.cl C)) (hN : NoAttr W.K (W.cl C) f) (sa : Sv W ta fa) : Sv W (tFld W.K ta f) (f1 (gAtt C f) fa) := by
  intro b F ρ σ X H τ Q S e k
  unfold f1 at e
  obtain ⟨t, e1, e⟩ := Option.bind_eq_some_iff.mp e
  refine sa b F ρ σ X H t _ S e1 fun v F1 H1 S1 i1 s1 r1 => ?_
  cases t with
  | f d => cases d with
    | obj C' ns ds =>
      have e' : (if C' = C then (atD ns ds f).map T.f else none) = some τ := e
      split at e'
      · rename_i hc
        subst hc
        obtain ⟨d, e2, e'⟩ := Option.map_eq_some_iff.mp e'
        subst e'
        obtain ⟨p, dx, kvs, ev, hp, hk, r⟩ := r1.rep
        subst ev
        obtain ⟨w, q1, q2⟩ := atD_ok hk r e2
        exact ⟨p, _, dx, kvs, w, rfl, ins_le S1.le hp, hC, hN, q1, (k.mono i1 s1).d S1 q2⟩
      · cases e'
    | _ => cases e
  | o C' ns ts =>
    have e' : (if C' = C then (atN ns ts f).bind fun t => (match t with | .un => none | t => some t) else none) = some τ := e
    split at e'
    · rename_i hc
      subst hc
      obtain ⟨t, e2, e'⟩ := Option.bind_eq_some_iff.mp e'
      have et : t = τ := by cases t <;> first | (cases e'; rfl) | cases e'
      subst et
      obtain ⟨fp, p, dx, kvs, fps, ev, _, hp, hk, r⟩ := r1
      subst ev
      obtain ⟨w, fp', q1, q2⟩ := atN_ok hk r e2
      exact ⟨p, _, dx, kvs, w, rfl, hp, hC, hN, q1, (k.mono i1 s1).here S1 ⟨fp', q2⟩⟩
    · cases e'
  | _ => cases e
theorem ev_att (hC : Cls c.W.K (c.W.cl C)) (hN : NoAttr c.W.K (c.W.cl C) f) (ha : Ev c e fa) (hb : ∀ j, attributeBase e f (c.X j).env (eval e (c.X j).env) = eval e (c.X j).env := by intro _; rfl) : Ev c (.Attribute e f pos) (f1 (gAtt C f) fa) := by
  obtain ⟨ta, pa, sa⟩ := ha
  exact ⟨_, fun j => by have h := pe_fld (pos := pos) (pa j) (hb j); rw [c.hK j] at h; exact h, sv_att hC hN sa⟩
end
/-! places in parts -/
theorem getP_snoc {s : Sel} : ∀ {π : List Sel} {t : T}, t.getP (π ++ [s]) = (t.getP π).bind fun u => u.sub s
  | [], t => by
    show (t.sub s).bind (fun u => some u) = t.sub s
    cases t.sub s <;> rfl
  | s' :: π, t => by
    show (t.sub s').bind (fun u => u.getP (π ++ [s])) = ((t.sub s').bind fun u => u.getP π).bind fun u => u.sub s
    cases t.sub s' with
    | none => rfl
    | some u => exact getP_snoc
theorem atV_snoc {H : Hp} {s : Sel} {p : Addr} {q : Addr} : ∀ {π : List Sel} {v : V}, AtV H v π q → AtV H (.ref q) [s] p → AtV H v (π ++ [s]) p
  | [], v, r, h => by
    have r' : v = _ := r
    subst r'
    exact h
  | .ix n :: π, v, r, h => by
    obtain ⟨a, vs, w, e, r1, r2, r3⟩ := r
    exact ⟨a, vs, w, e, r1, r2, atV_snoc r3 h⟩
  | .at x :: π, v, r, h => by
    obtain ⟨a, C, dx, kvs, w, e, r1, r2, r3⟩ := r
    exact ⟨a, C, dx, kvs, w, e, r1, r2, atV_snoc r3 h⟩
theorem SR.part {W : Wd} {b : Bs} {F : Hp} {ρ : List T} {σ : L2.St} {X : List Tm} {H : Hp} {i : Nat} {t u : T} {v : V} {π : List Sel} {p : Addr} (S : SR W b F ρ σ X H) (hi : ρ[i]? = some t) (hv : σ[i]? = some (some v)) (hu : t.getP π = some u) (ha : AtV H v π p) : ∃ fu, RelT W F H u (.ref p) fu := by
  obtain ⟨fu, h, _⟩ := S.mut (u' := .un) hi hv hu ha
  exact ⟨fu, h⟩
def pAt (C : Nat) (f : Str) (i : Nat) (fp : List T → Option (List Sel)) : List T → Option (List Sel) := fun ρ => (fp ρ).bind fun π => (ρ[i]?.bind fun t => t.getP π).bind fun u => match u with
  | .o C' ns ts => if C' = C then (atN ns ts f).map fun _ => π ++ [.at f] else none
  | _ => none
def pIx (fk : List T → Option T) (i : Nat) (fp : List T → Option (List Sel)) : List T → Option (List Sel) := fun ρ => (fp ρ).bind fun π => (ρ[i]?.bind fun t => t.getP π).bind fun u => u.tsq?.bind fun ts => (fk ρ).bind fun k => k.i?.bind fun j => (ixN ts.length j).map fun n => π ++ [.ix n]
section
variable {c : Ctx} {o ek : Expr} {fk : List T → Option T} {pos : Pos} {C : Nat} {f : Str} {i : Nat} {fp : List T → Option (List Sel)}
theorem lo_at (hC : Cls c.W.K (c.W.cl C)) (hN : NoAttr c.W.K (c.W.cl C) f) (ho : Lo c o i fp) (hb : ∀ j, attributeBase o f (c.X j).env (eval o (c.X j).env) = eval o (c.X j).env := by intro _; rfl) : Lo c (.Attribute o f pos) i (pAt C f i fp) := by
  obtain ⟨ta, pa, sa⟩ := ho
  refine ⟨_, fun j => by have h := pe_fld (pos := pos) (pa j) (hb j); rw [c.hK j] at h; exact h, ?_⟩
  intro b F ρ σ X H π t u Q S e ht hu hown k
  unfold pAt at e
  obtain ⟨π0, e1, e8⟩ := Option.bind_eq_some_iff.mp e
  obtain ⟨u0, e2, e9⟩ := Option.bind_eq_some_iff.mp e8
  clear e e8
  obtain ⟨t', e2a, e2⟩ := Option.bind_eq_some_iff.mp e2
  rw [ht] at e2a
  cases e2a
  cases u0 with
  | o C' ns ts =>
    simp only at e9
    split at e9
    · rename_i hc
      subst hc
      obtain ⟨u1, e3, e⟩ := Option.map_eq_some_iff.mp e9
      subst e
      rw [getP_snoc, e2] at hu
      have hu' : atN ns ts f = some u := hu
      refine sa b F ρ σ X H π0 t _ _ S e1 ht e2 rfl fun p v F1 H1 S1 i1 s1 hv hat => ?_
      obtain ⟨fu, q, dx, kvs, fps, eq, _, hp, hk, r⟩ := S1.part ht hv e2 hat
      cases eq
      obtain ⟨w, fp', q1, q2⟩ := atN_ok hk r hu'
      obtain ⟨p', rfl⟩ := owned_ref q2 hown
      exact ⟨p, _, dx, kvs, .ref p', rfl, hp, hC, hN, q1, k p' v F1 H1 S1 i1 s1 hv (atV_snoc hat ⟨p, _, dx, kvs, .ref p', rfl, hp, q1, rfl⟩)⟩
    · cases e9
  | _ => cases e9
theorem lo_ix (ho : Lo c o i fp) (hk : Ev c ek fk) (hs : PlainIx ek := by exact fun _ _ => rfl) : Lo c (.Subscript o ek pos) i (pIx fk i fp) := by
  obtain ⟨ta, pa, sa⟩ := ho
  obtain ⟨tb, pb, sb⟩ := hk
  refine ⟨_, fun j => pe_ix (by have h := ix_U (X := c.X j) (c.hu1 j); rw [c.hK j] at h; exact h) (pa j) (pb j) hs, ?_⟩
  intro b F ρ σ X H π t u Q S e ht hu hown k
  unfold pIx at e
  obtain ⟨π0, e1, e⟩ := Option.bind_eq_some_iff.mp e
  obtain ⟨u0, e2, e⟩ := Option.bind_eq_some_iff.mp e
  obtain ⟨t', e2a, e2⟩ := Option.bind_eq_some_iff.mp e2
  rw [ht] at e2a
  cases e2a
  obtain ⟨ts, e3, e⟩ := Option.bind_eq_some_iff.mp e
  obtain ⟨kk, e4, e⟩ := Option.bind_eq_some_iff.mp e
  obtain ⟨j, e5, e⟩ := Option.bind_eq_some_iff.mp e
  obtain ⟨n, e6, e⟩ := Option.map_eq_some_iff.mp e
  subst e
  rw [getP_snoc, e2] at hu
  have ho0 : owned u0 = true := by cases u0 <;> first | (cases e3; rfl) | cases e3
  refine sa b F ρ σ X H π0 t _ _ S e1 ht e2 ho0 fun p v F1 H1 S1 i1 s1 hv hat => ?_
  refine sb b F1 ρ σ X H1 _ _ S1 e4 fun y F2 H2 S2 i2 s2 r2 => ?_
  have hy := r2.int e5
  subst hy
  have hat2 := hat.same s2
  obtain ⟨fu, hpart⟩ := S2.part ht hv e2 hat2
  cases u0 with
  | ll us =>
    cases e3
    obtain ⟨q, vs, fps, eq, _, hp, r⟩ := hpart
    cases eq
    have hu' : ts[n]? = some u := hu
    obtain ⟨w, fw, q1, q2, q3⟩ := r.at hu'
    obtain ⟨p', rfl⟩ := owned_ref q3 hown
    refine .inl (.inl (.inl ?_))
    have hx : atI vs j = some (V.ref p') := by
      unfold atI
      rw [← r.lenA.1, e6]
      exact q1
    exact ⟨p, vs, j, .ref p', rfl, rfl, SqL.of hp, hx, k p' v F2 H2 S2 (i1.trans i2) (s1.trans s2) hv (atV_snoc hat2 ⟨p, vs, .ref p', rfl, .inl hp, q1, rfl⟩)⟩
  | tu us =>
    cases e3
    obtain ⟨q, vs, fps, eq, _, hp, r⟩ := hpart
    cases eq
    have hu' : ts[n]? = some u := hu
    obtain ⟨w, fw, q1, q2, q3⟩ := r.at hu'
    obtain ⟨p', rfl⟩ := owned_ref q3 hown
    refine .inl (.inl (.inr ?_))
    have hx : atI vs j = some (V.ref p') := by
      unfold atI
      rw [← r.lenA.1, e6]
      exact q1
    exact ⟨p, vs, j, .ref p', rfl, rfl, SqT.of hp, hx, k p' v F2 H2 S2 (i1.trans i2) (s1.trans s2) hv (atV_snoc hat2 ⟨p, vs, .ref p', rfl, .inr hp, q1, rfl⟩)⟩
  | _ => cases e3
end
/-! o.f = e -/
theorem RelTs.putNew {W : Wd} {F H : Hp} {f : Str} {d : D} {y : V} (ry : Rep W F d y) : ∀ {ns : List Str} {ts : List T} {kvs : List (Str × V)} {fps : List (List Addr)}, kvs.map (·.1) = ns → RelTs W F H ts (kvs.map (·.2)) fps → atN ns ts f = none →
    (L2.putF f y kvs).map (·.1) = ns ++ [f] ∧ RelTs W F H (ts ++ [.f d]) ((L2.putF f y kvs).map (·.2)) (fps ++ [[]]) ∧ kvs.lookup f = none
  | _, [], [], fps, h, r, _ => by
    subst h
    rw [r.2]
    exact ⟨rfl, ⟨y, [], [], [], rfl, rfl, ⟨rfl, ry⟩, rfl, rfl⟩, rfl⟩
  | _, [], k :: kvs, _, _, r, _ => by cases r.1
  | _, t0 :: ts, [], _, _, r, _ => by obtain ⟨_, _, _, _, e, _⟩ := r; cases e
  | _, t0 :: ts, k :: kvs, fps, h, r, e => by
    subst h
    obtain ⟨v, vr, f0, fr, e1, rfl, a, b⟩ := r
    have e1a : k.2 = v := (List.cons.inj e1).1
    have e1b : kvs.map (·.2) = vr := (List.cons.inj e1).2
    subst e1a e1b
    have e' : (if k.1 = f then some t0 else atN (kvs.map (·.1)) ts f) = none := e
    by_cases hk : k.1 = f
    · rw [if_pos hk] at e'; cases e'
    · rw [if_neg hk] at e'
      obtain ⟨q1, q2, q3⟩ := RelTs.putNew (y := y) ry rfl b e'
      have hp : L2.putF f y (k :: kvs) = k :: L2.putF f y kvs := by
        show (if k.1 = f then _ else _) = _
        rw [if_neg hk]
      rw [hp]
      refine ⟨by rw [List.map_cons, q1]; rfl, ⟨k.2, _, f0, _, rfl, rfl, a, q2⟩, ?_⟩
      rw [List.lookup_cons, show (f == k.1) = false from beq_eq_false_iff_ne.mpr fun z => hk z.symm]
      exact q3
theorem RelTs.putOld {W : Wd} {F H : Hp} {f : Str} {d d0 : D} {y : V} (ry : Rep W F d y) : ∀ {ns : List Str} {ts : List T} {kvs : List (Str × V)} {fps : List (List Addr)}, kvs.map (·.1) = ns → RelTs W F H ts (kvs.map (·.2)) fps → atN ns ts f = some (.f d0) →
    (L2.putF f y kvs).map (·.1) = ns ∧ RelTs W F H (setN ns ts f (.f d)) ((L2.putF f y kvs).map (·.2)) fps ∧ ∃ w, kvs.lookup f = some w ∧ Rep W F d0 w
  | _, [], kvs, _, h, _, e => by subst h; cases kvs <;> simp [atN] at e
  | _, t0 :: ts, [], _, _, r, _ => by obtain ⟨_, _, _, _, e, _⟩ := r; cases e
  | _, t0 :: ts, k :: kvs, fps, h, r, e => by
    subst h
    obtain ⟨v, vr, f0, fr, e1, rfl, a, b⟩ := r
    have e1a : k.2 = v := (List.cons.inj e1).1
    have e1b : kvs.map (·.2) = vr := (List.cons.inj e1).2
    subst e1a e1b
    have e' : (if k.1 = f then some t0 else atN (kvs.map (·.1)) ts f) = some (.f d0) := e
    by_cases hk : k.1 = f
    · rw [if_pos hk] at e'
      cases e'
      have hp : L2.putF f y (k :: kvs) = (k.1, y) :: kvs := by
        show (if k.1 = f then _ else _) = _
        rw [if_pos hk]
      rw [hp]
      have hf0 : f0 = [] := a.1
      subst hf0
      refine ⟨rfl, ?_, k.2, ?_, a.2⟩
      · show RelTs W F H (if k.1 = f then _ else _) _ _
        rw [if_pos hk]
        exact ⟨y, _, [], _, rfl, rfl, ⟨rfl, ry⟩, b⟩
      · rw [List.lookup_cons, show (f == k.1) = true by rw [hk]; exact beq_self_eq_true f]
    · rw [if_neg hk] at e'
      obtain ⟨q1, q2, w, q3, q4⟩ := RelTs.putOld (d := d) (y := y) ry rfl b e'
      have hp : L2.putF f y (k :: kvs) = k :: L2.putF f y kvs := by
        show (if k.1 = f then _ else _) = _
        rw [if_neg hk]
      rw [hp]
      refine ⟨by rw [List.map_cons, q1]; rfl, ?_, w, ?_, q4⟩
      · show RelTs W F H (if k.1 = f then _ else _) _ _
        rw [if_neg hk]
        exact ⟨k.2, _, f0, _, rfl, rfl, a, q2⟩
      · rw [List.lookup_cons, show (f == k.1) = false from beq_eq_false_iff_ne.mpr fun z => hk z.symm]
        exact q3
theorem atN_look {f : Str} : ∀ {ts : List T} {kvs : List (Str × V)}, atN (kvs.map (·.1)) ts f = none → ts.length = kvs.length → kvs.lookup f = none
  | [], [], _, _ => rfl
  | [], _ :: _, _, h => by cases h
  | _ :: _, [], _, h => by cases h
  | t :: ts, k :: kvs, e, h => by
    have e' : (if k.1 = f then some t else atN (kvs.map (·.1)) ts f) = none := e
    by_cases hk : k.1 = f
    · rw [if_pos hk] at e'; cases e'
    · rw [if_neg hk] at e'
      rw [List.lookup_cons, show (f == k.1) = false from beq_eq_false_iff_ne.mpr fun z => hk z.symm]
      exact atN_look e' (by simpa using h)
theorem stb_put {G : Addr → Prop} {C dx : Addr} {kvs : List (Str × V)} {f : Str} {y : V} (h : f = Str.ofString "endings" → kvs.lookup f = none) : Stb G (.ins C dx kvs) (.ins C dx (L2.putF f y kvs)) := by
  intro C' dx' kvs' e
  cases e
  refine ⟨_, rfl, fun v hv => ?_⟩
  rw [L2.lookup_putF]
  by_cases z : Str.ofString "endings" = f
  · rw [z, h z.symm] at hv; cases hv
  · rw [if_neg z]; exact hv
theorem stb_new {W : Wd} {F H : Hp} {G : Addr → Prop} {C dx : Addr} {kvs : List (Str × V)} {ns : List Str} {ts : List T} {fps : List (List Addr)} {f : Str} {y : V} (hk : kvs.map (·.1) = ns) (rs : RelTs W F H ts (kvs.map (·.2)) fps) (hat : atN ns ts f = none) : Stb G (.ins C dx kvs) (.ins C dx (L2.putF f y kvs)) := by
  subst hk
  refine stb_put fun _ => atN_look hat ?_
  have := rs.lenA.1
  rw [List.length_map] at this
  omega
def attT (C : Nat) (f : Str) (d : D) : T → Option T
  | .o C' ns ts => if C' = C ∧ ns.length < 1000 then (match atN ns ts f with
    | none => some (.o C' (ns ++ [f]) (ts ++ [.f d]))
    | some (.f _) => if f = Str.ofString "endings" then none else some (.o C' ns (setN ns ts f (.f d)))
    | _ => none) else none
  | _ => none
theorem attT_own {C : Nat} {f : Str} {d : D} (u u' : T) (h : attT C f d u = some u') : owned u = true := by
  cases u <;> first | rfl | cases h
def sAtt (C : Nat) (f : Str) (i : Nat) (fp : List T → Option (List Sel)) (fe : List T → Option T) : FS := fun ρ => (fe ρ).bind fun x => x.d?.bind fun d => (fp ρ).bind fun π => (mutF i π (attT C f d) ρ).map .nx
theorem SR.att {W : Wd} {b : Bs} {F : Hp} {ρ ρ' : List T} {σ : L2.St} {X : List Tm} {H : Hp} {i : Nat} {π : List Sel} {C : Nat} {f : Str} {d : D} {v y : V} {p : Addr} (S : SR W b F ρ σ X H) (h : mutF i π (attT C f d) ρ = some ρ') (hv : σ[i]? = some (some v)) (ha : AtV H v π p) (r : Rep W F d y) :
    ∃ dx fs, H p = some (.ins (W.cl C) dx fs) ∧ fs.length < 1000 ∧ SR W b F ρ' σ X (upd H p (.ins (W.cl C) dx (L2.putF f y fs))) := by
  obtain ⟨t, u, u', e1, e2, e3, rfl⟩ := mutF_some h
  cases u with
  | o C' ns ts =>
    have e3' : (if C' = C ∧ ns.length < 1000 then _ else none) = some u' := e3
    split at e3'
    · rename_i hc
      obtain ⟨hc, hl⟩ := hc
      subst hc
      obtain ⟨fu, q1, ⟨qn, q2⟩, q3⟩ := S.mut (u' := u') e1 hv e2 ha
      obtain ⟨p', dx, kvs, fps, ep, rfl, hp, hk, rs⟩ := q1
      cases ep
      have n0 := List.nodup_cons.mp qn
      have hlen : kvs.length < 1000 := by
        have := congrArg List.length hk
        rw [List.length_map] at this
        omega
      refine ⟨dx, kvs, hp, hlen, ?_⟩
      have stay : ∀ o', ∀ a ∈ fps.flatten, upd H p o' a = H a := fun o' a ha => upd_ne fun z => n0.1 (z ▸ ha)
      cases hat : atN ns ts f with
      | none =>
        rw [hat] at e3'
        cases e3'
        obtain ⟨m1, m2, m3⟩ := RelTs.putNew (y := y) r hk rs hat
        refine q3 _ _ hp (fun _ => stb_new hk rs hat) List.mem_cons_self ⟨p, dx, _, fps ++ [[]], rfl, ?_, upd_same, m1, RelTs.mono (Inc.refl F) _ _ _ (fun a ha => stay _ a ?_) m2⟩
        · rw [List.flatten_append]
          simp
        · rw [List.flatten_append] at ha
          simpa using ha
      | some t0 =>
        rw [hat] at e3'
        cases t0 with
        | f d0 =>
          have e4 : (if f = Str.ofString "endings" then none else some (T.o C' ns (setN ns ts f (.f d)))) = some u' := e3'
          split at e4
          · cases e4
          rename_i hne
          cases e4
          obtain ⟨m1, m2, w, m3, m4⟩ := RelTs.putOld (d := d) (y := y) r hk rs hat
          exact q3 _ _ hp (fun _ => stb_put fun z => absurd z hne) List.mem_cons_self ⟨p, dx, _, fps, rfl, rfl, upd_same, m1, RelTs.mono (Inc.refl F) _ _ _ (fun a ha => stay _ a ha) m2⟩
        | _ => cases e3'
    · cases e3'
  | _ => cases e3
section
variable {c : Ctx} {e o : Expr} {fa fe : List T → Option T} {pos pos' : Pos} {C : Nat} {f : Str} {i : Nat} {fp : List T → Option (List Sel)}
theorem sm_att (hC : Cls c.W.K (c.W.cl C)) (hN : NoAttr c.W.K (c.W.cl C) f) (ho : Lo c o i fp) (he : Ev c e fe) (hs : ∀ j, swapsWith e (some (.Attribute o f pos')) pos.line (c.X j).env = pure false := by intro _; rfl) : Sm c (.Assign [.Attribute o f pos'] e pos) (sAtt C f i fp fe) := by
  obtain ⟨to, po, so⟩ := ho
  obtain ⟨te, pe, se⟩ := he
  refine ⟨_, fun j => by have h := ps_fld (po j) (pe j) (hs j); rw [c.hK j] at h; exact h, ?_⟩
  intro b F ρ σ X H out D hb S eq k
  unfold sAtt at eq
  obtain ⟨x, e2, eq⟩ := Option.bind_eq_some_iff.mp eq
  obtain ⟨d, e3, eq⟩ := Option.bind_eq_some_iff.mp eq
  obtain ⟨π, e1, eq⟩ := Option.bind_eq_some_iff.mp eq
  obtain ⟨ρ', e4, eq⟩ := Option.map_eq_some_iff.mp eq
  subst eq
  cases d_some e3
  obtain ⟨tt, uu, h1, h2, h3⟩ := mutF_own e4 attT_own
  refine se b F ρ σ X H _ _ S e2 fun y F1 H1 S1 i1 s1 r1 => ?_
  refine so b F1 ρ σ X H1 π tt uu _ S1 e1 h1 h2 h3 fun p v F2 H2 S2 i2 s2 hv hat => ?_
  obtain ⟨dx, fs, hp, hl, S3⟩ := S2.att e4 hv hat (r1.ext i2 s2).rep
  exact ⟨p, _, dx, fs, rfl, hp, hC, hN, hl, k σ F2 _ S3 (i1.trans i2)⟩
end
/-! ### C(e, ..) -/
structure ClM (P : Program) (w : World) (W : Wd) (mg : Str → Option Value) (base : Heap) (CX : CXT) (k : Nat) (x : Str) (C : Nat) (io : List Nat) (G : List T → Option Re) : Prop where
  ex : ∃ f fd ps, FnOk P w W.K mg base CX k f fd ps (spF W io G) ∧ mg x = some (.ref (W.cl C)) ∧ Mk W.K (W.cl C) f ∧ Binds W.K fd ps []
theorem SR.dropN {W : Wd} {b : Bs} {F : Hp} {ρ : List T} {σ : L2.St} {x : Tm} {X : List Tm} {H : Hp} : ∀ (Y : List Tm), SR W b F ρ σ (x :: (Y ++ X)) H → SR W b F ρ σ (x :: X) H
  | [], S => S
  | y :: Y, S => SR.dropN Y ((S.perm (Y := y :: x :: (Y ++ X)) (List.Perm.swap _ _ _)).drop)
theorem Xn_t : ∀ {ts : List T} {vs : List V}, ts.length = vs.length → (Xn ts vs).map (·.t) = ts ∧ (Xn ts vs).map (·.v) = vs
  | [], [], _ => ⟨rfl, rfl⟩
  | [], _ :: _, h => by cases h
  | _ :: _, [], h => by cases h
  | t :: ts, v :: vs, h => by
    obtain ⟨a, b⟩ := Xn_t (ts := ts) (vs := vs) (by simpa using h)
    exact ⟨by show t :: _ = _; rw [a], by show v :: _ = _; rw [b]⟩
def mkF (C : Nat) (io : List Nat) (G : List T → Option Re) (ds : List D) : Option T := if ioOk io 0 (.o C [] [] :: ds.map .f) = true then (G (.o C [] [] :: ds.map .f)).bind fun r => match r with
  | .ok (.f .non) (u :: _) => some u
  | _ => none
  else none
def fMake (C : Nat) (io : List Nat) (G : List T → Option Re) (fs : List T → Option (List T)) : List T → Option Re := fun ρ => (fs ρ).bind fun ts => (deep ts).bind fun ds => (mkF C io G ds).map fun u => .ok u ρ
theorem so_make {W : Wd} {P : Sg} {E : L2.St → XK} {E' : XK} {t : TA} {C : Nat} {io : List Nat} {G : List T → Option Re} {fs : List T → Option (List T)} (h : Sav W t fs) : So W P E (tMake (W.cl C) (spF W io G) [] E' t) (fMake C io G fs) := by
  intro b F ρ σ X H r Q hb S e k
  unfold fMake at e
  obtain ⟨ts, e1, e⟩ := Option.bind_eq_some_iff.mp e
  obtain ⟨ds, e2, e⟩ := Option.bind_eq_some_iff.mp e
  obtain ⟨u, e3, e⟩ := Option.map_eq_some_iff.mp e
  subst e
  unfold mkF at e3
  split at e3
  · rename_i hio
    obtain ⟨r, e4, e3⟩ := Option.bind_eq_some_iff.mp e3
    obtain ⟨us, er⟩ : ∃ us, r = .ok (.f .non) (u :: us) := by
      split at e3
      · cases e3; exact ⟨_, rfl⟩
      · cases e3
    subst er
    refine h b F ρ σ X H ts _ S e1 fun vs F1 H1 S1 i1 s1 r1 => ?_
    have rs := RelVs.deep r1 e2
    intro x dx hx hdx hne
    obtain ⟨S2, i2, s2⟩ := S1.laid (o := .own x) hdx
    have hx2 : upd H1 dx (.own x) x = none := by rw [upd_ne (fun z => hne z.symm)]; exact hx
    have S3 := S2.pushes (rs.inc i2)
    have S4 : SR W b _ ρ σ (⟨none, .o C [] [], .ref x⟩ :: (Xn (ds.map .f) vs ++ X)) (upd (upd H1 dx (.own x)) x (.ins (W.cl C) dx [])) := S3.own hx2 ⟨x, dx, [], [], rfl, rfl, upd_same, rfl, rfl, rfl⟩
    obtain ⟨a1, a2⟩ := Xn_t (ts := ds.map T.f) (vs := vs) (by rw [List.length_map]; exact rs.len)
    obtain ⟨xa, q1, qn, own, back⟩ := SR.call (Xa := ⟨none, .o C [] [], .ref x⟩ :: Xn (ds.map .f) vs) (X := X) S4
    have em : ((⟨none, .o C [] [], .ref x⟩ :: Xn (ds.map .f) vs : List Tm).map (·.t)) = .o C [] [] :: ds.map .f := by rw [List.map_cons, a1]
    have ev : ((⟨none, .o C [] [], .ref x⟩ :: Xn (ds.map .f) vs : List Tm).map (·.v)) = .ref x :: vs := by rw [List.map_cons, a2]
    rw [em, ev] at q1
    rw [ev] at back
    rw [List.append_nil]
    refine ⟨_, _, xa, _, S4.le, qn, q1, own, hio, e4, ?_⟩
    intro v F' H' R i3
    have hv : v = .non := R.top
    refine ⟨hv, ?_⟩
    have S5 := back io (u :: us) F' [⟨none, .f .non, v⟩] H' (fun x hx => by rw [List.mem_singleton.mp hx]) R
    have S6 : SR W b F' ρ σ (⟨none, u, .ref x⟩ :: (setTs (Xn (ds.map .f) vs) us ++ X)) H' := S5.drop
    exact k (.ref x) F' H' (SR.dropN _ S6) ((i1.trans i2).trans i3)
  · cases e3
section
variable {c : Ctx} {a : Expr} {es : List Expr} {fs : List T → Option (List T)} {x : Str} {p pos : Pos} {io : List Nat} {G : List T → Option Re} {k C : Nat} {CX : CXT}
theorem eo_make {E : XK} (M : ∀ j, ClM (c.X j).prog (c.X j).w c.W (c.X j).mg (c.X j).base CX k x C io G) (hk : k + 1 ≤ c.k) (hg : ∀ j, Gl (c.X j) x) (hx : ∀ j, Passes CX (c.X j) E) (ha : Av c (a :: es) fs) (hdb : (x == ("__debug__" : Str)) = false := by decide)
    (he : ∀ j, starEach (a :: es) (c.X j).env = (false, eval a (c.X j).env) :: starEach es (c.X j).env := by intro _; rfl) (hpl : ∀ j, (backTo pos (starEach es (c.X j).env)).any (·.1) = false := by intro _; rfl) : Eo c (.Call (.Name x p) (a :: es) [] pos) (fMake C io G fs) := by
  obtain ⟨t, q, s⟩ := ha
  refine ⟨tMake (c.W.cl C) (spF c.W io G) [] E t, fun j => ?_, so_make s⟩
  obtain ⟨f, fd, ps, F, hm, hM, hb⟩ := M j
  have hKj := c.hK j
  exact pe_make (by rw [hKj]; exact hM) (by rw [hKj]; exact F) ((c.room j).mono hk) (hg j) hm (by rw [hKj]; exact hb) .nil (hx j) (q j) hdb (he j) (hpl j)
end
/-! ### defs that call themselves -/
theorem fn_none {P : Program} {w : World} {W : Wd} {mg : Str → Option Value} {base : Heap} {CX : CXT} {k : Nat} {f : Addr} {fd : FuncData} {ps : List Str} {io : List Nat} : FnOk P w W.K mg base CX k f fd ps (spF W io fun _ => none) :=
  ⟨fun vs H Q E h => (by obtain ⟨_, _, _, _, _, _, _, _, _, e, _⟩ := h; cases e), fun A outer s H args us vs Q E _ _ _ _ h => (by obtain ⟨_, _, _, _, _, _, _, _, _, e, _⟩ := h; cases e)⟩
/-- what is handed back as a thing of the caller's own, told as deep data -/
def fzR (G : List T → Option Re) : List T → Option Re := fun ts => (G ts).bind fun r => match r with
  | .ok t us => t.fz.map fun d => .ok (.f d) us
  | r => some r
theorem Cl.fz {P : Program} {w : World} {W : Wd} {mg : Str → Option Value} {base : Heap} {CX : CXT} {k : Nat} {x : Str} {io : List Nat} {G : List T → Option Re} (h : Cl P w W mg base CX k x io G) : Cl P w W mg base CX k x io (fzR G) := by
  obtain ⟨f, fd, ps, h, a, b, d⟩ := h
  refine ⟨f, fd, ps, h.imp ?_, a, b, d⟩
  rintro vs H Q E ⟨F, ts, fps, r, h1, hnw, h2, h3, h4, h5, h6⟩
  unfold fzR at h5
  obtain ⟨r0, e1, h5⟩ := Option.bind_eq_some_iff.mp h5
  refine ⟨F, ts, fps, r0, h1, hnw, h2, h3, h4, e1, ?_⟩
  cases r0 with
  | xc C us => cases h5; exact h6
  | ok t us =>
    obtain ⟨dd, e2, h5⟩ := Option.map_eq_some_iff.mp h5
    subst h5
    intro v F' H' R i
    obtain ⟨F2, S2, i2⟩ := R.frz rfl e2
    exact h6 v F2 H' S2 (i.trans i2)
end Z

namespace Z
open PySem PySem.Spec PyProof.Rows L2
/-! ### things go into parts and out of them -/
theorem flat_set : ∀ {l : List (List Addr)} {n : Nat} {f : List Addr}, l[n]? = some f → ∃ rl, l.flatten.Perm (f ++ rl) ∧ ∀ f', (l.set n f').flatten.Perm (f' ++ rl)
  | [], _, _, h => by simp at h
  | x :: l, 0, f, h => by
    simp at h
    subst h
    exact ⟨l.flatten, by rw [List.flatten_cons], fun f' => by rw [List.set_cons_zero, List.flatten_cons]⟩
  | x :: l, n + 1, f, h => by
    obtain ⟨rl, h1, h2⟩ := flat_set (l := l) (n := n) (f := f) (by simpa using h)
    refine ⟨x ++ rl, ?_, fun f' => ?_⟩
    · rw [List.flatten_cons]
      exact (h1.append_left x).trans (List.perm_append_comm_assoc _ _ _)
    · rw [List.set_cons_succ, List.flatten_cons]
      exact ((h2 f').append_left x).trans (List.perm_append_comm_assoc _ _ _)
theorem atN_ix {x : Str} : ∀ {ns : List Str} {ts : List T} {t : T}, atN ns ts x = some t → ∃ n, ts[n]? = some t ∧ (∀ u, setN ns ts x u = ts.set n u) ∧ ∀ {kvs : List (Str × V)} {w : V}, kvs.map (·.1) = ns → kvs.lookup x = some w → (kvs.map (·.2))[n]? = some w
  | [], ts, t, h => by cases ts <;> simp [atN] at h
  | n :: ns, [], t, h => by simp [atN] at h
  | n :: ns, t0 :: ts, t, h => by
    have h' : (if n = x then some t0 else atN ns ts x) = some t := h
    by_cases hn : n = x
    · rw [if_pos hn] at h'
      cases h'
      refine ⟨0, rfl, fun u => by show (if n = x then _ else _) = _; rw [if_pos hn]; rfl, fun {kvs w} hk hl => ?_⟩
      cases kvs with
      | nil => cases hk
      | cons k kvs =>
        have e : k.1 = x := by rw [← hn]; exact (List.cons.inj hk).1
        rw [List.lookup_cons, show (x == k.1) = true by rw [e]; exact beq_self_eq_true x] at hl
        cases hl
        rfl
    · rw [if_neg hn] at h'
      obtain ⟨m, h1, h2, h3⟩ := atN_ix h'
      refine ⟨m + 1, by simpa using h1, fun u => by show (if n = x then _ else _) = _; rw [if_neg hn, h2]; rfl, fun {kvs w} hk hl => ?_⟩
      cases kvs with
      | nil => cases hk
      | cons k kvs =>
        have e : k.1 = n := (List.cons.inj hk).1
        rw [List.lookup_cons, show (x == k.1) = false from beq_eq_false_iff_ne.mpr fun z => hn (by rw [← e]; exact z.symm)] at hl
        have := h3 (List.cons.inj hk).2 hl
        simpa using this
section
variable {W : Wd} {F F' H H' : Hp} {p : Addr}
theorem RelTs.putX {v : V} {f f' : List Addr} {t' : T} (hp : p ∈ f) (hr : RelT W F H' t' v f') (hH : ∀ a, a ≠ p → H' a = H a) : ∀ {ts : List T} {vs : List V} {fps : List (List Addr)} {n : Nat}, RelTs W F H ts vs fps → fps.flatten.Nodup → vs[n]? = some v → fps[n]? = some f → RelTs W F H' (ts.set n t') vs (fps.set n f')
  | [], _, _, _, r, _, e, _ => by rw [r.1] at e; simp at e
  | t :: ts, _, _, 0, r, nd, e1, e2 => by
    obtain ⟨v0, vr, f0, fr, rfl, rfl, a, b⟩ := r
    simp at e1 e2
    subst e1 e2
    rw [List.flatten_cons] at nd
    have n := List.nodup_append.mp nd
    exact ⟨_, _, _, _, rfl, rfl, hr, RelTs.mono (Inc.refl F) ts vr fr (fun x hx => hH x fun q => n.2.2 p hp x hx q.symm) b⟩
  | t :: ts, _, _, n + 1, r, nd, e1, e2 => by
    obtain ⟨v0, vr, f0, fr, rfl, rfl, a, b⟩ := r
    simp at e1 e2
    rw [List.flatten_cons] at nd
    have n0 := List.nodup_append.mp nd
    exact ⟨_, _, _, _, rfl, rfl, RelT.mono (Inc.refl F) t v0 f0 (fun x hx => hH x fun q => n0.2.2 x hx p (List.mem_flatten.mpr ⟨f, List.mem_of_getElem? e2, hp⟩) q) a, RelTs.putX hp hr hH b n0.2.1 e1 e2⟩
theorem Slots.putX {v : V} {f f' : List Addr} {t' : T} (hp : p ∈ f) (hr : RelT W F H' t' v f') (hH : ∀ a, a ≠ p → H' a = H a) : ∀ {ts : List T} {σ : L2.St} {fps : List (List Addr)} {n : Nat}, Slots W F H ts σ fps → fps.flatten.Nodup → σ[n]? = some (some v) → fps[n]? = some f → Slots W F H' (ts.set n t') σ (fps.set n f')
  | [], _, _, _, r, _, e, _ => by rw [r.1] at e; simp at e
  | t :: ts, _, _, 0, r, nd, e1, e2 => by
    obtain ⟨v0, vr, f0, fr, rfl, rfl, a, b⟩ := r
    simp at e1 e2
    subst e1 e2
    rw [List.flatten_cons] at nd
    have n := List.nodup_append.mp nd
    exact ⟨_, _, _, _, rfl, rfl, hr, Slots.mono (Inc.refl F) (fun x hx => hH x fun q => n.2.2 p hp x hx q.symm) b⟩
  | t :: ts, _, _, n + 1, r, nd, e1, e2 => by
    obtain ⟨v0, vr, f0, fr, rfl, rfl, a, b⟩ := r
    simp at e1 e2
    rw [List.flatten_cons] at nd
    have n0 := List.nodup_append.mp nd
    exact ⟨_, _, _, _, rfl, rfl, Slot.mono (Inc.refl F) (fun x hx => hH x fun q => n0.2.2 x hx p (List.mem_flatten.mpr ⟨f, List.mem_of_getElem? e2, hp⟩) q) a, Slots.putX hp hr hH b n0.2.1 e1 e2⟩
theorem perm_in {a : Addr} {fu r1 rl f l : List Addr} (h1 : f.Perm (fu ++ r1)) (h2 : l.Perm (f ++ rl)) : (a :: l).Perm (fu ++ (a :: (r1 ++ rl))) := by
  refine (List.Perm.cons a (h2.trans (h1.append_right rl))).trans ?_
  rw [List.append_assoc]
  exact List.perm_middle.symm
theorem RelT.mutX {u : T} : ∀ {π : List Sel} {t : T} {v : V} {fp : List Addr}, RelT W F H t v fp → fp.Nodup → t.getP π = some u → AtV H v π p →
    ∃ fu rest, fp.Perm (fu ++ rest) ∧ RelT W F H u (.ref p) fu ∧ ∀ H' u' fu', (∀ a, a ≠ p → H' a = H a) → p ∈ fu → RelT W F H' u' (.ref p) fu' → ∃ fp', fp'.Perm (fu' ++ rest) ∧ RelT W F H' (t.putP π u') v fp'
  | [], t, v, fp, r, nd, e, hv => by
    have hv : v = _ := hv
    subst hv
    cases e
    exact ⟨fp, [], by rw [List.append_nil], r, fun H' u' fu' _ _ h => ⟨fu', by rw [List.append_nil], h⟩⟩
  | .ix n :: π, t, v, fp, r, nd, e, hv => by
    obtain ⟨a, vs, w, rfl, hH, hw, hv⟩ := hv
    obtain ⟨t1, e1, e0⟩ := Option.bind_eq_some_iff.mp (show (t.sub (.ix n)).bind _ = _ from e)
    have hput : ∀ u', t.putP (.ix n :: π) u' = t.upd (.ix n) (t1.putP π u') := fun u' => by
      show (match t.sub (.ix n) with | some t1 => t.upd (.ix n) (t1.putP π u') | none => t) = _
      rw [e1]
    have step : ∀ {ts : List T} {fps : List (List Addr)}, RelTs W F H ts vs fps → ts[n]? = some t1 → (a :: fps.flatten).Nodup → ∃ fu rest, (a :: fps.flatten).Perm (fu ++ rest) ∧ RelT W F H u (.ref p) fu ∧ ∀ H' u' fu', (∀ a, a ≠ p → H' a = H a) → p ∈ fu → RelT W F H' u' (.ref p) fu' →
        ∃ fps', (a :: fps'.flatten).Perm (fu' ++ rest) ∧ RelTs W F H' (ts.set n (t1.putP π u')) vs fps' ∧ H' a = H a := by
      intro ts fps rs e1 nd
      have n0 := List.nodup_cons.mp nd
      obtain ⟨w', f, q1, q2, q3⟩ := rs.at e1
      rw [hw] at q1
      cases q1
      obtain ⟨fu, r1, h1, h2, h3⟩ := RelT.mutX q3 ((List.sublist_flatten_of_mem (List.mem_of_getElem? q2)).nodup n0.2) e0 hv
      obtain ⟨rl, l1, l2⟩ := flat_set q2
      refine ⟨fu, a :: (r1 ++ rl), perm_in h1 l1, h2, fun H' u' fu' hH' hp hr => ?_⟩
      have hpf : p ∈ f := h1.mem_iff.mpr (List.mem_append_left _ hp)
      obtain ⟨f', g1, g2⟩ := h3 H' u' fu' hH' hp hr
      refine ⟨fps.set n f', perm_in g1 (l2 f'), RelTs.putX hpf g2 hH' rs n0.2 hw q2, ?_⟩
      exact hH' a fun z => n0.1 (by rw [z]; exact List.mem_flatten.mpr ⟨f, List.mem_of_getElem? q2, hpf⟩)
    cases t with
    | ll ts =>
      obtain ⟨q, vs', fps, ev, rfl, hq, rs⟩ := r
      cases ev
      have evs : vs' = vs := by
        rcases hH with h | h
        · rw [hq] at h; cases h; rfl
        · rw [hq] at h; cases h
      subst evs
      obtain ⟨fu, rest, k1, k2, k3⟩ := step rs e1 nd
      refine ⟨fu, rest, k1, k2, fun H' u' fu' hH' hp hr => ?_⟩
      obtain ⟨fps', m1, m2, m3⟩ := k3 H' u' fu' hH' hp hr
      rw [hput]
      exact ⟨_, m1, a, vs', fps', rfl, rfl, by rw [m3]; exact hq, m2⟩
    | tu ts =>
      obtain ⟨q, vs', fps, ev, rfl, hq, rs⟩ := r
      cases ev
      have evs : vs' = vs := by
        rcases hH with h | h
        · rw [hq] at h; cases h
        · rw [hq] at h; cases h; rfl
      subst evs
      obtain ⟨fu, rest, k1, k2, k3⟩ := step rs e1 nd
      refine ⟨fu, rest, k1, k2, fun H' u' fu' hH' hp hr => ?_⟩
      obtain ⟨fps', m1, m2, m3⟩ := k3 H' u' fu' hH' hp hr
      rw [hput]
      exact ⟨_, m1, a, vs', fps', rfl, rfl, by rw [m3]; exact hq, m2⟩
    | _ => cases e1
  | .at x :: π, t, v, fp, r, nd, e, hv => by
    obtain ⟨a, C, dx, kvs, w, rfl, hH, hw, hv⟩ := hv
    obtain ⟨t1, e1, e0⟩ := Option.bind_eq_some_iff.mp (show (t.sub (.at x)).bind _ = _ from e)
    have hput : ∀ u', t.putP (.at x :: π) u' = t.upd (.at x) (t1.putP π u') := fun u' => by
      show (match t.sub (.at x) with | some t1 => t.upd (.at x) (t1.putP π u') | none => t) = _
      rw [e1]
    cases t with
    | o C' ns ts =>
      obtain ⟨q, dx', kvs', fps, ev, rfl, hq, hk, rs⟩ := r
      cases ev
      rw [hq] at hH
      cases hH
      obtain ⟨n, i1, i2, i3⟩ := atN_ix (show atN ns ts x = some t1 from e1)
      have n0 := List.nodup_cons.mp nd
      have hw' := i3 hk hw
      obtain ⟨w', f, q1, q2, q3⟩ := rs.at i1
      rw [hw'] at q1
      cases q1
      obtain ⟨fu, r1, h1, h2, h3⟩ := RelT.mutX q3 ((List.sublist_flatten_of_mem (List.mem_of_getElem? q2)).nodup n0.2) e0 hv
      obtain ⟨rl, l1, l2⟩ := flat_set q2
      refine ⟨fu, a :: (r1 ++ rl), perm_in h1 l1, h2, fun H' u' fu' hH' hp hr => ?_⟩
      have hpf : p ∈ f := h1.mem_iff.mpr (List.mem_append_left _ hp)
      obtain ⟨f', g1, g2⟩ := h3 H' u' fu' hH' hp hr
      rw [hput]
      refine ⟨_, perm_in g1 (l2 f'), a, dx, kvs, fps.set n f', rfl, rfl, ?_, hk, ?_⟩
      · rw [hH' a fun z => n0.1 (by rw [z]; exact List.mem_flatten.mpr ⟨f, List.mem_of_getElem? q2, hpf⟩)]
        exact hq
      · rw [i2]
        exact RelTs.putX hpf g2 hH' rs n0.2 hw' q2
    | _ => cases e1
/-- a slot's thing is changed at one place; things held may go into it, or come out -/
theorem SR.mutX {b : Bs} {ρ : List T} {σ : L2.St} {X Y : List Tm} {i : Nat} {t u : T} {v : V} {π : List Sel} (S : SR W b F ρ σ (Y ++ X) H) (hi : ρ[i]? = some t) (hv : σ[i]? = some (some v)) (hu : t.getP π = some u) (ha : AtV H v π p) :
    ∃ fu yps, RelT W F H u (.ref p) fu ∧ RelTs W F H (Y.map (·.t)) (Y.map (·.v)) yps ∧ (fu ++ yps.flatten).Nodup ∧ (∀ a ∈ fu ++ yps.flatten, F a = none) ∧
      ∀ o' u' fu' (Z : List Tm) zps, p ∈ fu → RelT W F (upd H p o') u' (.ref p) fu' → RelTs W F (upd H p o') (Z.map (·.t)) (Z.map (·.v)) zps → (fu' ++ zps.flatten).Nodup → (∀ a ∈ fu' ++ zps.flatten, a ∈ fu ++ yps.flatten) →
        (∃ o, H p = some o ∧ Stb (GB W b) o o') → SR W b F (ρ.set i (t.putP π u')) σ (Z ++ X) (upd H p o') := by
  obtain ⟨le, f0, fn, kept, stab, pin, fps, xps, s1, s2, ⟨nd, ow⟩, lc1, lc2⟩ := S
  rw [List.map_append, List.map_append] at s2
  obtain ⟨yps, xr, e, q1, q2⟩ := RelTs.split (by simp) s2
  subst e
  obtain ⟨s, f, e1, e2, r⟩ := s1.get hi
  rw [hv] at e1
  cases e1
  rw [List.flatten_append] at nd ow
  have n := List.nodup_append.mp nd
  have n2 := List.nodup_append.mp n.2.1
  have hf : ∀ a ∈ f, a ∈ fps.flatten := fun a ha => List.mem_flatten.mpr ⟨f, List.mem_of_getElem? e2, ha⟩
  have nf : f.Nodup := (List.sublist_flatten_of_mem (List.mem_of_getElem? e2)).nodup n.1
  obtain ⟨fu, rest, h1, h2, h3⟩ := RelT.mutX r nf hu ha
  obtain ⟨rl, l1, l2⟩ := flat_set e2
  have hfu : ∀ a ∈ fu, a ∈ fps.flatten := fun a ha => hf a (h1.mem_iff.mpr (List.mem_append_left _ ha))
  have nfu : fu.Nodup := (List.nodup_append.mp (h1.nodup_iff.mp nf)).1
  have lY : Y.length = yps.length := by have := RelTs.lenA q1; simpa using this.2
  have lcs := (LocX.append (b := b) lY).mp lc2
  refine ⟨fu, yps, h2, q1, List.nodup_append.mpr ⟨nfu, n2.1, fun a ha c hc e => n.2.2 a (hfu a ha) c (List.mem_append_left _ hc) e⟩, fun a ha => ?_, fun o' u' fu' Z zps hp hr hz nn hsub ho => ?_⟩
  · rcases List.mem_append.mp ha with z | z
    · exact ow a (List.mem_append_left _ (hfu a z))
    · exact ow a (List.mem_append_right _ (List.mem_append_left _ z))
  obtain ⟨o, ho, hst⟩ := ho
  have hpf : p ∈ fps.flatten := hfu p hp
  have hpn : F p = none := ow p (List.mem_append_left _ hpf)
  have hne : ∀ a, a ≠ p → upd H p o' a = H a := fun a e => upd_ne e
  obtain ⟨f', g1, g2⟩ := h3 _ u' fu' hne hp hr
  have hpf1 : p ∈ f := h1.mem_iff.mpr (List.mem_append_left _ hp)
  -- all places, told apart
  have P0 : (fps.flatten ++ (yps.flatten ++ xr.flatten)).Perm ((fu ++ yps.flatten) ++ (rest ++ rl ++ xr.flatten)) := by
    refine ((l1.trans (h1.append_right rl)).append_right _).trans ?_
    simp only [List.append_assoc]
    refine List.Perm.append_left fu ?_
    rw [← List.append_assoc rest rl, ← List.append_assoc rest rl]
    exact (List.perm_append_comm_assoc _ _ _)
  have P1 : ((fps.set i f').flatten ++ (zps.flatten ++ xr.flatten)).Perm ((fu' ++ zps.flatten) ++ (rest ++ rl ++ xr.flatten)) := by
    refine (((l2 f').trans (g1.append_right rl)).append_right _).trans ?_
    simp only [List.append_assoc]
    refine List.Perm.append_left fu' ?_
    rw [← List.append_assoc rest rl, ← List.append_assoc rest rl]
    exact (List.perm_append_comm_assoc _ _ _)
  have N0 := List.nodup_append.mp (P0.nodup_iff.mp nd)
  have N1 : ((fu' ++ zps.flatten) ++ (rest ++ rl ++ xr.flatten)).Nodup := List.nodup_append.mpr ⟨nn, N0.2.1, fun a ha c hc e => N0.2.2 a (hsub a ha) c hc e⟩
  have sub : ∀ a ∈ (fps.set i f').flatten ++ (zps.flatten ++ xr.flatten), a ∈ fps.flatten ++ (yps.flatten ++ xr.flatten) := fun a ha => by
    refine P0.mem_iff.mpr ?_
    rcases List.mem_append.mp (P1.mem_iff.mp ha) with z | z
    · exact List.mem_append_left _ (hsub a z)
    · exact List.mem_append_right _ z
  have mine : ∀ a ∈ fps.flatten ++ (yps.flatten ++ xr.flatten), b.H0 a = none ∨ a ∈ b.A := fun a ha => by
    rcases List.mem_append.mp ha with z | z
    · exact LocS.old lc1 z
    · rcases List.mem_append.mp z with z | z
      · exact LocX.old lY lcs.1 z
      · exact LocX.old (by have := RelTs.lenA q2; simpa using this.2) lcs.2 z
  have lZ : Z.length = zps.length := by have := RelTs.lenA hz; simpa using this.2
  refine ⟨fun a x e => ?_, f0, fn, fun a x e hA => ?_, fun a x e hA => ?_, pin, fps.set i f', zps ++ xr, Slots.putX hpf1 g2 hne s1 n.1 hv e2, ?_, ⟨?_, fun a ha => ?_⟩, fun j g hj a ha => ?_, ?_⟩
  · have : a ≠ p := fun q => by rw [q, hpn] at e; cases e
    rw [hne a this]
    exact le a x e
  · have : a ≠ p := fun q => by
      subst q
      rcases LocS.old lc1 hpf with z | z
      · rw [z] at e; cases e
      · exact hA z
    rw [hne a this]
    exact kept a x e hA
  · by_cases q : a = p
    · subst q
      obtain ⟨w, hw, st⟩ := stab a x e hA
      rw [ho] at hw
      cases hw
      exact ⟨o', upd_same, st.trans hst⟩
    · obtain ⟨w, hw, st⟩ := stab a x e hA
      exact ⟨w, by rw [hne a q]; exact hw, st⟩
  · rw [List.map_append, List.map_append]
    exact RelTs.join hz (RelTs.mono (Inc.refl F) _ _ xr (fun a ha => hne a fun q => n.2.2 p hpf a (List.mem_append_right _ ha) q.symm) q2)
  · rw [List.flatten_append]
    exact P1.nodup_iff.mpr N1
  · rw [List.flatten_append] at ha
    exact ow a (sub a ha)
  · exact mine a (sub a (List.mem_append_left _ (List.mem_flatten.mpr ⟨g, List.mem_of_getElem? hj, ha⟩)))
  · exact (LocX.append lZ).mpr ⟨LocX.any fun a ha => mine a (sub a (List.mem_append_right _ (List.mem_append_left _ ha))), lcs.2⟩
end
end Z

namespace Z
open PySem PySem.Spec PyProof.Rows L2
/-! ### values of one's own, made without changing anything that stands -/
def Smo (W : Wd) (t : TE) (f : List T → Option (T × List T)) : Prop :=
  ∀ b F ρ σ X H τ ρ' Q, SR W b F ρ σ X H → f ρ = some (τ, ρ') → (∀ v F' H', SR W b F' ρ' σ (⟨none, τ, v⟩ :: X) H' → Inc F F' → Same H H' → Q v H') → t σ H Q
def Em (c : Ctx) (e : Expr) (f : List T → Option (T × List T)) : Prop := ∃ t, (∀ j, PE (c.X j) e t) ∧ Smo c.W t f
def Smos (W : Wd) (t : TA) (f : List T → Option (List T × List T)) : Prop :=
  ∀ b F ρ σ X H τs ρ' Q, SR W b F ρ σ X H → f ρ = some (τs, ρ') → (∀ vs F' H', τs.length = vs.length → SR W b F' ρ' σ (Xn τs vs ++ X) H' → Inc F F' → Same H H' → Q vs H') → t σ H Q
def Ams (c : Ctx) (es : List Expr) (f : List T → Option (List T × List T)) : Prop := ∃ t, (∀ j, PA (c.X j) es t) ∧ Smos c.W t f
section
variable {c : Ctx} {e : Expr} {es : List Expr} {pos : Pos} {fe : List T → Option T} {fm : List T → Option (T × List T)} {fs : List T → Option (List T × List T)}
def mP (fe : List T → Option T) : List T → Option (T × List T) := fun ρ => (fe ρ).bind fun t => t.d?.map fun d => (.f d, ρ)
theorem em_p (h : Ev c e fe) : Em c e (mP fe) := by
  obtain ⟨t, p, s⟩ := h
  refine ⟨t, p, ?_⟩
  intro b F ρ σ X H τ ρ' Q S e k
  unfold mP at e
  obtain ⟨t1, e1, e⟩ := Option.bind_eq_some_iff.mp e
  obtain ⟨d, e2, e⟩ := Option.map_eq_some_iff.mp e
  cases e
  cases d_some e2
  exact s b F ρ σ X H _ _ S e1 fun v F1 H1 S1 i1 s1 r1 => k v F1 H1 (S1.push r1.rep) i1 s1
def mV (i : Nat) : List T → Option (T × List T) := fun ρ => match ρ[i]? with
  | some .un => none
  | some t => some (t, ρ.set i .un)
  | none => none
theorem em_v (i : Nat) {x : Str} (hi : c.N[i]? = some x := by rfl) (hv : ∀ j, Vis (c.X j).env.scope x := by intro _; first | exact Or.inl rfl | exact Or.inr (Or.inl rfl) | exact Or.inr (Or.inr rfl)) (hd : (x == ("__debug__" : Str)) = false := by decide) (hcd : (x == ("__classdict__" : Str)) = false := by decide) : Em c (.Name x pos) (mV i) := by
  refine ⟨_, fun j => pe_var (i := i) (by rw [c.hN j]; exact hi) (hv j) hd hcd, ?_⟩
  intro b F ρ σ X H τ ρ' Q S e k
  unfold mV at e
  cases q : ρ[i]? with
  | none => rw [q] at e; cases e
  | some t =>
    have ht : t ≠ .un := by
      rintro rfl
      rw [q] at e
      cases e
    have e2 : t = τ ∧ ρ.set i .un = ρ' := by
      rw [q] at e
      cases t with
      | un => exact absurd rfl ht
      | _ => cases e; exact ⟨rfl, rfl⟩
    obtain ⟨rfl, rfl⟩ := e2
    obtain ⟨s, fp, e1, r⟩ := S.slot q
    cases s with
    | none => exact absurd r.1 ht
    | some v =>
      have S' := S.take q e1
      refine ⟨v, e1, k v F H ?_ (Inc.refl F) (Same.refl H)⟩
      obtain ⟨le, f0, fn, kept, stab, pin, fps, xps, s1, s2, ow, lc1, lc2⟩ := S'
      refine ⟨le, f0, fn, kept, stab, pin, fps, xps, s1, s2, ow, lc1, ?_⟩
      cases xps with
      | nil => exact trivial
      | cons f fs => exact lc2
def msNil : List T → Option (List T × List T) := fun ρ => some ([], ρ)
def msCons (f : List T → Option (T × List T)) (g : List T → Option (List T × List T)) : List T → Option (List T × List T) := fun ρ => (f ρ).bind fun p => (g p.2).map fun q => (p.1 :: q.1, q.2)
theorem ams_nil : Ams c [] msNil := by
  refine ⟨_, fun _ => pa_nil, ?_⟩
  intro b F ρ σ X H τs ρ' Q S e k
  cases e
  exact k [] F H rfl S (Inc.refl F) (Same.refl H)
theorem Xn_perm {x : Tm} {X : List Tm} : ∀ (Y : List Tm), (Y ++ x :: X).Perm (x :: (Y ++ X)) := fun Y => List.perm_middle
theorem ams_cons (ha : Em c e fm) (hr : Ams c es fs) (hs : ∀ j, starEach (e :: es) (c.X j).env = (false, eval e (c.X j).env) :: starEach es (c.X j).env := by intro _; rfl) : Ams c (e :: es) (msCons fm fs) := by
  obtain ⟨t, p, s⟩ := ha
  obtain ⟨u, q, s'⟩ := hr
  refine ⟨tCons t u, fun j => pa_cons (p j) (q j) (hs j), ?_⟩
  intro b F ρ σ X H τs ρ' Q S e k
  unfold msCons at e
  obtain ⟨⟨τ, ρ1⟩, e1, e⟩ := Option.bind_eq_some_iff.mp e
  obtain ⟨⟨τr, ρ2⟩, e2, e⟩ := Option.map_eq_some_iff.mp e
  cases e
  refine s b F ρ σ X H _ _ _ S e1 fun v F1 H1 S1 i1 s1 => ?_
  refine s' b F1 _ σ _ H1 _ _ _ S1 e2 fun vs F2 H2 hl S2 i2 s2 => ?_
  exact k (v :: vs) F2 H2 (by simp [hl]) (S2.perm (Xn_perm _)) (i1.trans i2) (s1.trans s2)
/-- the things held become one tuple, one list -/
theorem SR.bundle {W : Wd} {b : Bs} {F : Hp} {ρ : List T} {σ : L2.St} {X Y : List Tm} {H : Hp} {p : Addr} {o : HO} {t : T} (S : SR W b F ρ σ (Y ++ X) H) (hp : H p = none)
    (ht : ∀ fps, RelTs W F (upd H p o) (Y.map (·.t)) (Y.map (·.v)) fps → RelT W F (upd H p o) t (.ref p) (p :: fps.flatten)) : SR W b F ρ σ (⟨none, t, .ref p⟩ :: X) (upd H p o) := by
  have S1 : SR W b F ρ σ (⟨none, .l [], .ref p⟩ :: (Y ++ X)) (upd H p (.lst [])) := S.own hp ⟨p, [], rfl, rfl, upd_same, rfl⟩
  obtain ⟨le, f0, fn, kept, stab, pin, fps, xps, s1, s2, ⟨nd, ow⟩, lc1, lc2⟩ := S
  rw [List.map_append, List.map_append] at s2
  obtain ⟨yps, xr, e, q1, q2⟩ := RelTs.split (by simp) s2
  subst e
  rw [List.flatten_append] at nd ow
  have hthere : ∀ a ∈ fps.flatten ++ (yps.flatten ++ xr.flatten), a ≠ p := fun a ha z => by
    subst z
    rcases List.mem_append.mp ha with y | y
    · obtain ⟨o, e⟩ := Slots.there s1 a y
      rw [hp] at e; cases e
    · rcases List.mem_append.mp y with y | y
      · obtain ⟨o, e⟩ := RelTs.there _ _ _ q1 a y
        rw [hp] at e; cases e
      · obtain ⟨o, e⟩ := RelTs.there _ _ _ q2 a y
        rw [hp] at e; cases e
  have stay : ∀ a ∈ fps.flatten ++ (yps.flatten ++ xr.flatten), upd H p o a = H a := fun a ha => upd_ne (hthere a ha)
  have lY : Y.length = yps.length := by have := RelTs.lenA q1; simpa using this.2
  have lcs := (LocX.append (b := b) lY).mp lc2
  have hFp : F p = none := le.none hp
  have hnew : b.H0 p = none := by
    cases q : b.H0 p with
    | none => rfl
    | some u =>
      by_cases hA : p ∈ b.A
      · obtain ⟨u', z', _⟩ := stab p u q hA
        rw [z'] at hp; cases hp
      · rw [kept p u q hA] at hp; cases hp
  have same : Same H (upd H p o) := fun a u e => by rw [upd_ne (ne_of_none e hp)]; exact e
  refine ⟨le.inc same, f0, fn, fun a u e na => same a u (kept a u e na), fun a u e ha => (stab a u e ha).elim fun w q => ⟨w, same a w q.1, q.2⟩, pin, fps, (p :: yps.flatten) :: xr, s1.mono (Inc.refl F) (fun a ha => stay a (List.mem_append_left _ ha)),
    ⟨_, _, _, _, rfl, rfl, ht yps (RelTs.mono (Inc.refl F) _ _ _ (fun a ha => stay a (List.mem_append_right _ (List.mem_append_left _ ha))) q1), RelTs.mono (Inc.refl F) _ _ _ (fun a ha => stay a (List.mem_append_right _ (List.mem_append_right _ ha))) q2⟩, ⟨?_, fun a ha => ?_⟩, lc1, fun a ha => ?_, lcs.2⟩
  · rw [List.flatten_cons, List.cons_append]
    refine (List.perm_middle.nodup_iff).mpr (List.nodup_cons.mpr ⟨fun z => hthere p z rfl, nd⟩)
  · rw [List.flatten_cons, List.cons_append] at ha
    rcases List.mem_cons.mp (List.perm_middle.mem_iff.mp ha) with z | z
    · rw [z]; exact hFp
    · exact ow a z
  · rcases List.mem_cons.mp ha with z | z
    · rw [z]; exact .inl hnew
    · exact LocX.old lY lcs.1 z
def mTup (fs : List T → Option (List T × List T)) : List T → Option (T × List T) := fun ρ => (fs ρ).bind fun p => if p.1.length ≤ sizeLine then some (.tu p.1, p.2) else none
def mLst (fs : List T → Option (List T × List T)) : List T → Option (T × List T) := fun ρ => (fs ρ).bind fun p => if p.1.length ≤ sizeLine then some (.ll p.1, p.2) else none
theorem em_tup {m : Nat} (h : Ams c es fs) : Em c (.Tuple es m pos) (mTup fs) := by
  obtain ⟨t, p, s⟩ := h
  refine ⟨_, fun j => pe_tup (p j), ?_⟩
  intro b F ρ σ X H τ ρ' Q S e k
  unfold mTup at e
  obtain ⟨⟨ts, ρ1⟩, e1, e⟩ := Option.bind_eq_some_iff.mp e
  split at e
  · rename_i hl
    cases e
    refine s b F ρ σ X H _ _ _ S e1 fun vs F1 H1 hlen S1 i1 s1 => ⟨by rw [← hlen]; exact hl, fun q hq => ?_⟩
    obtain ⟨a1, a2⟩ := Xn_t hlen
    refine k _ F1 _ (S1.bundle hq fun fps r => ?_) i1 (s1.trans fun a u e => by rw [upd_ne (ne_of_none e hq)]; exact e)
    rw [a1, a2] at r
    exact ⟨q, vs, fps, rfl, rfl, upd_same, r⟩
  · cases e
theorem em_lst (h : Ams c es fs) : Em c (.List es pos) (mLst fs) := by
  obtain ⟨t, p, s⟩ := h
  refine ⟨_, fun j => pe_lst (p j), ?_⟩
  intro b F ρ σ X H τ ρ' Q S e k
  unfold mLst at e
  obtain ⟨⟨ts, ρ1⟩, e1, e⟩ := Option.bind_eq_some_iff.mp e
  split at e
  · rename_i hl
    cases e
    refine s b F ρ σ X H _ _ _ S e1 fun vs F1 H1 hlen S1 i1 s1 => ⟨by rw [← hlen]; exact hl, fun q hq => ?_⟩
    obtain ⟨a1, a2⟩ := Xn_t hlen
    refine k _ F1 _ (S1.bundle hq fun fps r => ?_) i1 (s1.trans fun a u e => by rw [upd_ne (ne_of_none e hq)]; exact e)
    rw [a1, a2] at r
    exact ⟨q, vs, fps, rfl, rfl, upd_same, r⟩
  · cases e
/-- a new list of deep things -/
def mNew (fs : List T → Option (List T)) : List T → Option (T × List T) := fun ρ => (fs ρ).bind fun ts => (deep ts).bind fun ds => if ds.length ≤ sizeLine then some (.l ds, ρ) else none
theorem em_new {fs : List T → Option (List T)} (h : Av c es fs) : Em c (.List es pos) (mNew fs) := by
  obtain ⟨t, p, s⟩ := h
  refine ⟨_, fun j => pe_lst (p j), ?_⟩
  intro b F ρ σ X H τ ρ' Q S e k
  unfold mNew at e
  obtain ⟨xs, e1, e⟩ := Option.bind_eq_some_iff.mp e
  obtain ⟨ds, e2, e⟩ := Option.bind_eq_some_iff.mp e
  split at e
  · rename_i hl
    cases e
    refine s b F _ σ X H xs _ S e1 fun vs F1 H1 S1 i1 s1 r1 => ?_
    have r2 := r1.deep e2
    refine ⟨by rw [← r2.len]; exact hl, fun q hq => ?_⟩
    exact k _ F1 _ (S1.own hq ⟨q, vs, rfl, rfl, upd_same, r2⟩) i1 (s1.trans fun a u e => by rw [upd_ne (ne_of_none e hq)]; exact e)
  · cases e
def mNewD : List T → Option (T × List T) := fun ρ => some (.dk [] [], ρ)
theorem em_newd : Em c (.Dict [] [] pos) mNewD := by
  refine ⟨_, fun _ => pe_dnewK, ?_⟩
  intro b F ρ σ X H τ ρ' Q S e k
  cases e
  intro q hq
  exact k _ F _ (S.own hq ⟨q, [], rfl, rfl, upd_same, rfl, rfl⟩) (Inc.refl F) fun a u e => by rw [upd_ne (ne_of_none e hq)]; exact e
/-- as such -/
def mE (fm : List T → Option (T × List T)) : List T → Option Re := fun ρ => (fm ρ).map fun p => .ok p.1 p.2
theorem emo (h : Em c e fm) : Eo c e (mE fm) := by
  obtain ⟨t, p, s⟩ := h
  refine ⟨t, p, ?_⟩
  intro b F ρ σ X H r Q hb S e k
  unfold mE at e
  obtain ⟨⟨τ, ρ'⟩, e1, e⟩ := Option.map_eq_some_iff.mp e
  subst e
  exact s b F ρ σ X H τ ρ' _ S e1 fun v F1 H1 S1 i1 s1 => k v F1 H1 S1 i1
end
/-! ### xs.append(a thing of its own) -/
def appM (t : T) : T → Option T
  | .ll ts => if ts.length < sizeLine then some (.ll (ts ++ [t])) else none
  | .l ds => if ds.length < sizeLine then (match t with
    | .f d => some (.l (ds ++ [d]))
    | .un => none
    | t => some (.ll (ds.map .f ++ [t]))) else none
  | _ => none
def isLst : T → Bool | .l _ => true | .ll _ => true | _ => false
def sAppM (i : Nat) (fp : List T → Option (List Sel)) (fm : List T → Option (T × List T)) : FS := fun ρ => (fp ρ).bind fun π => (ρ[i]?.bind fun t => t.getP π).bind fun u0 => if isLst u0 = true then (fm ρ).bind fun q => (mutF i π (appM q.1) q.2).map .nx else none
theorem relTs_one {W : Wd} {F H : Hp} {t : T} {v : V} {f : List Addr} (r : RelT W F H t v f) : RelTs W F H [t] [v] [f] := ⟨v, [], f, [], rfl, rfl, r, rfl, rfl⟩
theorem relTs_deepF {W : Wd} {F H : Hp} {ds : List D} {vs : List V} (r : Reps W F ds vs) : RelTs W F H (ds.map .f) vs (List.replicate ds.length []) := relTs_deep r
theorem flat_repl : ∀ (n : Nat), (List.replicate n ([] : List Addr)).flatten = []
  | 0 => rfl
  | n + 1 => by rw [List.replicate_succ, List.flatten_cons, flat_repl n]; rfl
theorem SR.appM {W : Wd} {b : Bs} {F : Hp} {ρ ρ' : List T} {σ : L2.St} {X : List Tm} {H : Hp} {i : Nat} {π : List Sel} {t : T} {v y : V} {p : Addr} (S : SR W b F ρ σ (⟨none, t, y⟩ :: X) H) (h : mutF i π (appM t) ρ = some ρ') (hv : σ[i]? = some (some v)) (ha : AtV H v π p) :
    ∃ vs, H p = some (.lst vs) ∧ vs.length < sizeLine ∧ SR W b F ρ' σ X (upd H p (.lst (vs ++ [y]))) := by
  obtain ⟨t0, u, u', e1, e2, e3, rfl⟩ := mutF_some h
  obtain ⟨fu, yps, q1, q2, q3, q4, q5⟩ := SR.mutX (Y := [⟨none, t, y⟩]) (X := X) S e1 hv e2 ha
  obtain ⟨y', vr, fy, fr, ey, rfl, ry, q2'⟩ := q2
  cases ey
  obtain ⟨_, rfl⟩ := q2'
  rw [List.flatten_cons, List.flatten_nil, List.append_nil] at q3 q4 q5
  have ny : p ∈ fu → ∀ o, ∀ a ∈ fy, upd H p o a = H a := fun hp o a ha => upd_ne fun z => (List.nodup_append.mp q3).2.2 p hp a ha z.symm
  cases u with
  | ll ts =>
    have e3' : (if ts.length < sizeLine then some (T.ll (ts ++ [t])) else none) = some u' := e3
    split at e3'
    · rename_i hl
      cases e3'
      obtain ⟨p', vs, fps, ep, rfl, hp, rs⟩ := q1
      cases ep
      have n0 := List.nodup_append.mp q3
      have hpn : p ∉ fps.flatten := (List.nodup_cons.mp n0.1).1
      refine ⟨vs, hp, by rw [← rs.lenA.1]; exact hl, ?_⟩
      refine q5 _ (.ll (ts ++ [t])) (p :: (fps ++ [fy]).flatten) [] [] List.mem_cons_self ⟨p, _, fps ++ [fy], rfl, rfl, upd_same, ?_⟩ ⟨rfl, rfl⟩ ?_ (fun a ha => ?_) ⟨_, hp, Stb.lst⟩
      · exact RelTs.join (RelTs.mono (Inc.refl F) _ _ _ (fun a ha => upd_ne fun z => hpn (z ▸ ha)) rs) (relTs_one (RelT.mono (Inc.refl F) _ _ _ (ny List.mem_cons_self _) ry))
      · simpa using q3
      · simpa using ha
    · cases e3'
  | l ds =>
    have e3' : (if ds.length < sizeLine then (match t with
      | .f d => some (T.l (ds ++ [d]))
      | .un => none
      | t => some (.ll (ds.map .f ++ [t]))) else none) = some u' := e3
    split at e3'
    · rename_i hl
      obtain ⟨p', vs, ep, rfl, hp, rs⟩ := q1
      cases ep
      refine ⟨vs, hp, by rw [← rs.len]; exact hl, ?_⟩
      by_cases hf : ∃ d, t = .f d
      · obtain ⟨d, rfl⟩ := hf
        cases e3'
        have hfy : fy = [] := ry.1
        subst hfy
        refine q5 _ (.l (ds ++ [d])) [p] [] [] (List.mem_singleton.mpr rfl) ⟨p, _, rfl, rfl, upd_same, rs.append ⟨y, [], rfl, ry.2, rfl⟩⟩ ⟨rfl, rfl⟩ (by simp) (fun a ha => by simpa using ha) ⟨_, hp, Stb.lst⟩
      · have e4 : u' = .ll (ds.map .f ++ [t]) := by
          cases t with
          | f d => exact absurd ⟨d, rfl⟩ hf
          | un => cases e3'
          | _ => exact (Option.some.inj e3').symm
        subst e4
        have hfl : (List.replicate ds.length ([] : List Addr) ++ [fy]).flatten = fy := by
          rw [List.flatten_append, flat_repl, List.flatten_cons, List.flatten_nil, List.append_nil, List.nil_append]
        refine q5 _ (.ll (ds.map .f ++ [t])) (p :: (List.replicate ds.length [] ++ [fy]).flatten) [] [] (List.mem_singleton.mpr rfl) ⟨p, _, _, rfl, rfl, upd_same, ?_⟩ ⟨rfl, rfl⟩ ?_ (fun a ha => ?_) ⟨_, hp, Stb.lst⟩
        · exact RelTs.join (relTs_deep rs) (relTs_one (RelT.mono (Inc.refl F) _ _ _ (ny (List.mem_singleton.mpr rfl) _) ry))
        · rw [hfl]
          simpa using q3
        · rw [hfl] at ha
          simpa using ha
    · cases e3'
  | _ => cases e3
theorem sm_appM {c : Ctx} {e o : Expr} {i : Nat} {fp : List T → Option (List Sel)} {fm : List T → Option (T × List T)} {pos apos cpos : Pos} (ho : Lo c o i fp) (he : Em c e fm)
    (hbase : ∀ j, attributeBase o "append" (c.X j).env (eval o (c.X j).env) = eval o (c.X j).env := by intro _; rfl)
    (hfew : ∀ j, ((backTo cpos (starEach [e] (c.X j).env)).all (fun x => !x.1) && (backToKw cpos (keywordEach [] (c.X j).env)).all (fun x => x.1.isSome)
      && decide (([e] : List Expr).length + ([] : List Keyword).length + (if ([] : List Keyword).isEmpty then 0 else 1) < 30)) = true := by intro _; rfl)
    (hline : (apos.endLine == cpos.line) = true := by rfl) (hs : ∀ j, starEach [e] (c.X j).env = (false, eval e (c.X j).env) :: starEach [] (c.X j).env := by intro _; rfl) (hplain : ∀ j, (backTo cpos (starEach [] (c.X j).env)).any (·.1) = false := by intro _; rfl)
    (hsw : ∀ j, swapsWith (.Call (.Attribute o "append" apos) [e] [] cpos) none pos.line (c.X j).env = pure false := by intro _; rfl) :
    Sm c (.Expr (.Call (.Attribute o "append" apos) [e] [] cpos) pos) (sAppM i fp fm) := by
  obtain ⟨to, po, so⟩ := ho
  obtain ⟨te, pe, se⟩ := he
  refine ⟨tDrop (tBM c.W.K "list" rAppend to (tCons te tNil)), fun j => by
    have h := ps_expr (pe_bm PySem.F.plainAttrs_list PySem.F.slot_list_append PySem.F.type_list_append mt_append (po j) (pa_cons (pe j) pa_nil (hs j)) (hbase j) (hfew j) hline (hs j) (hplain j)) (hsw j)
    rw [c.hK j] at h
    exact h, ?_⟩
  intro b F ρ σ X H out D hb S eq k
  unfold sAppM at eq
  obtain ⟨π, e1, eq⟩ := Option.bind_eq_some_iff.mp eq
  obtain ⟨u0, e2, eq⟩ := Option.bind_eq_some_iff.mp eq
  obtain ⟨t0, e2a, e2b⟩ := Option.bind_eq_some_iff.mp e2
  split at eq
  · rename_i hlst
    have hown : owned u0 = true := by cases u0 <;> first | rfl | cases hlst
    obtain ⟨⟨t, ρ1⟩, e3, eq⟩ := Option.bind_eq_some_iff.mp eq
    obtain ⟨ρ', e4, eq⟩ := Option.map_eq_some_iff.mp eq
    subst eq
    refine so b F ρ σ X H π t0 u0 _ S e1 e2a e2b hown fun p v F1 H1 S1 i1 s1 hv hat => ?_
    have hl1 : ∃ vs, H1 p = some (.lst vs) := by
      obtain ⟨fu, q1⟩ := S1.part e2a hv e2b hat
      cases u0 with
      | l ds => obtain ⟨p', vs, ep, _, hp, _⟩ := q1; cases ep; exact ⟨vs, hp⟩
      | ll ts => obtain ⟨p', vs, fps, ep, _, hp, _⟩ := q1; cases ep; exact ⟨vs, hp⟩
      | _ => cases hlst
    obtain ⟨vs0, hl1⟩ := hl1
    refine ⟨.inl ⟨rfl, vs0, SqL.of hl1⟩, ?_⟩
    refine se b F1 ρ σ X H1 t ρ1 _ S1 e3 fun y F2 H2 S2 i2 s2 => ?_
    obtain ⟨vs, hp, hz, S3⟩ := S2.appM e4 hv (hat.same s2)
    exact ⟨p, vs, y, rfl, rfl, hp, hz, k σ F2 _ S3 (i1.trans i2)⟩
  · cases eq
end Z

namespace Z
open PySem PySem.Spec PyProof.Rows L2
/-! ### xs.pop() -/
theorem drop_last {α : Type} {l : List α} {a : α} (h : l.getLast? = some a) : l.dropLast ++ [a] = l := by
  have hne : l ≠ [] := fun z => by rw [z] at h; cases h
  rw [List.getLast?_eq_getLast hne] at h
  cases h
  exact List.dropLast_concat_getLast hne
theorem RelTs.last {W : Wd} {F H : Hp} {t : T} : ∀ {ts : List T} {vs : List V} {fps : List (List Addr)}, RelTs W F H (ts ++ [t]) vs fps → ∃ vs' y fs f, vs = vs' ++ [y] ∧ fps = fs ++ [f] ∧ RelTs W F H ts vs' fs ∧ RelT W F H t y f
  | [], _, _, r => by
    obtain ⟨v, vr, f, fr, rfl, rfl, a, b⟩ := r
    obtain ⟨rfl, rfl⟩ := b
    exact ⟨[], v, [], f, rfl, rfl, ⟨rfl, rfl⟩, a⟩
  | s :: ts, _, _, r => by
    obtain ⟨v, vr, f, fr, rfl, rfl, a, b⟩ := r
    obtain ⟨vs', y, fs, f', rfl, rfl, q1, q2⟩ := RelTs.last b
    exact ⟨v :: vs', y, f :: fs, f', rfl, rfl, ⟨v, vs', f, fs, rfl, rfl, a, q1⟩, q2⟩
def popT : T → Option (T × T)
  | .ll ts => ts.getLast?.bind fun t => match t with
    | .un => none
    | t => some (t, .ll ts.dropLast)
  | .l ds => ds.getLast?.map fun d => (.f d, .l ds.dropLast)
  | _ => none
def fPop (i : Nat) (fp : List T → Option (List Sel)) : List T → Option Re := fun ρ => (fp ρ).bind fun π => ρ[i]?.bind fun t0 => (t0.getP π).bind fun u => (popT u).map fun q => .ok q.1 (ρ.set i (t0.putP π q.2))
theorem eo_pop {c : Ctx} {o : Expr} {i : Nat} {fp : List T → Option (List Sel)} {apos cpos : Pos} (ho : Lo c o i fp)
    (hbase : ∀ j, attributeBase o "pop" (c.X j).env (eval o (c.X j).env) = eval o (c.X j).env := by intro _; rfl) (hline : (apos.endLine == cpos.line) = true := by rfl) : Eo c (.Call (.Attribute o "pop" apos) [] [] cpos) (fPop i fp) := by
  obtain ⟨to, po, so⟩ := ho
  refine ⟨tBM0 c.W.K "list" rPop to, fun j => by
    have h := pe_bm0 (cpos := cpos) (apos := apos) PySem.F.plainAttrs_list PySem.F.slot_list_pop PySem.F.type_list_pop mt_pop (po j) (hbase j) hline
    rw [c.hK j] at h
    exact h, ?_⟩
  intro b F ρ σ X H r Q hb S eq k
  unfold fPop at eq
  obtain ⟨π, e1, eq⟩ := Option.bind_eq_some_iff.mp eq
  obtain ⟨t0, e2, eq⟩ := Option.bind_eq_some_iff.mp eq
  obtain ⟨u, e3, eq⟩ := Option.bind_eq_some_iff.mp eq
  obtain ⟨⟨t, u'⟩, e4, eq⟩ := Option.map_eq_some_iff.mp eq
  subst eq
  have hown : owned u = true := by cases u <;> first | rfl | cases e4
  refine so b F ρ σ X H π t0 u _ S e1 e2 e3 hown fun p v F1 H1 S1 i1 s1 hv hat => ?_
  obtain ⟨fu, yps, q1, q2, q3, q4, q5⟩ := SR.mutX (Y := []) (X := X) S1 e2 hv e3 hat
  obtain ⟨_, rfl⟩ := q2
  rw [List.flatten_nil, List.append_nil] at q3 q4 q5
  cases u with
  | ll ts =>
    obtain ⟨t', e5, e6⟩ := Option.bind_eq_some_iff.mp (show ts.getLast?.bind _ = some (t, u') from e4)
    have e7 : t' = t ∧ u' = .ll ts.dropLast := by
      cases t' with
      | un => cases e6
      | _ => cases e6; exact ⟨rfl, rfl⟩
    obtain ⟨rfl, rfl⟩ := e7
    have ets : ts = ts.dropLast ++ [t'] := (drop_last e5).symm
    obtain ⟨p', vs, fps, ep, rfl, hp, rs⟩ := q1
    cases ep
    rw [ets] at rs
    obtain ⟨vs', y, fs, f, rfl, rfl, r1, r2⟩ := RelTs.last rs
    refine ⟨.inl ⟨rfl, _, SqL.of hp⟩, p, _, y, rfl, rfl, hp, by simp, ?_⟩
    have n0 := List.nodup_cons.mp q3
    have hpn : ∀ a ∈ (fs ++ [f]).flatten, upd H1 p (.lst (vs' ++ [y]).dropLast) a = H1 a := fun a ha => upd_ne fun z => n0.1 (z ▸ ha)
    rw [List.dropLast_concat] at hpn ⊢
    refine k y F1 _ (q5 _ (.ll ts.dropLast) (p :: fs.flatten) [⟨none, t', y⟩] [f] List.mem_cons_self ⟨p, vs', fs, rfl, rfl, upd_same, RelTs.mono (Inc.refl F1) _ _ _ (fun a ha => hpn a (by rw [List.flatten_append]; exact List.mem_append_left _ ha)) r1⟩
      (relTs_one (RelT.mono (Inc.refl F1) _ _ _ (fun a ha => hpn a (by rw [List.flatten_append]; exact List.mem_append_right _ (by simpa using ha))) r2)) ?_ (fun a ha => ?_) ⟨_, hp, Stb.lst⟩) i1
    · simpa using q3
    · simpa using ha
  | l ds =>
    obtain ⟨d, e5, e6⟩ := Option.map_eq_some_iff.mp (show ds.getLast?.map _ = some (t, u') from e4)
    cases e6
    have ets : ds = ds.dropLast ++ [d] := (drop_last e5).symm
    obtain ⟨p', vs, ep, rfl, hp, rs⟩ := q1
    cases ep
    have hl : 0 < ds.length := by rw [ets]; simp
    have hlv := rs.len
    obtain ⟨y, hy, ry⟩ := rs.get (i := ds.length - 1) (d := d) (by rw [← List.getLast?_eq_getElem?]; exact e5)
    refine ⟨.inl ⟨rfl, _, SqL.of hp⟩, p, vs, y, rfl, rfl, hp, by rw [← hlv]; exact hy, ?_⟩
    have hdrop : Reps c.W F1 ds.dropLast vs.dropLast := by
      rw [List.dropLast_eq_take, List.dropLast_eq_take, hlv]
      exact rs.take _
    exact k y F1 _ (q5 _ (.l ds.dropLast) [p] [⟨none, .f d, y⟩] [[]] (List.mem_singleton.mpr rfl) ⟨p, _, rfl, rfl, upd_same, hdrop⟩ (relTs_one ⟨rfl, ry⟩) (by simp) (fun a ha => by simpa using ha) ⟨_, hp, Stb.lst⟩) i1
  | _ => cases e4
/-! ### (a, b, ..) = e -/
theorem SR.untup {W : Wd} {b : Bs} {F : Hp} {ρ : List T} {σ : L2.St} {X : List Tm} {H : Hp} {ts : List T} {v : V} (S : SR W b F ρ σ (⟨none, .tu ts, v⟩ :: X) H) : ∃ p vs, v = .ref p ∧ H p = some (.tup vs) ∧ ts.length = vs.length ∧ SR W b F ρ σ (Xn ts vs ++ X) H := by
  obtain ⟨le, f0, fn, kept, stab, pin, fps, xps, s1, s2, ⟨nd, ow⟩, lc1, lc2⟩ := S
  obtain ⟨v', vr, f, fr, e1, rfl, r1, r2⟩ := s2
  obtain ⟨p, vs, gps, ep, rfl, hp, rs⟩ := r1
  have e3 : v = v' := (List.cons.inj e1).1
  have e4 : X.map (·.v) = vr := (List.cons.inj e1).2
  subst e3 e4
  have hlen := rs.lenA.1
  obtain ⟨a1, a2⟩ := Xn_t hlen
  rw [List.flatten_cons] at nd ow
  have sub : List.Sublist (fps.flatten ++ (gps ++ fr).flatten) (fps.flatten ++ ((p :: gps.flatten) ++ fr.flatten)) := by
    rw [List.flatten_append]
    exact List.Sublist.append (List.Sublist.refl _) (List.Sublist.append (List.sublist_cons_self _ _) (List.Sublist.refl _))
  refine ⟨p, vs, ep, hp, hlen, le, f0, fn, kept, stab, pin, fps, gps ++ fr, s1, ?_, ⟨nd.sublist sub, fun a ha => ow a (sub.subset ha)⟩, lc1, ?_⟩
  · rw [List.map_append, List.map_append, a1, a2]
    exact RelTs.join rs r2
  · have hX : (Xn ts vs).length = gps.length := by
      have := congrArg List.length a1
      simp only [List.length_map] at this
      rw [this, rs.lenA.2]
    exact (LocX.append hX).mpr ⟨LocX.any fun a ha => lc2.1 a (List.mem_cons_of_mem _ ha), lc2.2⟩
def gTupM (n : Nat) (f : List T → List T → Option (List T)) : T → List T → Option (List T) := fun t ρ => match t with
  | .f (.tup ds) => if ds.length = n then f (ds.map .f) ρ else none
  | .tu ts => if ts.length = n then f ts ρ else none
  | _ => none
section
variable {c : Ctx} {e tg o : Expr} {es : List Expr} {pos pos' : Pos} {fs : List T → List T → Option (List T)} {fg : T → List T → Option (List T)} {fo : List T → Option Re}
theorem gt_tupM {n m : Nat} (h : Gts c es fs) (hn : ∀ j, (assignEach es (c.X j).env).length = n := by intro _; rfl) (hst : ∀ j, (assignEach es (c.X j).env).findIdx? (·.1) = none := by intro _; rfl) : Gt c (.Tuple es m pos) (gTupM n fs) := by
  obtain ⟨g, p, q⟩ := h
  refine ⟨L2.gTup c.W.K n g, fun j => ?_, ?_⟩
  · have := pg_tup (pos := pos) (k := m) (c.calm j) (p j) (hn j) (hst j)
    rw [c.hK j] at this
    exact this
  intro b F ρ ρ' σ X H t v Q hb S e k
  unfold gTupM at e
  cases t with
  | f d => cases d with
    | tup ds =>
      simp only at e
      split at e
      · rename_i hl
        obtain ⟨p, vs, ex, hs, r⟩ := S.top
        refine ⟨p, vs, ex, SqT.le S.le hs, by rw [← r.len]; exact hl, ?_⟩
        exact q b F ρ ρ' σ X H (ds.map .f) vs Q hb (by rw [List.length_map]; exact r.len) (S.drop.pushes r) e k
      · cases e
    | _ => cases e
  | tu ts =>
    simp only at e
    split at e
    · rename_i hl
      obtain ⟨p, vs, ex, hp, hlen, S2⟩ := S.untup
      exact ⟨p, vs, ex, SqT.of hp, by rw [← hlen]; exact hl, q b F ρ ρ' σ X H ts vs Q hb hlen S2 e k⟩
    · cases e
  | _ => cases e
def sAsg (fg : T → List T → Option (List T)) (fo : List T → Option Re) : FS := fun ρ => (fo ρ).bind fun r => match r with
  | .ok t ρ1 => (fg t ρ1).map .nx
  | .xc C ρ1 => some (.xc C ρ1)
theorem sm_asg (he : Eo c e fo) (hg : Gt c tg fg) (hs : ∀ j, swapsWithSole [tg] e pos.line (c.X j).env = pure false := by intro _; rfl) (hw : ∀ j, swappedStores [tg] e (c.X j).env = pure none := by intro _; rfl)
    (h1 : ∀ j, (assignEach [tg] (c.X j).env).map (·.2) = [assign tg (c.X j).env] := by intro _; rfl) : Sm c (.Assign [tg] e pos) (sAsg fg fo) := by
  obtain ⟨t, p, s⟩ := he
  obtain ⟨g, q, sg⟩ := hg
  refine ⟨tAsg t g, fun j => ps_asg (p j) (q j) (hs j) (hw j) (h1 j), ?_⟩
  intro b F ρ σ X H out D hb S eq k
  unfold sAsg at eq
  obtain ⟨r, e1, eq⟩ := Option.bind_eq_some_iff.mp eq
  refine s b F ρ σ X H r _ hb S e1 ?_
  cases r with
  | xc C ρ1 =>
    cases eq
    exact fun d F' H' S' i' => k d σ F' H' S' i'
  | ok t ρ1 =>
    obtain ⟨ρ2, e2, eq⟩ := Option.map_eq_some_iff.mp eq
    subst eq
    intro v F' H' S' i'
    exact sg b F' ρ1 ρ2 σ X H' t v _ hb S' e2 fun σ' F2 H2 S2 i2 => k σ' F2 H2 S2 (i'.trans i2)
end
/-! ### o.f = a thing of its own -/
theorem RelTs.putNewM {W : Wd} {F H : Hp} {f : Str} {t : T} {y : V} {fy : List Addr} (ry : RelT W F H t y fy) : ∀ {ns : List Str} {ts : List T} {kvs : List (Str × V)} {fps : List (List Addr)}, kvs.map (·.1) = ns → RelTs W F H ts (kvs.map (·.2)) fps → atN ns ts f = none →
    (L2.putF f y kvs).map (·.1) = ns ++ [f] ∧ RelTs W F H (ts ++ [t]) ((L2.putF f y kvs).map (·.2)) (fps ++ [fy])
  | _, [], [], fps, h, r, _ => by
    subst h
    rw [r.2]
    exact ⟨rfl, ⟨y, [], fy, [], rfl, rfl, ry, rfl, rfl⟩⟩
  | _, [], k :: kvs, _, _, r, _ => by cases r.1
  | _, t0 :: ts, [], _, _, r, _ => by obtain ⟨_, _, _, _, e, _⟩ := r; cases e
  | _, t0 :: ts, k :: kvs, fps, h, r, e => by
    subst h
    obtain ⟨v, vr, f0, fr, e1, rfl, a, b⟩ := r
    have e1a : k.2 = v := (List.cons.inj e1).1
    have e1b : kvs.map (·.2) = vr := (List.cons.inj e1).2
    subst e1a e1b
    have e' : (if k.1 = f then some t0 else atN (kvs.map (·.1)) ts f) = none := e
    by_cases hk : k.1 = f
    · rw [if_pos hk] at e'; cases e'
    · rw [if_neg hk] at e'
      obtain ⟨q1, q2⟩ := RelTs.putNewM (y := y) ry rfl b e'
      have hp : L2.putF f y (k :: kvs) = k :: L2.putF f y kvs := by
        show (if k.1 = f then _ else _) = _
        rw [if_neg hk]
      rw [hp]
      exact ⟨by rw [List.map_cons, q1]; rfl, ⟨k.2, _, f0, _, rfl, rfl, a, q2⟩⟩
def attM (C : Nat) (f : Str) (t : T) : T → Option T
  | .o C' ns ts => if C' = C ∧ ns.length < 1000 ∧ (atN ns ts f).isNone = true then some (.o C' (ns ++ [f]) (ts ++ [t])) else none
  | _ => none
def sAttM (C : Nat) (f : Str) (i : Nat) (fp : List T → Option (List Sel)) (fm : List T → Option (T × List T)) : FS := fun ρ => (fm ρ).bind fun q => (fp q.2).bind fun π => (mutF i π (attM C f q.1) q.2).map .nx
theorem sm_attM {c : Ctx} {e o : Expr} {fm : List T → Option (T × List T)} {pos pos' : Pos} {C : Nat} {f : Str} {i : Nat} {fp : List T → Option (List Sel)} (hC : Cls c.W.K (c.W.cl C)) (hN : NoAttr c.W.K (c.W.cl C) f) (ho : Lo c o i fp) (he : Em c e fm) (hs : ∀ j, swapsWith e (some (.Attribute o f pos')) pos.line (c.X j).env = pure false := by intro _; rfl) : Sm c (.Assign [.Attribute o f pos'] e pos) (sAttM C f i fp fm) := by
  obtain ⟨to, po, so⟩ := ho
  obtain ⟨te, pe, se⟩ := he
  refine ⟨_, fun j => by have h := ps_fld (po j) (pe j) (hs j); rw [c.hK j] at h; exact h, ?_⟩
  intro b F ρ σ X H out D hb S eq k
  unfold sAttM at eq
  obtain ⟨⟨t, ρ1⟩, e2, eq⟩ := Option.bind_eq_some_iff.mp eq
  obtain ⟨π, e1, eq⟩ := Option.bind_eq_some_iff.mp eq
  obtain ⟨ρ', e4, eq⟩ := Option.map_eq_some_iff.mp eq
  subst eq
  obtain ⟨t0, u, u', g1, g2, g3, g4⟩ := mutF_some e4
  have hown : owned u = true := by cases u <;> first | rfl | cases g3
  refine se b F ρ σ X H t ρ1 _ S e2 fun y F1 H1 S1 i1 s1 => ?_
  refine so b F1 ρ1 σ _ H1 π t0 u _ S1 e1 g1 g2 hown fun p v F2 H2 S2 i2 s2 hv hat => ?_
  obtain ⟨fu, yps, q1, q2, q3, q4, q5⟩ := SR.mutX (Y := [⟨none, t, y⟩]) (X := X) S2 g1 hv g2 hat
  obtain ⟨y', vr, fy, fr, ey, rfl, ry, q2'⟩ := q2
  cases ey
  obtain ⟨_, rfl⟩ := q2'
  rw [List.flatten_cons, List.flatten_nil, List.append_nil] at q3 q4 q5
  cases u with
  | o C' ns ts =>
    have g3' : (if C' = C ∧ ns.length < 1000 ∧ (atN ns ts f).isNone = true then some (T.o C' (ns ++ [f]) (ts ++ [t])) else none) = some u' := g3
    split at g3'
    · rename_i hc
      obtain ⟨hc, hl, hat0⟩ := hc
      subst hc
      cases g3'
      obtain ⟨p', dx, kvs, fps, ep, rfl, hp, hk, rs⟩ := q1
      cases ep
      have hlen : kvs.length < 1000 := by
        have := congrArg List.length hk
        rw [List.length_map] at this
        omega
      refine ⟨p, _, dx, kvs, rfl, hp, hC, hN, hlen, ?_⟩
      have n0 := List.nodup_append.mp q3
      have hpn := (List.nodup_cons.mp n0.1).1
      have st1 : ∀ o, ∀ a ∈ fps.flatten, upd H2 p o a = H2 a := fun o a ha => upd_ne fun z => hpn (z ▸ ha)
      have st2 : ∀ o, ∀ a ∈ fy, upd H2 p o a = H2 a := fun o a ha => upd_ne fun z => n0.2.2 p List.mem_cons_self a ha z.symm
      obtain ⟨m1, m2⟩ := RelTs.putNewM (y := y) (RelT.mono (H' := upd H2 p (.ins (c.W.cl C') dx (L2.putF f y kvs))) (Inc.refl F2) _ _ _ (st2 _) ry) hk (RelTs.mono (H' := upd H2 p (.ins (c.W.cl C') dx (L2.putF f y kvs))) (Inc.refl F2) _ _ _ (st1 _) rs) (Option.isNone_iff_eq_none.mp hat0)
      subst g4
      exact k σ F2 _ (q5 _ (.o C' (ns ++ [f]) (ts ++ [t])) (p :: (fps ++ [fy]).flatten) [] [] List.mem_cons_self ⟨p, dx, _, fps ++ [fy], rfl, rfl, upd_same, m1, m2⟩ ⟨rfl, rfl⟩ (by simpa using q3) (fun a ha => by simpa using ha) ⟨_, hp, stb_new hk rs (Option.isNone_iff_eq_none.mp hat0)⟩) (i1.trans i2)
    · cases g3'
  | _ => cases g3
end Z

namespace Z
open PySem PySem.Spec PyProof.Rows L2
/-! ### o.m(..), o a slot's thing -/
theorem sa_slot {W : Wd} {P : Sg} {E : L2.St → XK} {t : TA} {i : Nat} {fs : List T → Option Rs} (s' : Sa W P E t fs) : Sa W P E (tCons (tVar i) t) (bSlot i fs) := by
  intro b F ρ σ X H r Q hb S e k
  unfold bSlot at e
  cases z : ρ[i]? with
  | none => rw [z] at e; cases e
  | some t =>
    have ht : t ≠ .un := by
      rintro rfl
      rw [z] at e
      cases e
    have e2 : bSlot0 i fs ρ = some r := by
      rw [z] at e
      cases t with
      | un => exact absurd rfl ht
      | _ => exact e
    unfold bSlot0 at e2
    obtain ⟨r2, e3, e4⟩ := Option.map_eq_some_iff.mp e2
    obtain ⟨s, fp, e1, rr⟩ := S.slot z
    cases s with
    | none => exact absurd rr.1 ht
    | some v =>
      refine ⟨v, e1, s' b F ρ σ X H r2 _ hb S e3 ?_⟩
      cases r2 with
      | ok as ρ2 =>
        subst e4
        intro vs F2 H2 S2 g2 i2
        exact k (v :: vs) F2 H2 S2 ⟨v, vs, rfl, e1, g2⟩ i2
      | xc C ρ2 =>
        subst e4
        exact k
def fMeth (C : Nat) (m : Str) (j : Nat) (io : List Nat) (G : List T → Option Re) (fs : List T → Option Rs) : List T → Option Re := fun ρ => match ρ[j]? with
  | some (.o C' ns _) => if C' = C ∧ ns.contains m = false then fCall io G (bSlot j fs) ρ else none
  | _ => none
theorem lookup_notin {m : Str} : ∀ {kvs : List (Str × V)}, (kvs.map (·.1)).contains m = false → kvs.lookup m = none
  | [], _ => rfl
  | k :: kvs, h => by
    rw [List.map_cons, List.contains_cons, Bool.or_eq_false_iff] at h
    rw [List.lookup_cons, h.1]
    exact lookup_notin h.2
theorem so_meth {W : Wd} {P : Sg} {E : L2.St → XK} {E' : XK} {t : TA} {C j : Nat} {m : Str} {io : List Nat} {G : List T → Option Re} {fs : List T → Option Rs} (hE : ∀ σ, E σ = E') (h : Sa W P E t fs) : So W P E (tMeth (W.cl C) m (spF W io G) [] E' (tVar j) t) (fMeth C m j io G fs) := by
  intro b F ρ σ X H r Q hb S e k
  unfold fMeth at e
  split at e
  · rename_i C' ns ts hj
    split at e
    · rename_i hc
      obtain ⟨rfl, hm⟩ := hc
      obtain ⟨v, hv, q⟩ := so_call hE (sa_slot (i := j) h) b F ρ σ X H r Q hb S e k
      obtain ⟨s, fp, e1, rr⟩ := S.slot hj
      rw [hv] at e1
      cases e1
      obtain ⟨p, dx, kvs, fps, ep, _, hp, hk, _⟩ := rr
      subst ep
      exact ⟨_, hv, p, dx, kvs, rfl, hp, lookup_notin (by rw [hk]; exact hm), q⟩
    · cases e
  · cases e
def plOf (x : Str) (p : Pos) (env : Env) : Sem Bool := do return (← importBound (.Name x p) env).getD true
structure ClT (P : Program) (w : World) (W : Wd) (mg : Str → Option Value) (base : Heap) (CX : CXT) (k : Nat) (C : Nat) (m : Str) (io : List Nat) (G : List T → Option Re) : Prop where
  ex : ∃ f fd ps, FnOk P w W.K mg base CX k f fd ps (spF W io G) ∧ Cls W.K (W.cl C) ∧ Meth W.K (W.cl C) m f ∧ Binds W.K fd ps []
section
variable {c : Ctx} {a e o : Expr} {es : List Expr} {fs : List T → Option Rs} {m x : Str} {apos p pos : Pos} {io : List Nat} {G : List T → Option Re} {k C : Nat} {CX : CXT}
theorem eo_meth {E : XK} (j : Nat) (M : ∀ j, ClT (c.X j).prog (c.X j).w c.W (c.X j).mg (c.X j).base CX k C m io G) (hk : k ≤ c.k) (hE : ∀ σ, c.E σ = E) (hx : ∀ j, Passes CX (c.X j) E) (ha : Ao c (a :: es) fs)
    (hi : c.N[j]? = some x := by rfl) (hv : ∀ j, Vis (c.X j).env.scope x := by intro _; first | exact Or.inl rfl | exact Or.inr (Or.inl rfl) | exact Or.inr (Or.inr rfl))
    (ht : ∀ i, eval (.Call (.Attribute (.Name x p) m apos) (a :: es) [] pos) (c.X i).env = (do
      let ov ← eval (.Name x p) (c.X i).env
      standAt apos.atName
      let (f, first) ← holding [ov] (getMethod ov m (plOf x p (c.X i).env))
      callWith pos f first (backTo pos (starEach (a :: es) (c.X i).env)) (backToKw pos (keywordEach [] (c.X i).env))) := by intro _; rfl)
    (he : ∀ j, starEach (a :: es) (c.X j).env = (false, eval a (c.X j).env) :: starEach es (c.X j).env := by intro _; rfl) (hpl : ∀ j, (backTo pos (starEach es (c.X j).env)).any (·.1) = false := by intro _; rfl)
    (hd : (x == ("__debug__" : Str)) = false := by decide) (hcd : (x == ("__classdict__" : Str)) = false := by decide) : Eo c (.Call (.Attribute (.Name x p) m apos) (a :: es) [] pos) (fMeth C m j io G fs) := by
  obtain ⟨t, q, s⟩ := ha
  refine ⟨tMeth (c.W.cl C) m (spF c.W io G) [] E (tVar j) t, fun i => ?_, so_meth hE s⟩
  obtain ⟨f, fd, ps, F, hC, hM, hb⟩ := M i
  have hKj := c.hK i
  exact pe_meth (pe_var (i := j) (by rw [c.hN i]; exact hi) (hv i) hd hcd) (by rw [hKj]; exact hC) (by rw [hKj]; exact hM) (by rw [hKj]; exact F) ((c.room i).mono hk) (by rw [hKj]; exact hb) .nil (hx i) (q i) (he i) (hpl i) (ht i)
theorem eo_meth0 {E : XK} (j : Nat) (M : ∀ j, ClT (c.X j).prog (c.X j).w c.W (c.X j).mg (c.X j).base CX k C m io G) (hk : k ≤ c.k) (hE : ∀ σ, c.E σ = E) (hx : ∀ j, Passes CX (c.X j) E)
    (hi : c.N[j]? = some x := by rfl) (hv : ∀ j, Vis (c.X j).env.scope x := by intro _; first | exact Or.inl rfl | exact Or.inr (Or.inl rfl) | exact Or.inr (Or.inr rfl))
    (ht : ∀ i, eval (.Call (.Attribute (.Name x p) m apos) [] [] pos) (c.X i).env = (do
      let ov ← eval (.Name x p) (c.X i).env
      standAt apos.atName
      let (f, first) ← holding [ov] (getMethod ov m (plOf x p (c.X i).env))
      callWith pos f first (backTo pos (starEach [] (c.X i).env)) (backToKw pos (keywordEach [] (c.X i).env))) := by intro _; rfl)
    (hd : (x == ("__debug__" : Str)) = false := by decide) (hcd : (x == ("__classdict__" : Str)) = false := by decide) : Eo c (.Call (.Attribute (.Name x p) m apos) [] [] pos) (fMeth C m j io G bNil) := by
  obtain ⟨t, q, s⟩ := (ao_nil : Ao c [] bNil)
  refine ⟨tMeth (c.W.cl C) m (spF c.W io G) [] E (tVar j) tNil, fun i => ?_, so_meth hE ?_⟩
  · obtain ⟨f, fd, ps, F, hC, hM, hb⟩ := M i
    have hKj := c.hK i
    exact pe_meth0 (pe_var (i := j) (by rw [c.hN i]; exact hi) (hv i) hd hcd) (by rw [hKj]; exact hC) (by rw [hKj]; exact hM) (by rw [hKj]; exact F) ((c.room i).mono hk) (by rw [hKj]; exact hb) .nil (hx i) (ht i)
  · intro b F ρ σ X H r Q hb S e k
    cases e
    exact k [] F H S rfl (Inc.refl F)
end
/-! ### o.f op= e -/
def sAttAug (C : Nat) (f : Str) (i : Nat) (fp : List T → Option (List Sel)) (g : T → T → Option T) (fe : List T → Option T) : FS := fun ρ => (fp ρ).bind fun π => (ρ[i]?.bind fun t => t.getP π).bind fun u => (gAtt C f u).bind fun a => (fe ρ).bind fun x => (g a x).bind fun z => z.d?.bind fun d => (mutF i π (attT C f d) ρ).map .nx
theorem sm_attAug {c : Ctx} {e o : Expr} {fe : List T → Option T} {pos tpos : Pos} {C : Nat} {f : Str} {i : Nat} {fp : List T → Option (List Sel)} {op : Operator} {rd : V → V → Hp → VK → Prop} {g : T → T → Option T}
    (hop : ∀ j, InOp (c.X j) op rd) (hr : S2 c.W rd g) (hC : Cls c.W.K (c.W.cl C)) (hN : NoAttr c.W.K (c.W.cl C) f) (ho : Lo c o i fp) (he : Ev c e fe) : Sm c (.AugAssign (.Attribute o f tpos) op e pos) (sAttAug C f i fp g fe) := by
  obtain ⟨to, po, so⟩ := ho
  obtain ⟨te, pe, se⟩ := he
  refine ⟨_, fun j => by have h := ps_fldaug (pos := pos) (tpos := tpos) (f := f) (po j) (pe j) (hop j); rw [c.hK j] at h; exact h, ?_⟩
  intro b F ρ σ X H out D hb S eq k
  unfold sAttAug at eq
  obtain ⟨π, e1, eq⟩ := Option.bind_eq_some_iff.mp eq
  obtain ⟨u, e2, eq⟩ := Option.bind_eq_some_iff.mp eq
  obtain ⟨a, e3, eq⟩ := Option.bind_eq_some_iff.mp eq
  obtain ⟨x, e4, eq⟩ := Option.bind_eq_some_iff.mp eq
  obtain ⟨z, e5, eq⟩ := Option.bind_eq_some_iff.mp eq
  obtain ⟨d, e6, eq⟩ := Option.bind_eq_some_iff.mp eq
  obtain ⟨ρ', e7, eq⟩ := Option.map_eq_some_iff.mp eq
  subst eq
  cases d_some e6
  obtain ⟨t0, e2a, e2b⟩ := Option.bind_eq_some_iff.mp e2
  obtain ⟨t9, u9, u9', g1, g2, g3, _⟩ := mutF_some e7
  rw [e2a] at g1
  cases g1
  rw [e2b] at g2
  cases g2
  cases u with
  | o C' ns ts =>
    have e3' : (if C' = C then (atN ns ts f).bind fun t => (match t with | .un => none | t => some t) else none) = some a := e3
    split at e3'
    · rename_i hc
      subst hc
      obtain ⟨t', e8, e9⟩ := Option.bind_eq_some_iff.mp e3'
      have et : t' = a := by cases t' <;> first | (cases e9; rfl) | cases e9
      subst et
      refine so b F ρ σ X H π t0 _ _ S e1 e2a e2b rfl fun p v F1 H1 S1 i1 s1 hv hat => ?_
      obtain ⟨fu, p', dx, kvs, fps, ep, _, hp, hk, rs⟩ := S1.part e2a hv e2b hat
      cases ep
      obtain ⟨w, fp', q1, q2⟩ := atN_ok hk rs e8
      refine ⟨p, _, dx, kvs, w, rfl, hp, hC, hN, q1, ?_⟩
      refine se b F1 ρ σ X H1 _ _ S1 e4 fun y F2 H2 S2 i2 s2 r2 => ?_
      refine hr b F2 ρ σ X H2 _ _ _ w y _ S2 ((show RelV c.W F1 H1 t' w from ⟨fp', q2⟩).ext i2 s2) r2 e5 fun z F3 H3 S3 i3 s3 r3 => ?_
      obtain ⟨dx', fs', hp3, hl3, S4⟩ := S3.att e7 hv ((hat.same s2).same s3) r3.rep
      exact ⟨dx', fs', hp3, hl3, k σ F3 _ S4 ((i1.trans i2).trans i3)⟩
    · cases e3'
  | _ => cases g3
/-! ### d.get(k, e), d.copy(), d.clear(), xs.clear() -/
def gGet (t k x : T) : Option T := t.dk?.bind fun p => k.key?.bind fun q => x.d?.map fun d => .f ((dAt p.1 p.2 q).getD d)
def fGet (fa fk fd : List T → Option T) : List T → Option T := fun ρ => (fa ρ).bind fun a => (fk ρ).bind fun k => (fd ρ).bind fun d => gGet a k d
theorem dAt_none {F : Hp} {W : Wd} : ∀ {kvs : List (Key × V)} {ds : List D} {k : Key}, Reps W F ds (kvs.map (·.2)) → dAt (kvs.map (·.1)) ds k = none → valV kvs k = none
  | [], _, _, _, _ => rfl
  | p :: r, [], _, q, _ => by
    have q' : _ = [] := q
    cases q'
  | p :: r, d :: ds, k, q, h => by
    obtain ⟨v, vr, e, a, b⟩ := q
    have e2 : r.map (·.2) = vr := (List.cons.inj e).2
    subst e2
    have h' : (if p.1 = k then some d else dAt (r.map (·.1)) ds k) = none := h
    by_cases hk : p.1 = k
    · rw [if_pos hk] at h'; cases h'
    · rw [if_neg hk] at h'
      have := dAt_none b h'
      unfold valV at this ⊢
      rw [List.find?_cons, decide_eq_false hk]
      exact this
section
variable {c : Ctx} {a e e2 o : Expr} {fa fk fd : List T → Option T} {apos cpos pos : Pos} {i : Nat} {fp : List T → Option (List Sel)}
theorem ev_get (ha : Ev c a fa) (hk : Ev c e fk) (hd : Ev c e2 fd) (m : ∀ j, M2 (c.X j) a "get" apos e e2 cpos := by intro _; exact ⟨rfl, rfl, rfl, rfl⟩) : Ev c (.Call (.Attribute a "get" apos) [e, e2] [] cpos) (fGet fa fk fd) := by
  obtain ⟨ta, pa, sa⟩ := ha
  obtain ⟨tk, pk, sk⟩ := hk
  obtain ⟨td, pd, sd⟩ := hd
  refine ⟨_, fun j => pe_dget2 (c.hu1 j) (pa j) (pk j) (pd j) (m j), ?_⟩
  intro b F ρ σ X H τ Q S e k
  unfold fGet at e
  obtain ⟨t1, e1, e⟩ := Option.bind_eq_some_iff.mp e
  obtain ⟨t2, e2, e⟩ := Option.bind_eq_some_iff.mp e
  obtain ⟨t3, e3, e⟩ := Option.bind_eq_some_iff.mp e
  unfold gGet at e
  obtain ⟨⟨ks, ds⟩, e4, e⟩ := Option.bind_eq_some_iff.mp e
  obtain ⟨q, e5, e⟩ := Option.bind_eq_some_iff.mp e
  obtain ⟨d, e6, e⟩ := Option.map_eq_some_iff.mp e
  subst e
  cases d_some e6
  refine sa b F ρ σ X H _ _ S e1 fun x F1 H1 S1 i1 s1 r1 => ?_
  obtain ⟨p, kvs, ex, hs, hk, r⟩ := r1.dk e4 S1.le
  refine ⟨p, ex, .inl ⟨kvs, hs⟩, ?_⟩
  refine sk b F1 ρ σ X H1 _ _ S1 e2 fun y F2 H2 S2 i2 s2 r2 => ?_
  refine sd b F2 ρ σ X H2 _ _ S2 e3 fun z F3 H3 S3 i3 s3 r3 => ?_
  have r1' := (r1.ext i2 s2).ext i3 s3
  obtain ⟨p', kvs', ex', hs', hk', r'⟩ := r1'.dk e4 S3.le
  rw [ex] at ex'
  cases ex'
  subst hk'
  have kk := (k.mono ((i1.trans i2).trans i3) ((s1.trans s2).trans s3))
  rw [r2.key e5]
  cases hd : dAt (kvs'.map (·.1)) ds q with
  | none =>
    exact ⟨none, .inl ⟨kvs', q, hs', rfl, (dAt_none r' hd).symm⟩, by rw [hd] at kk; exact kk.d S3 r3.rep⟩
  | some d' =>
    obtain ⟨v, h1, h2⟩ := dAt_val r' hd
    exact ⟨some v, .inl ⟨kvs', q, hs', rfl, h1.symm⟩, by rw [hd] at kk; exact kk.d S3 h2⟩
def rDCopy : V → List V → Hp → VK → Prop := fun x vs H Q => ∃ (a : Addr) (kvs : List (Key × V)), x = .ref a ∧ vs = [] ∧ Rd H a (.dK kvs) ∧ ∀ p, H p = none → Q (.ref p) (upd H p (.dK kvs))
theorem mtd_copy {X : Cx} : MtR X "dict.copy" rDCopy := by
  intro pins s σ H x vs v us Q I rx rv h
  obtain ⟨a, kvs, ex, ev, e, q⟩ := h
  subst ex ev
  obtain rfl : v = Value.ref a := rx
  have hus := rv.zero
  subst hus
  obtain ⟨z, hd, vs, rel, dd⟩ := dk_rd I.hok e
  refine call_meetsIn PySem.F.slot_dict_copy dd.typeIs PySem.F.entry_dict_copy (PySem.F.args_dict_copy_1 _) (meets_dict_copy (mixKind X.prog X.w) a hd) ⟨vs, dd, by rw [← rel.length]; exact z, fun h' dn _ hs => ?_⟩
  have hf : H s.heap.objs.size = none := I.hok.fresh (Nat.le_refl _)
  exact ⟨.ref s.heap.objs.size, _, I.laid (a := s.heap.objs.size) (o := .dK kvs) (t' := s.toks) hs (Nat.le_refl _) (dk_new z (beq_eq_false_iff_ne.mpr (Ne.symm (Nat.ne_of_lt I.big))) rel dn), rfl, q _ hf⟩
def gCopy (t : T) : Option T := t.dk?.map fun p => .f (.dct p.1 p.2)
def tDM0 (r : V → List V → Hp → VK → Prop) (to : TE) : TE := fun σ H Q => to σ H fun x H1 => (∃ a kvs, x = .ref a ∧ Rd H1 a (.dK kvs)) ∧ r x [] H1 Q
theorem pe_dm0 {X : Cx} {o : Expr} {to : TE} {name : Str} {apos cpos : Pos} {id : String} {r : V → List V → Hp → VK → Prop} (slot : PySem.Slot "dict" name id) (hty : typeOf (.builtin id) = pure (.type "method_descriptor")) (hm : MtR X id r) (ho : PE X o to)
    (hbase : attributeBase o name X.env (eval o X.env) = eval o X.env) (hline : (apos.endLine == cpos.line) = true) : PE X (.Call (.Attribute o name apos) [] [] cpos) (tDM0 r to) := by
  refine ⟨fun pins s σ H Q I h => ?_⟩
  refine wpAny_Call_method0_late hbase hline (thn (ho.run pins s σ H _ I h) fun v s1 ⟨x, H1, I1, r1, ty, q1⟩ => ?_)
  obtain ⟨a, kvs, ex, ha⟩ := ty
  subst ex
  obtain rfl : v = Value.ref a := r1
  obtain ⟨hz, hsys, vs, rel, dof⟩ := dk_rd I1.hok ha
  obtain ⟨ep, ob, es, ho, ex, _⟩ := dof.dictAt
  exact ⟨"dict", id, PySem.F.plainAttrs_dict, slot, hty, ⟨ob, ho, ex.1⟩, fun b e => by cases e; exact ⟨ob, ho, ex.2.1⟩, Calls.callWith_builtin rfl (PySem.evalArgs_none (hm pins s1 σ H1 (.ref a) [] (.ref a) [] Q I1 (show L2.RelV (.ref a) (.ref a) from rfl) .nil q1))⟩
theorem ev_copy (ha : Ev c a fa) (hbase : ∀ j, attributeBase a "copy" (c.X j).env (eval a (c.X j).env) = eval a (c.X j).env := by intro _; rfl) (hline : (apos.endLine == cpos.line) = true := by rfl) : Ev c (.Call (.Attribute a "copy" apos) [] [] cpos) (f1 gCopy fa) := by
  obtain ⟨ta, pa, sa⟩ := ha
  refine ⟨tDM0 rDCopy ta, fun j => pe_dm0 PySem.F.slot_dict_copy PySem.F.type_dict_copy mtd_copy (pa j) (hbase j) hline, ?_⟩
  intro b F ρ σ X H τ Q S e k
  unfold f1 at e
  obtain ⟨t, e1, e⟩ := Option.bind_eq_some_iff.mp e
  obtain ⟨⟨ks, ds⟩, e2, e⟩ := Option.map_eq_some_iff.mp e
  subst e
  refine sa b F ρ σ X H _ _ S e1 fun x F1 H1 S1 i1 s1 r1 => ?_
  obtain ⟨p, kvs, ex, hp, hk, r⟩ := r1.dk e2 S1.le
  subst ex
  refine ⟨⟨p, kvs, rfl, hp⟩, p, kvs, rfl, rfl, hp, fun q hq => ?_⟩
  obtain ⟨S2, i2, s2⟩ := S1.laid (o := .dK kvs) hq
  exact (k.mono (i1.trans i2) (s1.trans s2)).d S2 ⟨q, kvs, rfl, .inl upd_same, hk, r.inc i2⟩
def clrT : T → Option T
  | .dk _ _ => some (.dk [] [])
  | _ => none
def clrL : T → Option T
  | .l _ => some (.l [])
  | .ll _ => some (.l [])
  | _ => none
def sClr (i : Nat) (fp : List T → Option (List Sel)) (g : T → Option T) : FS := fun ρ => (fp ρ).bind fun π => (mutF i π g ρ).map .nx
theorem sm_dclear (ho : Lo c o i fp) (hbase : ∀ j, attributeBase o "clear" (c.X j).env (eval o (c.X j).env) = eval o (c.X j).env := by intro _; rfl) (hline : (apos.endLine == cpos.line) = true := by rfl)
    (hsw : ∀ j, swapsWith (.Call (.Attribute o "clear" apos) [] [] cpos) none pos.line (c.X j).env = pure false := by intro _; rfl) : Sm c (.Expr (.Call (.Attribute o "clear" apos) [] [] cpos) pos) (sClr i fp clrT) := by
  obtain ⟨to, po, so⟩ := ho
  refine ⟨tDrop (tBM0 c.W.K "dict" rDClear to), fun j => by
    have h := ps_expr (pe_dclear (cpos := cpos) (apos := apos) (po j) (hbase j) hline) (hsw j)
    rw [c.hK j] at h
    exact h, ?_⟩
  intro b F ρ σ X H out D hb S eq k
  unfold sClr at eq
  obtain ⟨π, e1, eq⟩ := Option.bind_eq_some_iff.mp eq
  obtain ⟨ρ', e2, eq⟩ := Option.map_eq_some_iff.mp eq
  subst eq
  obtain ⟨t, u, u', g1, g2, g3, rfl⟩ := mutF_some e2
  cases u with
  | dk ks ds =>
    cases g3
    refine so b F ρ σ X H π t _ _ S e1 g1 g2 rfl fun p v F1 H1 S1 i1 s1 hv hat => ?_
    obtain ⟨fu, q1, q2, q3⟩ := S1.mut (u' := .dk [] []) g1 hv g2 hat
    obtain ⟨p', kvs, ep, rfl, hp, hk, rs⟩ := q1
    cases ep
    exact ⟨.inr (.inr (.inl ⟨rfl, .inl ⟨kvs, hp⟩⟩)), p, kvs, rfl, rfl, hp, k σ F1 _ (q3 _ _ hp (fun _ => Stb.dk) (List.mem_singleton.mpr rfl) ⟨p, [], rfl, rfl, upd_same, rfl, rfl⟩) i1⟩
  | _ => cases g3
end
/-! ### a comprehension's list of one's own -/
def mLc (vs : List Nat) (fi : List T → Option (List D)) (fg : T → List T → Option (List T)) (ft : List T → Option Bool) (fe : List T → Option T) : List T → Option (T × List T) := fun ρ => (fLc vs fi fg ft fe ρ).bind fun t => match t with
  | .f (.lst es) => some (.l es, ρ)
  | _ => none
section
variable {c : Ctx} {elt tg iter : Expr} {ifs : List Expr} {scope : Scope} {pos spos : Pos} {fi : List T → Option (List D)} {fg : T → List T → Option (List T)} {ft : List T → Option Bool} {fe : List T → Option T}
theorem em_lc (own : List (Str × Nat)) (hi : Ip c tg iter fi) (hg : Gc (cB c scope) tg fg (own.map (·.2))) (ht : Tvs (cB c scope) ifs ft) (he : Ev (cB c scope) elt fe) (ok : ∀ j, blkC c.N (c.X j).env.scope scope own = true := by intro _; rfl)
    (hs : ∀ j x, foldedSetIterable iter (c.X j).env x = pure x := by intro _ _; rfl) : Em c (.ListComp elt [⟨tg, iter, ifs, 0⟩] scope pos) (mLc (own.map (·.2)) fi fg ft fe) := by
  obtain ⟨wi, pi, si⟩ := hi
  obtain ⟨g, pg, sg, wg⟩ := hg
  obtain ⟨tt, pt, st⟩ := ht
  obtain ⟨te, pe, se⟩ := he
  refine ⟨tLc wi g tt te (own.map (·.2)), fun j => pe_lc (c.calm j) (c.hNd j) (pi j) (blkOk_by (by rw [c.hN j]; exact ok j)) (fun s H C cl fp => pg (j, s, H, C, cl, fp)) (fun s H C cl fp => pt (j, s, H, C, cl, fp)) (fun s H C cl fp => pe (j, s, H, C, cl, fp)) (hs j), ?_⟩
  intro b F ρ σ X H τ ρ' Q S e k
  unfold mLc at e
  obtain ⟨t, e1, e⟩ := Option.bind_eq_some_iff.mp e
  unfold fLc at e1
  split at e1
  · rename_i hok
    obtain ⟨ds, e2, e1⟩ := Option.bind_eq_some_iff.mp e1
    obtain ⟨es, e3, e1⟩ := Option.bind_eq_some_iff.mp e1
    split at e1
    · rename_i hz
      cases e1
      cases e
      exact slc_core si sg wg st se S hok e2 e3 hz fun D0 F2 H' S3 i2 s2 => k _ F2 H' S3 i2 s2
    · cases e1
  · cases e1
end
end Z

namespace Z
open PySem PySem.Spec PyProof.Rows L2
theorem relTs_f_nil {W : Wd} {F H : Hp} : ∀ {ds : List D} {vs : List V} {fps : List (List Addr)}, RelTs W F H (ds.map .f) vs fps → fps.flatten = []
  | [], _, _, r => by
    obtain ⟨_, rfl⟩ := r
    rfl
  | d :: ds, _, _, r => by
    obtain ⟨v, vr, f, fr, rfl, rfl, a, b⟩ := r
    rw [List.flatten_cons, relTs_f_nil b, show f = [] from a.1]
    rfl
theorem ioOk_f : ∀ (io : List Nat) (i : Nat) (ds : List D), ioOk io i (ds.map .f) = true
  | _, _, [] => rfl
  | io, i, d :: ds => by
    show ((io.contains i || isF (.f d)) && ioOk io (i + 1) (ds.map .f)) = true
    rw [ioOk_f io (i + 1) ds]
    simp [isF]
/-- a call with deep arguments that hands back a thing of the caller's own -/
def mCall (G : List T → Option Re) (fs : List T → Option (List T)) : List T → Option (T × List T) := fun ρ => (fs ρ).bind fun ts => (deep ts).bind fun ds => (G (ds.map .f)).bind fun r => match r with
  | .ok τ _ => some (τ, ρ)
  | _ => none
theorem smo_call {W : Wd} {E : XK} {t : TA} {G : List T → Option Re} {fs : List T → Option (List T)} (h : Sav W t fs) : Smo W (tCall (spF W [] G) [] E t) (mCall G fs) := by
  intro b F ρ σ X H τ ρ' Q S e k
  unfold mCall at e
  obtain ⟨ts, e1, e⟩ := Option.bind_eq_some_iff.mp e
  obtain ⟨ds, e2, e⟩ := Option.bind_eq_some_iff.mp e
  obtain ⟨r, e3, e⟩ := Option.bind_eq_some_iff.mp e
  cases r with
  | xc C us => cases e
  | ok τ' us =>
    cases e
    refine h b F _ σ X H ts _ S e1 fun vs F1 H1 S1 i1 s1 r1 => ?_
    have rs := RelVs.deep r1 e2
    obtain ⟨a1, a2⟩ := Xn_t (ts := ds.map T.f) (vs := vs) (by rw [List.length_map]; exact rs.len)
    obtain ⟨xa, q1, qn, own, back⟩ := SR.call (Xa := Xn (ds.map .f) vs) (X := X) (S1.pushes rs)
    rw [a1, a2] at q1
    rw [a2] at back
    have hnil := relTs_f_nil q1
    rw [List.append_nil]
    refine ⟨_, _, xa, _, S1.le, qn, q1, own, ioOk_f _ _ _, e3, ?_⟩
    intro v F' H' R i2
    have hs : Same H1 H' := fun a o e => R.kept a o e (by
      show a ∉ xa.flatten
      rw [hnil]
      intro z
      cases z)
    have S5 := back [] us F' [⟨none, τ, v⟩] H' (fun x hx => by rw [List.mem_singleton.mp hx]) R
    exact k v F' H' (SR.dropN _ S5) (i1.trans i2) (s1.trans hs)
section
variable {c : Ctx} {a e : Expr} {es : List Expr} {fs : List T → Option (List T)} {x m : Str} {p pos apos : Pos} {G : List T → Option Re} {k C : Nat} {CX : CXT}
theorem em_call {E : XK} (C : Cj c CX k x [] G) (hk : k ≤ c.k) (hg : ∀ j, Gl (c.X j) x) (hx : ∀ j, Passes CX (c.X j) E) (ha : Av c (a :: es) fs) (hdb : (x == ("__debug__" : Str)) = false := by decide)
    (he : ∀ j, starEach (a :: es) (c.X j).env = (false, eval a (c.X j).env) :: starEach es (c.X j).env := by intro _; rfl) (hpl : ∀ j, (backTo pos (starEach es (c.X j).env)).any (·.1) = false := by intro _; rfl) : Em c (.Call (.Name x p) (a :: es) [] pos) (mCall G fs) := by
  obtain ⟨t, q, s⟩ := ha
  exact ⟨_, pe_cl C hk hg hx q hdb he hpl, smo_call s⟩
/-! ### a method that changes nothing -/
def fMethV (C : Nat) (m : Str) (j : Nat) (G : List T → Option Re) (fs : List T → Option (List T)) : List T → Option T := fun ρ => match ρ[j]? with
  | some (.o C' ns _) => if C' = C ∧ ns.contains m = false then fCallV G (aCons (fVar j) fs) ρ else none
  | some (.f (.obj C' ns _)) => if C' = C ∧ ns.contains m = false then fCallV G (aCons (fVar j) fs) ρ else none
  | _ => none
theorem sav_cons {W : Wd} {te : TE} {t : TA} {fa : List T → Option T} {fs : List T → Option (List T)} (ha : Sv W te fa) (hs : Sav W t fs) : Sav W (tCons te t) (aCons fa fs) := by
  intro b F ρ σ X H τs Q S e k
  unfold aCons at e
  obtain ⟨x, e1, e⟩ := Option.bind_eq_some_iff.mp e
  obtain ⟨xs, e2, e⟩ := Option.map_eq_some_iff.mp e
  subst e
  refine ha b F ρ σ X H x _ S e1 fun v F1 H1 S1 i1 s1 r1 => ?_
  refine hs b F1 ρ σ X H1 xs _ S1 e2 fun vs F2 H2 S2 i2 s2 r2 => ?_
  refine k (v :: vs) F2 H2 S2 (i1.trans i2) (s1.trans s2) ?_
  obtain ⟨f, q⟩ := r1.ext i2 s2
  obtain ⟨fp, q2⟩ := r2
  exact ⟨f :: fp, v, vs, f, fp, rfl, rfl, q, q2⟩
theorem sv_meth {W : Wd} {E : XK} {t : TA} {j : Nat} (h : Sav W t fs) : Sv W (tMeth (W.cl C) m (spF W [] G) [] E (tVar j) t) (fMethV C m j G fs) := by
  intro b F ρ σ X H τ Q S e k
  unfold fMethV at e
  have key : fCallV G (aCons (fVar j) fs) ρ = some τ → ∃ v, σ[j]? = some (some v) ∧ t σ H fun vs H2 => spF W [] G (v :: (vs ++ [])) H2 Q E := fun e' => by
    obtain ⟨v, hv, q⟩ := sv_call (E := E) (sav_cons (sv_var (i := j)) h) b F ρ σ X H τ Q S e' k
    exact ⟨v, hv, q⟩
  split at e
  · rename_i C' ns ts hj
    split at e
    · rename_i hc
      obtain ⟨rfl, hm⟩ := hc
      obtain ⟨v, hv, q⟩ := key e
      obtain ⟨s, fp, e1, rr⟩ := S.slot hj
      rw [hv] at e1
      cases e1
      obtain ⟨p, dx, kvs, fps, ep, _, hp, hk, _⟩ := rr
      subst ep
      exact ⟨_, hv, p, dx, kvs, rfl, hp, lookup_notin (by rw [hk]; exact hm), q⟩
    · cases e
  · rename_i C' ns ts hj
    split at e
    · rename_i hc
      obtain ⟨rfl, hm⟩ := hc
      obtain ⟨v, hv, q⟩ := key e
      obtain ⟨s, fp, e1, rr⟩ := S.slot hj
      rw [hv] at e1
      cases e1
      obtain ⟨_, p, dx, kvs, ep, hp, hk, _⟩ := rr
      subst ep
      exact ⟨_, hv, p, dx, kvs, rfl, ins_le S.le hp, lookup_notin (by rw [hk]; exact hm), q⟩
    · cases e
  · cases e
theorem ev_meth {E : XK} (j : Nat) (M : ∀ j, ClT (c.X j).prog (c.X j).w c.W (c.X j).mg (c.X j).base CX k C m [] G) (hk : k ≤ c.k) (hx : ∀ j, Passes CX (c.X j) E) (ha : Av c (a :: es) fs)
    (hi : c.N[j]? = some x := by rfl) (hv : ∀ j, Vis (c.X j).env.scope x := by intro _; first | exact Or.inl rfl | exact Or.inr (Or.inl rfl) | exact Or.inr (Or.inr rfl))
    (ht : ∀ i, eval (.Call (.Attribute (.Name x p) m apos) (a :: es) [] pos) (c.X i).env = (do
      let ov ← eval (.Name x p) (c.X i).env
      standAt apos.atName
      let (f, first) ← holding [ov] (getMethod ov m (plOf x p (c.X i).env))
      callWith pos f first (backTo pos (starEach (a :: es) (c.X i).env)) (backToKw pos (keywordEach [] (c.X i).env))) := by intro _; rfl)
    (he : ∀ j, starEach (a :: es) (c.X j).env = (false, eval a (c.X j).env) :: starEach es (c.X j).env := by intro _; rfl) (hpl : ∀ j, (backTo pos (starEach es (c.X j).env)).any (·.1) = false := by intro _; rfl)
    (hd : (x == ("__debug__" : Str)) = false := by decide) (hcd : (x == ("__classdict__" : Str)) = false := by decide) : Ev c (.Call (.Attribute (.Name x p) m apos) (a :: es) [] pos) (fMethV C m j G fs) := by
  obtain ⟨t, q, s⟩ := ha
  refine ⟨tMeth (c.W.cl C) m (spF c.W [] G) [] E (tVar j) t, fun i => ?_, sv_meth s⟩
  obtain ⟨f, fd, ps, F, hC, hM, hb⟩ := M i
  have hKj := c.hK i
  exact pe_meth (pe_var (i := j) (by rw [c.hN i]; exact hi) (hv i) hd hcd) (by rw [hKj]; exact hC) (by rw [hKj]; exact hM) (by rw [hKj]; exact F) ((c.room i).mono hk) (by rw [hKj]; exact hb) .nil (hx i) (q i) (he i) (hpl i) (ht i)
theorem ev_meth0 {E : XK} (j : Nat) (M : ∀ j, ClT (c.X j).prog (c.X j).w c.W (c.X j).mg (c.X j).base CX k C m [] G) (hk : k ≤ c.k) (hx : ∀ j, Passes CX (c.X j) E)
    (hi : c.N[j]? = some x := by rfl) (hv : ∀ j, Vis (c.X j).env.scope x := by intro _; first | exact Or.inl rfl | exact Or.inr (Or.inl rfl) | exact Or.inr (Or.inr rfl))
    (ht : ∀ i, eval (.Call (.Attribute (.Name x p) m apos) [] [] pos) (c.X i).env = (do
      let ov ← eval (.Name x p) (c.X i).env
      standAt apos.atName
      let (f, first) ← holding [ov] (getMethod ov m (plOf x p (c.X i).env))
      callWith pos f first (backTo pos (starEach [] (c.X i).env)) (backToKw pos (keywordEach [] (c.X i).env))) := by intro _; rfl)
    (hd : (x == ("__debug__" : Str)) = false := by decide) (hcd : (x == ("__classdict__" : Str)) = false := by decide) : Ev c (.Call (.Attribute (.Name x p) m apos) [] [] pos) (fMethV C m j G aNil) := by
  refine ⟨tMeth (c.W.cl C) m (spF c.W [] G) [] E (tVar j) tNil, fun i => ?_, sv_meth ?_⟩
  · obtain ⟨f, fd, ps, F, hC, hM, hb⟩ := M i
    have hKj := c.hK i
    exact pe_meth0 (pe_var (i := j) (by rw [c.hN i]; exact hi) (hv i) hd hcd) (by rw [hKj]; exact hC) (by rw [hKj]; exact hM) (by rw [hKj]; exact F) ((c.room i).mono hk) (by rw [hKj]; exact hb) .nil (hx i) (ht i)
  · intro b F ρ σ X H τs Q S e k
    cases e
    exact k [] F H S (Inc.refl F) (Same.refl H) RelVs.nil
end
/-! ### values of a dict -/
section
variable {c : Ctx} {a e o : Expr} {fb gb : List T → Option Rb} {pos : Pos}
theorem wot (h : Wo c e fb) : To c e fb := h.to
end
/-! ### x op= e, whole numbers -/
section
variable {c : Ctx} {e : Expr} {es : List Expr} {fe : List T → Option T} {fs : List T → Option Rs} {pos pos' : Pos}
def sAug (i : Nat) (g : T → T → Option T) (fe : List T → Option T) : FS := sSet i (lift (f2 g (fVar i) fe))
theorem sm_augI {op : Operator} {h : Int → Int → Int} {g : T → T → Option T} (i : Nat) {x : Str} (ho : ∀ j, PIp (c.X j) op (ipI h)) (hg : ∀ s t τ, g s t = some τ → ∃ a b, s = .f (.int a) ∧ t = .f (.int b) ∧ τ = .f (.int (h a b))) (he : Ev c e fe)
    (hi : c.N[i]? = some x := by rfl) (hx : ∀ j, L2.Loc (c.X j).env.scope x := by intro _; first | exact Or.inl rfl | exact Or.inr rfl) (hio : c.P.io.contains i = false := by rfl)
    (hf : ∀ j, (c.X j).fn x = true ∨ (c.X j).env.scope.names.lookup x = some .local := by intro _; first | exact Or.inl rfl | exact Or.inr rfl) : Sm c (.AugAssign (.Name x pos') op e pos) (sAug i g fe) := by
  obtain ⟨te, pe, se⟩ := he
  refine ⟨tAug i te (ipI h), fun j => ps_aug (c.hNd j) (by rw [c.hN j]; exact hi) (hx j) (pe j) (ho j) (hf j), ?_⟩
  intro b F ρ σ X H o D hb S eq k
  unfold sAug sSet lift f2 at eq
  obtain ⟨r, e1, eq⟩ := Option.map_eq_some_iff.mp eq
  obtain ⟨t, e2, e3⟩ := Option.bind_eq_some_iff.mp e1
  obtain ⟨s1, e4, e5⟩ := Option.bind_eq_some_iff.mp e2
  obtain ⟨s2, e6, e7⟩ := Option.bind_eq_some_iff.mp e5
  obtain ⟨a, b', rfl, rfl, rfl⟩ := hg _ _ _ e7
  cases e3
  subst eq
  have e4' := e4
  unfold fVar at e4'
  have hρ : ρ[i]? = some (.f (.int a)) := by
    cases q : ρ[i]? with
    | none => rw [q] at e4'; cases e4'
    | some t => rw [q] at e4'; cases t <;> first | (cases e4'; rfl) | cases e4'
  obtain ⟨s, fp, es, r⟩ := S.slot hρ
  cases s with
  | none => exact nomatch r.1
  | some v =>
    have hv : v = .int a := r.2
    subst hv
    refine ⟨_, es, se b F ρ σ X H _ _ S e6 fun y F1 H1 S1 i1 s1 r1 => ?_⟩
    have hy : y = .int b' := r1.rep
    subst hy
    exact ⟨a, b', rfl, rfl, k _ F1 H1 ((S1.push (o := none) (show Rep c.W F1 (.int (h a b')) (.int (h a b')) from rfl)).store (.inl rfl) (.inl (notio hb (notin_of hio)))) i1⟩
theorem gIa_inv {g : Int → Int → D} {s t τ : T} (h : gIa g s t = some τ) : ∃ a b, s = .f (.int a) ∧ t = .f (.int b) ∧ τ = .f (g a b) := by
  unfold gIa gI at h
  obtain ⟨a, e1, h⟩ := Option.bind_eq_some_iff.mp h
  obtain ⟨b, e2, h⟩ := Option.bind_eq_some_iff.mp h
  rw [if_pos (show always a b = true from rfl)] at h
  cases h
  refine ⟨a, b, ?_, ?_, rfl⟩
  · cases s with
    | f d => cases d <;> first | (cases e1; rfl) | cases e1
    | _ => cases e1
  · cases t with
    | f d => cases d <;> first | (cases e2; rfl) | cases e2
    | _ => cases e2
theorem aug_add (i : Nat) {x : Str} (he : Ev c e fe) (hi : c.N[i]? = some x := by rfl) (hx : ∀ j, L2.Loc (c.X j).env.scope x := by intro _; first | exact Or.inl rfl | exact Or.inr rfl) (hio : c.P.io.contains i = false := by rfl)
    (hf : ∀ j, (c.X j).fn x = true ∨ (c.X j).env.scope.names.lookup x = some .local := by intro _; first | exact Or.inl rfl | exact Or.inr rfl) : Sm c (.AugAssign (.Name x pos') .Add e pos) (sAug i gAddI fe) := sm_augI i (fun _ => ip_add) (fun _ _ _ h => gIa_inv h) he hi hx hio hf
theorem aug_sub (i : Nat) {x : Str} (he : Ev c e fe) (hi : c.N[i]? = some x := by rfl) (hx : ∀ j, L2.Loc (c.X j).env.scope x := by intro _; first | exact Or.inl rfl | exact Or.inr rfl) (hio : c.P.io.contains i = false := by rfl)
    (hf : ∀ j, (c.X j).fn x = true ∨ (c.X j).env.scope.names.lookup x = some .local := by intro _; first | exact Or.inl rfl | exact Or.inr rfl) : Sm c (.AugAssign (.Name x pos') .Sub e pos) (sAug i Z.gSub fe) := sm_augI i (fun _ => ip_sub) (fun _ _ _ h => gIa_inv h) he hi hx hio hf
theorem ao_s (i : Nat) {x : Str} (hr : Ao c es fs) (hi : c.N[i]? = some x := by rfl) (hv : ∀ j, Vis (c.X j).env.scope x := by intro _; first | exact Or.inl rfl | exact Or.inr (Or.inl rfl) | exact Or.inr (Or.inr rfl)) (hs : ∀ j, starEach (.Name x pos :: es) (c.X j).env = (false, eval (.Name x pos) (c.X j).env) :: starEach es (c.X j).env := by intro _; rfl)
    (hd : (x == ("__debug__" : Str)) = false := by decide) (hcd : (x == ("__classdict__" : Str)) = false := by decide) : Ao c (.Name x pos :: es) (bSlot i fs) := ao_slot hi hv hr hs hd hcd
end
/-- a method, ready to be called -/
theorem ClT.mk' {P : Program} {w : World} {W : Wd} {mg : Str → Option Value} {base : Heap} {CX : CXT} {k C : Nat} {m : Str} {io : List Nat} {G : List T → Option Re} {f : Addr} {fd : FuncData} {ps : List Str} (h : FnOk P w W.K mg base CX k f fd ps (spF W io G)) (hC : Cls W.K (W.cl C)) (hM : Meth W.K (W.cl C) m f) (hb : Binds W.K fd ps []) : ClT P w W mg base CX k C m io G := ⟨f, fd, ps, h, hC, hM, hb⟩
theorem ClM.mk' {P : Program} {w : World} {W : Wd} {mg : Str → Option Value} {base : Heap} {CX : CXT} {k C : Nat} {x : Str} {io : List Nat} {G : List T → Option Re} {f : Addr} {fd : FuncData} {ps : List Str} (h : FnOk P w W.K mg base CX k f fd ps (spF W io G)) (hm : mg x = some (.ref (W.cl C))) (hM : Mk W.K (W.cl C) f) (hb : Binds W.K fd ps []) : ClM P w W mg base CX k x C io G := ⟨f, fd, ps, h, hm, hM, hb⟩
/-! ### a part is taken out -/
def mPart (i : Nat) (fp : List T → Option (List Sel)) : List T → Option (T × List T) := fun ρ => (fp ρ).bind fun π => ρ[i]?.bind fun t0 => (t0.getP π).bind fun u => if owned u = true then some (u, ρ.set i (t0.putP π .un)) else none
theorem em_part {c : Ctx} {e : Expr} {i : Nat} {fp : List T → Option (List Sel)} (h : Lo c e i fp) : Em c e (mPart i fp) := by
  obtain ⟨t, p, s⟩ := h
  refine ⟨t, p, ?_⟩
  intro b F ρ σ X H τ ρ' Q S e k
  unfold mPart at e
  obtain ⟨π, e1, e⟩ := Option.bind_eq_some_iff.mp e
  obtain ⟨t0, e2, e⟩ := Option.bind_eq_some_iff.mp e
  obtain ⟨u, e3, e⟩ := Option.bind_eq_some_iff.mp e
  split at e
  · rename_i hown
    cases e
    refine s b F ρ σ X H π t0 _ _ S e1 e2 e3 hown fun q v F1 H1 S1 i1 s1 hv hat => ?_
    obtain ⟨fu, yps, q1, q2, q3, q4, q5⟩ := SR.mutX (Y := []) (X := X) S1 e2 hv e3 hat
    obtain ⟨_, rfl⟩ := q2
    rw [List.flatten_nil, List.append_nil] at q3 q4 q5
    have hq : q ∈ fu := by
      cases τ with
      | un => cases hown
      | f d => cases hown
      | l ds => obtain ⟨p', vs, ep, rfl, _⟩ := q1; cases ep; exact List.mem_cons_self
      | dk ks ds => obtain ⟨p', vs, ep, rfl, _⟩ := q1; cases ep; exact List.mem_cons_self
      | di ks ds => obtain ⟨p', vs, fps, ep, rfl, _⟩ := q1; cases ep; exact List.mem_cons_self
      | ll ts => obtain ⟨p', vs, fps, ep, rfl, _⟩ := q1; cases ep; exact List.mem_cons_self
      | tu ts => obtain ⟨p', vs, fps, ep, rfl, _⟩ := q1; cases ep; exact List.mem_cons_self
      | o C ns ts => obtain ⟨p', dx, vs, fps, ep, rfl, _⟩ := q1; cases ep; exact List.mem_cons_self
      | ln _ => cases hown
      | gb _ => cases hown
      | rg _ => cases hown
    obtain ⟨o, ho⟩ := RelT.there _ _ _ q1 q hq
    have hu : upd H1 q o = H1 := by
      funext a
      by_cases z : a = q
      · rw [z, upd_same, ho]
      · rw [upd_ne z]
    have S2 := q5 o .un [] [⟨none, τ, .ref q⟩] [fu] hq rfl (by rw [hu]; exact relTs_one q1) (by simpa using q3) (fun a ha => by simpa using ha) ⟨o, ho, Stb.refl o⟩
    rw [hu] at S2
    exact k _ F1 H1 S2 i1 s1
  · cases e
end Z

namespace Z
open PySem PySem.Spec PyProof.Rows L2
/-! ### xs[::-1] -/
def gRevL (t : T) : Option T := t.ls?.map fun ds => .f (.lst ds.reverse)
theorem Reps.snoc {W : Wd} {F : Hp} : ∀ {ds : List D} {vs : List V} {d : D} {v : V}, Reps W F ds vs → Rep W F d v → Reps W F (ds ++ [d]) (vs ++ [v])
  | [], _, _, _, h, r => by
    have h' : _ = [] := h
    subst h'
    exact ⟨_, [], rfl, r, rfl⟩
  | d :: ds, _, _, _, ⟨v, vr, e, a, b⟩, r => by
    subst e
    exact ⟨v, _, rfl, a, Reps.snoc b r⟩
theorem Reps.rev {W : Wd} {F : Hp} : ∀ {ds : List D} {vs : List V}, Reps W F ds vs → Reps W F ds.reverse vs.reverse
  | [], _, h => by
    have h' : _ = [] := h
    subst h'
    exact rfl
  | d :: ds, _, ⟨v, vr, e, a, b⟩ => by
    subst e
    rw [List.reverse_cons, List.reverse_cons]
    exact (Reps.rev b).snoc a
section
variable {c : Ctx} {a e e' o : Expr} {fa fb : List T → Option T} {pos apos mpos p1 p2 p3 p : Pos}
theorem ev_revL {k : Nat} (ha : Ev c a fa) : Ev c (.Subscript a (.Slice none none (some (.UnaryOp .USub (.Constant (.int 1) k p1) p2)) p3) pos) (f1 gRevL fa) := by
  obtain ⟨ta, pa, sa⟩ := ha
  refine ⟨tRevL c.W.K ta, fun j => by have h := pe_revL (k := k) (p1 := p1) (p2 := p2) (p3 := p3) (pos := pos) (pa j); rw [c.hK j] at h; exact h, ?_⟩
  intro b F ρ σ X H τ Q S e k
  unfold f1 at e
  obtain ⟨t, e1, e⟩ := Option.bind_eq_some_iff.mp e
  obtain ⟨ds, e2, e⟩ := Option.map_eq_some_iff.mp e
  subst e
  refine sa b F ρ σ X H _ _ S e1 fun x F1 H1 S1 i1 s1 r1 => ?_
  obtain ⟨p, vs, ex, hs, r⟩ := r1.ls e2 S1.le
  refine ⟨p, vs, ex, hs, ?_⟩
  exact (k.mono i1 s1).lst S1 r.rev
/-! ### list(d.values()) -/
def tValsL (td : TE) : TE := fun σ H Q => td σ H fun x H1 => ∃ a kvs, x = V.ref a ∧ Rd H1 a (.dK kvs) ∧ ∀ p, H1 p = none → Q (.ref p) (upd H1 p (.lst (kvs.map (·.2))))
theorem relAll_of {xs : List V} {vs : List Value} (hl : vs.length = xs.length) (h : ∀ (i : Nat) (v : Value), vs[i]? = some v → ∃ x, xs[i]? = some x ∧ L2.RelV x v) : Vals xs vs := by
  induction xs generalizing vs with
  | nil =>
    cases vs with
    | nil => exact .nil
    | cons v vs => simp at hl
  | cons x xs ih =>
    cases vs with
    | nil => simp at hl
    | cons v vs =>
      obtain ⟨y, e, r⟩ := h 0 v rfl
      cases (show some x = some y from e)
      exact .cons r (ih (by simpa using hl) fun i w q => h (i + 1) w q)
theorem pe_valsL {X : Cx} {x : Str} {td : TE} (hc : X.calm = true) (hg : Gl X x) (hm : X.mg x = none) (hv : bootBuiltins x = some (.type "list")) (hd : PE X o td) (hbase : attributeBase o "values" X.env (eval o X.env) = eval o X.env) (hline : (apos.endLine == mpos.line) = true)
    (hse : starEach [Expr.Call (.Attribute o "values" apos) [] [] mpos] X.env = [(false, eval (Expr.Call (.Attribute o "values" apos) [] [] mpos) X.env)]) (hn : x ≠ "__name__" := by decide) (hdb : (x == ("__debug__" : Str)) = false := by decide) :
    PE X (.Call (.Name x p) [.Call (.Attribute o "values" apos) [] [] mpos] [] pos) (tValsL td) := by
  refine ⟨fun pins s σ H Q I h => ?_⟩
  refine wpAny_Call_Name_kw (ld_blt I hg hm (u := .type "list") hv ?_ hn hdb)
  rw [hse]
  refine PySem.callWith_type1 (wpAny_Call_method0_late hbase hline (thn (hd.run pins s σ H _ I h) fun v s1 ⟨x, H1, I1, r1, a, kvs, ex, ha, q⟩ => ?_))
  subst ex
  obtain rfl : v = Value.ref a := r1
  obtain ⟨hz, hsys, vs, rel, dof⟩ := dk_rd I1.hok ha
  obtain ⟨ep, dat⟩ := dof.dictAt
  have dat' := dat
  obtain ⟨ob, es, ho, ex, hdat, hko, hpr, hnd⟩ := dat'
  refine ⟨"dict", "dict.values", F.plainAttrs_dict, F.slot_dict_values, F.type_dict_values, ⟨ob, ho, ex.1⟩, fun b e => ?_, Calls.callWith_builtin rfl (PySem.evalArgs_none ?_)⟩
  · cases e
    exact ⟨ob, ho, ex.2.1⟩
  refine call_meetsIn F.slot_dict_values ⟨ob, ho, ex.1⟩ F.entry_dict_values (F.args_dict_values_1 _) (meets_dict_values (mixKind X.prog X.w) a hsys) ⟨⟨vs, dof⟩, ?_⟩
  have k1 : ∀ b u, s1.heap.get? b = some u → (s1.heap.push { cls := .type "dict_values", data := .fields #[.ref a] }).get? b = some u := fun b u e => Heap.get?_push_of_some _ e
  have dat1 : (s1.heap.push { cls := .type "dict_values", data := .fields #[.ref a] }).DictAt (mixKind X.prog X.w) a vs ep := dat.keep k1
  have hlv : vs.length = kvs.length := (KV.length rel).symm
  refine PySem.W.kdl_call (PySem.W.kdl_values (prog := X.prog) (w := X.w) (knd := mixKind X.prog X.w) (d := a) (r := s1.heap.objs.size) (kvs := vs) (ep := ep)) (I.ok.hd hc) ⟨⟨_, Heap.get?_push_size _ rfl, rfl, rfl⟩, dat1⟩ (by omega) fun h' tk acc' c' hk hS hit => ?_
  have hlen : acc'.toList.length = kvs.length := by rw [Array.length_toList, hit.1, hlv]
  have hrel : Vals (kvs.map (·.2)) acc'.toList := relAll_of (by rw [List.length_map]; exact hlen) fun i v e => by
    obtain ⟨k, e2⟩ := hit.2 i v (by rw [← Array.getElem?_toList]; exact e)
    obtain ⟨y, h1, h2⟩ := KV.at' rel e2
    exact ⟨y, by rw [List.getElem?_map, h1]; rfl, h2⟩
  have hsz : (s1.heap.push { cls := .type "dict_values", data := .fields #[.ref a] }).objs.size = s1.heap.objs.size + 1 := Heap.size_push _ _
  have hf : H1 (s1.heap.objs.size + 1) = none := I1.hok.fresh (Nat.le_succ _)
  rw [hsz] at hS ⊢
  refine ⟨.ref (s1.heap.objs.size + 1), _, I1.laid (a := s1.heap.objs.size + 1) (o := .lst (kvs.map (·.2))) (t' := tk) (fun b ob q => hk b ob (k1 b ob q)) (Nat.le_succ _) ⟨by rw [List.length_map]; exact hz, acc'.toList, c', hrel, by simpa using hS⟩, rfl, q _ hf⟩
def gVals (t : T) : Option T := t.dk?.map fun p => .f (.lst p.2)
theorem ev_vals {x : Str} (hg : ∀ j, Gl (c.X j) x) (hm : ∀ j, (c.X j).mg x = none) (hv : bootBuiltins x = some (.type "list")) (ha : Ev c o fa) (hn : x ≠ "__name__" := by decide) (hdb : (x == ("__debug__" : Str)) = false := by decide)
    (hbase : ∀ j, attributeBase o "values" (c.X j).env (eval o (c.X j).env) = eval o (c.X j).env := by intro _; rfl) (hline : (apos.endLine == mpos.line) = true := by rfl)
    (hse : ∀ j, starEach [Expr.Call (.Attribute o "values" apos) [] [] mpos] (c.X j).env = [(false, eval (Expr.Call (.Attribute o "values" apos) [] [] mpos) (c.X j).env)] := by intro _; rfl) :
    Ev c (.Call (.Name x p) [.Call (.Attribute o "values" apos) [] [] mpos] [] pos) (f1 gVals fa) := by
  obtain ⟨ta, pa, sa⟩ := ha
  refine ⟨tValsL ta, fun j => pe_valsL (c.calm j) (hg j) (hm j) hv (pa j) (hbase j) hline (hse j) hn hdb, ?_⟩
  intro b F ρ σ X H τ Q S e k
  unfold f1 at e
  obtain ⟨t, e1, e⟩ := Option.bind_eq_some_iff.mp e
  obtain ⟨⟨ks, ds⟩, e2, e⟩ := Option.map_eq_some_iff.mp e
  subst e
  refine sa b F ρ σ X H _ _ S e1 fun x F1 H1 S1 i1 s1 r1 => ?_
  obtain ⟨p, kvs, ex, hs, hk, r⟩ := r1.dk e2 S1.le
  exact ⟨p, kvs, ex, hs, (k.mono i1 s1).lst S1 r⟩
end
/-! ### dicts of plain values compared -/
def rEqDR (neg : Bool) : R2 := fun x y H Q => ∃ a b ks ls, x = .ref a ∧ y = .ref b ∧ Rd H a (.dK ks) ∧ Rd H b (.dK ls) ∧ ks.length = ls.length ∧ (∀ p ∈ ks, valV ls p.1 = some p.2 ∧ flatB p.2 = true) ∧ Q (.bl (!neg)) H
theorem op_eqDR {X : Cx} (hu : X.A.units < cLine) : OpR X (compareOp .Eq) (rEqDR false) := by
  intro pins s σ H x y v u Q I rx ry h
  obtain ⟨a, b, ks, ls, rfl, rfl, ea, eb, hlen, hp, q⟩ := h
  obtain rfl : v = Value.ref a := rx
  obtain rfl : u = Value.ref b := ry
  obtain ⟨_, ya, va, ra, da⟩ := dk_rd I.hok ea
  obtain ⟨_, yb, vb, rb, db⟩ := dk_rd I.hok eb
  have hl : va.length = vb.length := by rw [← ra.length, ← rb.length]; exact hlen
  exact PySem.W.keq_eq (knd := mixKind X.prog X.w) (r := true) ya yb da db hu (fun _ => hits_all rb ra hp) (fin_bl I q (by simp [hl]))
theorem op_neDR {X : Cx} (hu : X.A.units < cLine) : OpR X (compareOp .NotEq) (rEqDR true) := by
  intro pins s σ H x y v u Q I rx ry h
  obtain ⟨a, b, ks, ls, rfl, rfl, ea, eb, hlen, hp, q⟩ := h
  obtain rfl : v = Value.ref a := rx
  obtain rfl : u = Value.ref b := ry
  obtain ⟨_, ya, va, ra, da⟩ := dk_rd I.hok ea
  obtain ⟨_, yb, vb, rb, db⟩ := dk_rd I.hok eb
  have hl : va.length = vb.length := by rw [← ra.length, ← rb.length]; exact hlen
  exact PySem.W.keq_ne (knd := mixKind X.prog X.w) (r := true) ya yb da db hu (fun _ => hits_all rb ra hp) (fin_bl I q (by simp [hl]))
def dkSub (ls : List Key) (es : List D) : List Key → List D → Bool
  | [], [] => true
  | k :: ks, d :: ds => (match (T.f d).v?, (dAt ls es k).bind fun x => (T.f x).v? with | some v, some w => decide (v = w) | _, _ => false) && dkSub ls es ks ds
  | _, _ => false
theorem flat_v {d : D} {v : V} (h : (T.f d).v? = some v) : flatB v = true := by
  cases d <;> first | (cases h; rfl) | cases h
theorem rep_v {W : Wd} {F : Hp} {d : D} {v w : V} (r : Rep W F d w) (h : (T.f d).v? = some v) : w = v := by
  cases d <;> first | (cases h; exact r) | cases h
theorem dkSub_ok {W : Wd} {F : Hp} {ls : List (Key × V)} {es : List D} (rl : Reps W F es (ls.map (·.2))) : ∀ {ks : List (Key × V)} {ds : List D}, Reps W F ds (ks.map (·.2)) → dkSub (ls.map (·.1)) es (ks.map (·.1)) ds = true → ∀ p ∈ ks, valV ls p.1 = some p.2 ∧ flatB p.2 = true
  | [], _, _, _, p, hp => absurd hp List.not_mem_nil
  | q :: ks, [], r, _, _, _ => by
    have r' : _ = [] := r
    cases r'
  | q :: ks, d :: ds, r, h, p, hp => by
    obtain ⟨v, vr, e, a, b⟩ := r
    have e1 : q.2 = v := (List.cons.inj e).1
    have e2 : ks.map (·.2) = vr := (List.cons.inj e).2
    subst e1 e2
    have h' : ((match (T.f d).v?, (dAt (ls.map (·.1)) es q.1).bind fun x => (T.f x).v? with | some v, some w => decide (v = w) | _, _ => false) && dkSub (ls.map (·.1)) es (ks.map (·.1)) ds) = true := h
    obtain ⟨h1, h2⟩ := Bool.and_eq_true_iff.mp h'
    rcases List.mem_cons.mp hp with z | z
    · subst z
      split at h1
      · rename_i v w hv hw
        obtain ⟨x, hx, hw⟩ := Option.bind_eq_some_iff.mp hw
        have hvw := of_decide_eq_true h1
        subst hvw
        obtain ⟨y, hy, ry⟩ := dAt_val rl hx
        rw [hy, rep_v ry hw, rep_v a hv]
        exact ⟨rfl, flat_v hv⟩
      · cases h1
    · exact dkSub_ok rl b h2 p z
def gEqK (neg : Bool) : T → T → Option T := fun a b => a.dk?.bind fun p => b.dk?.bind fun q => if p.1.length = q.1.length ∧ dkSub q.1 q.2 p.1 p.2 = true then some (.f (.bl (!neg))) else none
theorem s2_eqK {W : Wd} (neg : Bool) : S2 W (rEqDR neg) (gEqK neg) := by
  intro b F ρ σ X H t1 t2 τ x y Q S r1 r2 e k
  unfold gEqK at e
  obtain ⟨⟨ks, ds⟩, e1, e⟩ := Option.bind_eq_some_iff.mp e
  obtain ⟨⟨ls, es⟩, e2, e⟩ := Option.bind_eq_some_iff.mp e
  split at e
  · rename_i hz
    cases e
    obtain ⟨p, kvs, ex, hs, hk, r⟩ := r1.dk e1 S.le
    obtain ⟨p2, kvs2, ex2, hs2, hk2, r'⟩ := r2.dk e2 S.le
    subst hk hk2
    exact ⟨p, p2, kvs, kvs2, ex, ex2, hs, hs2, by have := hz.1; simpa using this, dkSub_ok r' r hz.2, k.d S rfl⟩
  · cases e
def gEqX := or2 gEq (gEqK false)
def gNeX := or2 gNe (gEqK true)
section
variable {c : Ctx}
theorem c_eqX : CmpR c .Eq gEqX := ⟨_, fun j => OpR_or (by have h := op_eqU (X := c.X j) (c.hu j); rw [c.hK j] at h; exact h) (op_eqDR (by have := c.hu j; omega)), S2.or s2_eq (s2_eqK false)⟩
theorem c_neX : CmpR c .NotEq gNeX := ⟨_, fun j => OpR_or (by have h := op_neU (X := c.X j) (c.hu j); rw [c.hK j] at h; exact h) (op_neDR (by have := c.hu j; omega)), S2.or s2_ne (s2_eqK true)⟩
end
/-! ### a concatenation's list of one's own -/
def gCatO (a b : T) : Option (List D) := a.ls?.bind fun xs => b.ls?.bind fun ys => if xs.length + ys.length ≤ sizeLine then some (xs ++ ys) else none
def mCat (fa fb : List T → Option T) : List T → Option (T × List T) := fun ρ => (fa ρ).bind fun a => (fb ρ).bind fun b => (gCatO a b).map fun ds => (.l ds, ρ)
theorem em_cat {c : Ctx} {a e' : Expr} {fa fb : List T → Option T} {pos : Pos} (ha : Ev c a fa) (hb : Ev c e' fb) : Em c (.BinOp a .Add e' pos) (mCat fa fb) := by
  obtain ⟨ta, pa, sa⟩ := ha
  obtain ⟨tb, pb, sb⟩ := hb
  refine ⟨tOp (rCatL c.W.K) ta tb, fun j => pe_op (by have h := op_catL (X := c.X j); rw [c.hK j] at h; exact h) (pa j) (pb j), ?_⟩
  intro b F ρ σ X H τ ρ' Q S e k
  unfold mCat at e
  obtain ⟨t1, e1, e⟩ := Option.bind_eq_some_iff.mp e
  obtain ⟨t2, e2, e⟩ := Option.bind_eq_some_iff.mp e
  obtain ⟨ds, e3, e⟩ := Option.map_eq_some_iff.mp e
  cases e
  unfold gCatO at e3
  obtain ⟨xs, e4, e3⟩ := Option.bind_eq_some_iff.mp e3
  obtain ⟨ys, e5, e3⟩ := Option.bind_eq_some_iff.mp e3
  split at e3
  · rename_i hz
    cases e3
    refine sa b F ρ σ X H _ _ S e1 fun x F1 H1 S1 i1 s1 r1 => ?_
    refine sb b F1 ρ σ X H1 _ _ S1 e2 fun y F2 H2 S2 i2 s2 r2 => ?_
    obtain ⟨p, vs, ex, hs, q⟩ := (r1.ext i2 s2).ls e4 S2.le
    obtain ⟨p2, vs2, ex2, hs2, q2⟩ := r2.ls e5 S2.le
    refine ⟨p, p2, vs, vs2, ex, ex2, hs, hs2, by rw [← q.len, ← q2.len]; exact hz, fun r hr => ?_⟩
    exact k _ F2 _ (S2.own hr ⟨r, _, rfl, rfl, upd_same, q.append q2⟩) (i1.trans i2) ((s1.trans s2).trans fun a u e => by rw [upd_ne (ne_of_none e hr)]; exact e)
  · cases e3
section
variable {c : Ctx} {elt tg iter : Expr} {ifs : List Expr} {scope : Scope} {pos spos : Pos} {fi : List T → Option (List D)} {fg : T → List T → Option (List T)} {ft : List T → Option Bool} {fe : List T → Option T}
theorem sm_setLcM (i : Nat) {y : Str} {py : Pos} (own : List (Str × Nat)) (hi : Ip c tg iter fi) (hg : Gc (cB c scope) tg fg (own.map (·.2))) (ht : Tvs (cB c scope) ifs ft) (he : Ev (cB c scope) elt fe) (ok : ∀ j, blkC c.N (c.X j).env.scope scope own = true := by intro _; rfl)
    (hy : c.N[i]? = some y := by rfl) (hyl : ∀ j, (c.X j).env.scope.names.lookup y = some .local := by intro _; rfl) (hio : c.P.io.contains i = false := by rfl)
    (hsw : ∀ j, swapsWith (.ListComp elt [⟨tg, iter, ifs, 0⟩] scope pos) (some (.Name y py)) spos.line (c.X j).env = pure true := by intro _; rfl)
    (hs : ∀ j x, foldedSetIterable iter (c.X j).env x = pure x := by intro _ _; rfl) : Sm c (.Assign [.Name y py] (.ListComp elt [⟨tg, iter, ifs, 0⟩] scope pos) spos) (sSet i (mE (mLc (own.map (·.2)) fi fg ft fe))) := by
  obtain ⟨wi, pi, si⟩ := hi
  obtain ⟨g, pg, sg, wg⟩ := hg
  obtain ⟨tt, pt, st⟩ := ht
  obtain ⟨te, pe, se⟩ := he
  refine ⟨tAsg (tLc wi g tt te (own.map (·.2))) (gName i), fun j => ps_setLc (c.calm j) (c.hNd j) (by rw [c.hN j]; exact hy) (hyl j) (hsw j) (pi j) (blkOk_by (by rw [c.hN j]; exact ok j)) (fun s H C cl fp => pg (j, s, H, C, cl, fp)) (fun s H C cl fp => pt (j, s, H, C, cl, fp)) (fun s H C cl fp => pe (j, s, H, C, cl, fp)) (hs j), ?_⟩
  intro b F ρ σ X H o D hb S eq k
  unfold sSet mE at eq
  obtain ⟨r, e1, eq⟩ := Option.map_eq_some_iff.mp eq
  obtain ⟨⟨t, ρ'⟩, e2, e3⟩ := Option.map_eq_some_iff.mp e1
  subst e3 eq
  unfold mLc at e2
  obtain ⟨t0, e4, e2⟩ := Option.bind_eq_some_iff.mp e2
  unfold fLc at e4
  split at e4
  · rename_i hok
    obtain ⟨ds, e5, e4⟩ := Option.bind_eq_some_iff.mp e4
    obtain ⟨es, e6, e4⟩ := Option.bind_eq_some_iff.mp e4
    split at e4
    · rename_i hz
      cases e4
      cases e2
      exact slc_core si sg wg st se S hok e5 e6 hz fun D0 F2 H' S3 i2 s2 => k _ F2 H' (S3.store (.inl rfl) (.inl (notio hb (notin_of hio)))) i2
    · cases e4
  · cases e4
end
end Z

namespace Z
open PySem PySem.Spec PyProof.Rows L2
/-! ### a dict locked while it is walked -/
def Nf (u : HO) : Prop := ∀ o w, u ≠ .frz o w
structure Cv (F G : Hp) : Prop where
  lst : ∀ a vs, F a = some (.lst vs) → G a = some (.lst vs)
  rd : ∀ a u, Nf u → Rd F a u → Rd G a u
  ins : ∀ a C dx kvs, F a = some (.ins C dx kvs) → G a = some (.ins C dx kvs)
theorem nf_l {vs : List V} : Nf (.lst vs) := fun _ _ e => nomatch e
theorem nf_t {vs : List V} : Nf (.tup vs) := fun _ _ e => nomatch e
theorem nf_d {kvs : List (Key × V)} : Nf (.dK kvs) := fun _ _ e => nomatch e
mutual
theorem Rep.cv {W : Wd} {F G : Hp} (h : Cv F G) : ∀ (d : D) (v : V), Rep W F d v → Rep W G d v
  | .non, _, r => r
  | .bl _, _, r => r
  | .int _, _, r => r
  | .str _, _, r => r
  | .tup l, _, ⟨p, vs, e, s, q⟩ => ⟨p, vs, e, s.imp (h.rd p _ nf_t) id, Reps.cv h l vs q⟩
  | .lst l, _, ⟨p, vs, e, s, q⟩ => ⟨p, vs, e, s.imp (h.rd p _ nf_l) id, Reps.cv h l vs q⟩
  | .nst l, _, ⟨p, vs, e, s, n, q⟩ => ⟨p, vs, e, h.lst p _ s, n, Reps.cv h l vs q⟩
  | .dct ks ds, _, ⟨p, kvs, e, s, k, q⟩ => ⟨p, kvs, e, h.rd p _ nf_d s, k, Reps.cv h ds _ q⟩
  | .obj C ns ds, _, ⟨p, dx, kvs, e, s, k, q⟩ => ⟨p, dx, kvs, e, h.ins p _ _ _ s, k, Reps.cv h ds _ q⟩
theorem Reps.cv {W : Wd} {F G : Hp} (h : Cv F G) : ∀ (ds : List D) (vs : List V), Reps W F ds vs → Reps W G ds vs
  | [], _, r => r
  | d :: ds, _, ⟨v, vr, e, a, b⟩ => ⟨v, vr, e, Rep.cv h d v a, Reps.cv h ds vr b⟩
end
theorem Cv.mix {F G H J : Hp} {fp : List Addr} (h : Cv F G) (k : ∀ a ∈ fp, J a = H a) : Cv (Z.mix F H fp) (Z.mix G J fp) where
  lst := fun a vs r => by
    unfold Z.mix at r ⊢
    by_cases ha : a ∈ fp
    · rw [if_pos ha] at r ⊢
      rw [k a ha]
      exact r
    · rw [if_neg ha] at r ⊢
      exact h.lst a vs r
  rd := fun a u n r => by
    unfold Rd Z.mix at r ⊢
    by_cases ha : a ∈ fp
    · simp only [if_pos ha] at r ⊢
      rw [k a ha]
      exact r
    · simp only [if_neg ha] at r ⊢
      exact h.rd a u n r
  ins := fun a C dx kvs r => by
    unfold Z.mix at r ⊢
    by_cases ha : a ∈ fp
    · rw [if_pos ha] at r ⊢
      rw [k a ha]
      exact r
    · rw [if_neg ha] at r ⊢
      exact h.ins a C dx kvs r
mutual
theorem RelT.cv {W : Wd} {F G H J : Hp} (h : Cv F G) : ∀ (t : T) (v : V) (fp : List Addr), (∀ a ∈ fp, J a = H a) → RelT W F H t v fp → RelT W G J t v fp
  | .un, _, _, _, r => r
  | .f d, _, _, _, r => ⟨r.1, Rep.cv h _ _ r.2⟩
  | .l ds, _, _, k, ⟨p, vs, e1, e2, e3, q⟩ => ⟨p, vs, e1, e2, (k p (by rw [e2]; exact List.mem_singleton.mpr rfl)).trans e3, Reps.cv h _ _ q⟩
  | .dk ks ds, _, _, k, ⟨p, kvs, e1, e2, e3, e4, q⟩ => ⟨p, kvs, e1, e2, (k p (by rw [e2]; exact List.mem_singleton.mpr rfl)).trans e3, e4, Reps.cv h _ _ q⟩
  | .di ks ts, _, _, k, ⟨p, xs, fps, e1, e2, e3, e4, kk, q⟩ => ⟨p, xs, fps, e1, e2, (k p (by rw [e2]; exact List.mem_cons_self)).trans e3, e4, fun x hx => let ⟨l, a, c, b⟩ := kk x hx; ⟨l, a, c, Rep.cv h _ _ b⟩, RelTs.cv h ts _ fps (fun a ha => k a (by rw [e2]; exact List.mem_cons_of_mem _ ha)) q⟩
  | .ll ts, _, _, k, ⟨p, vs, fps, e1, e2, e3, q⟩ => ⟨p, vs, fps, e1, e2, (k p (by rw [e2]; exact List.mem_cons_self)).trans e3, RelTs.cv h ts vs fps (fun a ha => k a (by rw [e2]; exact List.mem_cons_of_mem _ ha)) q⟩
  | .tu ts, _, _, k, ⟨p, vs, fps, e1, e2, e3, q⟩ => ⟨p, vs, fps, e1, e2, (k p (by rw [e2]; exact List.mem_cons_self)).trans e3, RelTs.cv h ts vs fps (fun a ha => k a (by rw [e2]; exact List.mem_cons_of_mem _ ha)) q⟩
  | .o C ns ts, _, _, k, ⟨p, dx, kvs, fps, e1, e2, e3, e4, q⟩ => ⟨p, dx, kvs, fps, e1, e2, (k p (by rw [e2]; exact List.mem_cons_self)).trans e3, e4, RelTs.cv h ts _ fps (fun a ha => k a (by rw [e2]; exact List.mem_cons_of_mem _ ha)) q⟩
  | .ln ds, _, fp, k, ⟨p, vs, fr, e1, e2, e3, q, pl, nw⟩ => have k' : ∀ a ∈ fr, J a = H a := fun a ha => k a (by rw [e2]; exact List.mem_cons_of_mem _ ha); ⟨p, vs, fr, e1, e2, (k p (by rw [e2]; exact List.mem_cons_self)).trans e3, Reps.cv (h.mix k') _ _ q, pl.same k', nw⟩
  | .gb _, _, fp, k, r => ⟨r.1, r.2.same k⟩
  | .rg n, _, fp, k, ⟨p, vs, fr, e1, e2, e3, q, pl⟩ => ⟨p, vs, fr, e1, e2, (k p (by rw [e2]; exact List.mem_cons_self)).trans e3, q, pl.same fun a ha => k a (by rw [e2]; exact List.mem_cons_of_mem _ ha)⟩
theorem RelTs.cv {W : Wd} {F G H J : Hp} (h : Cv F G) : ∀ (ts : List T) (vs : List V) (fps : List (List Addr)), (∀ a ∈ fps.flatten, J a = H a) → RelTs W F H ts vs fps → RelTs W G J ts vs fps
  | [], _, _, _, r => r
  | t :: ts, _, _, k, ⟨v, vr, f, fr, e1, e2, a, b⟩ => by
    subst e2
    rw [List.flatten_cons] at k
    exact ⟨v, vr, f, fr, e1, rfl, RelT.cv h t v f (fun x hx => k x (List.mem_append_left _ hx)) a, RelTs.cv h ts vr fr (fun x hx => k x (List.mem_append_right _ hx)) b⟩
end
theorem Slots.cv {W : Wd} {F G H J : Hp} (h : Cv F G) : ∀ {ts : List T} {σ : L2.St} {fps : List (List Addr)}, (∀ a ∈ fps.flatten, J a = H a) → Slots W F H ts σ fps → Slots W G J ts σ fps
  | [], _, _, _, r => r
  | t :: ts, _, _, k, ⟨s, sr, f, fr, e1, e2, a, b⟩ => by
    subst e2
    rw [List.flatten_cons] at k
    refine ⟨s, sr, f, fr, e1, rfl, ?_, Slots.cv h (fun x hx => k x (List.mem_append_right _ hx)) b⟩
    cases s with
    | none => exact a
    | some v => exact RelT.cv h t v f (fun x hx => k x (List.mem_append_left _ hx)) a
theorem cv_lock {F : Hp} {d : Addr} {od : Obj} {kvs : List (Key × V)} (e : F d = some (.dK kvs)) : Cv F (upd F d (.frz od (.dK kvs))) where
  lst := fun a vs r => by
    have h : a ≠ d := fun h => by subst h; rw [e] at r; cases r
    rw [upd_ne h]; exact r
  rd := fun a u n r => by
    by_cases h : a = d
    · subst h
      rcases r with r | ⟨o, r⟩
      · rw [e] at r; cases r; exact .inr ⟨od, upd_same⟩
      · rw [e] at r; cases r
    · rcases r with r | ⟨o, r⟩
      · exact .inl (by rw [upd_ne h]; exact r)
      · exact .inr ⟨o, by rw [upd_ne h]; exact r⟩
  ins := fun a C dx ks r => by
    have h : a ≠ d := fun h => by subst h; rw [e] at r; cases r
    rw [upd_ne h]; exact r
theorem cv_free {F : Hp} {d : Addr} {od : Obj} {kvs : List (Key × V)} (e : F d = some (.frz od (.dK kvs))) : Cv F (upd F d (.dK kvs)) where
  lst := fun a vs r => by
    have h : a ≠ d := fun h => by subst h; rw [e] at r; cases r
    rw [upd_ne h]; exact r
  rd := fun a u n r => by
    by_cases h : a = d
    · subst h
      rcases r with r | ⟨o, r⟩
      · rw [e] at r; exact absurd (Option.some.inj r).symm (n od _)
      · rw [e] at r; cases r; exact .inl upd_same
    · rcases r with r | ⟨o, r⟩
      · exact .inl (by rw [upd_ne h]; exact r)
      · exact .inr ⟨o, by rw [upd_ne h]; exact r⟩
  ins := fun a C dx ks r => by
    have h : a ≠ d := fun h => by subst h; rw [e] at r; cases r
    rw [upd_ne h]; exact r
/-- the frame of a def while a dict is locked -/
def Bs.lock (b : Bs) (d : Addr) (o : HO) : Bs := ⟨upd b.H0 d o, upd b.F0 d o, b.As, b.io⟩
section
variable {W : Wd} {b : Bs} {F : Hp} {ρ : List T} {σ : L2.St} {X : List Tm} {H : Hp} {d : Addr} {od : Obj} {kvs : List (Key × V)}
theorem SR.lock (S : SR W b F ρ σ X H) (e : F d = some (.dK kvs)) : SR W (b.lock d (.frz od (.dK kvs))) (upd F d (.frz od (.dK kvs))) ρ σ X (upd H d (.frz od (.dK kvs))) := by
  obtain ⟨le, f0, fn, kept, stab, pin, fps, xps, s1, s2, ⟨nd, ow⟩, lc1, lc2⟩ := S
  have nin : ∀ a ∈ fps.flatten ++ xps.flatten, a ≠ d := fun a ha z => by subst z; rw [ow a ha] at e; cases e
  have H0n : ∀ a, a ≠ d → (b.lock d (.frz od (.dK kvs))).H0 a = b.H0 a := fun a h => upd_ne h
  have F0n : ∀ a, a ≠ d → (b.lock d (.frz od (.dK kvs))).F0 a = b.F0 a := fun a h => upd_ne h
  refine ⟨?_, ?_, ?_, ?_, ?_, ⟨pin.1, fun a h => pin.2 a (h.imp (fun h => by
    have hne : a ≠ d := fun z => by subst z; rw [show (b.lock a (.frz od (.dK kvs))).H0 a = upd b.H0 a (.frz od (.dK kvs)) a from rfl, upd_same] at h; cases h
    rw [← H0n a hne]; exact h) id)⟩, fps, xps, Slots.cv (cv_lock e) (fun a ha => upd_ne (nin a (List.mem_append_left _ ha))) s1, RelTs.cv (cv_lock e) _ _ _ (fun a ha => upd_ne (nin a (List.mem_append_right _ ha))) s2, ⟨nd, ?_⟩, ?_, ?_⟩
  · intro a o h
    by_cases z : a = d
    · subst z
      rw [upd_same] at h ⊢
      exact .inl h
    · rw [upd_ne z] at h ⊢
      exact le a o h
  · intro a o h
    by_cases z : a = d
    · subst z
      have h' : upd b.F0 a (.frz od (.dK kvs)) a = some o := h
      rw [upd_same] at h' ⊢
      exact h'
    · rw [F0n a z] at h
      rw [upd_ne z]
      exact f0 a o h
  · intro a o h
    by_cases z : a = d
    · subst z
      rw [upd_same] at h
      exact .inl (show upd b.F0 a _ a = some o by rw [upd_same]; exact h)
    · rw [upd_ne z] at h
      rw [F0n a z, H0n a z]
      exact fn a o h
  · intro a o h na
    by_cases z : a = d
    · subst z
      have h' : upd b.H0 a (.frz od (.dK kvs)) a = some o := h
      rw [upd_same] at h' ⊢
      exact h'
    · rw [H0n a z] at h
      rw [upd_ne z]
      exact kept a o h na
  · intro a o h ha
    by_cases z : a = d
    · subst z
      have h' : upd b.H0 a (.frz od (.dK kvs)) a = some o := h
      rw [upd_same] at h'
      cases h'
      exact ⟨_, upd_same, Stb.frz⟩
    · rw [H0n a z] at h
      obtain ⟨u, q, st⟩ := stab a o h ha
      exact ⟨u, by rw [upd_ne z]; exact q, st⟩
  · intro a ha
    rw [upd_ne (nin a ha)]
    exact ow a ha
  · intro i f hf a ha
    have z : a ≠ d := nin a (List.mem_append_left _ (List.mem_flatten.mpr ⟨f, List.mem_of_getElem? hf, ha⟩))
    exact (lc1 i f hf a ha).imp (fun q => (H0n a z).trans q) id
  · have go : ∀ (X : List Tm) (fs : List (List Addr)), (∀ a ∈ fs.flatten, a ≠ d) → LocX b X fs → LocX (b.lock d (.frz od (.dK kvs))) X fs := by
      intro X
      induction X with
      | nil => intro fs _ _; exact trivial
      | cons x X ih =>
        intro fs hn h
        cases fs with
        | nil => exact trivial
        | cons f fs =>
          rw [List.flatten_cons] at hn
          exact ⟨fun a ha => (h.1 a ha).imp (fun q => (H0n a (hn a (List.mem_append_left _ ha))).trans q) id, ih fs (fun a ha => hn a (List.mem_append_right _ ha)) h.2⟩
    exact go X xps (fun a ha => nin a (List.mem_append_right _ ha)) lc2
theorem SR.free {F0 H0 : Hp} {ρ0 : List T} {σ0 : L2.St} {X0 : List Tm} (S0 : SR W b F0 ρ0 σ0 X0 H0) (e0 : F0 d = some (.dK kvs)) {J : Hp} (hJ : ∀ a, a ≠ d → J a = H a) (eJ : J d = H0 d) (eJ2 : J d = some (.dK kvs) ∨ J d = some (.frz od (.dK kvs))) (S : SR W (b.lock d (.frz od (.dK kvs))) F ρ σ X H) (i : Inc (upd F0 d (.frz od (.dK kvs))) F) :
    SR W b (upd F d (.dK kvs)) ρ σ X J ∧ Inc F0 (upd F d (.dK kvs)) ∧ H d = some (.frz od (.dK kvs)) := by
  have e : F d = some (.frz od (.dK kvs)) := i d _ upd_same
  obtain ⟨le0, f00, fn0, kept0, stab0, pin0, _⟩ := S0
  obtain ⟨le, f0, fn, kept, stab, pin, fps, xps, s1, s2, ⟨nd, ow⟩, lc1, lc2⟩ := S
  have nin : ∀ a ∈ fps.flatten ++ xps.flatten, a ≠ d := fun a ha z => by subst z; rw [ow a ha] at e; cases e
  have H0n : ∀ a, a ≠ d → (b.lock d (.frz od (.dK kvs))).H0 a = b.H0 a := fun a h => upd_ne h
  have F0n : ∀ a, a ≠ d → (b.lock d (.frz od (.dK kvs))).F0 a = b.F0 a := fun a h => upd_ne h
  have eH : H d = some (.frz od (.dK kvs)) := by
    rcases le d _ e with q | ⟨u, ks, q, _⟩
    · exact q
    · cases q
  have inc : Inc F0 (upd F d (.dK kvs)) := fun a o h => by
    by_cases z : a = d
    · subst z
      rw [e0] at h
      rw [upd_same]
      exact h
    · rw [upd_ne z]
      exact i a o (by rw [upd_ne z]; exact h)
  refine ⟨⟨?_, f00.trans inc, ?_, ?_, ?_, ⟨pin.1, pin0.2⟩, fps, xps, Slots.cv (cv_free e) (fun a ha => hJ a (nin a (List.mem_append_left _ ha))) s1, RelTs.cv (cv_free e) _ _ _ (fun a ha => hJ a (nin a (List.mem_append_right _ ha))) s2, ⟨nd, ?_⟩, ?_, ?_⟩, inc, eH⟩
  · intro a o h
    by_cases z : a = d
    · subst z
      rw [upd_same] at h
      cases h
      exact eJ2.imp id fun q => ⟨_, _, rfl, q⟩
    · rw [upd_ne z] at h
      rw [hJ a z]
      exact le a o h
  · intro a o h
    by_cases z : a = d
    · subst z
      rw [upd_same] at h
      cases h
      exact fn0 a _ e0
    · rw [upd_ne z] at h
      have := fn a o h
      rw [F0n a z, H0n a z] at this
      exact this
  · intro a o h na
    by_cases z : a = d
    · subst z
      exact eJ.trans (kept0 a o h na)
    · rw [hJ a z]
      exact kept a o (by rw [H0n a z]; exact h) na
  · intro a o h ha
    by_cases z : a = d
    · subst z
      obtain ⟨u, q, st⟩ := stab0 a o h ha
      exact ⟨u, eJ.trans q, st⟩
    · obtain ⟨u, q, st⟩ := stab a o (by rw [H0n a z]; exact h) ha
      exact ⟨u, by rw [hJ a z]; exact q, st⟩
  · intro a ha
    rw [upd_ne (nin a ha)]
    exact ow a ha
  · intro j f hf a ha
    have z : a ≠ d := nin a (List.mem_append_left _ (List.mem_flatten.mpr ⟨f, List.mem_of_getElem? hf, ha⟩))
    exact (lc1 j f hf a ha).imp (fun q => (H0n a z).symm.trans q) id
  · have go : ∀ (X : List Tm) (fs : List (List Addr)), (∀ a ∈ fs.flatten, a ≠ d) → LocX (b.lock d (.frz od (.dK kvs))) X fs → LocX b X fs := by
      intro X
      induction X with
      | nil => intro fs _ _; exact trivial
      | cons x X ih =>
        intro fs hn h
        cases fs with
        | nil => exact trivial
        | cons f fs =>
          rw [List.flatten_cons] at hn
          exact ⟨fun a ha => (h.1 a ha).imp (fun q => (H0n a (hn a (List.mem_append_left _ ha))).symm.trans q) id, ih fs (fun a ha => hn a (List.mem_append_right _ ha)) h.2⟩
    exact go X xps (fun a ha => nin a (List.mem_append_right _ ha)) lc2
end
/-! ### values that are found without a change -/
def kD : Key → D
  | .inl i => .int i
  | .inr x => .str x
theorem kD_rep {W : Wd} {F : Hp} {k : Key} : Rep W F (kD k) (kV k) := by cases k <;> rfl
theorem wk_keys {W : Wd} {F : Hp} {d : Addr} {od : Obj} {kvs : List (Key × V)} (e : F d = some (.frz od (.dK kvs))) : Wk W F (Itk d od kvs) ((kvs.map (·.1)).map kD) where
  go := fun i G H i1 le h => by
    rw [List.length_map, List.length_map] at h
    rcases le d _ (i1 d _ e) with q | ⟨_, _, q, _⟩
    · exact ⟨q, h⟩
    · cases q
  stop := fun G H i1 le => by
    rcases le d _ (i1 d _ e) with q | ⟨_, _, q, _⟩
    · exact ⟨q, by rw [List.length_map, List.length_map]; exact Nat.le_refl _⟩
    · cases q
  yld := fun i G H x H' dd i1 le hd y => by
    obtain ⟨e1, k, v, e2, e3⟩ := y
    refine .inl ⟨e1, ?_⟩
    rw [List.getElem?_map, List.getElem?_map, e2] at hd
    cases hd
    rw [e3]
    exact kD_rep
/-- found without a change: the value is known ahead -/
def Spk (W : Wd) (te : TE) (f : List T → Option T) : Prop := ∀ b F ρ σ X H t, SR W b F ρ σ X H → f ρ = some t → ∃ v, RelV W F H t v ∧ ∀ (G : Hp) (Q : VK), (∀ p vs, SqT W.K F p vs → SqT W.K G p vs) → Q v G → te σ G Q
def Pk (c : Ctx) (e : Expr) (f : List T → Option T) : Prop := ∃ t, (∀ j, PE (c.X j) e t) ∧ Spk c.W t f
section
variable {c : Ctx} {a tg e : Expr} {ss : List Stmt} {fa : List T → Option T} {pos p2 : Pos}
theorem pk_v (i : Nat) {x : Str} (hi : c.N[i]? = some x := by rfl) (hv : ∀ j, Vis (c.X j).env.scope x := by intro _; first | exact Or.inl rfl | exact Or.inr (Or.inl rfl) | exact Or.inr (Or.inr rfl)) (hd : (x == ("__debug__" : Str)) = false := by decide) (hcd : (x == ("__classdict__" : Str)) = false := by decide) : Pk c (.Name x pos) (fVar i) := by
  refine ⟨_, fun j => pe_var (i := i) (by rw [c.hN j]; exact hi) (hv j) hd hcd, ?_⟩
  intro b F ρ σ X H t S e
  unfold fVar at e
  cases q : ρ[i]? with
  | none => rw [q] at e; cases e
  | some u =>
    have hu : u = t ∧ t ≠ .un := by
      rw [q] at e
      cases u <;> first | (cases e; exact ⟨rfl, fun z => nomatch z⟩) | cases e
    obtain ⟨rfl, hn⟩ := hu
    obtain ⟨s, fp, e1, r⟩ := S.slot q
    cases s with
    | none => exact absurd r.1 hn
    | some v => exact ⟨v, ⟨fp, r⟩, fun G Q _ k => ⟨v, e1, k⟩⟩
def fTix (k : Int) (fa : List T → Option T) : List T → Option T := fun ρ => (fa ρ).bind fun t => match t with
  | .f (.tup ds) => (atI ds k).map .f
  | _ => none
theorem pk_ix {kk : Nat} (k : Int) (ha : Pk c a fa) : Pk c (.Subscript a (.Constant (.int k) kk p2) pos) (fTix k fa) := by
  obtain ⟨ta, pa, sa⟩ := ha
  refine ⟨tOp (rIxU c.W.K) ta (tC (.int k)), fun j => pe_ix (by have h := ix_U (X := c.X j) (c.hu1 j); rw [c.hK j] at h; exact h) (pa j) pe_int (fun _ _ => rfl), ?_⟩
  intro b F ρ σ X H t S e
  unfold fTix at e
  obtain ⟨u, e1, e⟩ := Option.bind_eq_some_iff.mp e
  cases u with
  | f d => cases d with
    | tup ds =>
      obtain ⟨d, e2, e3⟩ := Option.map_eq_some_iff.mp e
      subst e3
      obtain ⟨v, r, q⟩ := sa b F ρ σ X H _ S e1
      obtain ⟨p, vs, ex, hs, rs⟩ := r.rep
      subst ex
      obtain ⟨j, h1, h2⟩ := atI_map rs.len e2
      obtain ⟨w, h3, h4⟩ := rs.get h1
      exact ⟨w, ⟨[], rfl, h4⟩, fun G Q hG k' => q G _ hG (.inl (.inl (.inr ⟨p, vs, k, w, rfl, rfl, hG p vs hs, h2 w h3, k'⟩)))⟩
    | _ => cases e
  | _ => cases e
theorem for_core {W : Wd} {P : Sg} {E : L2.St → XK} {g : TG} {tb : TS} {fg : T → List T → Option (List T)} {fb : FS} (hg : Sgt W P g fg) (hb : Ss W P E tb fb) {b : Bs} {F1 : Hp} {ρ1 : List T} {σ : L2.St} {X : List Tm} {H1 : Hp} {J : It} {ds : List D} {o : Out} {D : Ends}
    (bok : Bok P b) (S1 : SR W b F1 ρ1 σ X H1) (wk : Wk W F1 J ds) (e : forF fg fb ds ρ1 = some o) (k : PostS W b F1 X D E o) :
    ∃ Wm : Nat → Nat → L2.St → Hp → Prop, (∃ m, Wm 0 m σ H1) ∧ ∀ i m σ H, Wm i m σ H →
      (J.stop i H ∧ D.nx σ H) ∨ (J.go i H ∧ ∃ N : L2.St → Hp → Prop, (∀ σ' H', N σ' H' → ∃ m', m' < m ∧ Wm (i + 1) m' σ' H') ∧ ∀ x H', J.yld i H x H' → g x σ H' fun σ2 H2 => tb { D with nx := N, ct := N, bk := D.nx } σ2 H2) := by
  refine ⟨fun i m σ' H' => m = ds.length - i ∧ i ≤ ds.length ∧ ∃ F' ρ', SR W b F' ρ' σ' X H' ∧ Inc F1 F' ∧ forF fg fb (ds.drop i) ρ' = some o, ⟨ds.length, by simp, Nat.zero_le _, F1, ρ1, S1, Inc.refl F1, e⟩, ?_⟩
  rintro i m σ2 H2 ⟨rfl, hi2, F2, ρ2, S2, i2, e2⟩
  by_cases hlt : i < ds.length
  · refine .inr ⟨wk.go i F2 H2 i2 S2.le hlt, fun σ' H' => i + 1 ≤ ds.length ∧ ∃ F' ρ', SR W b F' ρ' σ' X H' ∧ Inc F1 F' ∧ forF fg fb (ds.drop (i + 1)) ρ' = some o, fun σ' H' h => ⟨ds.length - (i + 1), by omega, rfl, h⟩, fun x H3 y => ?_⟩
    have hd : ds[i]? = some ds[i] := List.getElem?_eq_getElem hlt
    rw [List.drop_eq_getElem_cons hlt] at e2
    unfold forF at e2
    obtain ⟨ρ3, e3, e2⟩ := Option.bind_eq_some_iff.mp e2
    obtain ⟨o1, e4, e2⟩ := Option.bind_eq_some_iff.mp e2
    obtain ⟨F3, S3, i3⟩ := wk.item S2 i2 hd y
    refine hg b F3 ρ2 ρ3 σ2 X H3 _ x _ bok S3 e3 fun σ4 F4 H4 S4 i4 => ?_
    have i14 := i2.trans (i3.trans i4)
    refine hb b F4 ρ3 σ4 X H4 o1 _ bok S4 e4 ?_
    cases o1 with
    | nx ρ5 => exact fun σ' F' H' S' i' => ⟨hlt, F', ρ5, S', i14.trans i', e2⟩
    | ct ρ5 => exact fun σ' F' H' S' i' => ⟨hlt, F', ρ5, S', i14.trans i', e2⟩
    | bk ρ5 =>
      cases e2
      exact fun σ' F' H' S' i' => k σ' F' H' S' (i14.trans i')
    | rt t ρ5 =>
      cases e2
      exact fun v σ' F' H' S' i' => k v σ' F' H' S' (i14.trans i')
    | xc C ρ5 =>
      cases e2
      exact fun d σ' F' H' S' i' => k d σ' F' H' S' (i14.trans i')
  · have hi3 : i = ds.length := by omega
    subst hi3
    rw [List.drop_length] at e2
    cases e2
    exact .inl ⟨wk.stop F2 H2 i2 S2.le, k σ2 F2 H2 S2 i2⟩
def noX : Out → Option Out
  | .xc _ _ => none
  | o => some o
def sForK (pk : List T → Option T) (fg : T → List T → Option (List T)) (fb : FS) : FS := fun ρ => (pk ρ).bind fun t => match t with
  | .f (.dct ks _) => (forF fg fb (ks.map kD) ρ).bind noX
  | _ => none
theorem sm_forK {fg : T → List T → Option (List T)} {fb : FS} (hp : ∀ j, PassesOwn (model (c.X j).prog (c.X j).w) (c.X j).A (c.X j).env (c.X j).xe) (hi : Pk c e fa) (hg : Gt c tg fg) (hb : Sms c ss fb) (hs : ∀ j x, foldedSetIterable e (c.X j).env x = pure x := by intro _ _; rfl) : Sm c (.For tg e ss [] pos) (sForK fa fg fb) := by
  obtain ⟨te, p1, q1⟩ := hi
  obtain ⟨g, p2, q2⟩ := hg
  obtain ⟨tb, p3, q3⟩ := hb
  have pf : ∀ j, PS (c.X j) (.For tg e ss [] pos) (tFor (iKeys te) g tb) := fun j => ps_for (hp j) (c.calm j) (pi_keys (p1 j)) (p2 j) (p3 j) (hs j)
  refine ⟨fun D σ H => tLock (tFor (iKeys te) g tb) D σ H ∨ tFor (iKeys te) g tb D σ H, fun j => ⟨fun pins s σ H D I h => h.elim (fun h => (ps_lock (pf j)).run pins s σ H D I h) fun h => (pf j).run pins s σ H D I h⟩, ?_⟩
  intro b F ρ σ X H o D bok S eq k
  unfold sForK at eq
  obtain ⟨t, e1, eq⟩ := Option.bind_eq_some_iff.mp eq
  obtain ⟨ks, ds, rfl⟩ : ∃ ks ds, t = .f (.dct ks ds) := by
    cases t with
    | f d => cases d with
      | dct ks ds => exact ⟨ks, ds, rfl⟩
      | _ => cases eq
    | _ => cases eq
  obtain ⟨o', e2, e3⟩ := Option.bind_eq_some_iff.mp (show (forF fg fb (ks.map kD) ρ).bind noX = some o from eq)
  have ho : o' = o ∧ ∀ C ρ', o ≠ .xc C ρ' := by
    cases o' <;> first | (cases e3; exact ⟨rfl, fun _ _ z => nomatch z⟩) | cases e3
  obtain ⟨rfl, hx⟩ := ho
  obtain ⟨v, r, q⟩ := q1 b F ρ σ X H _ S e1
  obtain ⟨d, kvs, ex, hd, hk, rs⟩ := r.rep
  subst ex hk
  -- the loop, once the dict is locked in F
  have loop : ∀ (b' : Bs) (G J : Hp) (od : Obj) (D' : Ends), Bok c.P b' → SR c.W b' G ρ σ X J → G d = some (.frz od (.dK kvs)) → (∀ p vs, SqT c.W.K F p vs → SqT c.W.K J p vs) → PostS c.W b' G X D' c.E o' → tFor (iKeys te) g tb D' σ J := by
    intro b' G J od D' bok' S' hG hJ k'
    refine q J _ hJ ⟨d, od, rfl, .inl ⟨kvs, ?_, for_core q2 q3 bok' S' (wk_keys hG) e2 k'⟩⟩
    rcases S'.le d _ hG with z | ⟨_, _, z, _⟩
    · exact z
    · cases z
  rcases hd with hd | ⟨od, hd⟩
  · rcases S.le d _ hd with hH | ⟨od, _, hu, hH⟩
    · refine .inl ⟨d, .dK kvs, hH, trivial, fun od => ?_⟩
      have SL := S.lock (od := od) hd
      refine loop (b.lock d (.frz od (.dK kvs))) _ _ od _ bok SL upd_same (fun p vs h => ?_) ?_
      · refine h.imp (fun r => ?_) id
        exact (cv_lock (od := od) hH).rd p _ nf_t (Rd.le S.le r)
      · have fin : ∀ {F' : Hp} {ρ' : List T} {σ' : L2.St} {X' : List Tm} {H' : Hp}, SR c.W (b.lock d (.frz od (.dK kvs))) F' ρ' σ' X' H' → Inc (upd F d (.frz od (.dK kvs))) F' → H' d = some (.frz od (.dK kvs)) ∧ SR c.W b (upd F' d (.dK kvs)) ρ' σ' X' (upd H' d (.dK kvs)) ∧ Inc F (upd F' d (.dK kvs)) := fun S' i' => by
          obtain ⟨s1, s2, s3⟩ := SR.free S hd (J := upd _ d (.dK kvs)) (fun a h => upd_ne h) (by rw [upd_same, hH]) (.inl upd_same) S' i'
          exact ⟨s3, s1, s2⟩
        cases o' with
        | nx ρ' => exact fun σ' F' H' S' i' => have f := fin S' i'; ⟨f.1, k σ' _ _ f.2.1 f.2.2⟩
        | rt t ρ' => exact fun v σ' F' H' S' i' => have f := fin S' i'; ⟨f.1, k v σ' _ _ f.2.1 f.2.2⟩
        | bk ρ' => exact fun σ' F' H' S' i' => have f := fin S' i'; ⟨f.1, k σ' _ _ f.2.1 f.2.2⟩
        | ct ρ' => exact fun σ' F' H' S' i' => have f := fin S' i'; ⟨f.1, k σ' _ _ f.2.1 f.2.2⟩
        | xc C ρ' => exact absurd rfl (hx C ρ')
    · cases hu
      refine .inr ?_
      have SL := S.lock (od := od) hd
      have same : upd H d (.frz od (.dK kvs)) = H := by
        funext z
        by_cases h : z = d
        · subst h; rw [upd_same, hH]
        · rw [upd_ne h]
      rw [same] at SL
      refine loop (b.lock d (.frz od (.dK kvs))) _ _ od _ bok SL upd_same (fun p vs h => SqT.le S.le h) ?_
      have fin : ∀ {F' : Hp} {ρ' : List T} {σ' : L2.St} {X' : List Tm} {H' : Hp}, SR c.W (b.lock d (.frz od (.dK kvs))) F' ρ' σ' X' H' → Inc (upd F d (.frz od (.dK kvs))) F' → SR c.W b (upd F' d (.dK kvs)) ρ' σ' X' H' ∧ Inc F (upd F' d (.dK kvs)) := fun {F' ρ' σ' X' H'} S' i' => by
        have z : H' d = some (.frz od (.dK kvs)) := by
          rcases S'.le d _ (i' d _ upd_same) with z | ⟨_, _, z, _⟩
          · exact z
          · cases z
        obtain ⟨s1, s2, s3⟩ := SR.free S hd (J := H') (fun a h => rfl) (by rw [z, hH]) (.inr z) S' i'
        exact ⟨s1, s2⟩
      cases o' with
      | nx ρ' => exact fun σ' F' H' S' i' => have f := fin S' i'; k σ' _ _ f.1 f.2
      | rt t ρ' => exact fun v σ' F' H' S' i' => have f := fin S' i'; k v σ' _ _ f.1 f.2
      | bk ρ' => exact fun σ' F' H' S' i' => have f := fin S' i'; k σ' _ _ f.1 f.2
      | ct ρ' => exact fun σ' F' H' S' i' => have f := fin S' i'; k σ' _ _ f.1 f.2
      | xc C ρ' => exact absurd rfl (hx C ρ')
  · refine .inr (loop b F H od D bok S hd (fun p vs h => SqT.le S.le h) k)
end
end Z

namespace Z
open PySem PySem.Spec PyProof.Rows L2
/-! ### texts joined, dicts copied, things sorted, the greatest -/
def strsOf : List D → Option (List Str)
  | [] => some []
  | .str x :: ds => (strsOf ds).map fun xs => x :: xs
  | _ => none
theorem strsOf_v {W : Wd} {F : Hp} : ∀ {ds : List D} {vs : List V} {xs : List Str}, Reps W F ds vs → strsOf ds = some xs → vs = xs.map V.str
  | [], _, _, r, e => by
    cases e
    exact r
  | d :: ds, _, _, ⟨v, vr, e1, r1, r2⟩, e => by
    subst e1
    cases d with
    | str x =>
      obtain ⟨ys, e2, e3⟩ := Option.map_eq_some_iff.mp (show (strsOf ds).map _ = _ from e)
      subst e3
      rw [strsOf_v r2 e2]
      exact congrArg (· :: ys.map V.str) r1
    | _ => cases e
theorem strsOf_map : ∀ (xs : List Str), strsOf (xs.map .str) = some xs
  | [] => rfl
  | x :: xs => by
    show (strsOf (xs.map .str)).map _ = _
    rw [strsOf_map xs]
    rfl
def gJoin (a b : T) : Option T := a.s?.bind fun s => b.sq?.bind fun ds => (strsOf ds).bind fun ys => if (ys.map (·.length)).sum + ys.length * s.length ≤ 16777216 then some (.f (.str (Txt.join s ys))) else none
section
variable {c : Ctx} {a e : Expr} {fa fb : List T → Option T} {apos pos : Pos}
theorem ev_join (ha : Ev c a fa) (he : Ev c e fb) (hs : ∀ j, starEach [e] (c.X j).env = [(false, eval e (c.X j).env)] := by intro _; rfl) (hbase : ∀ j, attributeBase a "join" (c.X j).env (eval a (c.X j).env) = eval a (c.X j).env := by intro _; rfl) (hline : (apos.endLine == pos.line) = true := by rfl) :
    Ev c (.Call (.Attribute a "join" apos) [e] [] pos) (f2 gJoin fa fb) := by
  obtain ⟨ta, pa, sa⟩ := ha
  obtain ⟨tb, pb, sb⟩ := he
  refine ⟨tM1 (fun x xs H Q => ∃ a p, ∃ ys : List Str, x = .str a ∧ xs = [.ref p] ∧ (SqL c.W.K H p (ys.map V.str) ∨ SqT c.W.K H p (ys.map V.str)) ∧
      (ys.map (·.length)).sum + ys.length * a.length ≤ 16777216 ∧ Q (.str (Txt.join a ys)) H) ta tb, fun j => by have h := pe_join (pa j) (pb j) (hs j) (hbase j) hline; rw [c.hK j] at h; exact h, ?_⟩
  intro b F ρ σ X H τ Q S e k
  unfold f2 at e
  obtain ⟨t1, e1, e⟩ := Option.bind_eq_some_iff.mp e
  obtain ⟨t2, e2, e⟩ := Option.bind_eq_some_iff.mp e
  unfold gJoin at e
  obtain ⟨s, e3, e⟩ := Option.bind_eq_some_iff.mp e
  obtain ⟨ds, e4, e⟩ := Option.bind_eq_some_iff.mp e
  obtain ⟨ys, e5, e⟩ := Option.bind_eq_some_iff.mp e
  split at e
  · rename_i hz
    cases e
    refine sa b F ρ σ X H _ _ S e1 fun x F1 H1 S1 i1 s1 r1 => ?_
    have hx := r1.str e3
    subst hx
    refine ⟨⟨s, rfl⟩, sb b F1 ρ σ X H1 _ _ S1 e2 fun y F2 H2 S2 i2 s2 r2 => ?_⟩
    obtain ⟨p, vs, ex, hs, q⟩ := r2.sq e4 S2.le
    subst ex
    rw [strsOf_v q e5] at hs
    exact ⟨s, p, ys, rfl, rfl, hs, hz, (k.mono (i1.trans i2) (s1.trans s2)).d S2 rfl⟩
  · cases e
end
section
variable {W : Wd} {c : Ctx}
/-! dict(d) -/
def rDictD : List V → Hp → VK → Prop := fun xs H Q => ∃ (a : Addr) (kvs : List (Key × V)), xs = [.ref a] ∧ Rd H a (.dK kvs) ∧ ∀ p, H p = none → Q (.ref p) (upd H p (.dK kvs))
def gDictOf (ts : List T) : Option T := match ts with
  | [t] => t.dk?.map fun p => .f (.dct p.1 p.2)
  | _ => none
theorem sn_dict : Sn W rDictD gDictOf := by
  intro b F ρ σ X H ts τ xs Q S r e k
  match ts, e with
  | [t], e =>
    obtain ⟨x, rfl, r1⟩ := rv1 r
    obtain ⟨⟨ks, ds⟩, e2, e⟩ := Option.map_eq_some_iff.mp (show t.dk?.map _ = some τ from e)
    subst e
    obtain ⟨p, kvs, ex, hp, hk, r2⟩ := r1.dk e2 S.le
    subst ex
    refine ⟨p, kvs, rfl, hp, fun q hq => ?_⟩
    obtain ⟨S2, i2, s2⟩ := S.laid (o := .dK kvs) hq
    exact (k.mono i2 s2).d S2 ⟨q, kvs, rfl, .inl upd_same, hk, r2.inc i2⟩
theorem callDict (j : c.J) : CallR (c.X j) (.type "dict") rDictD := call_dictD
/-! sorted(a dict of texts), sorted(a list of ints) -/
def isort (ns : List Int) : List Int := ns.mergeSort fun a b => decide (a ≤ b)
def sle (a b : Str) : Bool := !ltCps b.cps.toList a.cps.toList
def ssort (xs : List Str) : List Str := xs.mergeSort sle
theorem isort_eq {ns ms : List Int} (h1 : ms.Perm ns) (h2 : ms.Pairwise (· ≤ ·)) : ms = isort ns := by
  have h3 : (isort ns).Pairwise (· ≤ ·) := by
    have := List.pairwise_mergeSort (le := fun a b : Int => decide (a ≤ b)) (fun a b c h1 h2 => by simp at *; omega) (fun a b => by simp; omega) ns
    exact this.imp fun h => of_decide_eq_true h
  exact (h1.trans (List.mergeSort_perm ns _).symm).eq_of_pairwise (fun x y _ _ h1 h2 => Int.le_antisymm h1 h2) h2 h3
theorem sle_iff {a b : Str} : sle a b = true ↔ a.cps.toList ≤ b.cps.toList := by
  unfold sle
  rw [ltCps_eq]
  simp
theorem sle_trans (a b c : Str) (h1 : sle a b = true) (h2 : sle b c = true) : sle a c = true := by
  rw [sle_iff] at *
  exact List.le_trans h1 h2
theorem sle_total (a b : Str) : (sle a b || sle b a) = true := by
  rw [Bool.or_eq_true, sle_iff, sle_iff]
  exact List.le_total _ _
theorem sle_anti {a b : Str} (h1 : sle a b = true) (h2 : sle b a = true) : a = b := by
  rw [sle_iff] at *
  have := List.le_antisymm h1 h2
  cases a with
  | mk x => cases b with
    | mk y => exact congrArg Str.mk (Array.toList_inj.mp this)
theorem rising_pw : ∀ (p : Str) (l : List Str), risingS p l = true → (p :: l).Pairwise fun a b => sle a b = true
  | p, [], _ => by simp
  | p, x :: r, h => by
    have h' : (!ltCps x.cps.toList p.cps.toList && risingS x r) = true := h
    obtain ⟨h1, h2⟩ := Bool.and_eq_true_iff.mp h'
    have ih := rising_pw x r h2
    refine List.pairwise_cons.mpr ⟨fun y hy => ?_, ih⟩
    rcases List.mem_cons.mp hy with z | z
    · subst z; exact h1
    · exact sle_trans _ _ _ h1 (List.rel_of_pairwise_cons ih z)
theorem sorted_pw : ∀ (l : List Str), sortedS l = true → l.Pairwise fun a b => sle a b = true
  | [], _ => .nil
  | x :: r, h => rising_pw x r h
theorem ssort_eq {xs ys : List Str} (h1 : ys.Perm xs) (h2 : sortedS ys = true) : ys = ssort xs := by
  have h3 := List.pairwise_mergeSort (le := sle) sle_trans sle_total xs
  exact (h1.trans (List.mergeSort_perm xs _).symm).eq_of_pairwise (fun x y _ _ h1 h2 => sle_anti h1 h2) (sorted_pw ys h2) h3
def skeys : List Key → Option (List Str)
  | [] => some []
  | .inr x :: ks => (skeys ks).map fun xs => x :: xs
  | _ => none
theorem skeys_eq : ∀ {ks : List Key} {xs : List Str}, skeys ks = some xs → ks = xs.map Sum.inr
  | [], _, e => by cases e; rfl
  | .inr x :: ks, _, e => by
    obtain ⟨ys, e2, e3⟩ := Option.map_eq_some_iff.mp (show (skeys ks).map _ = _ from e)
    subst e3
    rw [skeys_eq e2]
    rfl
  | .inl _ :: _, _, e => by cases e
theorem skeys_map : ∀ (xs : List Str), skeys (xs.map Sum.inr) = some xs
  | [] => rfl
  | x :: xs => by
    show (skeys (xs.map Sum.inr)).map _ = _
    rw [skeys_map xs]
    rfl
def rSortD : List V → Hp → VK → Prop := fun xs H Q => ∃ (a : Addr) (kvs : List (Key × V)) (ks : List Str), xs = [.ref a] ∧ Rd H a (.dK kvs) ∧ kvs.map (·.1) = ks.map Sum.inr ∧ ks.length < 64 ∧
    ∀ ys p, ys.Perm ks → sortedS ys = true → H p = none → Q (.ref p) (upd H p (.lst (ys.map V.str)))
def gSortD (t : T) : Option T := t.dk?.bind fun p => (skeys p.1).bind fun ks => if ks.length < 64 then some (.f (.lst ((ssort ks).map .str))) else none
def gSortI (t : T) : Option T := t.ls?.bind fun ds => (intsOf ds).map fun ns => .f (.lst ((isort ns).map .int))
def gSortS (t : T) : Option T := t.ls?.bind fun ds => (strsOf ds).bind fun xs => if xs.length < 64 then some (.f (.lst ((ssort xs).map .str))) else none
def gSorted1 (t : T) : Option T := match gSortI t with
  | some x => some x
  | none => match gSortD t with
    | some x => some x
    | none => gSortS t
def gSorted (ts : List T) : Option T := match ts with
  | [t] => gSorted1 t
  | _ => none
def rSortX (K : PySem.W.Frag) : List V → Hp → VK → Prop := fun xs H Q => rSortedI K xs H Q ∨ rSortD xs H Q ∨ rSortedS K xs H Q
theorem sn_sorted : Sn W (rSortX W.K) gSorted := by
  intro b F ρ σ X H ts τ xs Q S r e k
  match ts, e with
  | [t], e =>
    obtain ⟨x, rfl, r1⟩ := rv1 r
    have e' : gSorted1 t = some τ := e
    clear e
    unfold gSorted1 at e'
    cases hI : gSortI t with
    | some z =>
      rw [hI] at e'
      cases e'
      obtain ⟨ds, e1, e2⟩ := Option.bind_eq_some_iff.mp hI
      obtain ⟨ns, e3, e4⟩ := Option.map_eq_some_iff.mp e2
      subst e4
      obtain ⟨p, vs, ex, hs, q⟩ := r1.ls e1 S.le
      subst ex
      rw [intsOf_eq e3] at q
      have hv : vs = ns.map V.int := Reps.ints q
      subst hv
      refine .inl ⟨p, ns, rfl, hs, fun ns' q' h1 h2 hq => ?_⟩
      rw [isort_eq h1 h2]
      exact k.lst S (Reps.of_ints _) q' hq
    | none =>
      rw [hI] at e'
      cases hD : gSortD t with
      | some z =>
        rw [hD] at e'
        cases e'
        obtain ⟨⟨ks, ds⟩, e1, e2⟩ := Option.bind_eq_some_iff.mp hD
        obtain ⟨xs, e3, e4⟩ := Option.bind_eq_some_iff.mp e2
        split at e4
        · rename_i hz
          cases e4
          obtain ⟨p, kvs, ex, hs, hk, q⟩ := r1.dk e1 S.le
          subst ex
          refine .inr (.inl ⟨p, kvs, xs, rfl, hs, hk.trans (skeys_eq e3), hz, fun ys q' h1 h2 hq => ?_⟩)
          rw [ssort_eq h1 h2]
          exact k.lst S (Reps.of_strs _) q' hq
        · cases e4
      | none =>
        rw [hD] at e'
        obtain ⟨ds, e1, e2⟩ := Option.bind_eq_some_iff.mp (show t.ls?.bind _ = some τ from e')
        obtain ⟨xs, e3, e4⟩ := Option.bind_eq_some_iff.mp e2
        split at e4
        · rename_i hz
          cases e4
          obtain ⟨p, vs, ex, hs, q⟩ := r1.ls e1 S.le
          subst ex
          rw [strsOf_v q e3] at hs
          refine .inr (.inr ⟨p, xs, rfl, hs, hz, fun ys q' h1 h2 hq => ?_⟩)
          rw [ssort_eq h1 h2]
          exact k.lst S (Reps.of_strs _) q' hq
        · cases e4
theorem callSorted (j : c.J) : CallR (c.X j) (.builtin "sorted") (rSortX c.W.K) := by
  have h := CallR_or (cr_sortedI (X := c.X j)) (CallR_or (call_sortedD (c.calm j)) (cr_sortedS (X := c.X j)))
  rw [c.hK j] at h
  exact h
/-! max(a list of ints) -/
def imax : List Int → Option Int
  | [] => none
  | n :: ns => some (ns.foldl (fun a b => max a b) n)
theorem foldl_max : ∀ (ns : List Int) (n : Int), (ns.foldl (fun a b => max a b) n ∈ n :: ns) ∧ ∀ y ∈ n :: ns, y ≤ ns.foldl (fun a b => max a b) n
  | [], n => ⟨by simp, fun y hy => by simp at hy; subst hy; exact Int.le_refl _⟩
  | m :: ns, n => by
    obtain ⟨h1, h2⟩ := foldl_max ns (max n m)
    refine ⟨?_, fun y hy => ?_⟩
    · rcases List.mem_cons.mp h1 with z | z
      · rw [List.foldl_cons, z]
        rcases Int.le_total n m with q | q
        · rw [Int.max_eq_right q]; simp
        · rw [Int.max_eq_left q]; simp
      · exact List.mem_cons_of_mem _ (List.mem_cons_of_mem _ z)
    · rw [List.foldl_cons]
      have h3 := h2 (max n m) List.mem_cons_self
      rcases List.mem_cons.mp hy with z | z
      · subst z; omega
      · rcases List.mem_cons.mp z with z | z
        · subst z; omega
        · exact h2 y (List.mem_cons_of_mem _ z)
theorem imax_eq {ns : List Int} {m k : Int} (h1 : m ∈ ns) (h2 : ∀ y ∈ ns, y ≤ m) (h3 : imax ns = some k) : m = k := by
  cases ns with
  | nil => cases h3
  | cons n ns =>
    cases h3
    obtain ⟨h4, h5⟩ := foldl_max ns n
    exact Int.le_antisymm (h5 m h1) (h2 _ h4)
def gMaxL (ts : List T) : Option T := match ts with
  | [t] => t.ls?.bind fun ds => (intsOf ds).bind fun ns => (imax ns).map fun m => .f (.int m)
  | _ => none
theorem sn_maxL : Sn W (rMax W.K) gMaxL := by
  intro b F ρ σ X H ts τ xs Q S r e k
  match ts, e with
  | [t], e =>
    obtain ⟨x, rfl, r1⟩ := rv1 r
    obtain ⟨ds, e1, e⟩ := Option.bind_eq_some_iff.mp (show t.ls?.bind _ = some τ from e)
    obtain ⟨ns, e2, e⟩ := Option.bind_eq_some_iff.mp e
    obtain ⟨m, e3, e⟩ := Option.map_eq_some_iff.mp e
    subst e
    obtain ⟨p, vs, ex, hs, q⟩ := r1.ls e1 S.le
    subst ex
    rw [intsOf_eq e2] at q
    have hv : vs = ns.map V.int := Reps.ints q
    subst hv
    refine ⟨p, ns, rfl, hs, ?_, fun m' h1 h2 => ?_⟩
    · cases ns with
      | nil => cases e3
      | cons n ns => simp
    · rw [imax_eq h1 h2 e3]
      exact k.d S rfl
theorem callMaxL (j : c.J) : CallR (c.X j) (.builtin "max") (rMax c.W.K) := by have h := cr_max (c.calm j); rw [c.hK j] at h; exact h
end
end Z


namespace Z
open PySem PySem.Spec PyProof.Rows L2
/-! ### a frame that begins now -/
section
variable {W : Wd} {b : Bs} {F H : Hp} {ρ : List T} {σ : L2.St} {X : List Tm}
theorem SR.rebase (S : SR W b F ρ σ X H) (hm : 0 < b.As.length) : ∃ b2 : Bs, b2.As.length = b.As.length ∧ b2.io = b.io ∧ SR W b2 F ρ σ X H ∧
    ∀ F' ρ' X' H', SR W b2 F' ρ' σ X' H' → Inc F F' → SR W b F' ρ' σ X' H' ∧
      ∀ (i C : Nat) (ns : List Str) (ts : List T) (a : Addr), ρ[i]? = some (T.o C ns ts) → σ[i]? = some (some (V.ref a)) → ∃ dx kvs kvs', H a = some (.ins (W.cl C) dx kvs) ∧ H' a = some (.ins (W.cl C) dx kvs') ∧ ∀ v, kvs.lookup (Str.ofString "endings") = some v → kvs'.lookup (Str.ofString "endings") = some v := by
  obtain ⟨A0, As', hA⟩ : ∃ A0 As', b.As = A0 :: As' := by
    cases h : b.As with
    | nil => rw [h] at hm; cases hm
    | cons a l => exact ⟨a, l, rfl⟩
  obtain ⟨le, f0, fn, kept, stab, pin, fps, xps, s1, s2, ⟨nd, ow⟩, lc1, lc2⟩ := S
  have lX : X.length = xps.length := by have := RelTs.lenA s2; simpa using this.2
  have mine : ∀ a ∈ fps.flatten ++ xps.flatten, b.H0 a = none ∨ a ∈ b.A := fun a ha => by
    rcases List.mem_append.mp ha with z | z
    · exact LocS.old lc1 z
    · exact LocX.old lX lc2 z
  have bA : ∀ a, a ∈ b.A ↔ a ∈ A0 ∨ a ∈ As'.flatten := fun a => by
    show a ∈ b.As.flatten ↔ _
    rw [hA, List.flatten_cons, List.mem_append]
  let b2 : Bs := ⟨H, F, (fps.flatten ++ xps.flatten) :: As', b.io⟩
  have b2A : ∀ a, a ∈ b2.A ↔ a ∈ fps.flatten ++ xps.flatten ∨ a ∈ As'.flatten := fun a => by
    show a ∈ ((fps.flatten ++ xps.flatten) :: As').flatten ↔ _
    rw [List.flatten_cons, List.mem_append]
  have live : ∀ a, H a = none → b.H0 a = none := fun a h => by
    cases e : b.H0 a with
    | none => rfl
    | some o =>
      by_cases q : a ∈ b.A
      · obtain ⟨u, h1, _⟩ := stab a o e q
        rw [h] at h1; cases h1
      · rw [kept a o e q] at h; cases h
  have conv : ∀ a, H a = none ∨ a ∈ b2.A → b.H0 a = none ∨ a ∈ b.A := fun a h => by
    rcases h with h | h
    · exact .inl (live a h)
    · rcases (b2A a).mp h with h | h
      · exact mine a h
      · exact .inr ((bA a).mpr (.inr h))
  refine ⟨b2, by rw [hA]; rfl, rfl, ⟨le, Inc.refl F, fun a o e => .inl e, fun a o e _ => e, fun a o e _ => ⟨o, e, Stb.refl o⟩, ⟨pin.1, fun a h => pin.2 a (conv a h)⟩, fps, xps, s1, s2, ⟨nd, ow⟩, fun i f hf a ha => .inr ((b2A a).mpr (.inl (List.mem_append_left _ (List.mem_flatten.mpr ⟨f, List.mem_of_getElem? hf, ha⟩)))), LocX.any fun a ha => .inr ((b2A a).mpr (.inl (List.mem_append_right _ ha)))⟩, ?_⟩
  intro F' ρ' X' H' S' inc
  obtain ⟨le', f0', fn', kept', stab', pin', fps', xps', s1', s2', ow', lc1', lc2'⟩ := S'
  have lX' : X'.length = xps'.length := by have := RelTs.lenA s2'; simpa using this.2
  refine ⟨⟨le', f0.trans inc, fun a o e => ?_, fun a o e na => ?_, fun a o e ha => ?_, ⟨pin'.1, pin.2⟩, fps', xps', s1', s2', ow', fun i f hf a ha => conv a (lc1' i f hf a ha), LocX.any fun a ha => conv a (LocX.old lX' lc2' ha)⟩, ?_⟩
  · rcases fn' a o e with z | z
    · exact fn a o z
    · exact .inr (conv a z)
  · have h1 := kept a o e na
    refine kept' a o h1 fun z => ?_
    rcases conv a (.inr z) with q | q
    · rw [q] at e; cases e
    · exact na q
  · obtain ⟨u, h1, h2⟩ := stab a o e ha
    by_cases z : a ∈ b2.A
    · obtain ⟨u', h3, h4⟩ := stab' a u h1 z
      exact ⟨u', h3, h2.trans h4⟩
    · exact ⟨u, kept' a u h1 z, h2⟩
  · intro i C ns ts a e1 e2
    obtain ⟨s, f, g1, g2, r⟩ := s1.get e1
    rw [e2] at g1
    cases g1
    obtain ⟨p, dx, kvs, fs, ep, ef, hp, hk, rs⟩ := r
    cases ep
    have ha : a ∈ b2.A := (b2A a).mpr (.inl (List.mem_append_left _ (List.mem_flatten.mpr ⟨f, List.mem_of_getElem? g2, by rw [ef]; exact List.mem_cons_self⟩)))
    obtain ⟨u, h1, h2⟩ := stab' a _ hp ha
    obtain ⟨kvs', h3, h4⟩ := h2 _ _ _ rfl
    subst h3
    exact ⟨dx, kvs, kvs', hp, h1, h4⟩
end
/-! ### o[k] = e, k with an effect, o an object's list that stays -/
def isEnd (π : List Sel) : Option Unit := match π with
  | [.at x] => if x = Str.ofString "endings" then some () else none
  | _ => none
def kSetE (i : Nat) (π : List Sel) (d : D) (r : Re) : Option Out := match r with
  | .ok t ρ1 => t.d?.bind fun q => (mutF i π (setT q d) ρ1).map .nx
  | .xc C ρ1 => some (.xc C ρ1)
def isObj : T → Bool
  | .o _ _ _ => true
  | _ => false
def sSetIxE (i : Nat) (fp : List T → Option (List Sel)) (fk : List T → Option Re) (fe : List T → Option T) : FS := fun ρ => (fe ρ).bind fun x => x.d?.bind fun d => (fp ρ).bind fun π => (isEnd π).bind fun _ => (ρ[i]?).bind fun t => (t.getP π).bind fun u => if isObj t = true ∧ owned u = true then (fk ρ).bind (kSetE i π d) else none
section
variable {c : Ctx} {e ek o : Expr} {fk : List T → Option Re} {fe : List T → Option T} {fp : List T → Option (List Sel)} {i : Nat} {pos pos' : Pos}
theorem sm_setIxE (hm : Nat.blt 0 c.P.m = true) (ho : Lo c o i fp) (hk : Eo c ek fk) (he : Ev c e fe)
    (hsw : ∀ j, swapsWithSole [.Subscript o ek pos'] e pos.line (c.X j).env = pure false := by intro _; rfl) (hw : ∀ j, swappedStores [.Subscript o ek pos'] e (c.X j).env = pure none := by intro _; rfl)
    (h1 : ∀ j, (assignEach [.Subscript o ek pos'] (c.X j).env).map (·.2) = [assign (.Subscript o ek pos') (c.X j).env] := by intro _; rfl)
    (ha : ∀ j v, assign (.Subscript o ek pos') (c.X j).env v = (do
      let ov ← holding [v] (eval o (c.X j).env)
      let iv ← holding [v, ov] (eval ek (c.X j).env)
      standAt pos'
      holding [v, ov, iv] (setItem ov iv v)
      release [v, ov, iv] []) := by intro _ _; rfl) : Sm c (.Assign [.Subscript o ek pos'] e pos) (sSetIxE i fp fk fe) := by
  obtain ⟨to, po, so⟩ := ho
  obtain ⟨te, pe, se⟩ := he
  obtain ⟨tk, pk, sk⟩ := hk
  refine ⟨tAsg te (L2.gSub to tk rSetU), fun j => ps_asg (pe j) (pg_sub (po j) (pk j) (set_U (c.hu1 j)) (ha j)) (hsw j) (hw j) (h1 j), ?_⟩
  intro b F ρ σ X H out D hb S eq k
  unfold sSetIxE at eq
  obtain ⟨x, e2, eq⟩ := Option.bind_eq_some_iff.mp eq
  obtain ⟨d, e3, eq⟩ := Option.bind_eq_some_iff.mp eq
  obtain ⟨π, e1, eq⟩ := Option.bind_eq_some_iff.mp eq
  obtain ⟨_, e4, eq⟩ := Option.bind_eq_some_iff.mp eq
  obtain ⟨t, e5, eq⟩ := Option.bind_eq_some_iff.mp eq
  obtain ⟨u, e6, eq⟩ := Option.bind_eq_some_iff.mp eq
  split at eq
  · rename_i hou
    obtain ⟨hobj, hown⟩ := hou
    obtain ⟨r, e7, e8⟩ := Option.bind_eq_some_iff.mp eq
    cases d_some e3
    have hπ : π = [.at (Str.ofString "endings")] := by
      unfold isEnd at e4
      split at e4
      · split at e4
        · rename_i h; rw [h]
        · cases e4
      · cases e4
    subst hπ
    refine se b F ρ σ X H _ _ S e2 fun y F1 H1 S1 i1 s1 r1 => ?_
    refine so b F1 ρ σ X H1 _ t u _ S1 e1 e5 e6 hown fun p v F2 H2 S2 i2 s2 hv hat => ?_
    have hm2 : 0 < b.As.length := by rw [hb.1]; exact Nat.le_of_ble_eq_true hm
    obtain ⟨b2, q1, q2, S3, q3⟩ := S2.rebase hm2
    obtain ⟨C, ns, ts, rfl⟩ : ∃ C ns ts, t = .o C ns ts := by
      cases t with
      | o C ns ts => exact ⟨C, ns, ts, rfl⟩
      | _ => cases hobj
    refine sk b2 F2 ρ σ X H2 r _ ⟨by rw [q1]; exact hb.1, by rw [q2]; exact hb.2⟩ S3 e7 ?_
    cases r with
    | xc C' ρ1 =>
      cases e8
      intro d' F' H' S' i'
      exact k d' σ F' H' (q3 F' ρ1 X H' S' i').1 ((i1.trans i2).trans i')
    | ok τ ρ1 =>
      obtain ⟨q, e9, e10⟩ := Option.bind_eq_some_iff.mp (show (τ.d?.bind fun q => (mutF i [.at (Str.ofString "endings")] (setT q d) ρ1).map Out.nx) = some out from e8)
      obtain ⟨ρ', e11, e12⟩ := Option.map_eq_some_iff.mp e10
      subst e12
      cases d_some e9
      intro w F' H' S' i'
      obtain ⟨a, C2, dx2, kvs2, w2, hva, ha1, ha2, ha3⟩ := hat
      obtain ⟨S4, q5⟩ := q3 F' ρ1 _ H' S' i'
      obtain ⟨dx, kvs, kvs', g1, g2, g3⟩ := q5 i C ns ts a e5 (by rw [hv, hva])
      rw [ha1] at g1
      cases g1
      have hat' : AtV H' v [.at (Str.ofString "endings")] p := ⟨a, _, dx2, kvs', w2, hva, g2, g3 _ ha2, ha3⟩
      exact S4.drop.setIx e11 hv hat' (Rep.inc i' (r1.ext i2 s2).rep) S4.top fun H5 S5 => k σ F' H5 S5 ((i1.trans i2).trans i')
  · cases eq
end
/-! ### an operator behind an effect; a thing made of nothing; a number of the module -/
def fE2 (g : T → T → Option T) (fo : List T → Option Re) (fb : List T → Option T) : List T → Option Re := fun ρ => (fo ρ).bind fun r => match r with
  | .ok t ρ1 => t.d?.bind fun d => (fb ρ1).bind fun y => (g (.f d) y).bind fun z => z.d?.map fun dz => .ok (.f dz) ρ1
  | .xc C ρ1 => some (.xc C ρ1)
theorem so_2l {W : Wd} {P : Sg} {E : L2.St → XK} {r2 : R2} {g : T → T → Option T} {ta tb : TE} {fo : List T → Option Re} {fb : List T → Option T} (hr : S2 W r2 g) (ha : So W P E ta fo) (hb : Sv W tb fb) : So W P E (tOp r2 ta tb) (fE2 g fo fb) := by
  intro b F ρ σ X H r Q hB S e p
  unfold fE2 at e
  obtain ⟨r1, e1, e2⟩ := Option.bind_eq_some_iff.mp e
  refine ha b F ρ σ X H r1 _ hB S e1 ?_
  cases r1 with
  | xc C ρ1 =>
    cases e2
    exact p
  | ok t ρ1 =>
    obtain ⟨d, e3, e2⟩ := Option.bind_eq_some_iff.mp (show (t.d?.bind fun d => (fb ρ1).bind fun y => (g (.f d) y).bind fun z => z.d?.map fun dz => Re.ok (.f dz) ρ1) = some r from e2)
    obtain ⟨y, e4, e2⟩ := Option.bind_eq_some_iff.mp e2
    obtain ⟨z, e5, e2⟩ := Option.bind_eq_some_iff.mp e2
    obtain ⟨dz, e6, e7⟩ := Option.map_eq_some_iff.mp e2
    subst e7
    cases d_some e3
    cases d_some e6
    intro v F1 H1 S1 i1
    have rt := S1.top
    refine hb b F1 ρ1 σ X H1 _ _ S1.drop e4 fun w F2 H2 S2 i2 s2 rw2 => ?_
    exact hr b F2 ρ1 σ X H2 (.f d) _ _ v w Q S2 ⟨[], rfl, Rep.inc i2 rt⟩ rw2 e5 fun v' F' H' S' i' s' r' => p v' F' H' (S'.push r'.rep) (i1.trans (i2.trans i'))
theorem eo_op {c : Ctx} {a e' : Expr} {fo : List T → Option Re} {fb : List T → Option T} {pos : Pos} {op : Operator} {rd : R2} {g : T → T → Option T} (hop : ∀ j, OpR (c.X j) (binaryOp op) rd) (hr : S2 c.W rd g) (ha : Eo c a fo) (hb : Ev c e' fb) : Eo c (.BinOp a op e' pos) (fE2 g fo fb) := by
  obtain ⟨ta, pa, sa⟩ := ha
  obtain ⟨tb, pb, sb⟩ := hb
  exact ⟨tOp rd ta tb, fun j => pe_op (hop j) (pa j) (pb j), so_2l hr sa sb⟩
theorem eo_sub {c : Ctx} {a e' : Expr} {fo : List T → Option Re} {fb : List T → Option T} {pos : Pos} (ha : Eo c a fo) (hb : Ev c e' fb) : Eo c (.BinOp a .Sub e' pos) (fE2 Z.gSub fo fb) := eo_op (fun _ => op_sub) s2_sub ha hb
theorem eo_add {c : Ctx} {a e' : Expr} {fo : List T → Option Re} {fb : List T → Option T} {pos : Pos} (ha : Eo c a fo) (hb : Ev c e' fb) : Eo c (.BinOp a .Add e' pos) (fE2 gAdd fo fb) := eo_op (fun j => by have h := op_addU (X := c.X j); rw [c.hK j] at h; exact h) s2_add ha hb
section
variable {c : Ctx} {x : Str} {p pos : Pos} {io : List Nat} {G : List T → Option Re} {k C : Nat} {CX : CXT}
theorem eo_make0 {E : XK} (M : ∀ j, ClM (c.X j).prog (c.X j).w c.W (c.X j).mg (c.X j).base CX k x C io G) (hk : k + 1 ≤ c.k) (hg : ∀ j, Gl (c.X j) x) (hx : ∀ j, Passes CX (c.X j) E) (hdb : (x == ("__debug__" : Str)) = false := by decide) : Eo c (.Call (.Name x p) [] [] pos) (fMake C io G aNil) := by
  refine ⟨tMake (c.W.cl C) (spF c.W io G) [] E tNil, fun j => ?_, so_make ?_⟩
  · obtain ⟨f, fd, ps, F, hm, hM, hb⟩ := M j
    have hKj := c.hK j
    exact pe_make0 (by rw [hKj]; exact hM) (by rw [hKj]; exact F) ((c.room j).mono hk) (hg j) hm (by rw [hKj]; exact hb) .nil (hx j) hdb
  · intro b F ρ σ X H τs Q S e k
    cases e
    exact k [] F H S (Inc.refl F) (Same.refl H) RelVs.nil
theorem ev_gc {x : Str} {i : Int} (hg : ∀ j, Gl (c.X j) x) (h : ∀ j, ∃ u, (c.X j).mg x = some u ∧ L2.RelV (.int i) u) (hd : (x == ("__debug__" : Str)) = false := by decide) : Ev c (.Name x pos) (fC (.int i)) :=
  ⟨_, fun j => pe_glob (hg j) (h j).choose_spec.1 (h j).choose_spec.2 hd, sv_C fun _ => rfl⟩
end
end Z

namespace Z
open PySem PySem.Spec PyProof.Rows L2
/-! ### two parameters, one thing -/
def AlOk (io : List Nat) (al : List (Nat × Nat)) (vs : List V) : Prop := ∀ q ∈ al, q.1 ∈ io ∧ q.2 ∈ io ∧ ∃ v, vs[q.1]? = some v ∧ vs[q.2]? = some v
def spFA (W : Wd) (io : List Nat) (al : List (Nat × Nat)) (G : List T → Option Re) : Sp := fun vs H Q E => AlOk io al vs ∧ spF W io G vs H Q E
section
variable {P : Program} {w : World} {W : Wd} {mg : Str → Option Value} {base : Heap}
theorem fnZA {x qual : Str} {st : Stmt} {f : Addr} {fd : FuncData} {N ps : List Str} {k : Nat} {io : List Nat} {al : List (Nat × Nat)} {fb : FS} (ew : w = W.w) (F : Fun W.K x qual st f fd) (S : FnScope N ps (defScope st)) (hN : ps.length ≤ N.length) (hio : ∀ i ∈ io, i < ps.length)
    (body : ∀ (cdv : Value) (A : Around) (outer : List Env) (s : Shared) (H : Hp) (E : XK) (hr : Room k (A.deeper (envOfC qual (defScope st) s.heap.objs.size f cdv))),
      Sms (ctx0 (P := P) (w := w) W ew (mg := mg) (base := base) S.nd (m := ps.length) (io := io) (al := al) (outer := outer) (H := H) (E := E) hr) (defBody st) fb) :
    FnOk P w W.K mg base CX0 (k + 1) f fd ps (spFA W io al (runF ps.length N.length io fb)) := by
  have len : ∀ vs H Q E, spFA W io al (runF ps.length N.length io fb) vs H Q E → vs.length = ps.length := by
    rintro vs H Q E ⟨_, F, ts, fps, r, _, _, rel, _, _, e, _⟩
    unfold runF at e
    split at e
    · rename_i hl
      have := RelTs.lenA rel
      omega
    · cases e
  refine F.ok S len fun cdv A outer s H vs Q E hr h => ?_
  obtain ⟨t, p, q⟩ := body cdv A outer s H E hr
  exact ⟨t, p (), spF_end h.1 rfl hN hio (len _ _ _ _ h) h.2 q⟩
structure ClA (P : Program) (w : World) (W : Wd) (mg : Str → Option Value) (base : Heap) (CX : CXT) (k : Nat) (x : Str) (io : List Nat) (al : List (Nat × Nat)) (G : List T → Option Re) : Prop where
  ex : ∃ f fd ps, FnOk P w W.K mg base CX k f fd ps (spFA W io al G) ∧ mg x = some (.ref f) ∧ PySem.W.keepIn W.K (.ref f) = true ∧ Binds W.K fd ps []
theorem ClA.mk' {CX : CXT} {k : Nat} {x : Str} {io : List Nat} {al : List (Nat × Nat)} {G : List T → Option Re} {f : Addr} {fd : FuncData} {ps : List Str} (h : FnOk P w W.K mg base CX k f fd ps (spFA W io al G)) (hm : mg x = some (.ref f)) (hk : PySem.W.keepIn W.K (.ref f) = true) (hb : Binds W.K fd ps []) : ClA P w W mg base CX k x io al G := ⟨f, fd, ps, h, hm, hk, hb⟩
end
def Ar.sl : Ar → Option Nat
  | .v _ => none
  | .s j => some j
  | .a j => some j
def sameS (as : List Ar) (i j : Nat) : Bool := match as[i]?, as[j]? with
  | some x, some y => match x.sl, y.sl with
    | some k, some l => k == l
    | _, _ => false
  | _, _ => false
def alR (io : List Nat) (al : List (Nat × Nat)) : Rs → Bool
  | .ok as _ => al.all fun q => io.contains q.1 && io.contains q.2 && sameS as q.1 q.2
  | .xc _ _ => true
theorem Args.at' {σ : L2.St} : ∀ {as : List Ar} {vs : List V} {i j : Nat} {x : Ar}, Args σ as vs → as[i]? = some x → x.sl = some j → ∃ v, vs[i]? = some v ∧ σ[j]? = some (some v)
  | [], _, _, _, _, _, e, _ => by simp at e
  | .v t :: r, _, 0, _, _, _, e, h => by cases e; cases h
  | .s k :: r, _, 0, _, _, ⟨v, vr, e1, g1, _⟩, e, h => by cases e; cases h; exact ⟨v, by rw [e1]; rfl, g1⟩
  | .a k :: r, _, 0, _, _, ⟨v, vr, e1, g1, _⟩, e, h => by cases e; cases h; exact ⟨v, by rw [e1]; rfl, g1⟩
  | .v t :: r, _, i + 1, _, _, ⟨v, vr, e1, g⟩, e, h => by
    obtain ⟨u, q1, q2⟩ := Args.at' (i := i) g (by simpa using e) h
    exact ⟨u, by rw [e1]; simpa using q1, q2⟩
  | .s k :: r, _, i + 1, _, _, ⟨v, vr, e1, _, g⟩, e, h => by
    obtain ⟨u, q1, q2⟩ := Args.at' (i := i) g (by simpa using e) h
    exact ⟨u, by rw [e1]; simpa using q1, q2⟩
  | .a k :: r, _, i + 1, _, _, ⟨v, vr, e1, _, g⟩, e, h => by
    obtain ⟨u, q1, q2⟩ := Args.at' (i := i) g (by simpa using e) h
    exact ⟨u, by rw [e1]; simpa using q1, q2⟩
theorem al_ok {σ : L2.St} {as : List Ar} {ρ : List T} {vs : List V} {io : List Nat} {al : List (Nat × Nat)} (h : alR io al (.ok as ρ) = true) (g : Args σ as vs) : AlOk io al vs := by
  intro q hq
  have h1 := List.all_eq_true.mp h q hq
  obtain ⟨h2, h3⟩ := Bool.and_eq_true_iff.mp h1
  obtain ⟨h4, h5⟩ := Bool.and_eq_true_iff.mp h2
  refine ⟨List.contains_iff_mem.mp h4, List.contains_iff_mem.mp h5, ?_⟩
  unfold sameS at h3
  split at h3
  · rename_i x y ex ey
    split at h3
    · rename_i k l hk hl
      have hkl : k = l := by simpa using h3
      subst hkl
      obtain ⟨v, a1, a2⟩ := g.at' ex hk
      obtain ⟨u, b1, b2⟩ := g.at' ey hl
      rw [a2] at b2
      cases b2
      exact ⟨v, a1, b1⟩
    · cases h3
  · cases h3
def fCallA (al : List (Nat × Nat)) (io : List Nat) (G : List T → Option Re) (fs : List T → Option Rs) : List T → Option Re := fun ρ => (fs ρ).bind fun r => if alR io al r = true then fCall io G (fun _ => some r) ρ else none
theorem so_callA {W : Wd} {P : Sg} {E : L2.St → XK} {E' : XK} {t : TA} {io : List Nat} {al : List (Nat × Nat)} {G : List T → Option Re} {fs : List T → Option Rs} (hE : ∀ σ, E σ = E') (h : Sa W P E t fs) : So W P E (tCall (spFA W io al G) [] E' t) (fCallA al io G fs) := by
  intro b F ρ σ X H r Q hb S e k
  unfold fCallA at e
  obtain ⟨r1, e1, e⟩ := Option.bind_eq_some_iff.mp e
  split at e
  · rename_i hal
    unfold fCall at e
    rw [Option.bind_some] at e
    refine h b F ρ σ X H r1 _ hb S e1 ?_
    cases r1 with
    | xc C ρ1 =>
      cases e
      exact k
    | ok as ρ1 =>
      intro vs F1 H1 S1 g1 i1
      obtain ⟨⟨ts, ρ2⟩, e2, e⟩ := Option.bind_eq_some_iff.mp e
      obtain ⟨S2, h1, h2⟩ := take_ok S1 g1 e2
      split at e
      · rename_i hio
        obtain ⟨r2, e3, e⟩ := Option.bind_eq_some_iff.mp e
        obtain ⟨xa, q1, qn, q2, q3⟩ := S2.call
        rw [h1, h2] at q1
        rw [h2] at q3
        rw [List.append_nil]
        refine ⟨al_ok hal g1, F1, ts, xa, r2, S2.le, qn, q1, q2, hio, e3, ?_⟩
        cases r2 with
        | ok τ us =>
          intro v F' H' R i2
          simp only at e
          split at e
          · rename_i hl
            cases e
            have S3 := q3 io us F' _ H' (fun x hx => by rw [List.mem_singleton.mp hx]) R
            exact k v F' H' (put_ok S3 g1 (take_len e2) hl) (i1.trans i2)
          · cases e
        | xc C us =>
          intro d F' H' R i2
          simp only at e
          split at e
          · rename_i hl
            cases e
            have S3 := q3 io us F' _ H' (fun x hx => by cases hx) R
            have S4 := put_ok (Z := []) S3 g1 (take_len e2) hl
            have := k d F' H' S4 (i1.trans i2)
            rw [hE σ] at this
            exact this
          · cases e
      · cases e
  · cases e
/-- a name's thing, handed over a second time -/
def bAl (i : Nat) (g : List T → Option Rs) : List T → Option Rs := fun ρ => match ρ[i]? with
  | none => none
  | some .un => none
  | some _ => (g ρ).map fun r => match r with
    | .ok as ρ2 => .ok (.a i :: as) ρ2
    | r => r
section
variable {c : Ctx} {a : Expr} {es : List Expr} {fs : List T → Option Rs} {x : Str} {p pos : Pos} {io : List Nat} {al : List (Nat × Nat)} {G : List T → Option Re} {k : Nat} {CX : CXT}
theorem ao_al (i : Nat) {pos : Pos} (hr : Ao c es fs) (hi : c.N[i]? = some x := by rfl) (hv : ∀ j, Vis (c.X j).env.scope x := by intro _; first | exact Or.inl rfl | exact Or.inr (Or.inl rfl) | exact Or.inr (Or.inr rfl)) (hs : ∀ j, starEach (.Name x pos :: es) (c.X j).env = (false, eval (.Name x pos) (c.X j).env) :: starEach es (c.X j).env := by intro _; rfl)
    (hd : (x == ("__debug__" : Str)) = false := by decide) (hcd : (x == ("__classdict__" : Str)) = false := by decide) : Ao c (.Name x pos :: es) (bAl i fs) := by
  obtain ⟨u, q, s'⟩ := hr
  refine ⟨_, fun j => pa_cons (pe_var (i := i) (by rw [c.hN j]; exact hi) (hv j) hd hcd) (q j) (hs j), ?_⟩
  intro b F ρ σ X H r Q hb S e k
  unfold bAl at e
  cases z : ρ[i]? with
  | none => rw [z] at e; cases e
  | some t =>
    have ht : t ≠ .un := by
      rintro rfl
      rw [z] at e
      cases e
    have e2 : ((fs ρ).map fun r => match r with
      | .ok as ρ2 => Rs.ok (.a i :: as) ρ2
      | r => r) = some r := by
      rw [z] at e
      cases t with
      | un => exact absurd rfl ht
      | _ => exact e
    obtain ⟨r2, e3, e4⟩ := Option.map_eq_some_iff.mp e2
    obtain ⟨s, fp, e1, rr⟩ := S.slot z
    cases s with
    | none => exact absurd rr.1 ht
    | some v =>
      refine ⟨v, e1, s' b F ρ σ X H r2 _ hb S e3 ?_⟩
      cases r2 with
      | ok as ρ2 =>
        subst e4
        intro vs F2 H2 S2 g2 i2
        exact k (v :: vs) F2 H2 S2 ⟨v, vs, rfl, e1, g2⟩ i2
      | xc C ρ2 =>
        subst e4
        exact k
theorem eo_callA {E : XK} (C : ∀ j, ClA (c.X j).prog (c.X j).w c.W (c.X j).mg (c.X j).base CX k x io al G) (hk : k ≤ c.k) (hg : ∀ j, Gl (c.X j) x) (hE : ∀ σ, c.E σ = E) (hx : ∀ j, Passes CX (c.X j) E) (ha : Ao c (a :: es) fs) (hdb : (x == ("__debug__" : Str)) = false := by decide)
    (he : ∀ j, starEach (a :: es) (c.X j).env = (false, eval a (c.X j).env) :: starEach es (c.X j).env := by intro _; rfl) (hpl : ∀ j, (backTo pos (starEach es (c.X j).env)).any (·.1) = false := by intro _; rfl) : Eo c (.Call (.Name x p) (a :: es) [] pos) (fCallA al io G fs) := by
  obtain ⟨t, q, s⟩ := ha
  refine ⟨tCall (spFA c.W io al G) [] E t, fun j => ?_, so_callA hE s⟩
  obtain ⟨f, fd, ps, h, hm, hkp, hb⟩ := C j
  have hKj := c.hK j
  exact pe_call (by rw [hKj]; exact h) ((c.room j).mono hk) (hg j) hm (by rw [hKj]; exact hkp) (by rw [hKj]; exact hb) .nil (hx j) (q j) hdb (he j) (hpl j)
end
/-! ### x[k] = e, x another name of slot i's thing -/
section
variable {c : Ctx} {e ek : Expr} {fk fe : List T → Option T} {x : Str} {pos pos' pos2 : Pos}
theorem sm_setIxA (i j : Nat) (hal : c.P.al.contains (i, j) = true) (hk : Ev c ek fk) (he : Ev c e fe) (hj : c.N[j]? = some x := by rfl) (hv : ∀ j, Vis (c.X j).env.scope x := by intro _; first | exact Or.inl rfl | exact Or.inr (Or.inl rfl) | exact Or.inr (Or.inr rfl)) (hd : (x == ("__debug__" : Str)) = false := by decide) (hcd : (x == ("__classdict__" : Str)) = false := by decide)
    (hsw : ∀ j, swapsWithSole [.Subscript (.Name x pos2) ek pos'] e pos.line (c.X j).env = pure false := by intro _; rfl) (hw : ∀ j, swappedStores [.Subscript (.Name x pos2) ek pos'] e (c.X j).env = pure none := by intro _; rfl)
    (h1 : ∀ j, (assignEach [.Subscript (.Name x pos2) ek pos'] (c.X j).env).map (·.2) = [assign (.Subscript (.Name x pos2) ek pos') (c.X j).env] := by intro _; rfl)
    (ha : ∀ j v, assign (.Subscript (.Name x pos2) ek pos') (c.X j).env v = (do
      let ov ← holding [v] (eval (.Name x pos2) (c.X j).env)
      let iv ← holding [v, ov] (eval ek (c.X j).env)
      standAt pos'
      holding [v, ov, iv] (setItem ov iv v)
      release [v, ov, iv] []) := by intro _ _; rfl) : Sm c (.Assign [.Subscript (.Name x pos2) ek pos'] e pos) (sSetIx i pHere fk fe) := by
  obtain ⟨te, pe, se⟩ := he
  obtain ⟨tk, pk, sk⟩ := hk
  refine ⟨tAsg te (L2.gSub (tVar j) tk rSetU), fun j => ps_asg (pe j) (pg_sub (pe_var (by rw [c.hN j]; exact hj) (hv j) hd hcd) (pk j) (set_U (c.hu1 j)) (ha j)) (hsw j) (hw j) (h1 j), ?_⟩
  intro b F ρ σ X H out D hb S eq k
  unfold sSetIx at eq
  obtain ⟨y, e2, eq⟩ := Option.bind_eq_some_iff.mp eq
  obtain ⟨d, e3, eq⟩ := Option.bind_eq_some_iff.mp eq
  obtain ⟨π, e1, eq⟩ := Option.bind_eq_some_iff.mp eq
  obtain ⟨z, e5, eq⟩ := Option.bind_eq_some_iff.mp eq
  obtain ⟨q, e6, eq⟩ := Option.bind_eq_some_iff.mp eq
  obtain ⟨ρ', e4, eq⟩ := Option.map_eq_some_iff.mp eq
  subst eq
  cases e1
  cases d_some e3
  cases d_some e6
  obtain ⟨tt, uu, g1, g2, g3⟩ := mutF_own e4 setT_own
  refine se b F ρ σ X H _ _ S e2 fun y F1 H1 S1 i1 s1 r1 => ?_
  obtain ⟨v, v1, v2⟩ := hb.2.2 (i, j) (List.contains_iff_mem.mp hal)
  have p1 := S1.pin.1 _ v1
  have p2 := S1.pin.1 _ v2
  refine ⟨v, p2, ?_⟩
  obtain ⟨s, fp, f1, f2⟩ := S1.slot g1
  rw [p1] at f1
  cases f1
  have g2' : tt = uu := by cases g2; rfl
  subst g2'
  obtain ⟨p, rfl⟩ := owned_ref f2 g3
  refine sk b F1 ρ σ X H1 _ _ S1 e5 fun w F3 H3 S3 i3 s3 r3 => ?_
  exact S3.setIx e4 p1 (show AtV H3 (.ref p) [] p from rfl) (r1.ext i3 s3).rep r3.rep fun H' S' => k σ F3 H' S' (i1.trans i3)
end
/-! ### a dict's copy of one's own -/
def mCopy (fa : List T → Option T) : List T → Option (T × List T) := fun ρ => (fa ρ).bind fun t => t.dk?.map fun p => (.dk p.1 p.2, ρ)
theorem em_copy {c : Ctx} {a : Expr} {fa : List T → Option T} {apos cpos : Pos} (ha : Ev c a fa) (hbase : ∀ j, attributeBase a "copy" (c.X j).env (eval a (c.X j).env) = eval a (c.X j).env := by intro _; rfl) (hline : (apos.endLine == cpos.line) = true := by rfl) : Em c (.Call (.Attribute a "copy" apos) [] [] cpos) (mCopy fa) := by
  obtain ⟨ta, pa, sa⟩ := ha
  refine ⟨tDM0 rDCopy ta, fun j => pe_dm0 PySem.F.slot_dict_copy PySem.F.type_dict_copy mtd_copy (pa j) (hbase j) hline, ?_⟩
  intro b F ρ σ X H τ ρ' Q S e k
  unfold mCopy at e
  obtain ⟨t, e1, e⟩ := Option.bind_eq_some_iff.mp e
  obtain ⟨⟨ks, ds⟩, e2, e⟩ := Option.map_eq_some_iff.mp e
  cases e
  refine sa b F ρ σ X H _ _ S e1 fun x F1 H1 S1 i1 s1 r1 => ?_
  obtain ⟨p, kvs, ex, hp, hk, r⟩ := r1.dk e2 S1.le
  subst ex
  refine ⟨⟨p, kvs, rfl, hp⟩, p, kvs, rfl, rfl, hp, fun q hq => ?_⟩
  exact k _ F1 _ (S1.own hq ⟨q, kvs, rfl, rfl, upd_same, hk, r⟩) i1 (s1.trans fun a u e => by rw [upd_ne (ne_of_none e hq)]; exact e)
/-! ### a dict without keys -/
def fD0 : List T → Option T := fun _ => some (.f (.dct [] []))
theorem ev_d0 {c : Ctx} {pos : Pos} : Ev c (.Dict [] [] pos) fD0 := by
  refine ⟨_, fun _ => pe_dnewK, ?_⟩
  intro b F ρ σ X H τ Q S e k
  cases e
  intro q hq
  obtain ⟨S2, i2, s2⟩ := S.laid (o := .dK []) hq
  exact (k.mono i2 s2).d S2 ⟨q, [], rfl, .inl upd_same, rfl, rfl⟩
end Z

namespace Z
open PySem PySem.Spec PyProof.Rows L2
/-! ### dicts whose keys are tuples, of any depth -/
def V.num : V → Option Int
  | .int i => some i
  | .bl b => some (if b = true then 1 else 0)
  | _ => none
mutual
/-- a value is such a key -/
def NK (K : PySem.W.Frag) (H : Hp) : NestedKey → V → Prop
  | .none, v => v = .non
  | .num i, v => V.num v = some i
  | .text x, v => v = .str x
  | .tup ks, v => ∃ p vs, v = .ref p ∧ SqT K H p vs ∧ NKs K H ks vs
def NKs (K : PySem.W.Frag) (H : Hp) : List NestedKey → List V → Prop
  | [], vs => vs = []
  | k :: ks, vs => ∃ v r, vs = v :: r ∧ NK K H k v ∧ NKs K H ks r
end
mutual
theorem nk_of {W : Wd} {F H : Hp} (le : Le F H) : ∀ (d : D) (v : V) (k : NestedKey), Rep W F d v → nkD d = some k → NK W.K H k v
  | .non, v, k, r, e => by cases e; exact r
  | .bl b, v, k, r, e => by cases e; obtain rfl := (show v = V.bl b from r); rfl
  | .int i, v, k, r, e => by cases e; obtain rfl := (show v = V.int i from r); rfl
  | .str x, v, k, r, e => by cases e; exact r
  | .tup l, v, k, r, e => by
    obtain ⟨ks, e1, rfl⟩ := Option.map_eq_some_iff.mp (show (nksD l).map NestedKey.tup = some k from e)
    obtain ⟨p, vs, rfl, s, q⟩ := r
    exact ⟨p, vs, rfl, SqT.le le s, nks_of le l vs ks q e1⟩
  | .lst _, _, _, _, e => nomatch e
  | .dct _ _, _, _, _, e => nomatch e
  | .obj _ _ _, _, _, _, e => nomatch e
theorem nks_of {W : Wd} {F H : Hp} (le : Le F H) : ∀ (ds : List D) (vs : List V) (ks : List NestedKey), Reps W F ds vs → nksD ds = some ks → NKs W.K H ks vs
  | [], vs, ks, r, e => by cases e; exact r
  | d :: ds, vs, ks, r, e => by
    obtain ⟨k, e1, e2⟩ := Option.bind_eq_some_iff.mp (show (nkD d).bind _ = some ks from e)
    obtain ⟨ks', e3, rfl⟩ := Option.map_eq_some_iff.mp e2
    obtain ⟨v, vr, rfl, a, b⟩ := r
    exact ⟨v, vr, rfl, nk_of le d v k a e1, nks_of le ds vr ks' b e3⟩
end
section
variable {X : Cx} {pins : List (Addr × Obj)} {σ : L2.St} {H : Hp} {s : Shared}
mutual
theorem nk_is (I : Inv X pins σ H s) : ∀ (k : NestedKey) (v : V) (u : Value), NK X.K H k v → L2.RelV v u → NestedIs s.heap k u
  | .none, v, u, r, h => by
    obtain rfl := (show v = V.non from r)
    obtain rfl := (show u = Value.none from h)
    exact .none
  | .num i, v, u, r, h => by
    have r' : V.num v = some i := r
    cases v with
    | int j =>
      cases r'
      obtain ⟨t, rfl⟩ := (show ∃ t, u = Value.int i t from h)
      exact .int _ _
    | bl c =>
      cases r'
      obtain rfl := (show u = Value.bool c from h)
      exact .bool rfl
    | _ => cases r'
  | .text x, v, u, r, h => by
    obtain rfl := (show v = V.str x from r)
    obtain ⟨t, rfl⟩ := (show ∃ t, u = Value.str x t from h)
    exact .text _ _
  | .tup ks, v, u, r, h => by
    obtain ⟨p, vs, rfl, hs, q⟩ := r
    obtain rfl := (show u = Value.ref p from h)
    obtain ⟨its, rr, ⟨o, h1, h2, n, h3⟩, _⟩ := I.tuple hs
    exact .tup h1 h2 h3 (nks_is I ks vs its q rr)
theorem nks_is (I : Inv X pins σ H s) : ∀ (ks : List NestedKey) (vs : List V) (us : List Value), NKs X.K H ks vs → Vals vs us → NestedAll s.heap ks us
  | [], vs, us, r, h => by
    obtain rfl := (show vs = [] from r)
    cases h
    exact .nil
  | k :: ks, vs, us, r, h => by
    obtain ⟨v, vr, rfl, a, b⟩ := r
    cases h with
    | cons h1 h2 => exact .cons (nk_is I k v _ a h1) (nks_is I ks vr _ b h2)
end
abbrev YV : List (NestedKey × Addr × V) → List (NestedKey × Addr × Value) → Prop := Paired fun (x : NestedKey × Addr × V) (y : NestedKey × Addr × Value) => x.1 = y.1 ∧ x.2.1 = y.2.1 ∧ L2.RelV x.2.2 y.2.2
theorem YV.keys : ∀ {xs : List (NestedKey × Addr × V)} {ys : List (NestedKey × Addr × Value)}, YV xs ys → xs.map (·.1) = ys.map (·.1) := fun r => by
  induction r with
  | nil => rfl
  | cons h _ ih => rw [List.map_cons, List.map_cons, ih, h.1]
theorem atKey_any (ys : List (NestedKey × Addr × Value)) (k : NestedKey) : (atKey ys k).isSome = decide (k ∈ ys.map (·.1)) := by
  induction ys with
  | nil => rfl
  | cons y ys ih =>
    unfold atKey at ih ⊢
    rw [List.find?_cons]
    by_cases h : y.1 = k
    · rw [decide_eq_true h]
      exact (decide_eq_true (by rw [List.map_cons, h]; exact List.mem_cons_self)).symm
    · rw [decide_eq_false h]
      rw [ih, List.map_cons]
      exact decide_eq_decide.mpr ⟨fun z => List.mem_cons_of_mem _ z, fun z => (List.mem_cons.mp z).resolve_left fun q => h q.symm⟩
def Keyed (K : PySem.W.Frag) (H : Hp) (xs : List (NestedKey × Addr × V)) : Prop := ∀ x ∈ xs, NK K H x.1 (.ref x.2.1) ∧ x.1.depth ≤ 8
/-- a value is the key of a tuple -/
def IsK (K : PySem.W.Frag) (H : Hp) (k : NestedKey) (v : V) : Prop := NK K H k v ∧ k.depth ≤ 8 ∧ ∃ q, v = .ref q
theorem dx_of {p : Addr} {xs : List (NestedKey × Addr × V)} (I : Inv X pins σ H s) (hp : H p = some (dxO X.w p xs)) (hk : Keyed X.K H xs) : xs.length ≤ sizeLine ∧ (p == sysModules) = false ∧ ∃ ys, YV xs ys ∧ s.heap.DictOfH (nestedKind X.prog X.w) p ys := by
  obtain ⟨⟨z, hd, ys, r, o, es, ep, h1, h2, h3, h4, h5⟩, _⟩ := (show ObjOk X.prog X.w H s.heap p (dxO X.w p xs) from I.hok p _ hp)
  refine ⟨z, hd, ys, r, o, es, ep, h1, h2, h3, h4, ?_, h5⟩
  have all : ∀ {l : List (NestedKey × Addr × V)} {m : List (NestedKey × Addr × Value)}, YV l m → Keyed X.K H l → ∀ y ∈ m, (nestedKind X.prog X.w).is s.heap y.1 y.2.1 := by
    intro l m q
    induction q with
    | nil => intro _ x hx; exact nomatch hx
    | @cons a b as bs hq t ih =>
      intro hk x hx
      rcases List.mem_cons.mp hx with e | hx
      · subst e
        obtain ⟨a1, a2⟩ := hk a List.mem_cons_self
        rw [hq.1, hq.2.1] at a1
        rw [hq.1] at a2
        exact ⟨nk_is I _ _ _ a1 rfl, a2⟩
      · exact ih (fun x hx => hk x (List.mem_cons_of_mem _ hx)) x hx
  exact all r hk
theorem dx_ok {P : Program} {w : World} {H' : Hp} {h' : Heap} {p : Addr} {xs : List (NestedKey × Addr × V)} {ys : List (NestedKey × Addr × Value)} (z : xs.length ≤ sizeLine) (hd : (p == sysModules) = false) (r : YV xs ys) (dd : h'.DictOfH (nestedKind P w) p ys) : ObjOk P w H' h' p (dxO w p xs) := by
  obtain ⟨o, es, ep, h1, h2, h3, h4, _, h5⟩ := dd
  refine ⟨⟨z, hd, ys, r, o, es, ep, h1, h2, h3, h4, h5⟩, ⟨o, h1⟩, ?_⟩
  rintro a1 a2 ⟨z, hd, ys, r, o, es, ep, h1, h2, h3, h4, h5⟩ k
  exact ⟨z, hd, ys, r, o, es, ep, k _ h1, h2, h3, h4, h5⟩
theorem kd_is {k : NestedKey} {v : V} {q : Addr} (I : Inv X pins σ H s) (h : IsK X.K H k v) (e : v = .ref q) : (nestedKind X.prog X.w).is s.heap k q := by
  subst e
  exact ⟨nk_is I _ _ _ h.1 rfl, h.2.1⟩
end
theorem room8 {A : Around} (hu : A.units + 64 < cLine) : A.in1.units + 8 < cLine := by
  show A.units + 1 + 8 < cLine
  omega
/-! {} -/
def tDNewX (w : World) : TE := fun _ H Q => ∀ p, H p = none → Q (.ref p) (upd H p (dxO w p []))
theorem pe_dnewX {X : Cx} {pos : Pos} : PE X (.Dict [] [] pos) (tDNewX X.w) := ⟨fun pins s σ H Q I h =>
  wpAny_Dict_empty ⟨.ref s.heap.objs.size, _, I.laid (a := s.heap.objs.size) (o := dxO X.w s.heap.objs.size []) (t' := s.toks) (fun _ _ q => Heap.get?_push_of_some _ q) (Nat.le_refl _)
    (dx_ok (P := X.prog) (w := X.w) (ys := []) (Nat.zero_le _) (beq_eq_false_iff_ne.mpr (Ne.symm (Nat.ne_of_lt I.big))) .nil (Heap.DictOfH.new _)), rfl, h _ (I.hok.fresh (Nat.le_refl _))⟩⟩
def fNewX : List T → Option Re := fun ρ => some (.ok (.di [] []) ρ)
theorem eo_newx {c : Ctx} {pos : Pos} : Eo c (.Dict [] [] pos) fNewX := by
  refine ⟨tDNewX c.W.w, fun j => by have h := pe_dnewX (X := c.X j) (pos := pos); rw [c.hw j] at h; exact h, ?_⟩
  intro b F ρ σ X H r Q hb S e k
  cases e
  intro p hp
  exact k _ F _ (S.own hp ⟨p, [], [], rfl, rfl, upd_same, rfl, (fun _ h => nomatch h), rfl, rfl⟩) (Inc.refl F)
/-! in -/
def rInX (w : World) (K : PySem.W.Frag) (neg : Bool) : R2 := fun y x H Q => ∃ p xs k, x = .ref p ∧ H p = some (dxO w p xs) ∧ Keyed K H xs ∧ IsK K H k y ∧ Q (.bl (xor neg (decide (k ∈ xs.map (·.1))))) H
theorem op_inX {X : Cx} (hu : X.A.units + 64 < cLine) : OpR X (compareOp .In) (rInX X.w X.K false) := by
  intro pins s σ H x y v u Q I rx ry h
  obtain ⟨p, xs, k, rfl, hp, hk, hy, Qq⟩ := h
  obtain ⟨q, rfl⟩ := hy.2.2
  obtain rfl : v = Value.ref q := rx
  obtain rfl : u = Value.ref p := ry
  obtain ⟨z, hd, ys, r, dd⟩ := dx_of I hp hk
  refine wpAny_in_heap (room8 hu) (kd_is I hy rfl) hd dd ?_
  rw [atKey_any, ← r.keys]
  rw [Bool.false_xor] at Qq
  exact ⟨.bl _, H, I.tok _, rfl, Qq⟩
theorem op_notInX {X : Cx} (hu : X.A.units + 64 < cLine) : OpR X (compareOp .NotIn) (rInX X.w X.K true) := by
  intro pins s σ H x y v u Q I rx ry h
  obtain ⟨p, xs, k, rfl, hp, hk, hy, Qq⟩ := h
  obtain ⟨q, rfl⟩ := hy.2.2
  obtain rfl : v = Value.ref q := rx
  obtain rfl : u = Value.ref p := ry
  obtain ⟨z, hd, ys, r, dd⟩ := dx_of I hp hk
  refine wpAny_notIn_heap (room8 hu) (kd_is I hy rfl) hd dd ?_
  rw [atKey_any, ← r.keys]
  rw [Bool.true_xor] at Qq
  exact ⟨.bl _, H, I.tok _, rfl, Qq⟩
def T.di? : T → Option (List NestedKey × List T) | .di ks ds => some (ks, ds) | _ => none
/-- the key that a frozen tuple is -/
def keyT (t : T) : Option NestedKey := match t with
  | .f (.tup l) => (nkD (.tup l)).bind fun k => if k.depth ≤ 8 then some k else none
  | _ => none
theorem keyT_of {W : Wd} {F H : Hp} {t : T} {v : V} {k : NestedKey} (le : Le F H) (r : RelV W F H t v) (e : keyT t = some k) : IsK W.K H k v ∧ ∃ l q, t = .f (.tup l) ∧ v = .ref q ∧ nkD (.tup l) = some k ∧ k.depth ≤ 8 ∧ Rep W F (.tup l) v := by
  unfold keyT at e
  split at e
  · rename_i l
    obtain ⟨k', e1, e2⟩ := Option.bind_eq_some_iff.mp e
    split at e2
    · rename_i hd
      cases e2
      obtain ⟨q, vs, rfl, hs⟩ := id r.rep
      exact ⟨⟨nk_of le _ _ _ r.rep e1, hd, q, rfl⟩, l, q, rfl, rfl, e1, hd, r.rep⟩
    · cases e2
  · cases e
def gInX (neg : Bool) : T → T → Option T := fun a b => (keyT a).bind fun k => b.di?.bind fun ds => some (.f (.bl (xor neg (decide (k ∈ ds.1)))))
theorem keyed_of {W : Wd} {F H : Hp} (le : Le F H) {xs : List (NestedKey × Addr × V)} (h : ∀ x ∈ xs, ∃ l, nkD (.tup l) = some x.1 ∧ x.1.depth ≤ 8 ∧ Rep W F (.tup l) (.ref x.2.1)) : Keyed W.K H xs := fun x hx => by
  obtain ⟨l, e, hd, r⟩ := h x hx
  exact ⟨nk_of le _ _ _ r e, hd⟩
theorem s2_inX {W : Wd} (neg : Bool) : S2 W (rInX W.w W.K neg) (gInX neg) := by
  intro b F ρ σ X H t1 t2 τ x y Q S r1 r2 e k
  unfold gInX at e
  obtain ⟨kk, e1, e⟩ := Option.bind_eq_some_iff.mp e
  obtain ⟨⟨ks, ds⟩, e3, e⟩ := Option.bind_eq_some_iff.mp e
  cases e
  cases t2 with
  | di k2 d2 =>
    cases e3
    obtain ⟨fp, p, xs, fps, ep, _, hp, hk, hy, _⟩ := r2
    refine ⟨p, xs, kk, ep, hp, keyed_of S.le hy, (keyT_of S.le r1 e1).1, ?_⟩
    rw [hk]
    exact k.d S rfl
  | _ => cases e3
def gInZ := or2 gIn (gInX false)
def gNotInZ := or2 gNotIn (gInX true)
theorem c_inZ {c : Ctx} : CmpR c .In gInZ := ⟨_, fun j => by
    have h := OpR_or (op_inU (X := c.X j) (c.hu1 j)) (op_inX (X := c.X j) (c.hu j))
    rw [c.hK j, c.hw j] at h
    exact h, S2.or s2_in (s2_inX false)⟩
theorem c_notInZ {c : Ctx} : CmpR c .NotIn gNotInZ := ⟨_, fun j => by
    have h := OpR_or (op_notInU (X := c.X j) (c.hu1 j)) (op_notInX (X := c.X j) (c.hu j))
    rw [c.hK j, c.hw j] at h
    exact h, S2.or s2_notIn (s2_inX true)⟩
/-! d[k] -/
def atX (xs : List (NestedKey × Addr × V)) (k : NestedKey) : Option V := (xs.find? fun x => decide (x.1 = k)).map (·.2.2)
theorem YV.at {xs : List (NestedKey × Addr × V)} {ys : List (NestedKey × Addr × Value)} {k : NestedKey} {v : V} (r : YV xs ys) (h : atX xs k = some v) : ∃ p, atKey ys k = some p ∧ L2.RelV v p.2 := by
  induction r with
  | nil => cases h
  | @cons a b as bs hq t ih =>
    unfold atX at h ih
    unfold atKey at ih ⊢
    rw [List.find?_cons] at h ⊢
    rw [hq.1] at h
    by_cases e : b.1 = k
    · rw [decide_eq_true e] at h ⊢
      cases h
      exact ⟨_, rfl, hq.2.2⟩
    · rw [decide_eq_false e] at h ⊢
      exact ih h
def rIxX (w : World) (K : PySem.W.Frag) : R2 := fun x y H Q => ∃ p xs k v, x = .ref p ∧ H p = some (dxO w p xs) ∧ Keyed K H xs ∧ IsK K H k y ∧ atX xs k = some v ∧ Q v H
theorem ix_X {X : Cx} (hu : X.A.units + 64 < cLine) : IxR X (rIxX X.w X.K) := by
  intro value slice pins s σ H x y v u Q I rx ry h hs
  obtain ⟨p, xs, k, v', rfl, hp, hk, hy, ha, Qq⟩ := h
  obtain ⟨q, rfl⟩ := hy.2.2
  obtain rfl : v = Value.ref p := rx
  obtain rfl : u = Value.ref q := ry
  obtain ⟨z, hd, ys, r, dd⟩ := dx_of I hp hk
  obtain ⟨pp, h1, h2⟩ := r.at ha
  exact subT dd.typeIs PySem.F.slot_dict_getitem.lookup (wpAny_getItem_heap (room8 hu) (kd_is I hy rfl) dd h1 ⟨v', H, I.tok _, h2, Qq⟩) hs
/-- the value behind a key -/
def atT : List NestedKey → List T → NestedKey → Option T
  | k :: ks, t :: ts, q => if k = q then some t else atT ks ts q
  | _, _, _ => none
def gIxX : T → T → Option T := fun a b => a.di?.bind fun ds => (keyT b).bind fun k => (atT ds.1 ds.2 k).bind fun t => t.d?.map .f
theorem atX_of {W : Wd} {F H : Hp} {k : NestedKey} {t : T} : ∀ {ks : List NestedKey} {ts : List T} {xs : List (NestedKey × Addr × V)} {fps : List (List Addr)}, xs.map (·.1) = ks → RelTs W F H ts (xs.map (·.2.2)) fps → atT ks ts k = some t → ∃ v f, atX xs k = some v ∧ RelT W F H t v f
  | [], _, _, _, _, _, e => by unfold atT at e; cases e
  | q :: ks, [], _, _, _, _, e => by unfold atT at e; cases e
  | q :: ks, u :: ts, [], _, hk, _, _ => nomatch hk
  | q :: ks, u :: ts, x :: xs, _, hk, r, e => by
    obtain ⟨v, vr, f, fr, e1, e2, a, b⟩ := r
    have k1 : x.1 = q := (List.cons.inj hk).1
    have k2 : xs.map (·.1) = ks := (List.cons.inj hk).2
    have v1 : x.2.2 = v := (List.cons.inj e1).1
    have v2 : xs.map (·.2.2) = vr := (List.cons.inj e1).2
    subst v1 v2
    unfold atT at e
    unfold atX
    rw [List.find?_cons, k1]
    by_cases h : q = k
    · rw [if_pos h] at e
      cases e
      rw [decide_eq_true h]
      exact ⟨_, f, rfl, a⟩
    · rw [if_neg h] at e
      rw [decide_eq_false h]
      exact atX_of k2 b e
theorem s2_ixX {W : Wd} : S2 W (rIxX W.w W.K) gIxX := by
  intro b F ρ σ X H t1 t2 τ x y Q S r1 r2 e k
  unfold gIxX at e
  obtain ⟨⟨ks, ds⟩, e3, e⟩ := Option.bind_eq_some_iff.mp e
  obtain ⟨kk, e1, e⟩ := Option.bind_eq_some_iff.mp e
  obtain ⟨t, e4, e⟩ := Option.bind_eq_some_iff.mp e
  obtain ⟨d, e5, e⟩ := Option.map_eq_some_iff.mp e
  subst e
  cases d_some e5
  cases t1 with
  | di k2 d2 =>
    cases e3
    obtain ⟨fp, p, xs, fps, ep, _, hp, hk, hy, rs⟩ := r1
    obtain ⟨v, f, h1, h2⟩ := atX_of hk rs e4
    exact ⟨p, xs, kk, v, ep, hp, keyed_of S.le hy, (keyT_of S.le r2 e1).1, h1, k.d S h2.2⟩
  | _ => cases e3
def gIxZ := or2 gIx gIxX
theorem ev_ixZ {c : Ctx} {a e' : Expr} {fa fb : List T → Option T} {pos : Pos} (ha : Ev c a fa) (hb : Ev c e' fb) (hs : PlainIx e' := by exact fun _ _ => rfl) : Ev c (.Subscript a e' pos) (f2 gIxZ fa fb) := by
  obtain ⟨ta, pa, sa⟩ := ha
  obtain ⟨tb, pb, sb⟩ := hb
  exact ⟨_, fun j => pe_ix (by have h := (ix_U (X := c.X j) (c.hu1 j)).or (ix_X (X := c.X j) (c.hu j)); rw [c.hK j, c.hw j] at h; exact h) (pa j) (pb j) hs, sv_2 sa sb (S2.or s2_ix s2_ixX)⟩
/-! len(d) -/
def rLenX (w : World) (K : PySem.W.Frag) : List V → Hp → VK → Prop := fun xs H Q => ∃ p ks, xs = [V.ref p] ∧ H p = some (dxO w p ks) ∧ Keyed K H ks ∧ Q (.int (ks.length : Nat)) H
theorem call_lenX {X : Cx} : CallR X (.builtin "len") (rLenX X.w X.K) := by
  intro pins s σ H xs us Q I r h
  obtain ⟨p, ks, rfl, hp, hk, q⟩ := h
  obtain ⟨u, rfl, rx⟩ := vals1 r
  obtain rfl : u = .ref p := rx
  obtain ⟨z, hd, ys, rel, dd⟩ := dx_of I hp hk
  have hl : ks.length = ys.length := Paired.length rel
  refine PySem.call_len_dictH hd dd (by rw [← hl]; rw [sizeLine_eq] at z; omega) ?_
  rw [← hl]
  exact ⟨.int (ks.length : Nat), H, I.tok _, ⟨_, rfl⟩, q⟩
def gLenX (ts : List T) : Option T := match ts with
  | [.di ks us] => some (.f (.int ks.length))
  | _ => none
def gLenZ (ts : List T) : Option T := match gLen ts with
  | some t => some t
  | none => gLenX ts
theorem sn_lenZ {W : Wd} : Sn W (fun xs H Q => rLenU W.K xs H Q ∨ rLenX W.w W.K xs H Q) gLenZ := by
  intro b F ρ σ X H ts τ xs Q S r e k
  unfold gLenZ at e
  cases hl : gLen ts with
  | some t =>
    rw [hl] at e
    cases e
    exact .inl (sn_len b F ρ σ X H ts _ xs Q S r hl k)
  | none =>
    rw [hl] at e
    have e2 : gLenX ts = some τ := e
    unfold gLenX at e2
    split at e2
    · rename_i ks us
      cases e2
      obtain ⟨x, rfl, r1⟩ := rv1 r
      obtain ⟨fp, p, zs, fps, ep, _, hp, hk, hy, rs⟩ := r1
      subst ep hk
      refine .inr ⟨p, zs, rfl, hp, keyed_of S.le hy, ?_⟩
      have h2 : Rep W F (.int ((zs.map (·.1)).length : Nat)) (.int (zs.length : Nat)) := by
        rw [List.length_map]
        rfl
      exact k.d S h2
    · cases e2
theorem callLenZ {c : Ctx} (j : c.J) : CallR (c.X j) (.builtin "len") (fun xs H Q => rLenU c.W.K xs H Q ∨ rLenX c.W.w c.W.K xs H Q) := by
  have h := CallR_or (call_lenU (X := c.X j)) (call_lenX (X := c.X j))
  rw [c.hK j, c.hw j] at h
  exact h
/-! d[k] = v -/
def putX (xs : List (NestedKey × Addr × V)) (k : NestedKey) (q : Addr) (v : V) : List (NestedKey × Addr × V) :=
  if k ∈ xs.map (·.1) then xs.map fun x => if x.1 = k then (x.1, x.2.1, v) else x else xs ++ [(k, q, v)]
theorem YV.put {xs : List (NestedKey × Addr × V)} {ys : List (NestedKey × Addr × Value)} {k : NestedKey} {q : Addr} {v : V} {u : Value} (r : YV xs ys) (h : L2.RelV v u) : YV (putX xs k q v) (storedH ys k q u) := by
  unfold putX storedH
  rw [atKey_any, ← r.keys]
  by_cases hk : k ∈ xs.map (·.1)
  · rw [if_pos hk, if_pos (decide_eq_true hk)]
    clear hk
    induction r with
    | nil => exact .nil
    | @cons a b as bs hq t ih =>
      rw [List.map_cons, List.map_cons]
      refine .cons ?_ ih
      unfold putAt
      rw [hq.1]
      by_cases e : b.1 = k
      · rw [if_pos e, if_pos e]
        exact ⟨rfl, hq.2.1, h⟩
      · rw [if_neg e, if_neg e]
        exact hq
  · rw [if_neg hk, if_neg (by rw [decide_eq_false hk]; exact Bool.false_ne_true)]
    clear hk
    induction r with
    | nil => exact .cons ⟨rfl, rfl, h⟩ .nil
    | cons h1 _ ih => exact .cons h1 ih
theorem putX_len {xs : List (NestedKey × Addr × V)} {k : NestedKey} {q : Addr} {v : V} : (putX xs k q v).length ≤ xs.length + 1 := by
  unfold putX
  split
  · rw [List.length_map]; omega
  · rw [List.length_append]; exact Nat.le_refl _
def rSetX (w : World) (K : PySem.W.Frag) : TSet := fun o i v H Q => ∃ p xs q k, o = .ref p ∧ H p = some (dxO w p xs) ∧ Keyed K H xs ∧ i = .ref q ∧ IsK K H k i ∧ xs.length < sizeLine ∧ Q (upd H p (dxO w p (putX xs k q v)))
theorem set_X {X : Cx} (hu : X.A.units + 64 < cLine) : PSet X (rSetX X.w X.K) := by
  intro pins s σ H o i v ov iv u Q I ro ri rv h
  obtain ⟨p, xs, q, k, rfl, hp, hk, rfl, hy, hz, Qq⟩ := h
  obtain rfl : ov = Value.ref p := ro
  obtain rfl : iv = Value.ref q := ri
  obtain ⟨z, hd, ys, r, dd⟩ := dx_of I hp hk
  have hl : ys.length = xs.length := (Paired.length r).symm
  refine wpAny_setItem_heap (hsz := by rw [hl]; exact z) (room8 hu) (kd_is I hy rfl) dd fun h' dd' hs => ⟨_, ?_, Qq⟩
  exact d_write I (by rw [hp]; exact True.intro) hs (let ⟨q, _, _, hq, _⟩ := dd'; ⟨q, hq⟩) (dx_ok (Nat.le_trans putX_len hz) hd (r.put rv) dd')
def putT : List NestedKey → List T → NestedKey → D → Option (List T)
  | [], [], _, _ => some []
  | k :: ks, t :: ts, q, d => (putT ks ts q d).bind fun r => if k = q then (match t with | .f _ => some (.f d :: r) | _ => none) else some (t :: r)
  | _, _, _, _ => none
def setX (k d : D) : T → Option T
  | .di ks ts => (keyT (.f k)).bind fun q => if ks.length < sizeLine then (if q ∈ ks then (putT ks ts q d).map (.di ks) else some (.di (ks ++ [q]) (ts ++ [.f d]))) else none
  | _ => none
def sSetX (i : Nat) (fp : List T → Option (List Sel)) (fk fe : List T → Option T) : FS := fun ρ => (fe ρ).bind fun x => x.d?.bind fun d => (fp ρ).bind fun π => (fk ρ).bind fun z => z.d?.bind fun q => (mutF i π (setX q d) ρ).map .nx
theorem setX_own {k d : D} (u u' : T) (h : setX k d u = some u') : owned u = true := by
  cases u with
  | un => cases h
  | f d => cases h
  | ln d => cases h
  | gb _ => cases h
  | rg _ => cases h
  | _ => rfl
theorem RelTs.putT {W : Wd} {F H : Hp} {q : NestedKey} {d : D} {y : V} (ry : Rep W F d y) : ∀ {ks : List NestedKey} {ts us : List T} {xs : List (NestedKey × Addr × V)} {fps : List (List Addr)}, xs.map (·.1) = ks → RelTs W F H ts (xs.map (·.2.2)) fps → putT ks ts q d = some us → RelTs W F H us ((xs.map fun x => if x.1 = q then (x.1, x.2.1, y) else x).map (·.2.2)) fps
  | [], [], us, [], _, _, r, e => by unfold Z.putT at e; cases e; exact r
  | [], _ :: _, _, _, _, _, _, e => by unfold Z.putT at e; cases e
  | k :: ks, [], _, _, _, _, _, e => by unfold Z.putT at e; cases e
  | [], [], _, _ :: _, _, hk, _, _ => nomatch hk
  | k :: ks, t :: ts, us, [], _, hk, _, _ => nomatch hk
  | k :: ks, t :: ts, us, x :: xs, fps, hk, r, e => by
    obtain ⟨v, vr, f, fr, e1, e2, a, b⟩ := r
    have k1 : x.1 = k := (List.cons.inj hk).1
    have k2 : xs.map (·.1) = ks := (List.cons.inj hk).2
    have v1 : x.2.2 = v := (List.cons.inj e1).1
    have v2 : xs.map (·.2.2) = vr := (List.cons.inj e1).2
    subst v1 v2 e2
    unfold Z.putT at e
    obtain ⟨r', e3, e⟩ := Option.bind_eq_some_iff.mp e
    have ih := RelTs.putT ry k2 b e3
    rw [List.map_cons, List.map_cons, k1]
    by_cases h : k = q
    · rw [if_pos h] at e
      rw [if_pos h]
      split at e
      · cases e
        exact ⟨y, _, [], fr, rfl, by rw [a.1], ⟨rfl, ry⟩, ih⟩
      · cases e
    · rw [if_neg h] at e
      cases e
      rw [if_neg h]
      exact ⟨_, _, f, fr, rfl, rfl, a, ih⟩
theorem RelTs.snocF {W : Wd} {F H : Hp} {d : D} {y : V} (ry : Rep W F d y) : ∀ {ts : List T} {vs : List V} {fps : List (List Addr)}, RelTs W F H ts vs fps → RelTs W F H (ts ++ [.f d]) (vs ++ [y]) (fps ++ [[]])
  | [], _, _, r => by
    obtain ⟨rfl, rfl⟩ := (show _ = [] ∧ _ = [] from r)
    exact ⟨y, [], [], [], rfl, rfl, ⟨rfl, ry⟩, rfl, rfl⟩
  | t :: ts, _, _, r => by
    obtain ⟨v, vr, f, fr, rfl, rfl, a, b⟩ := r
    exact ⟨v, _, f, _, rfl, rfl, a, b.snocF ry⟩
theorem SR.setX {W : Wd} {b : Bs} {F : Hp} {ρ ρ' : List T} {σ : L2.St} {X : List Tm} {H : Hp} {i : Nat} {π : List Sel} {d q : D} {v y z : V} {p : Addr} (S : SR W b F ρ σ X H) (h : mutF i π (setX q d) ρ = some ρ') (hv : σ[i]? = some (some v)) (ha : AtV H v π p) (r : Rep W F d y) (rq : RelV W F H (.f q) z)
    {Q : Hp → Prop} (k : ∀ H', SR W b F ρ' σ X H' → Q H') : rSetX W.w W.K (.ref p) z y H Q := by
  obtain ⟨t, u, u', e1, e2, e3, rfl⟩ := mutF_some h
  cases u with
  | di ks ts =>
    obtain ⟨j, e4, e5⟩ := Option.bind_eq_some_iff.mp (show (keyT (.f q)).bind (fun q => if ks.length < sizeLine then (if q ∈ ks then (putT ks ts q d).map (T.di ks) else some (.di (ks ++ [q]) (ts ++ [.f d]))) else none) = some u' from e3)
    obtain ⟨hik, l, a, eq, ez, hnk, hdep, rq'⟩ := keyT_of S.le rq e4
    cases eq
    subst ez
    clear e3
    have e3 := e5
    clear e5
    split at e3
    · rename_i hl
      obtain ⟨fu, q1, q2, q3⟩ := S.mut (u' := u') e1 hv e2 ha
      obtain ⟨p', xs, fps, ep, rfl, hp, hk, hy, rs⟩ := q1
      cases ep
      refine ⟨p, xs, a, j, rfl, hp, keyed_of S.le hy, rfl, hik, by rw [← hk, List.length_map] at hl; exact hl, k _ (q3 _ _ hp (fun _ => fun _ _ _ e => nomatch e) List.mem_cons_self ?_)⟩
      have hne : ∀ c ∈ fps.flatten, upd H p (dxO W.w p (putX xs j a y)) c = H c := fun c hc => upd_ne fun e => by
        subst e
        exact (List.nodup_cons.mp q2.1).1 hc
      split at e3
      · rename_i hin
        obtain ⟨us, e5, rfl⟩ := Option.map_eq_some_iff.mp e3
        have hput : putX xs j a y = xs.map fun x => if x.1 = j then (x.1, x.2.1, y) else x := if_pos (by rw [hk]; exact hin)
        have hkeys : (xs.map fun x => if x.1 = j then (x.1, x.2.1, y) else x).map (·.1) = ks := by
          rw [← hk, List.map_map]
          refine List.map_congr_left fun x _ => ?_
          show (if x.1 = j then (x.1, x.2.1, y) else x).1 = x.1
          split <;> rfl
        refine ⟨p, _, fps, rfl, rfl, upd_same, by rw [hput]; exact hkeys, ?_, ?_⟩
        · rw [hput]
          intro x hx
          obtain ⟨x0, hx0, rfl⟩ := List.mem_map.mp hx
          split
          · exact hy x0 hx0
          · exact hy x0 hx0
        · rw [hput]
          exact RelTs.mono (Inc.refl F) _ _ _ (by rw [← hput]; exact hne) (RelTs.putT r hk rs e5)
      · rename_i hout
        cases e3
        have hput : putX xs j a y = xs ++ [(j, a, y)] := if_neg (by rw [hk]; exact hout)
        refine ⟨p, _, fps ++ [[]], rfl, by rw [List.flatten_append]; simp, upd_same, by rw [hput, List.map_append, hk]; rfl, ?_, ?_⟩
        · rw [hput]
          intro x hx
          rcases List.mem_append.mp hx with hx | hx
          · exact hy x hx
          · cases List.mem_singleton.mp hx
            exact ⟨l, hnk, hdep, rq'⟩
        · rw [hput, List.map_append]
          refine RelTs.mono (Inc.refl F) _ _ _ (fun c hc => ?_) (rs.snocF r)
          rw [← hput]
          exact hne c (by simpa using hc)
    · cases e3
  | _ => cases e3
theorem sm_setX {c : Ctx} {e o ek : Expr} {i : Nat} {fp : List T → Option (List Sel)} {fe fk : List T → Option T} {pos pos' : Pos} (ho : Lo c o i fp) (hk : Ev c ek fk) (he : Ev c e fe)
    (hsw : ∀ j, swapsWithSole [.Subscript o ek pos'] e pos.line (c.X j).env = pure false := by intro _; rfl) (hw : ∀ j, swappedStores [.Subscript o ek pos'] e (c.X j).env = pure none := by intro _; rfl)
    (h1 : ∀ j, (assignEach [.Subscript o ek pos'] (c.X j).env).map (·.2) = [assign (.Subscript o ek pos') (c.X j).env] := by intro _; rfl)
    (ha : ∀ j v, assign (.Subscript o ek pos') (c.X j).env v = (do
      let ov ← holding [v] (eval o (c.X j).env)
      let iv ← holding [v, ov] (eval ek (c.X j).env)
      standAt pos'
      holding [v, ov, iv] (setItem ov iv v)
      release [v, ov, iv] []) := by intro _ _; rfl) : Sm c (.Assign [.Subscript o ek pos'] e pos) (sSetX i fp fk fe) := by
  obtain ⟨to, po, so⟩ := ho
  obtain ⟨te, pe, se⟩ := he
  obtain ⟨tk, pk, sk⟩ := hk
  refine ⟨tAsg te (L2.gSub to tk (rSetX c.W.w c.W.K)), fun j => ps_asg (pe j) (pg_sub (po j) (pk j) (by have h := set_X (X := c.X j) (c.hu j); rw [c.hK j, c.hw j] at h; exact h) (ha j)) (hsw j) (hw j) (h1 j), ?_⟩
  intro b F ρ σ X H out D hb S eq k
  unfold sSetX at eq
  obtain ⟨x, e2, eq⟩ := Option.bind_eq_some_iff.mp eq
  obtain ⟨d, e3, eq⟩ := Option.bind_eq_some_iff.mp eq
  obtain ⟨π, e1, eq⟩ := Option.bind_eq_some_iff.mp eq
  obtain ⟨z, e5, eq⟩ := Option.bind_eq_some_iff.mp eq
  obtain ⟨q, e6, eq⟩ := Option.bind_eq_some_iff.mp eq
  obtain ⟨ρ', e4, eq⟩ := Option.map_eq_some_iff.mp eq
  subst eq
  cases d_some e3
  cases d_some e6
  obtain ⟨tt, uu, h1, h2, h3⟩ := mutF_own e4 setX_own
  refine se b F ρ σ X H _ _ S e2 fun y F1 H1 S1 i1 s1 r1 => ?_
  refine so b F1 ρ σ X H1 π tt uu _ S1 e1 h1 h2 h3 fun p v F2 H2 S2 i2 s2 hv hat => ?_
  refine sk b F2 ρ σ X H2 _ _ S2 e5 fun w F3 H3 S3 i3 s3 r3 => ?_
  exact S3.setX e4 hv (hat.same s3) ((r1.ext i2 s2).ext i3 s3).rep r3 fun H' S' => k σ F3 H' S' ((i1.trans i2).trans i3)
/-! list(a list, a tuple or a dict) -/
section
variable {W : Wd} {c : Ctx}
def rListK : List V → Hp → VK → Prop := fun xs H Q => ∃ (a : Addr) (kvs : List (Key × V)), xs = [.ref a] ∧ Rd H a (.dK kvs) ∧ ∀ p, H p = none → Q (.ref p) (upd H p (.lst (kvs.map fun kv => kV kv.1)))
def rListX (K : PySem.W.Frag) : List V → Hp → VK → Prop := fun xs H Q => (∃ p ys, xs = [.ref p] ∧ (SqL K H p ys ∨ SqT K H p ys) ∧ ∀ l, H l = none → Q (.ref l) (upd H l (.lst ys))) ∨ rListK xs H Q
def gListX (ts : List T) : Option T := match ts with
  | [t] => match t.sq? with
    | some ds => some (.f (.lst ds))
    | none => t.dk?.map fun p => .f (.lst (p.1.map kD))
  | _ => none
theorem keys_reps {W : Wd} {F : Hp} : ∀ kvs : List (Key × V), Reps W F ((kvs.map (·.1)).map kD) (kvs.map fun kv => kV kv.1)
  | [] => rfl
  | _ :: kvs => ⟨_, _, rfl, kD_rep, keys_reps kvs⟩
theorem sn_listX : Sn W (rListX W.K) gListX := by
  intro b F ρ σ X H ts τ xs Q S r e k
  match ts, e with
  | [t], e =>
    obtain ⟨x, rfl, r1⟩ := rv1 r
    have e' : (match t.sq? with | some ds => some (T.f (.lst ds)) | none => t.dk?.map fun p => T.f (.lst (p.1.map kD))) = some τ := e
    cases hq : t.sq? with
    | some ds =>
      rw [hq] at e'
      cases e'
      obtain ⟨p, vs, ex, hs, q⟩ := r1.sq hq S.le
      subst ex
      exact .inl ⟨p, vs, rfl, hs, k.lst S q⟩
    | none =>
      rw [hq] at e'
      obtain ⟨⟨ks, ds⟩, e2, e3⟩ := Option.map_eq_some_iff.mp e'
      subst e3
      obtain ⟨p, kvs, ex, hp, hk, r2⟩ := r1.dk e2 S.le
      subst ex
      subst hk
      exact .inr ⟨p, kvs, rfl, hp, k.lst S (keys_reps kvs)⟩
theorem callListX (j : c.J) : CallR (c.X j) (.type "list") (rListX c.W.K) := by
  have h := CallR_or (call_list_of (X := c.X j)) (call_listD (c.calm j))
  rw [c.hK j] at h
  exact h
end
end Z

namespace Z
open PySem PySem.Spec PyProof.Rows L2
/-! ### xs.reverse() -/
def revT : T → Option T
  | .l ds => some (.l ds.reverse)
  | _ => none
def sRev (i : Nat) (fp : List T → Option (List Sel)) : FS := fun ρ => (fp ρ).bind fun π => (mutF i π revT ρ).map .nx
section
variable {c : Ctx} {e o a : Expr} {es : List Expr} {i : Nat} {fp : List T → Option (List Sel)} {pos apos cpos : Pos}
theorem sm_rev (ho : Lo c o i fp) (hbase : ∀ j, attributeBase o "reverse" (c.X j).env (eval o (c.X j).env) = eval o (c.X j).env := by intro _; rfl) (hline : (apos.endLine == cpos.line) = true := by rfl)
    (hsw : ∀ j, swapsWith (.Call (.Attribute o "reverse" apos) [] [] cpos) none pos.line (c.X j).env = pure false := by intro _; rfl) : Sm c (.Expr (.Call (.Attribute o "reverse" apos) [] [] cpos) pos) (sRev i fp) := by
  obtain ⟨to, po, so⟩ := ho
  refine ⟨tDrop (tBM0 c.W.K "list" rReverse to), fun j => by
    have h := ps_expr (pe_bm0 (cpos := cpos) (apos := apos) PySem.F.plainAttrs_list PySem.F.slot_list_reverse PySem.F.type_list_reverse mt_reverse (po j) (hbase j) hline) (hsw j)
    rw [c.hK j] at h
    exact h, ?_⟩
  intro b F ρ σ X H out D hb S eq k
  unfold sRev at eq
  obtain ⟨π, e1, eq⟩ := Option.bind_eq_some_iff.mp eq
  obtain ⟨ρ', e2, eq⟩ := Option.map_eq_some_iff.mp eq
  subst eq
  obtain ⟨t, u, u', g1, g2, g3, rfl⟩ := mutF_some e2
  cases u with
  | l ds =>
    cases g3
    refine so b F ρ σ X H π t _ _ S e1 g1 g2 rfl fun p v F1 H1 S1 i1 s1 hv hat => ?_
    obtain ⟨fu, q1, q2, q3⟩ := S1.mut (u' := .l ds.reverse) g1 hv g2 hat
    obtain ⟨p', vs, ep, rfl, hp, rs⟩ := q1
    cases ep
    exact ⟨.inl ⟨rfl, vs, SqL.of hp⟩, p, vs, rfl, rfl, hp, k σ F1 _ (q3 _ _ hp (fun _ => Stb.lst) (List.mem_singleton.mpr rfl) ⟨p, _, rfl, rfl, upd_same, rs.rev⟩) i1⟩
  | _ => cases g3
/-! ### C(..).m(..): a method of a thing that has no name -/
def isObjT (C : Nat) (m : Str) : T → Bool
  | .o C' ns _ => decide (C' = C) && !ns.contains m
  | _ => false
def fMethT (C : Nat) (m : Str) (io : List Nat) (G : List T → Option Re) (fo : List T → Option Re) (fs : List T → Option Rs) : List T → Option Re := fun ρ => (fo ρ).bind fun r => match r with
  | .xc D ρ1 => some (.xc D ρ1)
  | .ok τ ρ1 => if isObjT C m τ = true then fCall io G (bCons (fun ρ => some (.ok τ ρ)) fs) ρ1 else none
theorem so_methT {W : Wd} {P : Sg} {E : L2.St → XK} {E' : XK} {to : TE} {t : TA} {C : Nat} {m : Str} {io : List Nat} {G : List T → Option Re} {fo : List T → Option Re} {fs : List T → Option Rs} (hE : ∀ σ, E σ = E') (ho : So W P E to fo) (h : Sa W P E t fs) :
    So W P E (tMeth (W.cl C) m (spF W io G) [] E' to t) (fMethT C m io G fo fs) := by
  intro b F ρ σ X H r Q hb S e k
  unfold fMethT at e
  obtain ⟨r0, e0, eA⟩ := Option.bind_eq_some_iff.mp e
  clear e
  refine ho b F ρ σ X H r0 _ hb S e0 ?_
  cases r0 with
  | xc D ρ1 =>
    cases eA
    exact k
  | ok τ ρ1 =>
    intro v0 F0 H0 S0 i0
    dsimp only at eA
    split at eA
    · rename_i hobj
      cases τ with
      | o C' ns ts0 =>
        obtain ⟨hC, hm⟩ := Bool.and_eq_true_iff.mp (show (decide (C' = C) && !ns.contains m) = true from hobj)
        have hC := of_decide_eq_true hC
        subst hC
        have hm : ns.contains m = false := by simpa using hm
        have S0' := S0
        obtain ⟨_, _, _, _, _, _, _, xps, _, s2, _, _, _⟩ := S0'
        obtain ⟨v1, vr1, f1, fr1, ev1, _, rt1, _⟩ := (show RelTs W F0 H0 (.o C' ns ts0 :: X.map (·.t)) (v0 :: X.map (·.v)) xps from s2)
        cases ev1
        obtain ⟨p, dx, kvs, fps, ep, _, hp, hk, _⟩ := rt1
        subst ep
        refine ⟨p, dx, kvs, rfl, hp, lookup_notin (by rw [hk]; exact hm), ?_⟩
        unfold fCall bCons at eA
        obtain ⟨r1, e1, e⟩ := Option.bind_eq_some_iff.mp eA
        clear eA
        obtain ⟨r1', e1', rfl⟩ := Option.map_eq_some_iff.mp (show (fs ρ1).map _ = some r1 from e1)
        refine h b F0 ρ1 σ (⟨none, .o C' ns ts0, .ref p⟩ :: X) H0 r1' _ hb S0 e1' ?_
        cases r1' with
        | xc C ρ1 =>
          cases e
          intro d F2 H2 S2 i2
          exact k d F2 H2 S2.drop (i0.trans i2)
        | ok as ρ2 =>
          intro vs F1 H1 S1 g1 i1
          have S1' : SR W b F1 ρ2 σ (Xv (.v (.o C' ns ts0) :: as) (.ref p :: vs) ++ X) H1 := S1.perm List.perm_middle
          have g1' : Args σ (.v (.o C' ns ts0) :: as) (.ref p :: vs) := ⟨_, _, rfl, g1⟩
          obtain ⟨⟨ts, ρ3⟩, e2, e⟩ := Option.bind_eq_some_iff.mp (show (takeF (.v (.o C' ns ts0) :: as) ρ2).bind _ = _ from e)
          obtain ⟨S2, h1, h2⟩ := take_ok S1' g1' e2
          split at e
          · rename_i hio
            obtain ⟨r2, e3, e⟩ := Option.bind_eq_some_iff.mp e
            obtain ⟨xa, q1, qn, q2, q3⟩ := S2.call
            rw [h1, h2] at q1
            rw [h2] at q3
            rw [List.append_nil]
            refine ⟨F1, ts, xa, r2, S2.le, qn, q1, q2, hio, e3, ?_⟩
            cases r2 with
            | ok τ us =>
              intro v F' H' R i2
              simp only at e
              split at e
              · rename_i hl
                cases e
                have S3 := q3 io us F' _ H' (fun x hx => by rw [List.mem_singleton.mp hx]) R
                exact k v F' H' (put_ok S3 g1' (take_len e2) hl) ((i0.trans i1).trans i2)
              · cases e
            | xc C us =>
              intro d F' H' R i2
              simp only at e
              split at e
              · rename_i hl
                cases e
                have S3 := q3 io us F' _ H' (fun x hx => by cases hx) R
                have S4 := put_ok (Z := []) S3 g1' (take_len e2) hl
                have := k d F' H' S4 ((i0.trans i1).trans i2)
                rw [hE σ] at this
                exact this
              · cases e
          · cases e
      | _ => cases hobj
    · cases eA

def plE (o : Expr) (env : Env) : Sem Bool := do return (← importBound o env).getD true
theorem eo_methT {m : Str} {io : List Nat} {G : List T → Option Re} {k C : Nat} {CX : CXT} {fo : List T → Option Re} {fs : List T → Option Rs} {E : XK} (M : ∀ j, ClT (c.X j).prog (c.X j).w c.W (c.X j).mg (c.X j).base CX k C m io G) (hk : k ≤ c.k) (hE : ∀ σ, c.E σ = E) (hx : ∀ j, Passes CX (c.X j) E) (hr : Eo c o fo) (ha : Ao c (a :: es) fs)
    (ht : ∀ i, eval (.Call (.Attribute o m apos) (a :: es) [] pos) (c.X i).env = (do
      let ov ← eval o (c.X i).env
      standAt apos.atName
      let (f, first) ← holding [ov] (getMethod ov m (plE o (c.X i).env))
      callWith pos f first (backTo pos (starEach (a :: es) (c.X i).env)) (backToKw pos (keywordEach [] (c.X i).env))) := by intro _; rfl)
    (he : ∀ j, starEach (a :: es) (c.X j).env = (false, eval a (c.X j).env) :: starEach es (c.X j).env := by intro _; rfl) (hpl : ∀ j, (backTo pos (starEach es (c.X j).env)).any (·.1) = false := by intro _; rfl) : Eo c (.Call (.Attribute o m apos) (a :: es) [] pos) (fMethT C m io G fo fs) := by
  obtain ⟨to, po, so⟩ := hr
  obtain ⟨t, q, s⟩ := ha
  refine ⟨tMeth (c.W.cl C) m (spF c.W io G) [] E to t, fun i => ?_, so_methT hE so s⟩
  obtain ⟨f, fd, ps, F, hC, hM, hb⟩ := M i
  have hKj := c.hK i
  exact pe_meth (po i) (by rw [hKj]; exact hC) (by rw [hKj]; exact hM) (by rw [hKj]; exact F) ((c.room i).mono hk) (by rw [hKj]; exact hb) .nil (hx i) (q i) (he i) (hpl i) (ht i)
/-! e[k], where e has an effect -/
theorem eo_ix {e' : Expr} {fo : List T → Option Re} {fb : List T → Option T} (ha : Eo c a fo) (hb : Ev c e' fb) (hs : PlainIx e' := by exact fun _ _ => rfl) : Eo c (.Subscript a e' pos) (fE2 gIx fo fb) := by
  obtain ⟨ta, pa, sa⟩ := ha
  obtain ⟨tb, pb, sb⟩ := hb
  refine ⟨_, fun j => pe_ix (by have h := ix_U (X := c.X j) (c.hu1 j); rw [c.hK j] at h; exact h) (pa j) (pb j) hs, so_2l s2_ix sa sb⟩
end
theorem s2_addI {W : Wd} : S2 W (rI0 fun i j => .int (i + j)) gAddI := s2_i0 fun _ _ _ => rfl
/-! ### a comprehension that goes over what a call with an effect answers -/
theorem ioOk_any {io : List Nat} : ∀ {ts : List T} {i : Nat}, ioOk [] i ts = true → ioOk io i ts = true
  | [], _, _ => rfl
  | t :: ts, i, h => by
    unfold ioOk at h ⊢
    rw [Bool.and_eq_true] at h
    have h1 : isF t = true := h.1
    rw [ioOk_any h.2, h1, Bool.or_true]
    rfl
theorem Cl.noio {P : Program} {w : World} {W : Wd} {mg : Str → Option Value} {base : Heap} {CX : CXT} {k : Nat} {x : Str} {io : List Nat} {G : List T → Option Re} (h : Cl P w W mg base CX k x io G) : Cl P w W mg base CX k x [] G := by
  obtain ⟨f, fd, ps, h, a, b, d⟩ := h
  refine ⟨f, fd, ps, h.imp ?_, a, b, d⟩
  rintro vs H Q E ⟨F, ts, fps, r, h1, hnw, h2, h3, h4, h5, h6⟩
  refine ⟨F, ts, fps, r, h1, hnw, h2, h3, ioOk_any h4, h5, ?_⟩
  cases r with
  | ok τ us => exact fun v F' H' S i => h6 v F' H' S.noio i
  | xc C us => exact fun d F' H' S i => h6 d F' H' S.noio i
def SipO (W : Wd) (P : Sg) (E : L2.St → XK) (wi : TI) (fo : List T → Option Re) : Prop :=
  ∀ b F ρ σ X H r R, Bok P b → SR W b F ρ σ X H → fo ρ = some r → (match r with
    | .ok (.f (.lst ds)) ρ1 => ∀ J F' H', SR W b F' ρ1 σ X H' → Inc F F' → Wk W F' J ds → R J H'
    | .xc C ρ1 => ∀ d F' H', SR W b F' ρ1 σ X H' → Inc F F' → E σ (.ref (W.cl C)) d H'
    | _ => False) → wi σ H R
theorem ipo_val {c : Ctx} {tg e : Expr} {fo : List T → Option Re} (he : Eo c e fo) : ∃ wi, (∀ j, PI (c.X j) tg e wi) ∧ SipO c.W c.P c.E wi fo := by
  obtain ⟨t, q, s⟩ := he
  refine ⟨_, fun j => pi_of (q j) (by have h := iv_U (X := c.X j) (tg := tg); rw [c.hK j] at h; exact h), ?_⟩
  intro b F ρ σ X H r R hb S eq k
  refine s b F ρ σ X H r _ hb S eq ?_
  cases r with
  | xc C ρ1 => exact k
  | ok τ ρ1 =>
    intro v F1 H1 S1 i1
    cases τ with
    | f d =>
      cases d with
      | lst l =>
        obtain ⟨a, vs, ex, hs, r⟩ := S1.top
        subst ex
        exact .inl ⟨a, rfl, ⟨vs, SqL.le S1.le hs⟩, k _ F1 H1 S1.drop i1 (wk_list hs r)⟩
      | _ => exact k.elim
    | _ => exact k.elim
theorem slc_tail {W : Wd} {J : It} {g : TG} {tt : TT} {te : TE} {vs : List Nat} {fg : T → List T → Option (List T)} {ft : List T → Option Bool} {fe : List T → Option T}
    (hg : Sgc W g fg vs) (hgw : ∀ t ρ ρ', fg t ρ = some ρ' → wipeR ρ' vs = wipeR ρ vs) (ht : Stv W tt ft) (he : Sv W te fe) {b : Bs} {F1 : Hp} {ρ : List T} {σ : L2.St} {X : List Tm} {H1 : Hp} {ds es : List D} {Q : VK} (S1 : SR W b F1 ρ σ X H1) (wk : Wk W F1 J ds) (hok : okW ρ vs = true) (e2 : lcF fg ft fe (wipeR ρ vs) ds = some es) (hz : es.length ≤ sizeLine)
    (k : ∀ D0 F' H', SR W b F' ρ σ (⟨none, .l es, .ref D0⟩ :: X) H' → Inc F1 F' → Q (.ref D0) H') : ∀ D, H1 D = none → ∃ Wt : Nat → Nat → Hp → Prop, (∃ m, Wt 0 m (upd H1 D (.lst []))) ∧ ∀ i m H, Wt i m H →
  (J.stop i H ∧ Q (.ref D) H) ∨ (J.go i H ∧ ∃ Nx : Hp → Prop, (∀ H', Nx H' → ∃ m', m' < m ∧ Wt (i + 1) m' H') ∧ ∀ x H', J.yld i H x H' → g x (L2.wipe σ vs) H' fun σ2 H2 => L2.wipe σ2 vs = L2.wipe σ vs ∧ tt σ2 H2 fun b H3 =>
    if b = true then te σ2 H3 fun y H4 => ∃ acc, H4 D = some (.lst acc) ∧ acc.length < sizeLine ∧ Nx (upd H4 D (.lst (acc ++ [y]))) else Nx H3) := by
  intro D0 hD
  have S2 : SR W b F1 ρ σ (⟨none, .l [], .ref D0⟩ :: X) (upd H1 D0 (.lst [])) := S1.own hD ⟨D0, [], rfl, rfl, upd_same, rfl⟩
  have s2 : Same H1 (upd H1 D0 (.lst [])) := fun a u e => by rw [upd_ne (ne_of_none e hD)]; exact e
  refine ⟨fun i m H' => m = ds.length - i ∧ i ≤ ds.length ∧ ∃ F' acc rest, SR W b F' ρ σ (⟨none, .l acc, .ref D0⟩ :: X) H' ∧ Inc F1 F' ∧ Same H1 H' ∧ lcF fg ft fe (wipeR ρ vs) (ds.drop i) = some rest ∧ acc ++ rest = es, ⟨ds.length, by simp, Nat.zero_le _, F1, [], es, S2, Inc.refl F1, s2, e2, rfl⟩, ?_⟩
  rintro i m H' ⟨rfl, hi2, F2, acc, rest, S3, i2, s3, e3, e4⟩
  by_cases hlt : i < ds.length
  · refine .inr ⟨wk.go i F2 H' i2 S3.le hlt, fun H'' => i + 1 ≤ ds.length ∧ ∃ F' acc rest, SR W b F' ρ σ (⟨none, .l acc, .ref D0⟩ :: X) H'' ∧ Inc F1 F' ∧ Same H1 H'' ∧ lcF fg ft fe (wipeR ρ vs) (ds.drop (i + 1)) = some rest ∧ acc ++ rest = es, fun H'' h => ⟨ds.length - (i + 1), by omega, rfl, h⟩, fun x H3 y => ?_⟩
    have hd : ds[i]? = some ds[i] := List.getElem?_eq_getElem hlt
    rw [List.drop_eq_getElem_cons hlt] at e3
    obtain ⟨ρ1, e5, e3⟩ := Option.bind_eq_some_iff.mp (show (fg (.f ds[i]) (wipeR ρ vs)).bind _ = some rest from e3)
    obtain ⟨c, e6, e3⟩ := Option.bind_eq_some_iff.mp e3
    -- the item
    obtain ⟨F3, S4, i3, s4⟩ : ∃ F3, SR W b F3 ρ σ (⟨none, .f ds[i], x⟩ :: ⟨none, .l acc, .ref D0⟩ :: X) H3 ∧ Inc F2 F3 ∧ Same H' H3 := by
      rcases wk.yld i F2 H' x H3 ds[i] i2 S3.le hd y with ⟨e, r⟩ | ⟨p, o, hp, e, ex, r⟩
      · subst e
        exact ⟨F2, S3.push r, Inc.refl F2, Same.refl _⟩
      · subst e ex
        obtain ⟨S', i', s'⟩ := S3.laid (o := o) hp
        exact ⟨_, S'.push (r i'), i', s'⟩
    have S5 := SR.wipes (b := b.noio) rfl vs S4.noio
    have S0 := S4.drop.noio
    refine hg b.noio F3 _ ρ1 _ _ H3 _ x _ S5 rfl e5 fun σ4 F4 H4 S6 i4 s5 hw => ?_
    have hw2 : L2.wipe σ4 vs = L2.wipe σ vs := by rw [hw, wipe_wipe σ vs vs fun v h => h]
    refine ⟨hw2, ?_⟩
    refine ht b.noio F4 ρ1 σ4 _ H4 c _ S6 e6 fun F5 H5 S7 i5 s6 => ?_
    have back : ∀ {F6 H6 Y}, SR W b.noio F6 ρ1 σ4 Y H6 → Inc F3 F6 → SR W b F6 ρ σ Y H6 := fun {F6 H6 Y} R ii => by
      have R1 := SR.wipes (b := b.noio) rfl vs R
      rw [hw2, hgw _ _ _ e5] at R1
      have hwR : wipeR (wipeR ρ vs) vs = wipeR ρ vs := by
        have key : ∀ (l l' : List Nat), (∀ v ∈ l', v ∈ l) → wipeR (wipeR ρ l') l = wipeR ρ l := by
          intro l l'
          induction l' with
          | nil => intro _; rfl
          | cons u l' ih =>
            intro h
            show wipeR ((wipeR ρ l').set u .un) l = _
            rw [wipeR_set (h u List.mem_cons_self)]
            exact ih fun v hv => h v (List.mem_cons_of_mem _ hv)
        exact key vs vs fun v h => h
      rw [hwR] at R1
      exact (SR.unwipes rfl S0 ii hok vs (fun v h => h) R1).io S4.pin.1
    cases c with
    | false =>
      simp only [Bool.false_eq_true, if_false] at e3 ⊢
      exact ⟨hlt, F5, acc, rest, back S7 (i4.trans i5), ((i2.trans i3).trans i4).trans i5, ((s3.trans s4).trans s5).trans s6, e3, e4⟩
    | true =>
      simp only [if_true] at e3 ⊢
      obtain ⟨t, e7, e3⟩ := Option.bind_eq_some_iff.mp e3
      obtain ⟨e, e8, e3⟩ := Option.bind_eq_some_iff.mp e3
      obtain ⟨r, e9, e3⟩ := Option.map_eq_some_iff.mp e3
      subst e3
      cases d_some e8
      refine he b.noio F5 ρ1 σ4 _ H5 _ _ S7 e7 fun w F6 H6 S8 i6 s7 r6 => ?_
      have S9 := back S8 ((i4.trans i5).trans i6)
      obtain ⟨us, hD6, hl6, S10⟩ := S9.topApp r6.rep
      have hlen : acc.length + (r.length + 1) ≤ sizeLine := by
        have := hz
        rw [← e4, List.length_append, List.length_cons] at this
        exact this
      refine ⟨us, hD6, by omega, hlt, F6, acc ++ [e], r, S10, (((i2.trans i3).trans i4).trans i5).trans i6, ?_, e9, by rw [List.append_assoc]; exact e4⟩
      have s10 := (((s3.trans s4).trans s5).trans s6).trans s7
      intro a u ea
      have : a ≠ D0 := fun z => by rw [z, hD] at ea; cases ea
      rw [upd_ne this]
      exact s10 a u ea
  · have hi3 : i = ds.length := by omega
    subst hi3
    rw [List.drop_length] at e3
    cases e3
    rw [List.append_nil] at e4
    subst e4
    refine .inl ⟨wk.stop F2 H' i2 S3.le, ?_⟩
    exact k D0 F2 H' S3 i2
def fLcO (vs : List Nat) (fo : List T → Option Re) (fg : T → List T → Option (List T)) (ft : List T → Option Bool) (fe : List T → Option T) : List T → Option Re := fun ρ => (fo ρ).bind fun r => match r with
  | .xc C ρ1 => some (.xc C ρ1)
  | .ok (.f (.lst ds)) ρ1 => if okW ρ1 vs = true then (lcF fg ft fe (wipeR ρ1 vs) ds).bind fun es => if es.length ≤ sizeLine then some (.ok (.l es) ρ1) else none else none
  | _ => none
theorem so_lcO {W : Wd} {P : Sg} {E : L2.St → XK} {wi : TI} {g : TG} {tt : TT} {te : TE} {vs : List Nat} {fo : List T → Option Re} {fg : T → List T → Option (List T)} {ft : List T → Option Bool} {fe : List T → Option T}
    (hi : SipO W P E wi fo) (hg : Sgc W g fg vs) (hgw : ∀ t ρ ρ', fg t ρ = some ρ' → wipeR ρ' vs = wipeR ρ vs) (ht : Stv W tt ft) (he : Sv W te fe) : So W P E (tLc wi g tt te vs) (fLcO vs fo fg ft fe) := by
  intro b F ρ σ X H r Q hb S e k
  unfold fLcO at e
  obtain ⟨r0, e0, e1⟩ := Option.bind_eq_some_iff.mp e
  refine hi b F ρ σ X H r0 _ hb S e0 ?_
  cases r0 with
  | xc C ρ1 => cases e1; exact k
  | ok τ ρ1 =>
    cases τ with
    | f d =>
      cases d with
      | lst ds =>
        intro J F1 H1 S1 i1 wk
        dsimp only at e1
        split at e1
        · rename_i hok
          obtain ⟨es, e2, e3⟩ := Option.bind_eq_some_iff.mp e1
          split at e3
          · rename_i hz
            cases e3
            exact slc_tail hg hgw ht he S1 wk hok e2 hz fun D0 F' H' S3 i3 => k _ F' H' S3 (i1.trans i3)
          · cases e3
        · cases e1
      | _ => cases e1
    | _ => cases e1
section
variable {c : Ctx} {elt tg iter : Expr} {ifs : List Expr} {scope : Scope} {pos spos : Pos} {fo : List T → Option Re} {fg : T → List T → Option (List T)} {ft : List T → Option Bool} {fe : List T → Option T}
theorem eo_lcO (own : List (Str × Nat)) (hi : Eo c iter fo) (hg : Gc (cB c scope) tg fg (own.map (·.2))) (ht : Tvs (cB c scope) ifs ft) (he : Ev (cB c scope) elt fe) (ok : ∀ j, blkC c.N (c.X j).env.scope scope own = true := by intro _; rfl)
    (hs : ∀ j x, foldedSetIterable iter (c.X j).env x = pure x := by intro _ _; rfl) : Eo c (.ListComp elt [⟨tg, iter, ifs, 0⟩] scope pos) (fLcO (own.map (·.2)) fo fg ft fe) := by
  obtain ⟨wi, pi, si⟩ := ipo_val (tg := tg) hi
  obtain ⟨g, pg, sg, wg⟩ := hg
  obtain ⟨tt, pt, st⟩ := ht
  obtain ⟨te, pe, se⟩ := he
  exact ⟨tLc wi g tt te (own.map (·.2)), fun j => pe_lc (c.calm j) (c.hNd j) (pi j) (blkOk_by (by rw [c.hN j]; exact ok j)) (fun s H C cl fp => pg (j, s, H, C, cl, fp)) (fun s H C cl fp => pt (j, s, H, C, cl, fp)) (fun s H C cl fp => pe (j, s, H, C, cl, fp)) (hs j), so_lcO si sg wg st se⟩
theorem sm_setLcO (i : Nat) {y : Str} {py : Pos} (own : List (Str × Nat)) (hi : Eo c iter fo) (hg : Gc (cB c scope) tg fg (own.map (·.2))) (ht : Tvs (cB c scope) ifs ft) (he : Ev (cB c scope) elt fe) (ok : ∀ j, blkC c.N (c.X j).env.scope scope own = true := by intro _; rfl)
    (hy : c.N[i]? = some y := by rfl) (hyl : ∀ j, (c.X j).env.scope.names.lookup y = some .local := by intro _; rfl) (hio : c.P.io.contains i = false := by rfl)
    (hsw : ∀ j, swapsWith (.ListComp elt [⟨tg, iter, ifs, 0⟩] scope pos) (some (.Name y py)) spos.line (c.X j).env = pure true := by intro _; rfl)
    (hs : ∀ j x, foldedSetIterable iter (c.X j).env x = pure x := by intro _ _; rfl) : Sm c (.Assign [.Name y py] (.ListComp elt [⟨tg, iter, ifs, 0⟩] scope pos) spos) (sSet i (fFz (fLcO (own.map (·.2)) fo fg ft fe))) := by
  obtain ⟨wi, pi, si⟩ := ipo_val (tg := tg) hi
  obtain ⟨g, pg, sg, wg⟩ := hg
  obtain ⟨tt, pt, st⟩ := ht
  obtain ⟨te, pe, se⟩ := he
  refine ⟨tAsg (tLc wi g tt te (own.map (·.2))) (gName i), fun j => ps_setLc (c.calm j) (c.hNd j) (by rw [c.hN j]; exact hy) (hyl j) (hsw j) (pi j) (blkOk_by (by rw [c.hN j]; exact ok j)) (fun s H C cl fp => pg (j, s, H, C, cl, fp)) (fun s H C cl fp => pt (j, s, H, C, cl, fp)) (fun s H C cl fp => pe (j, s, H, C, cl, fp)) (hs j), ?_⟩
  intro b F ρ σ X H o D hb S eq k
  unfold sSet fFz at eq
  obtain ⟨r, e1, eq⟩ := Option.map_eq_some_iff.mp eq
  obtain ⟨r', e2, e3⟩ := Option.bind_eq_some_iff.mp e1
  refine so_lcO (P := c.P) (E := c.E) si sg wg st se b F ρ σ X H r' _ hb S e2 ?_
  cases r' with
  | ok τ ρ1 =>
    obtain ⟨d, e4, e5⟩ := Option.map_eq_some_iff.mp e3
    subst e5 eq
    intro v F1 H1 S1 i1
    obtain ⟨F2, S2, i2⟩ := S1.frz rfl e4
    exact k _ F2 H1 (S2.store (.inl rfl) (.inl (notio hb (notin_of hio)))) (i1.trans i2)
  | xc C ρ1 =>
    cases e3
    subst eq
    exact fun d F' H' S' i' => k d σ F' H' S' i'
end
def kLcO2 (ρ : List T) (ok : Bool) (o : Option (List D)) : Option Re := if ok = true then o.bind fun es => if es.length ≤ sizeLine then some (.ok (.l es) ρ) else none else none
def kLcO (vs : List Nat) (fg : T → List T → Option (List T)) (ft : List T → Option Bool) (fe : List T → Option T) (o : Option Re) : Option Re := o.bind fun r => match r with
  | .xc C ρ1 => some (.xc C ρ1)
  | .ok (.f (.lst ds)) ρ1 => kLcO2 ρ1 (okW ρ1 vs) (lcF fg ft fe (wipeR ρ1 vs) ds)
  | _ => none
theorem wz_fLcO {vs : List Nat} {fo : List T → Option Re} {fg : T → List T → Option (List T)} {ft : List T → Option Bool} {fe : List T → Option T} {ρ : List T} : fLcO vs fo fg ft fe ρ = kLcO vs fg ft fe (fo ρ) := rfl
theorem kLcO_s {vs : List Nat} {fg : T → List T → Option (List T)} {ft : List T → Option Bool} {fe : List T → Option T} {ρ : List T} {ds : List D} : kLcO vs fg ft fe (some (.ok (.f (.lst ds)) ρ)) = kLcO2 ρ (okW ρ vs) (lcF fg ft fe (wipeR ρ vs) ds) := rfl
theorem kLcO2_s {ρ : List T} {es : List D} (h : es.length ≤ 4096) : kLcO2 ρ true (some es) = some (.ok (.l es) ρ) := by
  show (if es.length ≤ sizeLine then _ else _) = _
  exact if_pos (Nat.le_trans h (by decide))
/-! ### a tuple whose parts may have effects; xs.append(.. with an effect ..) -/
def tsOf : List Ar → Option (List T)
  | [] => some []
  | .v t :: r => (tsOf r).map fun ts => t :: ts
  | _ => none
theorem xv_ts {σ : L2.St} : ∀ {as : List Ar} {ts : List T} {vs : List V}, tsOf as = some ts → Args σ as vs → Xv as vs = Xn ts vs ∧ ts.length = vs.length
  | [], _, _, e, g => by
    cases e
    have g' : _ = [] := g
    subst g'
    exact ⟨rfl, rfl⟩
  | .v t :: r, _, _, e, g => by
    obtain ⟨ts, e1, rfl⟩ := Option.map_eq_some_iff.mp (show (tsOf r).map _ = _ from e)
    obtain ⟨v, vr, rfl, g1⟩ := g
    obtain ⟨h1, h2⟩ := xv_ts e1 g1
    exact ⟨by show _ :: Xv r vr = _ :: Xn ts vr; rw [h1], by simp [h2]⟩
  | .s _ :: _, _, _, e, _ => by cases e
  | .a _ :: _, _, _, e, _ => by cases e
def fTupE (fs : List T → Option Rs) : List T → Option Re := fun ρ => (fs ρ).bind fun r => match r with
  | .xc C ρ1 => some (.xc C ρ1)
  | .ok as ρ1 => (tsOf as).bind fun ts => if ts.length ≤ sizeLine then some (.ok (.tu ts) ρ1) else none
section
variable {c : Ctx} {e o : Expr} {es : List Expr} {pos : Pos} {fo : List T → Option Re} {fs : List T → Option Rs}
theorem eo_tupE {m : Nat} (h : Ao c es fs) : Eo c (.Tuple es m pos) (fTupE fs) := by
  obtain ⟨t, p, s⟩ := h
  refine ⟨_, fun j => pe_tup (p j), ?_⟩
  intro b F ρ σ X H r Q hb S e k
  unfold fTupE at e
  obtain ⟨r0, e0, e1⟩ := Option.bind_eq_some_iff.mp e
  refine s b F ρ σ X H r0 _ hb S e0 ?_
  cases r0 with
  | xc C ρ1 => cases e1; exact k
  | ok as ρ1 =>
    obtain ⟨ts, e2, e3⟩ := Option.bind_eq_some_iff.mp e1
    split at e3
    · rename_i hl
      cases e3
      intro vs F1 H1 S1 g1 i1
      obtain ⟨hx, hlen⟩ := xv_ts e2 g1
      rw [hx] at S1
      refine ⟨by rw [← hlen]; exact hl, fun q hq => ?_⟩
      obtain ⟨a1, a2⟩ := Xn_t hlen
      refine k _ F1 _ (S1.bundle hq fun fps r => ?_) i1
      rw [a1, a2] at r
      exact ⟨q, vs, fps, rfl, rfl, upd_same, r⟩
    · cases e3
def sAppE (i : Nat) (fo : List T → Option Re) : FS := fun ρ => ρ[i]?.bind fun u0 => if isLst u0 = true then (fo ρ).bind fun r => match r with
  | .xc C ρ1 => some (.xc C ρ1)
  | .ok t ρ1 => (mutF i [] (appM t) ρ1).map .nx
  else none
theorem sm_appE {i : Nat} {apos cpos : Pos} (ho : Lo c o i pHere) (he : Eo c e fo)
    (hbase : ∀ j, attributeBase o "append" (c.X j).env (eval o (c.X j).env) = eval o (c.X j).env := by intro _; rfl)
    (hfew : ∀ j, ((backTo cpos (starEach [e] (c.X j).env)).all (fun x => !x.1) && (backToKw cpos (keywordEach [] (c.X j).env)).all (fun x => x.1.isSome)
      && decide (([e] : List Expr).length + ([] : List Keyword).length + (if ([] : List Keyword).isEmpty then 0 else 1) < 30)) = true := by intro _; rfl)
    (hline : (apos.endLine == cpos.line) = true := by rfl) (hs : ∀ j, starEach [e] (c.X j).env = (false, eval e (c.X j).env) :: starEach [] (c.X j).env := by intro _; rfl) (hplain : ∀ j, (backTo cpos (starEach [] (c.X j).env)).any (·.1) = false := by intro _; rfl)
    (hsw : ∀ j, swapsWith (.Call (.Attribute o "append" apos) [e] [] cpos) none pos.line (c.X j).env = pure false := by intro _; rfl) :
    Sm c (.Expr (.Call (.Attribute o "append" apos) [e] [] cpos) pos) (sAppE i fo) := by
  obtain ⟨to, po, so⟩ := ho
  obtain ⟨te, pe, se⟩ := he
  refine ⟨tDrop (tBM c.W.K "list" rAppend to (tCons te tNil)), fun j => by
    have h := ps_expr (pe_bm PySem.F.plainAttrs_list PySem.F.slot_list_append PySem.F.type_list_append mt_append (po j) (pa_cons (pe j) pa_nil (hs j)) (hbase j) (hfew j) hline (hs j) (hplain j)) (hsw j)
    rw [c.hK j] at h
    exact h, ?_⟩
  intro b F ρ σ X H out D hb S eq k
  unfold sAppE at eq
  obtain ⟨u0, e2, eq⟩ := Option.bind_eq_some_iff.mp eq
  split at eq
  · rename_i hlst
    have hown : owned u0 = true := by cases u0 <;> first | rfl | cases hlst
    obtain ⟨r, e3, eq⟩ := Option.bind_eq_some_iff.mp eq
    refine so b F ρ σ X H [] u0 u0 _ S rfl e2 rfl hown fun p v F1 H1 S1 i1 s1 hv hat => ?_
    have hl1 : ∃ vs, H1 p = some (.lst vs) := by
      obtain ⟨fu, q1⟩ := S1.part e2 hv rfl hat
      cases u0 with
      | l ds => obtain ⟨p', vs, ep, _, hp, _⟩ := q1; cases ep; exact ⟨vs, hp⟩
      | ll ts => obtain ⟨p', vs, fps, ep, _, hp, _⟩ := q1; cases ep; exact ⟨vs, hp⟩
      | _ => cases hlst
    obtain ⟨vs0, hl1⟩ := hl1
    refine ⟨.inl ⟨rfl, vs0, SqL.of hl1⟩, ?_⟩
    refine se b F1 ρ σ X H1 r _ hb S1 e3 ?_
    cases r with
    | xc C ρ1 =>
      cases eq
      intro d F2 H2 S2 i2
      exact k d σ F2 H2 S2 (i1.trans i2)
    | ok t ρ1 =>
      obtain ⟨ρ', e4, eq⟩ := Option.map_eq_some_iff.mp eq
      subst eq
      intro y F2 H2 S2 i2
      obtain ⟨vs, hp, hz, S3⟩ := S2.appM e4 hv hat
      exact ⟨p, vs, y, rfl, rfl, hp, hz, k σ F2 _ S3 (i1.trans i2)⟩
  · cases eq
end
def kTupE (o : Option Rs) : Option Re := o.bind fun r => match r with
  | .xc C ρ1 => some (.xc C ρ1)
  | .ok as ρ1 => (tsOf as).bind fun ts => if ts.length ≤ sizeLine then some (.ok (.tu ts) ρ1) else none
def kAE (i : Nat) (u0 : Option T) (o : Option Re) : Option Out := u0.bind fun u0 => if isLst u0 = true then o.bind fun r => match r with
  | .xc C ρ1 => some (.xc C ρ1)
  | .ok t ρ1 => (mutF i [] (appM t) ρ1).map .nx
  else none
def kAE2 (i : Nat) (t : T) (ρ1 : List T) (u : Option T) : Option Out := (u.bind fun u => appM t u).map fun u' => .nx (ρ1.set i u')
theorem walksE : (∀ (fs : List T → Option Rs) (ρ : List T), fTupE fs ρ = kTupE (fs ρ)) ∧ (∀ (a b : T) (ρ : List T), kTupE (some (.ok [.v a, .v b] ρ)) = some (.ok (.tu [a, b]) ρ)) ∧ (∀ (a b d : T) (ρ : List T), kTupE (some (.ok [.v a, .v b, .v d] ρ)) = some (.ok (.tu [a, b, d]) ρ)) ∧
    (∀ (a b d e : T) (ρ : List T), kTupE (some (.ok [.v a, .v b, .v d, .v e] ρ)) = some (.ok (.tu [a, b, d, e]) ρ)) ∧ (∀ (i : Nat) (fo : List T → Option Re) (ρ : List T), sAppE i fo ρ = kAE i ρ[i]? (fo ρ)) ∧
    (∀ (i : Nat) (ds : List D) (t : T) (ρ : List T), kAE i (some (.l ds)) (some (.ok t ρ)) = kAE2 i t ρ ρ[i]?) ∧ (∀ (i : Nat) (ds : List D) (d : D) (ρ : List T), ds.length ≤ 4096 → kAE2 i (.f d) ρ (some (.l ds)) = some (.nx (ρ.set i (.l (ds ++ [d]))))) := by
  refine ⟨fun _ _ => rfl, fun _ _ _ => rfl, fun _ _ _ _ => rfl, fun _ _ _ _ _ => rfl, fun _ _ _ => rfl, fun i ds t ρ => ?_, fun i ds d ρ h => ?_⟩
  · show (mutF i [] (appM t) ρ).map Out.nx = _
    unfold mutF kAE2
    cases ρ[i]? with
    | none => rfl
    | some u =>
      show ((appM t u).map fun u' => ρ.set i (u.putP [] u')).map Out.nx = ((appM t u).map fun u' => Out.nx (ρ.set i u'))
      cases appM t u <;> rfl
  · show (if ds.length < sizeLine then some (T.l (ds ++ [d])) else none).map (fun u' => Out.nx (ρ.set i u')) = _
    rw [if_pos (Nat.lt_of_le_of_lt h (by decide))]
    rfl
/-! ### isinstance(e, C), C a class of the program -/
structure ClsI (K : PySem.W.Frag) (C : Addr) : Prop where
  ha : PySem.W.findIn K (.ref C) "__class__" = some (some (.builtin "object.__class__"))
  hn : PySem.W.specialIn K (.builtin "object.__class__") "__get__" = some (some (.builtin "getset_descriptor.__get__"))
  htk : PySem.W.takesIn K (.builtin "object.__class__") = some true
  hm : PySem.W.mroIn K C (.type "object") = some true
def fIsiC (C : Nat) (fa : List T → Option T) : List T → Option T := fun ρ => (fa ρ).bind fun t => match t with
  | .f (.obj C' _ _) => if C' = C then some (.f (.bl true)) else none
  | _ => none
theorem ev_isiC {c : Ctx} {a : Expr} {fa : List T → Option T} {pos p p2 : Pos} {x : Str} {CX : CXT} {k C : Nat} {io : List Nat} {G : List T → Option Re} (hg : ∀ j, Gl (c.X j) "isinstance") (hm : ∀ j, (c.X j).mg "isinstance" = none) (ha : Ev c a fa) (hg2 : ∀ j, Gl (c.X j) x) (M : ∀ j, ClM (c.X j).prog (c.X j).w c.W (c.X j).mg (c.X j).base CX k x C io G) (hC : Cls c.W.K (c.W.cl C)) (hI : ClsI c.W.K (c.W.cl C)) (hdb : (x == ("__debug__" : Str)) = false := by decide)
    (he : ∀ j, starEach [a, .Name x p2] (c.X j).env = (false, eval a (c.X j).env) :: starEach [.Name x p2] (c.X j).env := by intro _; rfl) (he2 : ∀ j, starEach [.Name x p2] (c.X j).env = (false, eval (.Name x p2) (c.X j).env) :: starEach [] (c.X j).env := by intro _; rfl) (hpl : ∀ j, (backTo pos (starEach [.Name x p2] (c.X j).env)).any (·.1) = false := by intro _; rfl) :
    Ev c (.Call (.Name "isinstance" p) [a, .Name x p2] [] pos) (fIsiC C fa) := by
  obtain ⟨t, q, s⟩ := ha
  refine ⟨tCB (rIsi c.W.K) (tCons t (tCons (tC (.ref (c.W.cl C))) tNil)), fun j => ?_, ?_⟩
  · obtain ⟨f, fd, ps, F, hmg, hM, hb⟩ := M j
    have h := pe_callB (p := p) (pos := pos) (call_isi (X := c.X j)) (hg j) (hm j) (by decide +kernel) (pa_cons (q j) (pa_cons (pe_glob (v := .ref (c.W.cl C)) (pos := p2) (hg2 j) hmg rfl hdb) pa_nil (he2 j)) (he j)) (by decide) (by decide) (he j) (hpl j)
    rw [c.hK j] at h
    exact h
  intro b F ρ σ X H τ Q S e k
  obtain ⟨t1, e1, e2⟩ := Option.bind_eq_some_iff.mp e
  clear e
  refine s b F ρ σ X H t1 _ S e1 fun v F1 H1 S1 i1 s1 r1 => ?_
  cases t1 with
  | f d =>
    cases d with
    | obj C' ns ds =>
      dsimp only at e2
      split at e2
      · rename_i hc
        subst hc
        cases e2
        obtain ⟨p, dx, kvs, ev, hp, hk, r⟩ := r1.rep
        subst ev
        refine ⟨.ref p, _, .ref (c.W.cl C'), _, true, rfl, .own _, .base (.ins (ins_le S1.le hp) hC hI.ha hI.hn hI.htk hI.hm), ?_, (k.mono i1 s1).d S1 rfl⟩
        unfold PySem.W.kitOne
        exact if_pos (beq_self_eq_true _)
      · cases e2
    | _ => cases e2
  | _ => cases e2
def gIsiC (C : Nat) (t : T) : Option T := match t with
  | .f (.obj C' _ _) => if C' = C then some (.f (.bl true)) else none
  | _ => none
def kIsiC (C : Nat) (o : Option T) : Option T := o.bind (gIsiC C)
theorem walksI : (∀ (C : Nat) (fa : List T → Option T) (ρ : List T), fIsiC C fa ρ = kIsiC C (fa ρ)) ∧ (∀ (ns : List Str) (ds : List D), kIsiC 0 (some (.f (.obj 0 ns ds))) = some (.f (.bl true))) := ⟨fun _ _ _ => rfl, fun _ _ => rfl⟩
end Z

namespace Z
open PySem PySem.Spec PyProof.Rows L2
/-! ### a thing of one's own becomes deep data whose lists are known to be new -/
mutual
def T.fzN : T → Option D
  | .un => none
  | .f d => some d
  | .l ds => some (.nst ds)
  | .dk ks ds => some (.dct ks ds)
  | .di _ _ => none
  | .ll ts => (T.fzNs ts).map .nst
  | .tu ts => (T.fzNs ts).map .tup
  | .o C ns ts => (T.fzNs ts).map (.obj C ns)
  | .ln _ => none
  | .gb _ => none
  | .rg _ => none
def T.fzNs : List T → Option (List D)
  | [] => some []
  | t :: ts => (T.fzN t).bind fun d => (T.fzNs ts).map fun ds => d :: ds
end
section
variable {W : Wd} {b : Bs} {F F' : Hp} {ρ : List T} {σ : L2.St} {X : List Tm} {H H' : Hp}
mutual
theorem RelT.fzN (hF : Inc F F') : ∀ (t : T) (v : V) (fp : List Addr) (d : D), RelT W F H t v fp → (∀ a ∈ fp, F' a = H a) → (∀ a ∈ fp, W.nw a) → t.fzN = some d → Rep W F' d v
  | .un, _, _, _, _, _, _, e => by unfold T.fzN at e; cases e
  | .f d, _, _, _, r, _, _, e => by
    unfold T.fzN at e
    cases e
    exact r.2.inc hF
  | .l ds, _, _, _, r, h, n, e => by
    unfold T.fzN at e
    cases e
    obtain ⟨p, vs, e1, e2, e3, q⟩ := r
    have hm : p ∈ [p] := List.mem_singleton.mpr rfl
    exact ⟨p, vs, e1, by rw [h p (by rw [e2]; exact hm)]; exact e3, n p (by rw [e2]; exact hm), q.inc hF⟩
  | .dk ks ds, _, _, _, r, h, n, e => by
    unfold T.fzN at e
    cases e
    obtain ⟨p, kvs, e1, e2, e3, k, q⟩ := r
    exact ⟨p, kvs, e1, .inl (by rw [h p (by rw [e2]; exact List.mem_singleton.mpr rfl)]; exact e3), k, q.inc hF⟩
  | .di _ _, _, _, _, _, _, _, e => by unfold T.fzN at e; cases e
  | .ll ts, _, _, _, r, h, n, e => by
    unfold T.fzN at e
    obtain ⟨ds, e0, e⟩ := Option.map_eq_some_iff.mp e
    subst e
    obtain ⟨p, vs, fps, e1, e2, e3, q⟩ := r
    exact ⟨p, vs, e1, by rw [h p (by rw [e2]; exact List.mem_cons_self)]; exact e3, n p (by rw [e2]; exact List.mem_cons_self), RelTs.fzN hF ts vs fps ds q (fun a ha => h a (by rw [e2]; exact List.mem_cons_of_mem _ ha)) (fun a ha => n a (by rw [e2]; exact List.mem_cons_of_mem _ ha)) e0⟩
  | .tu ts, _, _, _, r, h, n, e => by
    unfold T.fzN at e
    obtain ⟨ds, e0, e⟩ := Option.map_eq_some_iff.mp e
    subst e
    obtain ⟨p, vs, fps, e1, e2, e3, q⟩ := r
    exact ⟨p, vs, e1, .inl (.inl (by rw [h p (by rw [e2]; exact List.mem_cons_self)]; exact e3)), RelTs.fzN hF ts vs fps ds q (fun a ha => h a (by rw [e2]; exact List.mem_cons_of_mem _ ha)) (fun a ha => n a (by rw [e2]; exact List.mem_cons_of_mem _ ha)) e0⟩
  | .o C ns ts, _, _, _, r, h, n, e => by
    unfold T.fzN at e
    obtain ⟨ds, e0, e⟩ := Option.map_eq_some_iff.mp e
    subst e
    obtain ⟨p, dx, kvs, fps, e1, e2, e3, k, q⟩ := r
    exact ⟨p, dx, kvs, e1, by rw [h p (by rw [e2]; exact List.mem_cons_self)]; exact e3, k, RelTs.fzN hF ts _ fps ds q (fun a ha => h a (by rw [e2]; exact List.mem_cons_of_mem _ ha)) (fun a ha => n a (by rw [e2]; exact List.mem_cons_of_mem _ ha)) e0⟩
  | .ln _, _, _, _, _, _, _, e => by unfold T.fzN at e; cases e
  | .gb _, _, _, _, _, _, _, e => by unfold T.fzN at e; cases e
  | .rg _, _, _, _, _, _, _, e => by unfold T.fzN at e; cases e
theorem RelTs.fzN (hF : Inc F F') : ∀ (ts : List T) (vs : List V) (fps : List (List Addr)) (ds : List D), RelTs W F H ts vs fps → (∀ a ∈ fps.flatten, F' a = H a) → (∀ a ∈ fps.flatten, W.nw a) → T.fzNs ts = some ds → Reps W F' ds vs
  | [], _, _, _, r, _, _, e => by
    unfold T.fzNs at e
    cases e
    exact r.1
  | t :: ts, _, _, _, r, h, n, e => by
    unfold T.fzNs at e
    obtain ⟨d, e1, e⟩ := Option.bind_eq_some_iff.mp e
    obtain ⟨ds, e2, e⟩ := Option.map_eq_some_iff.mp e
    subst e
    obtain ⟨v, vr, f, fr, e3, e4, a, b⟩ := r
    subst e4
    rw [List.flatten_cons] at h n
    exact ⟨v, vr, e3, RelT.fzN hF t v f d a (fun x hx => h x (List.mem_append_left _ hx)) (fun x hx => n x (List.mem_append_left _ hx)) e1, RelTs.fzN hF ts vr fr ds b (fun x hx => h x (List.mem_append_right _ hx)) (fun x hx => n x (List.mem_append_right _ hx)) e2⟩
end
theorem SR.frzN {x : Tm} {d : D} (S : SR W b F ρ σ (x :: X) H) (ho : x.og = none) (hd : x.t.fzN = some d) : ∃ F', SR W b F' ρ σ (⟨none, .f d, x.v⟩ :: X) H ∧ Inc F F' := by
  obtain ⟨le, f0, fn, kept, stab, pin, fps, xps, s1, s2, ⟨nd, ow⟩, lc1, lc2⟩ := S
  obtain ⟨v, vr, f, fr, e1, e2, r, r2⟩ := s2
  have e3 : x.v = v := (List.cons.inj e1).1
  have e4 : X.map (·.v) = vr := (List.cons.inj e1).2
  subst e2 e3 e4
  rw [List.flatten_cons] at nd ow
  have n := List.nodup_append.mp nd
  have n2 := List.nodup_append.mp n.2.1
  have there := RelT.there _ _ _ r
  have new : ∀ a ∈ f, b.H0 a = none ∨ a ∈ b.A := fun a ha => lc2.1 a ha
  refine ⟨fun a => if a ∈ f then H a else F a, ⟨?_, ?_, ?_, kept, stab, pin, fps, [] :: fr, s1.mono ?_ fun _ _ => rfl, ⟨_, _, _, _, rfl, rfl, ⟨rfl, RelT.fzN ?_ _ _ f d r (fun a ha => if_pos ha) (fun a ha => pin.2 a (new a ha)) hd⟩, RelTs.mono ?_ _ _ _ (fun _ _ => rfl) r2⟩, ⟨?_, fun a ha => ?_⟩, lc1, fun a ha => (by cases ha), lc2.2⟩, ?_⟩
  case refine_1 =>
    intro a o e
    by_cases h : a ∈ f
    · simp only [if_pos h] at e; exact .inl e
    · simp only [if_neg h] at e; exact le a o e
  case refine_3 =>
    intro a o e
    by_cases h : a ∈ f
    · exact .inr (new a h)
    · simp only [if_neg h] at e; exact fn a o e
  case refine_7 =>
    rw [List.flatten_cons, List.nil_append]
    exact List.nodup_append.mpr ⟨n.1, n2.2.1, fun a ha c hc e => n.2.2 a ha c (List.mem_append_right _ hc) e⟩
  case refine_8 =>
    rw [List.flatten_cons, List.nil_append] at ha
    have nf : a ∉ f := fun z => by
      rcases List.mem_append.mp ha with y | y
      · exact n.2.2 a y a (List.mem_append_left _ z) rfl
      · exact n2.2.2 a z a y rfl
    simp only [if_neg nf]
    rcases List.mem_append.mp ha with y | y
    · exact ow a (List.mem_append_left _ y)
    · exact ow a (List.mem_append_right _ (List.mem_append_right _ y))
  all_goals
    have i : Inc F (fun a => if a ∈ f then H a else F a) := fun a o e => by
      by_cases h : a ∈ f
      · rw [ow a (List.mem_append_right _ (List.mem_append_left _ h))] at e; cases e
      · show (if a ∈ f then H a else F a) = some o
        rw [if_neg h]; exact e
    first
      | exact i
      | exact f0.trans i
end
def fFzN (f : List T → Option Re) : List T → Option Re := fun ρ => (f ρ).bind fun r => match r with
  | .ok t ρ' => t.fzN.map fun d => .ok (.f d) ρ'
  | r => some r
theorem eo_fzN {c : Ctx} {e : Expr} {fo : List T → Option Re} (h : Eo c e fo) : Eo c e (fFzN fo) := by
  obtain ⟨t, p, s⟩ := h
  refine ⟨t, p, ?_⟩
  intro b F ρ σ X H r Q hb S e k
  unfold fFzN at e
  obtain ⟨r', e1, e⟩ := Option.bind_eq_some_iff.mp e
  refine s b F ρ σ X H r' Q hb S e1 ?_
  cases r' with
  | ok t ρ' =>
    obtain ⟨d, e2, e⟩ := Option.map_eq_some_iff.mp e
    subst e
    intro v F' H' S' i
    obtain ⟨F2, S2, i2⟩ := S'.frzN rfl e2
    exact k v F2 H' S2 (i.trans i2)
  | xc C ρ' =>
    cases e
    exact k
def fzSN (i : Nat) (ρ : List T) : Option (List T) := match ρ[i]? with
  | some .un => some ρ
  | some t => t.fzN.map fun d => ρ.set i (.f d)
  | none => none
def sFzN (i : Nat) (f : FS) : FS := fun ρ => (fzSN i ρ).bind f
theorem sms_fzN (i : Nat) {c : Ctx} {ss : List Stmt} {f : FS} (h : Sms c ss f) (hm : Nat.ble c.P.m i = true := by rfl) (hio : c.P.io.contains i = false := by rfl) : Sms c ss (sFzN i f) := by
  obtain ⟨t, p, q⟩ := h
  refine ⟨t, p, ?_⟩
  intro b F ρ σ X H o D hb S e k
  unfold sFzN at e
  obtain ⟨ρ1, e1, e⟩ := Option.bind_eq_some_iff.mp e
  unfold fzSN at e1
  cases q1 : ρ[i]? with
  | none => rw [q1] at e1; cases e1
  | some t1 =>
    by_cases hu : t1 = .un
    · subst hu
      rw [q1] at e1
      cases e1
      exact q b F ρ σ X H o D hb S e k
    · obtain ⟨d, e2, e3⟩ : ∃ d, t1.fzN = some d ∧ ρ.set i (.f d) = ρ1 := by
        rw [q1] at e1
        cases t1 with
        | un => exact absurd rfl hu
        | _ => exact Option.map_eq_some_iff.mp e1
      subst e3
      obtain ⟨s, fp, e4, r⟩ := S.slot q1
      cases s with
      | none => exact absurd r.1 hu
      | some v =>
        have S' := S.take q1 e4
        have S2 : SR c.W b F (ρ.set i .un) σ (⟨none, t1, v⟩ :: X) H := by
          obtain ⟨le, f0, fn, kept, stab, pin, fps, xps, s1, s2, ow, lc1, lc2⟩ := S'
          refine ⟨le, f0, fn, kept, stab, pin, fps, xps, s1, s2, ow, lc1, ?_⟩
          cases xps with
          | nil => exact trivial
          | cons f fs => exact lc2
        obtain ⟨F3, S3, i3⟩ := S2.frzN rfl e2
        have S4 := S3.store (i := i) (.inl rfl) (.inl (notio hb (notin_of hio)))
        have eσ : σ.set i (some v) = σ := by
          apply List.ext_getElem?
          intro j
          by_cases h : j = i
          · subst h
            have := (List.getElem?_eq_some_iff.mp e4).1
            rw [List.getElem?_set_self (by omega), e4]
          · rw [List.getElem?_set_ne (fun e => h e.symm)]
        rw [eσ, List.set_set] at S4
        exact q b F3 _ σ X H o D hb S4 e (k.mono i3)
/-! ### a call whose lists are new -/
mutual
/-- no list of it is known to be new -/
def D.old : D → Bool
  | .tup l => D.olds l
  | .lst l => D.olds l
  | .nst _ => false
  | .dct _ ds => D.olds ds
  | .obj _ _ ds => D.olds ds
  | .non => true
  | .bl _ => true
  | .int _ => true
  | .str _ => true
def D.olds : List D → Bool
  | [] => true
  | d :: ds => D.old d && D.olds ds
end
mutual
theorem Rep.old {W : Wd} {F : Hp} {P : Addr → Prop} : ∀ (d : D) (v : V), Rep W F d v → d.old = true → Rep (W.re P) F d v
  | .non, _, r, _ => r
  | .bl _, _, r, _ => r
  | .int _, _, r, _ => r
  | .str _, _, r, _ => r
  | .tup l, _, ⟨p, vs, e, s, q⟩, h => ⟨p, vs, e, s, Reps.old l vs q h⟩
  | .lst l, _, ⟨p, vs, e, s, q⟩, h => ⟨p, vs, e, s, Reps.old l vs q h⟩
  | .nst l, _, _, h => nomatch h
  | .dct ks ds, _, ⟨p, kvs, e, s, k, q⟩, h => ⟨p, kvs, e, s, k, Reps.old ds _ q h⟩
  | .obj C ns ds, _, ⟨p, dx, kvs, e, s, k, q⟩, h => ⟨p, dx, kvs, e, s, k, Reps.old ds _ q h⟩
theorem Reps.old {W : Wd} {F : Hp} {P : Addr → Prop} : ∀ (ds : List D) (vs : List V), Reps W F ds vs → D.olds ds = true → Reps (W.re P) F ds vs
  | [], _, r, _ => r
  | d :: ds, _, ⟨v, vr, e, a, b⟩, h => by
    have h' : (D.old d && D.olds ds) = true := h
    rw [Bool.and_eq_true] at h'
    exact ⟨v, vr, e, Rep.old d v a h'.1, Reps.old ds vr b h'.2⟩
end
theorem Reps.cat {W : Wd} {F : Hp} {P Q : Addr → Prop} {ds : List D} {vs : List V} (h : Reps (W.re P) F ds vs) (i : ∀ a, P a → Q a) : Reps (W.re Q) F ds vs := Reps.nwi i ds vs h
mutual
/-- the new lists of deep data, gathered -/
theorem Rep.gather {W : Wd} {F : Hp} : ∀ (d : D) (v : V), Rep W F d v → ∃ fr : List Addr, (∀ a ∈ fr, W.nw a ∧ ∃ vs, F a = some (.lst vs)) ∧ Rep (W.re (· ∈ fr)) F d v
  | .non, _, r => ⟨[], (fun _ h => nomatch h), r⟩
  | .bl _, _, r => ⟨[], (fun _ h => nomatch h), r⟩
  | .int _, _, r => ⟨[], (fun _ h => nomatch h), r⟩
  | .str _, _, r => ⟨[], (fun _ h => nomatch h), r⟩
  | .tup l, _, ⟨p, vs, e, s, q⟩ => let ⟨fr, h1, h2⟩ := Reps.gather l vs q; ⟨fr, h1, p, vs, e, s, h2⟩
  | .lst l, _, ⟨p, vs, e, s, q⟩ => let ⟨fr, h1, h2⟩ := Reps.gather l vs q; ⟨fr, h1, p, vs, e, s, h2⟩
  | .nst l, _, ⟨p, vs, e, s, n, q⟩ => let ⟨fr, h1, h2⟩ := Reps.gather l vs q; ⟨p :: fr, fun a ha => (List.mem_cons.mp ha).elim (fun z => by rw [z]; exact ⟨n, vs, s⟩) (h1 a), p, vs, e, s, List.mem_cons_self, h2.cat fun a ha => List.mem_cons_of_mem _ ha⟩
  | .dct ks ds, _, ⟨p, kvs, e, s, k, q⟩ => let ⟨fr, h1, h2⟩ := Reps.gather ds _ q; ⟨fr, h1, p, kvs, e, s, k, h2⟩
  | .obj C ns ds, _, ⟨p, dx, kvs, e, s, k, q⟩ => let ⟨fr, h1, h2⟩ := Reps.gather ds _ q; ⟨fr, h1, p, dx, kvs, e, s, k, h2⟩
theorem Reps.gather {W : Wd} {F : Hp} : ∀ (ds : List D) (vs : List V), Reps W F ds vs → ∃ fr : List Addr, (∀ a ∈ fr, W.nw a ∧ ∃ vs, F a = some (.lst vs)) ∧ Reps (W.re (· ∈ fr)) F ds vs
  | [], _, r => ⟨[], (fun _ h => nomatch h), r⟩
  | d :: ds, _, ⟨v, vr, e, a, b⟩ =>
    let ⟨f1, h1, h2⟩ := Rep.gather d v a
    let ⟨f2, h3, h4⟩ := Reps.gather ds vr b
    ⟨f1 ++ f2, fun a ha => (List.mem_append.mp ha).elim (h1 a) (h3 a), v, vr, e, Rep.nwi (fun a ha => List.mem_append_left _ ha) d v h2, h4.cat fun a ha => List.mem_append_right _ ha⟩
end
def once : List Addr → List Addr
  | [] => []
  | a :: l => if a ∈ once l then once l else a :: once l
theorem once_mem {a : Addr} : ∀ {l : List Addr}, a ∈ once l ↔ a ∈ l
  | [] => Iff.rfl
  | c :: l => by
    unfold once
    split
    · rename_i h
      rw [once_mem, List.mem_cons]
      exact ⟨.inr, fun z => z.elim (fun e => by rw [e]; exact once_mem.mp h) id⟩
    · rw [List.mem_cons, List.mem_cons, once_mem]
theorem once_nd : ∀ (l : List Addr), (once l).Nodup
  | [] => List.nodup_nil
  | c :: l => by
    unfold once
    split
    · exact once_nd l
    · rename_i h
      exact List.nodup_cons.mpr ⟨h, once_nd l⟩
/-- nothing is changed, a thing of new parts is held besides -/
theorem SR.region {W : Wd} {b : Bs} {F F' : Hp} {ρ : List T} {σ : L2.St} {X : List Tm} {H H' : Hp} {fp : List Addr} {t : T} {v : V} (S : SR W b F ρ σ X H) (hH : Same H H') (hF : Inc F F') (hL : Le F' H') (hn : ∀ a o, F' a = some o → F a = some o ∨ H a = none) (nd : fp.Nodup) (hfp : ∀ a ∈ fp, H a = none ∧ F' a = none) (ht : RelT W F' H' t v fp) : SR W b F' ρ σ (⟨none, t, v⟩ :: X) H' := by
  have S' := S.ext hH hF hL hn
  have new : ∀ a ∈ fp, b.H0 a = none := fun a ha => S.new0 (hfp a ha).1
  obtain ⟨_, _, _, _, _, _, fps, xps, s1, s2, ⟨nd0, ow0⟩, lc1, lc2⟩ := S
  obtain ⟨le, f0, fn, kept, stab, pin, _⟩ := S'
  have there : ∀ a ∈ fps.flatten ++ xps.flatten, ∃ o, H a = some o := fun a ha => by
    rcases List.mem_append.mp ha with z | z
    · exact Slots.there s1 a z
    · exact RelTs.there _ _ _ s2 a z
  have stay : ∀ a ∈ fps.flatten ++ xps.flatten, H' a = H a := fun a ha => by
    obtain ⟨o, e⟩ := there a ha
    rw [e]
    exact hH _ _ e
  have dis : ∀ a ∈ fps.flatten ++ xps.flatten, a ∉ fp := fun a ha h => by
    obtain ⟨o, e⟩ := there a ha
    rw [(hfp a h).1] at e
    cases e
  have n := List.nodup_append.mp nd0
  refine ⟨le, f0, fn, kept, stab, pin, fps, fp :: xps, s1.mono hF (fun a ha => stay a (List.mem_append_left _ ha)), ⟨_, _, _, _, rfl, rfl, ht, RelTs.mono hF _ _ _ (fun a ha => stay a (List.mem_append_right _ ha)) s2⟩, ⟨?_, fun a ha => ?_⟩, lc1, fun a ha => .inl (new a ha), lc2⟩
  · rw [List.flatten_cons]
    refine List.nodup_append.mpr ⟨n.1, List.nodup_append.mpr ⟨nd, n.2.1, fun a ha c hc e => ?_⟩, fun a ha c hc e => ?_⟩
    · subst e
      exact dis a (List.mem_append_right _ hc) ha
    · subst e
      rcases List.mem_append.mp hc with z | z
      · exact dis a (List.mem_append_left _ ha) z
      · exact n.2.2 a ha a z rfl
  · rw [List.flatten_cons] at ha
    rcases List.mem_append.mp ha with z | z
    · cases q : F' a with
      | none => rfl
      | some u =>
        obtain ⟨o, e⟩ := there a (List.mem_append_left _ z)
        rcases hn a u q with y | y
        · rw [ow0 a (List.mem_append_left _ z)] at y; cases y
        · rw [e] at y; cases y
    · rcases List.mem_append.mp z with z | z
      · exact (hfp a z).2
      · cases q : F' a with
        | none => rfl
        | some u =>
          obtain ⟨o, e⟩ := there a (List.mem_append_right _ z)
          rcases hn a u q with y | y
          · rw [ow0 a (List.mem_append_right _ z)] at y; cases y
          · rw [e] at y; cases y
/-- a def that may be called whatever is new -/
structure ClN (P : Program) (w : World) (W : Wd) (mg : Str → Option Value) (base : Heap) (CX : CXT) (k : Nat) (x : Str) (io : List Nat) (G : List T → Option Re) : Prop where
  ex : ∃ f fd ps, (∀ nw, FnOk P w W.K mg base CX k f fd ps (spF (W.re nw) io G)) ∧ mg x = some (.ref f) ∧ PySem.W.keepIn W.K (.ref f) = true ∧ Binds W.K fd ps []
theorem ClN.mk' {P : Program} {w : World} {W : Wd} {mg : Str → Option Value} {base : Heap} {CX : CXT} {k : Nat} {x : Str} {io : List Nat} {G : List T → Option Re} {f : Addr} {fd : FuncData} {ps : List Str} (h : ∀ nw, FnOk P w W.K mg base CX k f fd ps (spF (W.re nw) io G)) (hm : mg x = some (.ref f)) (hk : PySem.W.keepIn W.K (.ref f) = true) (hb : Binds W.K fd ps []) : ClN P w W mg base CX k x io G := ⟨f, fd, ps, h, hm, hk, hb⟩
theorem ClN.cl {P : Program} {w : World} {W : Wd} {mg : Str → Option Value} {base : Heap} {CX : CXT} {k : Nat} {x : Str} {io : List Nat} {G : List T → Option Re} (h : ClN P w W mg base CX k x io G) : Cl P w W mg base CX k x io G := by
  obtain ⟨f, fd, ps, h, a, b, d⟩ := h.ex
  exact .mk' (h W.nw) a b d
/-- the promise of a def whose new things are what does not stand when it is called -/
def spN (W : Wd) (G : List T → Option Re) : Sp := fun vs H Q E => spF (W.re fun a => H a = none) [] G vs H Q E
def fCallN (G : List T → Option Re) (fs : List T → Option (List T)) : List T → Option Re := fun ρ => (fs ρ).bind fun ts => (T.fzs ts).bind fun ds => if (ts.all isF && D.olds ds) = true then (G (ds.map .f)).bind fun r => match r with
  | .ok (.l es) _ => some (.ok (.ln es) ρ)
  | _ => none else none
theorem so_callN {W : Wd} {P : Sg} {E0 : L2.St → XK} {E : XK} {t : TA} {fs : List T → Option (List T)} {G : List T → Option Re} (h : Sav W t fs) : So W P E0 (tCall (spN W G) [] E t) (fCallN G fs) := by
  intro b F ρ σ X H r Q hb S e k
  unfold fCallN at e
  obtain ⟨ts, e1, e⟩ := Option.bind_eq_some_iff.mp e
  obtain ⟨ds, e2, e⟩ := Option.bind_eq_some_iff.mp e
  split at e
  · rename_i hc
    rw [Bool.and_eq_true] at hc
    obtain ⟨r', e3, e⟩ := Option.bind_eq_some_iff.mp e
    refine h b F ρ σ X H ts _ S e1 fun vs F1 H1 S1 i1 s1 r1 => ?_
    rw [List.append_nil]
    obtain ⟨fps, r1⟩ := r1
    have hnil := allF_fps hc.1 r1
    have r2 : Reps W F1 ds vs := RelTs.fz (Inc.refl F1) ts vs fps ds r1 (fun a ha => by rw [hnil] at ha; cases ha) e2
    have r3 : Reps (W.re fun a => H1 a = none) F1 ds vs := Reps.old ds vs r2 hc.2
    refine ⟨F1, ds.map .f, _, r', S1.le, (fun a h => h.elim id fun z => by rw [flat_nil] at z; cases z), relTs_deep r3, ⟨by rw [flat_nil]; exact List.nodup_nil, fun a ha => by rw [flat_nil] at ha; cases ha⟩, ioOk_deep ds 0, e3, ?_⟩
    cases r' with
    | xc C us => cases e
    | ok τ us =>
      cases τ with
      | l es =>
        cases e
        intro v F' H' R i2
        have hs : Same H1 H' := fun a o e => R.kept a o e (by
          show a ∉ (List.replicate ds.length ([] : List Addr)).flatten
          rw [flat_nil]
          intro z
          cases z)
        have hfn : ∀ a o, F' a = some o → F1 a = some o ∨ H1 a = none := fun a o e => by
          rcases R.fn a o e with z | z | z
          · exact .inl z
          · exact .inr z
          · exfalso
            have z' : a ∈ (List.replicate ds.length ([] : List Addr)).flatten := z
            rw [flat_nil] at z'
            cases z'
        obtain ⟨Rle, _, _, _, _, _, gps, xps, g1, g2, ⟨gnd, gow⟩, gl1, gl2⟩ := R
        obtain ⟨v', vr, f, fr0, e4, e5, rt, _⟩ := g2
        have e6 : v = v' := (List.cons.inj e4).1
        subst e6 e5
        obtain ⟨p, ws, ev, ef, hp, rs⟩ := rt
        subst ef
        have hpF : F' p = none := gow p (List.mem_append_right _ (by rw [List.flatten_cons]; exact List.mem_append_left _ List.mem_cons_self))
        have hpn : H1 p = none := by
          rcases gl2.1 p List.mem_cons_self with z | z
          · exact z
          · exfalso
            have z' : p ∈ (List.replicate ds.length ([] : List Addr)).flatten := z
            rw [flat_nil] at z'
            cases z'
        obtain ⟨fr, q1, q2⟩ := Reps.gather es ws rs
        have hfr : ∀ a ∈ once fr, H1 a = none ∧ ∃ us, F' a = some (.lst us) := fun a ha => q1 a (once_mem.mp ha)
        have q3 : Reps (W.re (· ∈ once fr)) F' es ws := Reps.nwi (fun a ha => once_mem.mpr ha) es ws q2
        -- what is told is the asker's own: its lists leave the data
        obtain ⟨Fs, hFs⟩ : ∃ Fs : Hp, ∀ a, Fs a = if a ∈ once fr then none else F' a := ⟨_, fun _ => rfl⟩
        have hF : Inc F1 Fs := fun a o e => by
          rw [hFs a, if_neg (fun z => by
            obtain ⟨u, hu⟩ := S1.le.some e
            rw [(hfr a z).1] at hu
            cases hu)]
          exact i2 a o e
        have hL : Le Fs H' := fun a o e => by
          rw [hFs a] at e
          split at e
          · cases e
          · exact Rle a o e
        have hn : ∀ a o, Fs a = some o → F1 a = some o ∨ H1 a = none := fun a o e => by
          rw [hFs a] at e
          split at e
          · cases e
          · exact hfn a o e
        have hlst : ∀ a ∈ once fr, ∃ us, H' a = some (.lst us) := fun a ha => by
          obtain ⟨us, hu⟩ := (hfr a ha).2
          rcases Rle a _ hu with z | ⟨_, _, z, _⟩
          · exact ⟨us, z⟩
          · cases z
        have hmix : Inc F' (mix Fs H' (once fr)) := fun a o e => by
          unfold mix
          by_cases ha : a ∈ once fr
          · rw [if_pos ha]
            obtain ⟨us, hu⟩ := (hfr a ha).2
            rw [e] at hu
            cases hu
            rcases Rle a _ e with z | ⟨_, _, z, _⟩
            · exact z
            · cases z
          · rw [if_neg ha, hFs a, if_neg ha]
            exact e
        have hpfr : p ∉ once fr := fun z => by
          obtain ⟨us, hu⟩ := (hfr p z).2
          rw [hpF] at hu
          cases hu
        have S2 : SR W b Fs ρ σ (⟨none, .ln es, v⟩ :: X) H' := S1.region (fp := p :: once fr) hs hF hL hn (List.nodup_cons.mpr ⟨hpfr, once_nd fr⟩) (fun a ha => by
          rcases List.mem_cons.mp ha with z | z
          · rw [z]
            exact ⟨hpn, by rw [hFs p, if_neg hpfr]; exact hpF⟩
          · exact ⟨(hfr a z).1, by rw [hFs a, if_pos z]⟩)
          ⟨p, ws, once fr, ev, rfl, hp, Reps.inc hmix q3, (fun a ha => by
            obtain ⟨us, hu⟩ := hlst a ha
            exact ⟨_, hu, fun _ _ z => by cases z⟩), fun a ha => S1.nwok a (hfr a ha).1⟩
        exact k v Fs H' S2 (i1.trans hF)
      | _ => cases e
  · cases e
theorem eo_callN {c : Ctx} {a : Expr} {es : List Expr} {fs : List T → Option (List T)} {x : Str} {p pos : Pos} {G : List T → Option Re} {k : Nat} {CX : CXT} {E : XK} (C : ∀ j, ClN (c.X j).prog (c.X j).w c.W (c.X j).mg (c.X j).base CX k x [] G) (hk : k ≤ c.k) (hg : ∀ j, Gl (c.X j) x) (hx : ∀ j, Passes CX (c.X j) E) (ha : Av c (a :: es) fs) (hdb : (x == ("__debug__" : Str)) = false := by decide)
    (he : ∀ j, starEach (a :: es) (c.X j).env = (false, eval a (c.X j).env) :: starEach es (c.X j).env := by intro _; rfl) (hpl : ∀ j, (backTo pos (starEach es (c.X j).env)).any (·.1) = false := by intro _; rfl) : Eo c (.Call (.Name x p) (a :: es) [] pos) (fCallN G fs) := by
  obtain ⟨t, q, s⟩ := ha
  refine ⟨tCall (spN c.W G) [] E t, fun j => ?_, so_callN s⟩
  obtain ⟨f, fd, ps, h, hm, hkp, hb⟩ := C j
  have hKj := c.hK j
  have h' : FnOk (c.X j).prog (c.X j).w c.W.K (c.X j).mg (c.X j).base CX k f fd ps (spN c.W G) := ⟨fun vs H Q E h0 => (h _).len vs H Q E h0, fun A outer s H args us vs Q E h1 h2 h3 h4 h5 => (h _).run A outer s H args us vs Q E h1 h2 h3 h4 h5⟩
  exact pe_call (by rw [hKj]; exact h') ((c.room j).mono hk) (hg j) hm (by rw [hKj]; exact hkp) (by rw [hKj]; exact hb) .nil (hx j) (q j) hdb (he j) (hpl j)
/-! ### new lists that are changed and not looked at again -/
def Tgt (K : PySem.W.Frag) (lvl : Bool) (H : Hp) (x : V) (lp : Addr) : Prop := match lvl with
  | false => x = .ref lp
  | true => ∃ t us, x = .ref t ∧ SqT K H t (.ref lp :: us)
def But (lp : Addr) (H H' : Hp) : Prop := ∀ a o, a ≠ lp → H a = some o → H' a = some o
theorem Tgt.but {K : PySem.W.Frag} {lvl : Bool} {H H' : Hp} {x : V} {lp p : Addr} {ws : List V} (hl : H p = some (.lst ws)) (h : But p H H') (r : Tgt K lvl H x lp) : Tgt K lvl H' x lp := by
  cases lvl with
  | false => exact r
  | true =>
    obtain ⟨t, us, e, s⟩ := r
    refine ⟨t, us, e, ?_⟩
    rcases s with (s | ⟨o, s⟩) | s
    · exact .inl (.inl (h t _ (fun z => by rw [z, hl] at s; cases s) s))
    · exact .inl (.inr ⟨o, h t _ (fun z => by rw [z, hl] at s; cases s) s⟩)
    · exact .inr s
theorem Tgt.same {K : PySem.W.Frag} {lvl : Bool} {H H' : Hp} {x : V} {lp : Addr} (h : Same H H') (r : Tgt K lvl H x lp) : Tgt K lvl H' x lp := by
  cases lvl with
  | false => exact r
  | true =>
    obtain ⟨t, us, e, s⟩ := r
    refine ⟨t, us, e, ?_⟩
    rcases s with (s | ⟨o, s⟩) | s
    · exact .inl (.inl (h _ _ s))
    · exact .inl (.inr ⟨o, h _ _ s⟩)
    · exact .inr s
theorem SR.gbput {W : Wd} {b : Bs} {F : Hp} {ρ : List T} {σ : L2.St} {X : List Tm} {H : Hp} {og : Option Nat} {fp : List Addr} {v : V} {p : Addr} {ws ws' : List V} (S : SR W b F ρ σ (⟨og, .gb fp, v⟩ :: X) H) (hp : p ∈ fp) (hl : H p = some (.lst ws)) : SR W b F ρ σ (⟨og, .gb fp, v⟩ :: X) (upd H p (.lst ws')) := by
  obtain ⟨le, f0, fn, kept, stab, pin, fps, xps, s1, s2, ⟨nd, ow⟩, lc1, lc2⟩ := S
  obtain ⟨v', vr, f, fr, e1, e2, r, r2⟩ := s2
  subst e2
  have hf : f = fp := r.1
  subst hf
  rw [List.flatten_cons] at nd ow
  have n := List.nodup_append.mp nd
  have n2 := List.nodup_append.mp n.2.1
  have hF : F p = none := ow p (List.mem_append_right _ (List.mem_append_left _ hp))
  have hne : ∀ a, a ≠ p → upd H p (.lst ws') a = H a := fun a e => upd_ne e
  refine ⟨fun a o e => ?_, f0, fn, fun a o e na => ?_, fun a o e ha => ?_, pin, fps, f :: fr, s1.mono (Inc.refl F) (fun a ha => hne a fun z => n.2.2 a ha p (List.mem_append_left _ hp) z), ⟨_, _, _, _, e1, rfl, ⟨rfl, fun a ha => ?_⟩, RelTs.mono (Inc.refl F) _ _ _ (fun a ha => hne a fun z => n2.2.2 p hp a ha z.symm) r2⟩, ⟨nd, ow⟩, lc1, lc2⟩
  · have : a ≠ p := fun z => by rw [z, hF] at e; cases e
    rw [hne a this]
    exact le a o e
  · have : a ≠ p := fun z => by
      subst z
      rcases lc2.1 a hp with y | y
      · rw [y] at e; cases e
      · exact na y
    rw [hne a this]
    exact kept a o e na
  · obtain ⟨u, h1, h2⟩ := stab a o e ha
    by_cases z : a = p
    · subst z
      rw [hl] at h1
      cases h1
      exact ⟨_, upd_same, Stb.trans (G' := GB W b) h2 Stb.lst⟩
    · exact ⟨u, by rw [hne a z]; exact h1, h2⟩
  · by_cases z : a = p
    · subst z
      exact ⟨_, upd_same, fun _ _ y => by cases y⟩
    · rw [hne a z]
      exact r.2 a ha
def ToT (W : Wd) (j : Nat) (lvl : Bool) (to : TE) : Prop := ∀ b F ρ σ X H x lp Q, SR W b F ρ σ X H → σ[j]? = some (some x) → Tgt W.K lvl H x lp → (∀ F' H', SR W b F' ρ σ X H' → Inc F F' → Same H H' → Q (.ref lp) H') → to σ H Q
def HbT (W : Wd) (j : Nat) (lvl : Bool) (fes : List (List T → Option T)) (t : TS) : Prop := ∀ b F ρ σ X H D og fp v0 x lp ws, SR W b F ρ σ (⟨og, .gb fp, v0⟩ :: X) H → σ[j]? = some (some x) → Tgt W.K lvl H x lp → lp ∈ fp → H lp = some (.lst ws) → ws.length + fes.length ≤ sizeLine → (∀ fe ∈ fes, ∃ τ, fe ρ = some τ) →
  (∀ F' H1 ws', SR W b F' ρ σ (⟨og, .gb fp, v0⟩ :: X) H1 → Inc F F' → H1 lp = some (.lst ws') → ws'.length = ws.length + fes.length → But lp H H1 → D.nx σ H1) → t D σ H
/-- the appends of a turn -/
def Hb (c : Ctx) (j : Nat) (lvl : Bool) (ss : List Stmt) (fes : List (List T → Option T)) : Prop := ∃ t, (∀ q, PSs (c.X q) ss t) ∧ HbT c.W j lvl fes t
def Ha (c : Ctx) (j : Nat) (lvl : Bool) (s : Stmt) (fe : List T → Option T) : Prop := ∃ t, (∀ q, PS (c.X q) s t) ∧ HbT c.W j lvl [fe] t
def Ht (c : Ctx) (j : Nat) (lvl : Bool) (o : Expr) : Prop := ∃ to, (∀ q, PE (c.X q) o to) ∧ ToT c.W j lvl to
section
variable {c : Ctx} {e o : Expr} {j : Nat} {lvl : Bool} {fe : List T → Option T} {pos apos cpos : Pos}
theorem ht_v (j : Nat) {x : Str} (hi : c.N[j]? = some x := by rfl) (hv : ∀ q, Vis (c.X q).env.scope x := by intro _; first | exact Or.inl rfl | exact Or.inr (Or.inl rfl) | exact Or.inr (Or.inr rfl)) (hd : (x == ("__debug__" : Str)) = false := by decide) (hcd : (x == ("__classdict__" : Str)) = false := by decide) : Ht c j false (.Name x pos) := by
  refine ⟨tVar j, fun q => pe_var (i := j) (by rw [c.hN q]; exact hi) (hv q) hd hcd, ?_⟩
  intro b F ρ σ X H x lp Q S hx ht k
  exact ⟨x, hx, by rw [show x = V.ref lp from ht]; exact k F H S (Inc.refl F) (Same.refl H)⟩
theorem ht_0 (j : Nat) {x : Str} {p2 p3 : Pos} {tk : Nat} (hi : c.N[j]? = some x := by rfl) (hv : ∀ q, Vis (c.X q).env.scope x := by intro _; first | exact Or.inl rfl | exact Or.inr (Or.inl rfl) | exact Or.inr (Or.inr rfl)) (hz : Ev c (.Constant (.int 0) tk p3) (fC (.int 0))) (hd : (x == ("__debug__" : Str)) = false := by decide) (hcd : (x == ("__classdict__" : Str)) = false := by decide) : Ht c j true (.Subscript (.Name x p2) (.Constant (.int 0) tk p3) pos) := by
  obtain ⟨tz, pz, sz⟩ := hz
  refine ⟨tOp (rIxU c.W.K) (tVar j) tz, fun q => pe_ix (by have h := ix_U (X := c.X q) (c.hu1 q); rw [c.hK q] at h; exact h) (pe_var (i := j) (by rw [c.hN q]; exact hi) (hv q) hd hcd) (pz q) (fun _ _ => rfl), ?_⟩
  intro b F ρ σ X H x lp Q S hx ht k
  refine ⟨x, hx, sz b F ρ σ X H (.f (.int 0)) _ S rfl fun y F' H' S' i s r => ?_⟩
  have hy : y = .int 0 := r.int rfl
  subst hy
  obtain ⟨t, us, e, hs⟩ := ht.same s
  exact .inl (.inl (.inr ⟨t, _, 0, .ref lp, e, rfl, hs, by unfold atI ixN; simp, k F' H' S' i s⟩))
theorem ha_app (ho : Ht c j lvl o) (he : Ev c e fe)
    (hbase : ∀ j, attributeBase o "append" (c.X j).env (eval o (c.X j).env) = eval o (c.X j).env := by intro _; rfl)
    (hfew : ∀ j, ((backTo cpos (starEach [e] (c.X j).env)).all (fun x => !x.1) && (backToKw cpos (keywordEach [] (c.X j).env)).all (fun x => x.1.isSome)
      && decide (([e] : List Expr).length + ([] : List Keyword).length + (if ([] : List Keyword).isEmpty then 0 else 1) < 30)) = true := by intro _; rfl)
    (hline : (apos.endLine == cpos.line) = true := by rfl) (hs : ∀ j, starEach [e] (c.X j).env = (false, eval e (c.X j).env) :: starEach [] (c.X j).env := by intro _; rfl) (hplain : ∀ j, (backTo cpos (starEach [] (c.X j).env)).any (·.1) = false := by intro _; rfl)
    (hsw : ∀ j, swapsWith (.Call (.Attribute o "append" apos) [e] [] cpos) none pos.line (c.X j).env = pure false := by intro _; rfl) :
    Ha c j lvl (.Expr (.Call (.Attribute o "append" apos) [e] [] cpos) pos) fe := by
  obtain ⟨to, po, so⟩ := ho
  obtain ⟨te, pe, se⟩ := he
  refine ⟨tDrop (tBM c.W.K "list" rAppend to (tCons te tNil)), fun j => by
    have h := ps_expr (pe_bm PySem.F.plainAttrs_list PySem.F.slot_list_append PySem.F.type_list_append mt_append (po j) (pa_cons (pe j) pa_nil (hs j)) (hbase j) (hfew j) hline (hs j) (hplain j)) (hsw j)
    rw [c.hK j] at h
    exact h, ?_⟩
  intro b F ρ σ X H D og fp v0 x lp ws S hx ht hlp hl hz hfe k
  obtain ⟨τ, e2⟩ := hfe fe List.mem_cons_self
  refine so b F ρ σ _ H x lp _ S hx ht fun F1 H1 S1 i1 s1 => ?_
  refine ⟨.inl ⟨rfl, ws, SqL.of (s1 _ _ hl)⟩, ?_⟩
  refine se b F1 ρ σ _ H1 τ _ S1 e2 fun y F2 H2 S2 i2 s2 r2 => ?_
  have hl2 := s2 _ _ (s1 _ _ hl)
  refine ⟨lp, ws, y, rfl, rfl, hl2, hz, ?_⟩
  exact k F2 _ (ws ++ [y]) (S2.gbput hlp hl2) (i1.trans i2) upd_same (by rw [List.length_append]; rfl) fun a o ha e => by rw [upd_ne ha]; exact s2 _ _ (s1 _ _ e)
theorem hb_one {s : Stmt} (h : Ha c j lvl s fe) : Hb c j lvl [s] [fe] := by
  obtain ⟨t, p, q⟩ := h
  exact ⟨t, fun i => pss_one (p i), q⟩
theorem hb_cons {s : Stmt} {ss : List Stmt} {fes : List (List T → Option T)} (h : Ha c j lvl s fe) (h2 : Hb c j lvl ss fes) : Hb c j lvl (s :: ss) (fe :: fes) := by
  obtain ⟨t, p, q⟩ := h
  obtain ⟨u, p2, q2⟩ := h2
  refine ⟨_, fun i => pss_cons (p i) (p2 i), ?_⟩
  intro b F ρ σ X H D og fp v0 x lp ws S hx ht hlp hl hz hfe k
  rw [List.length_cons] at hz
  refine q b F ρ σ X H { D with nx := u D } og fp v0 x lp ws S hx ht hlp hl (by rw [List.length_singleton]; omega) (fun f hf => hfe f (by rw [List.mem_singleton.mp hf]; exact List.mem_cons_self)) fun F1 H1 ws1 S1 i1 hl1 hlen1 b1 => ?_
  rw [List.length_singleton] at hlen1
  refine q2 b F1 ρ σ X H1 D og fp v0 x lp ws1 S1 hx (ht.but hl b1) hlp hl1 (by omega) (fun f hf => hfe f (List.mem_cons_of_mem _ hf)) fun F2 H2 ws2 S2 i2 hl2 hlen2 b2 => ?_
  exact k F2 H2 ws2 S2 (i1.trans i2) hl2 (by rw [List.length_cons]; omega) fun a o ha e => b2 a o ha (b1 a o ha e)
end
/-- what a turn looks at -/
def elOk (lvl : Bool) (d : D) : Bool := match lvl, d with
  | false, .nst l => decide (l.length ≤ 1000000)
  | true, .tup (.nst l :: _) => decide (l.length ≤ 1000000)
  | _, _ => false
/-- for x in S: x.append(..) / x[0].append(..) -/
def sHv (i j : Nat) (lvl : Bool) (fes : List (List T → Option T)) : FS := fun ρ => match ρ[i]? with
  | some (.ln ds) => if (ds.all (elOk lvl) && decide (ds.length ≤ 100000) && (fes.all fun fe => (fe ((ρ.set i .un).set j .un)).isSome) && decide (j < ρ.length)) = true then some (.nx (((ρ.set i .un).set j .un).set i (.rg ds.length))) else none
  | _ => none
theorem elOk_at {W : Wd} {F H : Hp} {fr : List Addr} {lvl : Bool} {d : D} {x : V} (le : Le F H) (h : elOk lvl d = true) (r : Rep (W.re (· ∈ fr)) (mix F H fr) d x) : ∃ lp ws, Tgt W.K lvl H x lp ∧ lp ∈ fr ∧ H lp = some (.lst ws) ∧ ws.length ≤ 1000000 := by
  have hmH : ∀ a u, mix F H fr a = some u → H a = some u ∨ ∃ o kvs, u = .dK kvs ∧ H a = some (.frz o u) := fun a u e => by
    unfold mix at e
    split at e
    · exact .inl e
    · exact le a u e
  have nst : ∀ (l : List D) (y : V), l.length ≤ 1000000 → Rep (W.re (· ∈ fr)) (mix F H fr) (.nst l) y → ∃ lp ws, y = .ref lp ∧ lp ∈ fr ∧ H lp = some (.lst ws) ∧ ws.length ≤ 1000000 := fun l y hl r => by
    obtain ⟨p, vs, e, s, n, q⟩ := r
    refine ⟨p, vs, e, n, ?_, by rw [← q.len]; exact hl⟩
    unfold mix at s
    rw [if_pos n] at s
    exact s
  cases lvl with
  | false =>
    cases d with
    | nst l =>
      obtain ⟨lp, ws, h1, h2, h3, h4⟩ := nst l x (of_decide_eq_true h) r
      exact ⟨lp, ws, h1, h2, h3, h4⟩
    | _ => cases h
  | true =>
    cases d with
    | tup l0 =>
      cases l0 with
      | nil => cases h
      | cons d0 rest =>
        cases d0 with
        | nst l =>
          obtain ⟨t, vs, e, s, q⟩ := r
          obtain ⟨v0, vr, ev, a, _⟩ := q
          obtain ⟨lp, ws, h1, h2, h3, h4⟩ := nst l v0 (of_decide_eq_true h) a
          subst ev h1
          refine ⟨lp, ws, ⟨t, vr, e, ?_⟩, h2, h3, h4⟩
          rcases s with (s | ⟨o, s⟩) | s
          · rcases hmH t _ s with z | ⟨_, _, z, _⟩
            · exact .inl (.inl z)
            · cases z
          · rcases hmH t _ s with z | ⟨_, _, z, _⟩
            · exact .inl (.inr ⟨o, z⟩)
            · cases z
          · exact .inr s
        | _ => cases h
    | _ => cases h
theorem sm_hv (i j : Nat) {c : Ctx} {x y : Str} {ss : List Stmt} {pos p1 p2 : Pos} {lvl : Bool} {fes : List (List T → Option T)} (hp : ∀ q, PassesOwn (model (c.X q).prog (c.X q).w) (c.X q).A (c.X q).env (c.X q).xe) (hb : Hb c j lvl ss fes) (hi : c.N[i]? = some y := by rfl) (hj : c.N[j]? = some x := by rfl)
    (hv : ∀ q, Vis (c.X q).env.scope y := by intro _; first | exact Or.inl rfl | exact Or.inr (Or.inl rfl) | exact Or.inr (Or.inr rfl)) (hd : (y == ("__debug__" : Str)) = false := by decide) (hcd : (y == ("__classdict__" : Str)) = false := by decide)
    (hx : ∀ q, L2.Loc (c.X q).env.scope x := by intro _; first | exact Or.inl rfl | exact Or.inr rfl) (hf : ∀ q, (c.X q).fn x = true ∨ (c.X q).env.scope.names.lookup x = some .local := by intro _; first | exact Or.inl rfl | exact Or.inr rfl)
    (hm : Nat.ble c.P.m i = true := by rfl) (hio : c.P.io.contains j = false := by rfl) (hne : (i == j) = false := by rfl) (hsz : fes.length ≤ 50 := by decide) (hs : ∀ j x, foldedSetIterable (.Name y p2) (c.X j).env x = pure x := by intro _ _; rfl) :
    Sm c (.For (.Name x p1) (.Name y p2) ss [] pos) (sHv i j lvl fes) := by
  obtain ⟨tb, pb, qb⟩ := hb
  refine ⟨tFor (fun σ H R => tVar i σ H fun x H1 => rivU c.W.K x H1 R) (gName j) tb, fun q => ps_for (hp q) (c.calm q) (pi_of (pe_var (i := i) (by rw [c.hN q]; exact hi) (hv q) hd hcd) (by have h := iv_U (X := c.X q) (tg := .Name x p1); rw [c.hK q] at h; exact h)) (pg_name (c.hNd q) (by rw [c.hN q]; exact hj) (hx q) (hf q)) (pb q) (hs q), ?_⟩
  intro b F ρ σ X H o D bok S e k
  have hij : i ≠ j := fun z => by rw [z] at hne; simp at hne
  unfold sHv at e
  cases hρ : ρ[i]? with
  | none => rw [hρ] at e; cases e
  | some t0 =>
    rw [hρ] at e
    cases t0 with
    | ln ds =>
      simp only at e
      split at e
      · rename_i hc
        cases e
        rw [Bool.and_eq_true, Bool.and_eq_true, Bool.and_eq_true] at hc
        obtain ⟨⟨⟨hc1, hc2⟩, hc3⟩, hc4⟩ := hc
        have hall := List.all_eq_true.mp hc1
        have hlen := of_decide_eq_true hc2
        obtain ⟨s, fp0, e4, r0⟩ := S.slot hρ
        cases s with
        | none => exact absurd r0.1 (by intro z; cases z)
        | some v =>
          have S1 := S.take hρ e4
          -- the region, with its places
          obtain ⟨p, vs, fr, ev, hpH, hreps, S2, hpfr⟩ : ∃ p vs fr, v = .ref p ∧ H p = some (.lst vs) ∧ Reps (c.W.re (· ∈ fr)) (mix F H fr) ds vs ∧ SR c.W b F (ρ.set i .un) σ (⟨some i, .gb (p :: fr), v⟩ :: X) H ∧ p ∉ fr := by
            obtain ⟨le, f0, fn, kept, stab, pin, fps, xps, s1, s2, ⟨nd, ow⟩, lc1, lc2⟩ := S1
            obtain ⟨v', vr, f, fs, e1, e2, r, r2⟩ := s2
            subst e2
            have e3 : v = v' := (List.cons.inj e1).1
            have e5 : X.map (·.v) = vr := (List.cons.inj e1).2
            subst e3 e5
            obtain ⟨p, vs, fr, g1, g2, g3, g4, g5, g6⟩ := r
            subst g2
            have hnd : (p :: fr).Nodup := by
              rw [List.flatten_cons] at nd
              exact (List.nodup_append.mp (List.nodup_append.mp nd).2.1).1
            refine ⟨p, vs, fr, g1, g3, g4, ⟨le, f0, fn, kept, stab, pin, fps, (p :: fr) :: fs, s1, ⟨_, _, _, _, rfl, rfl, ⟨rfl, fun a ha => ?_⟩, r2⟩, ⟨nd, ow⟩, lc1, lc2⟩, (List.nodup_cons.mp hnd).1⟩
            rcases List.mem_cons.mp ha with z | z
            · rw [z]; exact ⟨_, g3, fun _ _ y => by cases y⟩
            · exact g5 a z
          subst ev
          refine ⟨.ref p, e4, .inl ⟨p, rfl, ⟨vs, SqL.of hpH⟩, ?_⟩⟩
          have hvl : ds.length = vs.length := hreps.len
          let ρu := (ρ.set i .un).set j .un
          -- the loop's target forgotten
          have forget : ∀ {F1 : Hp} {ρ1 : List T} {σ1 : L2.St} {H1 : Hp} {y1 : V}, SR c.W b F1 ρ1 σ1 (⟨some i, .gb (p :: fr), .ref p⟩ :: X) H1 → SR c.W b F1 (ρ1.set j .un) (σ1.set j (some y1)) (⟨some i, .gb (p :: fr), .ref p⟩ :: X) H1 := fun {F1 ρ1 σ1 H1 y1} S' => by
            have S'' : SR c.W b F1 ρ1 σ1 (⟨none, .un, y1⟩ :: ⟨some i, .gb (p :: fr), .ref p⟩ :: X) H1 := by
              obtain ⟨le, f0, fn, kept, stab, pin, fps, xps, s1, s2, ⟨nd, ow⟩, lc1, lc2⟩ := S'
              exact ⟨le, f0, fn, kept, stab, pin, fps, [] :: xps, s1, ⟨_, _, _, _, rfl, rfl, rfl, s2⟩, ⟨by rw [List.flatten_cons]; exact nd, fun a ha => ow a (by rw [List.flatten_cons] at ha; exact ha)⟩, lc1, ⟨fun a ha => (nomatch ha), lc2⟩⟩
            exact S''.store (i := j) (.inl rfl) (.inl (notio bok (notin_of hio)))
          have targets : ∀ (q : Nat) (z : V), vs[q]? = some z → ∃ lp ws, Tgt c.W.K lvl H z lp ∧ lp ∈ fr ∧ H lp = some (.lst ws) ∧ ws.length ≤ 1000000 + 0 * fes.length := fun q z hq => by
            obtain ⟨d, hd1, hd2⟩ : ∃ d, ds[q]? = some d ∧ Rep (c.W.re (· ∈ fr)) (mix F H fr) d z := by
              have hlt : q < ds.length := by rw [hvl]; exact (List.getElem?_eq_some_iff.mp hq).1
              obtain ⟨z', h1, h2⟩ := hreps.get (List.getElem?_eq_getElem hlt)
              rw [hq] at h1
              cases h1
              exact ⟨_, List.getElem?_eq_getElem hlt, h2⟩
            obtain ⟨lp, ws, g1, g2, g3, g4⟩ := elOk_at S2.le (hall d (List.mem_of_getElem? hd1)) hd2
            exact ⟨lp, ws, g1, g2, g3, by omega⟩
          have hσl : i < σ.length := (List.getElem?_eq_some_iff.mp e4).1
          have fin : ∀ {F1 : Hp} {ρ1 : List T} {σ1 : L2.St} {H1 : Hp}, SR c.W b F1 ρ1 σ1 (⟨some i, .gb (p :: fr), .ref p⟩ :: X) H1 → H1 p = some (.lst vs) → σ1[i]? = some (some (.ref p)) → SR c.W b F1 (ρ1.set i (.rg ds.length)) σ1 X H1 := fun {F1 ρ1 σ1 H1} S' hp1 hs1 => by
            have S'' : SR c.W b F1 ρ1 σ1 (⟨some i, .rg ds.length, .ref p⟩ :: X) H1 := by
              obtain ⟨le, f0, fn, kept, stab, pin, fps, xps, s1, s2, ⟨nd, ow⟩, lc1, lc2⟩ := S'
              obtain ⟨v', vr, f, fs, e1, e2, r, r2⟩ := s2
              subst e2
              have e3 : V.ref p = v' := (List.cons.inj e1).1
              have e5 : X.map (·.v) = vr := (List.cons.inj e1).2
              subst e3 e5
              have hf : f = p :: fr := r.1
              subst hf
              exact ⟨le, f0, fn, kept, stab, pin, fps, (p :: fr) :: fs, s1, ⟨_, _, _, _, rfl, rfl, ⟨p, vs, fr, rfl, rfl, hp1, by rw [hvl]; exact Nat.le_refl _, fun a ha => r.2 a (List.mem_cons_of_mem _ ha)⟩, r2⟩, ⟨nd, ow⟩, lc1, lc2⟩
            exact S''.back hs1
          have S2' : SR c.W b F ρu σ (⟨some i, .gb (p :: fr), .ref p⟩ :: X) H := by
            by_cases hjl : j < σ.length
            · obtain ⟨sj, hsj⟩ : ∃ sj, σ[j]? = some sj := ⟨_, List.getElem?_eq_getElem hjl⟩
              obtain ⟨le, f0, fn, kept, stab, pin, fps, xps, s1, s2, ⟨nd, ow⟩, lc1, lc2⟩ := S2
              have hset : σ.set j sj = σ := by
                apply List.ext_getElem?
                intro q
                by_cases h : q = j
                · subst h
                  rw [List.getElem?_set_self hjl, hsj]
                · rw [List.getElem?_set_ne (fun e => h e.symm)]
              have s1' : Slots c.W F H ((ρ.set i .un).set j .un) (σ.set j sj) (fps.set j []) := Slots.set (s' := sj) (u := .un) (f' := []) (by cases sj with | none => exact ⟨rfl, rfl⟩ | some v => exact rfl) j s1
              rw [hset] at s1'
              have mset : ∀ a ∈ (fps.set j []).flatten, a ∈ fps.flatten := fun a ha => (mem_set_flat ha).elim id fun z => nomatch z
              have n := List.nodup_append.mp nd
              have nset : (fps.set j []).flatten.Nodup := by
                by_cases hi : j < fps.length
                · exact nodup_set n.1 (List.getElem?_eq_getElem hi) List.nodup_nil (fun a ha => nomatch ha)
                · rw [List.set_eq_of_length_le (by omega)]; exact n.1
              refine ⟨le, f0, fn, kept, stab, pin, fps.set j [], xps, s1', s2, ⟨List.nodup_append.mpr ⟨nset, n.2.1, fun a ha c hc e => n.2.2 a (mset a ha) c hc e⟩, fun a ha => ?_⟩, fun q f hq a ha => ?_, lc2⟩
              · rcases List.mem_append.mp ha with z | z
                · exact ow a (List.mem_append_left _ (mset a z))
                · exact ow a (List.mem_append_right _ z)
              · by_cases hqj : q = j
                · subst hqj
                  by_cases hi : q < fps.length
                  · rw [List.getElem?_set_self hi] at hq
                    cases hq
                    cases ha
                  · rw [List.getElem?_eq_none (by rw [List.length_set]; omega)] at hq
                    cases hq
                · rw [List.getElem?_set_ne (fun e => hqj e.symm)] at hq
                  exact lc1 q f hq a ha
            · have hl := S2.len
              show SR c.W b F ((ρ.set i .un).set j .un) σ _ H
              rw [List.set_eq_of_length_le (by omega)]
              exact S2
          refine ⟨fun q m σ' H' => m = vs.length - q ∧ q ≤ vs.length ∧ ∃ F', SR c.W b F' ρu σ' (⟨some i, .gb (p :: fr), .ref p⟩ :: X) H' ∧ Inc F F' ∧ σ'[i]? = some (some (.ref p)) ∧ H' p = some (.lst vs) ∧ ∀ (u : Nat) (z : V), vs[u]? = some z → ∃ lp ws, Tgt c.W.K lvl H' z lp ∧ lp ∈ fr ∧ H' lp = some (.lst ws) ∧ ws.length ≤ 1000000 + q * fes.length, ⟨vs.length, by simp, Nat.zero_le _, F, S2', Inc.refl F, e4, hpH, targets⟩, ?_⟩
          rintro q m σ2 H2 ⟨rfl, hq, F2, S3, i2, hs2, hp2, ht2⟩
          by_cases hlt : q < vs.length
          · have hz : vs[q]? = some vs[q] := List.getElem?_eq_getElem hlt
            refine .inr ⟨⟨vs, vs[q], SqL.of hp2, hz⟩, fun σ' H' => q + 1 ≤ vs.length ∧ ∃ F', SR c.W b F' ρu σ' (⟨some i, .gb (p :: fr), .ref p⟩ :: X) H' ∧ Inc F F' ∧ σ'[i]? = some (some (.ref p)) ∧ H' p = some (.lst vs) ∧ ∀ (u : Nat) (z : V), vs[u]? = some z → ∃ lp ws, Tgt c.W.K lvl H' z lp ∧ lp ∈ fr ∧ H' lp = some (.lst ws) ∧ ws.length ≤ 1000000 + (q + 1) * fes.length, fun σ' H' h => ⟨vs.length - (q + 1), by omega, rfl, h⟩, fun z H3 y => ?_⟩
            obtain ⟨rfl, hy⟩ := y
            have hzz := hy vs (SqL.of hp2)
            have S4 := forget (y1 := z) S3
            have hset : ρu.set j .un = ρu := by
              show (((ρ.set i .un).set j .un).set j .un) = _
              rw [List.set_set]
            rw [hset] at S4
            obtain ⟨lp, ws, g1, g2, g3, g4⟩ := ht2 q z hzz
            have hjj : j < σ2.length ∨ ¬ j < σ2.length := Nat.lt_or_ge j σ2.length |>.imp id (Nat.not_lt.mpr ·)
            show tb _ (σ2.set j (some z)) _
            have hsi : (σ2.set j (some z))[i]? = some (some (.ref p)) := by rw [List.getElem?_set_ne (fun e => hij e.symm)]; exact hs2
            have hjN : j < σ2.length := by
              have h1 := S3.len
              have h2 := of_decide_eq_true hc4
              show j < σ2.length
              rw [← h1]
              show j < ((ρ.set i .un).set j .un).length
              rw [List.length_set, List.length_set]
              exact h2
            have hsj : (σ2.set j (some z))[j]? = some (some z) := List.getElem?_set_self hjN
            refine qb b F2 ρu _ X H3 _ (some i) (p :: fr) (.ref p) z lp ws S4 hsj g1 (List.mem_cons_of_mem _ g2) g3 ?_ ?_ ?_
            · rw [sizeLine_eq]
              have : q * fes.length ≤ 100000 * 50 := Nat.mul_le_mul (by omega) hsz
              omega
            · intro fe hfe
              have := List.all_eq_true.mp hc3 fe hfe
              obtain ⟨τ, h⟩ := Option.isSome_iff_exists.mp this
              exact ⟨τ, h⟩
            · intro F5 H5 ws5 S5 i5 hl5 hlen5 b5
              refine ⟨hlt, F5, S5, i2.trans i5, hsi, b5 p _ (fun e => hpfr (by rw [e]; exact g2)) hp2, fun u z' hu => ?_⟩
              obtain ⟨lp', ws', k1, k2, k3, k4⟩ := ht2 u z' hu
              have ha := k1.but g3 b5
              by_cases hll : lp' = lp
              · subst hll
                rw [g3] at k3
                cases k3
                exact ⟨lp', ws5, ha, k2, hl5, by rw [hlen5, Nat.succ_mul]; omega⟩
              · exact ⟨lp', ws', ha, k2, b5 lp' _ hll k3, by rw [Nat.succ_mul]; omega⟩
          · have hqe : q = vs.length := by omega
            refine .inl ⟨⟨vs, SqL.of hp2, by omega⟩, ?_⟩
            exact k σ2 F2 H2 (fin S3 hp2 hs2) i2
      · cases e
    | _ => cases e
end Z

namespace Z
open PySem L2
/-! ### what pure defs give -/
def val (r : Option Re) : Option D := match r with
  | some (.ok (.f d) _) => some d
  | _ => none
theorem val_some {d : D} {us : List T} : val (some (.ok (.f d) us)) = some d := rfl
theorem val_ex {r : Option Re} {d : D} (h : val r = some d) : ∃ us, r = some (.ok (.f d) us) := by
  unfold val at h
  split at h
  · cases h; exact ⟨_, rfl⟩
  · cases h
theorem fCallV_eq (G : List T → Option Re) (fs : List T → Option (List T)) (ρ : List T) : fCallV G fs ρ = (fs ρ).bind fun ts => (T.fzs ts).bind fun ds => (val (G (ds.map .f))).bind fun d => if (ts.all isF || d.atom) = true then some (.f d) else none := by
  unfold fCallV
  congr 1
  funext ts
  congr 1
  funext ds
  cases h : G (ds.map .f) with
  | none => rfl
  | some r =>
    cases r with
    | xc C us => rfl
    | ok t us => cases t <;> rfl
def oval (o : Option Out) (m : Nat) : Option D := match o with
  | some (.rt (.f d) ρ) => if m ≤ ρ.length then some d else none
  | some (.nx ρ) => if m ≤ ρ.length then some .non else none
  | _ => none
theorem val_run {m n : Nat} {io : List Nat} {fb : FS} {ts : List T} (h : ts.length = m) : val (runF m n io fb ts) = oval (fb (ts ++ List.replicate (n - m) .un)) m := by
  unfold runF
  rw [if_pos h]
  cases e : fb (ts ++ List.replicate (n - m) .un) with
  | none => rfl
  | some o =>
    cases o with
    | nx ρ =>
      show val (if _ then _ else _) = if _ then _ else _
      split <;> rfl
    | rt t ρ =>
      cases t with
      | f d =>
        show val (if _ then _ else _) = if _ then _ else _
        split <;> rfl
      | _ =>
        show val (if _ then _ else _) = none
        split <;> rfl
    | bk ρ => rfl
    | ct ρ => rfl
    | xc C ρ =>
      show val (if _ then _ else _) = none
      split <;> rfl
/-! ### on ints, texts -/
section
variable {i j : Int} {x y : Str} {a b : Bool} {ds es : List D}
@[simp] theorem gAdd_i : gAdd (.f (.int i)) (.f (.int j)) = some (.f (.int (i + j))) := rfl
@[simp] theorem gSub_i : gSub (.f (.int i)) (.f (.int j)) = some (.f (.int (i - j))) := rfl
@[simp] theorem gBAnd_i : gBAnd (.f (.int i)) (.f (.int j)) = some (.f (.int (Builtin.bitAnd i j))) := rfl
@[simp] theorem gBOr_i : gBOr (.f (.int i)) (.f (.int j)) = some (.f (.int (Builtin.bitOr i j))) := rfl
@[simp] theorem gBXor_i : gBXor (.f (.int i)) (.f (.int j)) = some (.f (.int (Builtin.bitXor i j))) := rfl
@[simp] theorem gLt_i : gLt (.f (.int i)) (.f (.int j)) = some (.f (.bl (decide (i < j)))) := rfl
@[simp] theorem gLe_i : gLe (.f (.int i)) (.f (.int j)) = some (.f (.bl (decide (i ≤ j)))) := rfl
@[simp] theorem gGt_i : gGt (.f (.int i)) (.f (.int j)) = some (.f (.bl (decide (j < i)))) := rfl
@[simp] theorem gGe_i : gGe (.f (.int i)) (.f (.int j)) = some (.f (.bl (decide (j ≤ i)))) := rfl
theorem vdec_int : decide (V.int i = V.int j) = decide (i = j) := by
  by_cases h : i = j
  · subst h; simp
  · have : ¬ V.int i = V.int j := fun e => h (V.int.inj e)
    rw [decide_eq_false this, decide_eq_false h]
theorem vdec_str : decide (V.str x = V.str y) = decide (x = y) := by
  by_cases h : x = y
  · subst h; simp
  · have : ¬ V.str x = V.str y := fun e => h (V.str.inj e)
    rw [decide_eq_false this, decide_eq_false h]
theorem vdec_bl : decide (V.bl a = V.bl b) = decide (a = b) := by
  by_cases h : a = b
  · subst h; simp
  · have : ¬ V.bl a = V.bl b := fun e => h (V.bl.inj e)
    rw [decide_eq_false this, decide_eq_false h]
@[simp] theorem gEq_i : gEq (.f (.int i)) (.f (.int j)) = some (.f (.bl (decide (i = j)))) := by
  show some (T.f (.bl (xor false (decide (V.int i = V.int j))))) = _
  rw [Bool.false_xor, vdec_int]
@[simp] theorem gEq_s : gEq (.f (.str x)) (.f (.str y)) = some (.f (.bl (decide (x = y)))) := by
  show some (T.f (.bl (xor false (decide (V.str x = V.str y))))) = _
  rw [Bool.false_xor, vdec_str]
@[simp] theorem gEq_b : gEq (.f (.bl a)) (.f (.bl b)) = some (.f (.bl (decide (a = b)))) := by
  show some (T.f (.bl (xor false (decide (V.bl a = V.bl b))))) = _
  rw [Bool.false_xor, vdec_bl]
@[simp] theorem gEq_is : gEq (.f (.int i)) (.f (.str y)) = some (.f (.bl false)) := rfl
@[simp] theorem gEq_si : gEq (.f (.str x)) (.f (.int j)) = some (.f (.bl false)) := rfl
@[simp] theorem gNe_i : gNe (.f (.int i)) (.f (.int j)) = some (.f (.bl (!decide (i = j)))) := by
  show some (T.f (.bl (xor true (decide (V.int i = V.int j))))) = _
  rw [Bool.true_xor, vdec_int]
@[simp] theorem gNe_s : gNe (.f (.str x)) (.f (.str y)) = some (.f (.bl (!decide (x = y)))) := by
  show some (T.f (.bl (xor true (decide (V.str x = V.str y))))) = _
  rw [Bool.true_xor, vdec_str]
@[simp] theorem gNe_b : gNe (.f (.bl a)) (.f (.bl b)) = some (.f (.bl (!decide (a = b)))) := by
  show some (T.f (.bl (xor true (decide (V.bl a = V.bl b))))) = _
  rw [Bool.true_xor, vdec_bl]
@[simp] theorem gNe_is : gNe (.f (.int i)) (.f (.str y)) = some (.f (.bl true)) := rfl
@[simp] theorem gNe_si : gNe (.f (.str x)) (.f (.int j)) = some (.f (.bl true)) := rfl
@[simp] theorem gNeg_i : gNeg (.f (.int i)) = some (.f (.int (-i))) := rfl
theorem gI_ok {C : Int → Int → Bool} {g : Int → Int → D} (h : C i j = true) : gI C g (.f (.int i)) (.f (.int j)) = some (.f (g i j)) := by
  show (if C i j = true then _ else none) = _
  rw [if_pos h]
theorem gMod_ok (h : 0 < j) : gMod (.f (.int i)) (.f (.int j)) = some (.f (.int (i % j))) := gI_ok (decide_eq_true h)
theorem log2_small {n : Nat} {k : Nat} (h : n < 2 ^ (k + 1)) : n.log2 < k + 1 := by
  by_cases h0 : n = 0
  · subst h0; simp [Nat.log2_zero]
  · exact (Nat.log2_lt h0).mpr h
theorem gDiv_ok (h : 0 < j) (h2 : j.natAbs < 2 ^ 8999) : gDiv (.f (.int i)) (.f (.int j)) = some (.f (.int (i / j))) := gI_ok (by
  unfold divC
  rw [Bool.and_eq_true]
  exact ⟨decide_eq_true h, decide_eq_true (Nat.lt_succ_of_lt (log2_small h2))⟩)
theorem gMul_ok (h : i.natAbs.log2 + j.natAbs.log2 < 130000000) : gMul (.f (.int i)) (.f (.int j)) = some (.f (.int (i * j))) := gI_ok (decide_eq_true h)
theorem gMul_small (h : i.natAbs < 2 ^ 1000) (h2 : j.natAbs < 2 ^ 1000) : gMul (.f (.int i)) (.f (.int j)) = some (.f (.int (i * j))) := gMul_ok (by
  have a := log2_small (k := 999) h
  have b := log2_small (k := 999) h2
  omega)
theorem gShl_ok (h : 0 ≤ j) (h1 : j ≤ 1000000) (h2 : i.natAbs < 2 ^ 64) : gShl (.f (.int i)) (.f (.int j)) = some (.f (.int (i * 2 ^ j.toNat))) := gI_ok (by
  unfold powC
  rw [Bool.and_eq_true, Bool.and_eq_true]
  exact ⟨⟨decide_eq_true h, decide_eq_true h1⟩, decide_eq_true h2⟩)
theorem gPow_ok (h : 0 ≤ j) (h1 : j ≤ 1000000) (h2 : i.natAbs < 2 ^ 64) : gPow (.f (.int i)) (.f (.int j)) = some (.f (.int (i ^ j.toNat))) := gI_ok (by
  unfold powC
  rw [Bool.and_eq_true, Bool.and_eq_true]
  exact ⟨⟨decide_eq_true h, decide_eq_true h1⟩, decide_eq_true h2⟩)
theorem gShr_ok (h : 0 ≤ j) : gShr (.f (.int i)) (.f (.int j)) = some (.f (.int (i / 2 ^ j.toNat))) := gI_ok (decide_eq_true h)
@[simp] theorem gInt1_i : gInt1 [.f (.int i)] = some (.f (.int i)) := rfl
@[simp] theorem gInt1_b : gInt1 [.f (.bl a)] = some (.f (.int (if a = true then 1 else 0))) := rfl
@[simp] theorem gMax2_i : gMax2 [.f (.int i), .f (.int j)] = some (.f (.int (if j > i then j else i))) := rfl
@[simp] theorem gMin2_i : gMin2 [.f (.int i), .f (.int j)] = some (.f (.int (if j < i then j else i))) := rfl
@[simp] theorem gLen_l : gLen [.f (.lst ds)] = some (.f (.int ds.length)) := rfl
@[simp] theorem gLen_t : gLen [.f (.tup ds)] = some (.f (.int ds.length)) := rfl
@[simp] theorem gLen_o : gLen [.l ds] = some (.f (.int ds.length)) := rfl
theorem gIx_l (h : atI ds i = some d) : gIx (.f (.lst ds)) (.f (.int i)) = some (.f d) := by
  show ((((atI ds i).map T.f).orElse fun _ => none).orElse fun _ => _) = _
  rw [h]
  rfl
theorem gIx_t (h : atI ds i = some d) : gIx (.f (.tup ds)) (.f (.int i)) = some (.f d) := by
  show ((((atI ds i).map T.f).orElse fun _ => none).orElse fun _ => _) = _
  rw [h]
  rfl
theorem gIx_o (h : atI ds i = some d) : gIx (.l ds) (.f (.int i)) = some (.f d) := by
  show ((((atI ds i).map T.f).orElse fun _ => none).orElse fun _ => _) = _
  rw [h]
  rfl
end
end Z

namespace Z
open PySem L2
/-! ### walking: forms without binders, so that simp only goes on only with what is reached -/
section
variable {ρ ρ1 : List T} {d e : D} {ds es : List D} {t x y : T} {i n m : Nat} {b : Bool} {f g : FS} {fa fb fc : List T → Option T}
def nn (r : Option T) : Option T := match r with
  | some .un => none
  | r => r
theorem wz_var : fVar i ρ = nn ρ[i]? := by unfold fVar nn; rfl
theorem nn_f : nn (some (.f d)) = some (.f d) := rfl
theorem nn_l : nn (some (.l ds)) = some (.l ds) := rfl
theorem nn_dk {ks} : nn (some (.dk ks ds)) = some (.dk ks ds) := rfl
theorem nn_ll {ts} : nn (some (.ll ts)) = some (.ll ts) := rfl
theorem nn_tu {ts} : nn (some (.tu ts)) = some (.tu ts) := rfl
theorem nn_o {C ns ts} : nn (some (.o C ns ts)) = some (.o C ns ts) := rfl
def mvK (i : Nat) (ρ : List T) (r : Option T) : Option Re := match r with
  | some .un => none
  | some t => some (.ok t (ρ.set i .un))
  | none => none
theorem wz_mv : fMv i ρ = mvK i ρ ρ[i]? := by unfold fMv mvK; rfl
theorem mvK_f : mvK i ρ (some (.f d)) = some (.ok (.f d) (ρ.set i .un)) := rfl
theorem mvK_l : mvK i ρ (some (.l ds)) = some (.ok (.l ds) (ρ.set i .un)) := rfl
theorem mvK_dk {ks} : mvK i ρ (some (.dk ks ds)) = some (.ok (.dk ks ds) (ρ.set i .un)) := rfl
theorem mvK_ll {ts} : mvK i ρ (some (.ll ts)) = some (.ok (.ll ts) (ρ.set i .un)) := rfl
theorem mvK_tu {ts} : mvK i ρ (some (.tu ts)) = some (.ok (.tu ts) (ρ.set i .un)) := rfl
theorem mvK_o {C ns ts} : mvK i ρ (some (.o C ns ts)) = some (.ok (.o C ns ts) (ρ.set i .un)) := rfl
def k1 (g : T → Option T) (o : Option T) : Option T := o.bind g
theorem wz_f1 {g} : f1 g fa ρ = k1 g (fa ρ) := rfl
theorem k1_s {g} : k1 g (some x) = g x := rfl
def k2 (g : T → T → Option T) (o p : Option T) : Option T := o.bind fun x => p.bind fun y => g x y
theorem wz_f2 {g} : f2 g fa fb ρ = k2 g (fa ρ) (fb ρ) := rfl
theorem k2_s {g} : k2 g (some x) (some y) = g x y := rfl
def kN (g : List T → Option T) (o : Option (List T)) : Option T := o.bind g
theorem wz_fN {g fs} : fN g fs ρ = kN g (fs ρ) := rfl
theorem kN_s {g ts} : kN g (some ts) = g ts := rfl
theorem wz_fC : fC d ρ = some (.f d) := rfl
theorem wz_aNil : aNil ρ = some [] := rfl
def kCons (o : Option T) (p : Option (List T)) : Option (List T) := o.bind fun x => p.map fun xs => x :: xs
theorem wz_aCons {fs} : aCons fa fs ρ = kCons (fa ρ) (fs ρ) := rfl
theorem kCons_s {ts} : kCons (some x) (some ts) = some (x :: ts) := rfl
def kT (o : Option T) : Option Bool := o.bind T.b?
theorem wz_fT : fT fa ρ = kT (fa ρ) := rfl
theorem kT_s : kT (some (.f (.bl b))) = some b := rfl
def kAnd (gb : List T → Option Bool) (ρ : List T) (o : Option Bool) : Option Bool := o.bind fun x => if x = true then gb ρ else some false
def kOr (gb : List T → Option Bool) (ρ : List T) (o : Option Bool) : Option Bool := o.bind fun x => if x = true then some true else gb ρ
def kNot (o : Option Bool) : Option Bool := o.map (!·)
theorem wz_tAnd {ga gb} : tAndF ga gb ρ = kAnd gb ρ (ga ρ) := rfl
theorem wz_tOr {ga gb} : tOrF ga gb ρ = kOr gb ρ (ga ρ) := rfl
theorem wz_tNot {ga} : tNotF ga ρ = kNot (ga ρ) := rfl
theorem kAnd_t {gb} : kAnd gb ρ (some true) = gb ρ := rfl
theorem kAnd_f {gb} : kAnd gb ρ (some false) = some false := rfl
theorem kOr_t {gb} : kOr gb ρ (some true) = some true := rfl
theorem kOr_f {gb} : kOr gb ρ (some false) = gb ρ := rfl
theorem kNot_s : kNot (some b) = some (!b) := rfl
def kIf (fa fb : List T → Option T) (ρ : List T) (o : Option Bool) : Option T := o.bind fun x => if x = true then fa ρ else fb ρ
theorem wz_fIf {g} : fIf g fa fb ρ = kIf fa fb ρ (g ρ) := rfl
theorem kIf_t : kIf fa fb ρ (some true) = fa ρ := rfl
theorem kIf_f : kIf fa fb ρ (some false) = fb ρ := rfl
theorem wz_fAnd : fAnd fa fb ρ = kIf fb (fC (.bl false)) ρ (kT (fa ρ)) := rfl
theorem wz_fOr : fOr fa fb ρ = kIf (fC (.bl true)) fb ρ (kT (fa ρ)) := rfl
def kBl (o : Option Bool) : Option T := o.map fun x => .f (.bl x)
theorem kBl_s : kBl (some b) = some (.f (.bl b)) := rfl
theorem wz_fNot : fNot fa ρ = kBl (kNot (kT (fa ρ))) := by
  show (fT fa ρ).map _ = _
  show (kT (fa ρ)).map _ = _
  cases kT (fa ρ) <;> rfl
def kLift (ρ : List T) (o : Option T) : Option Re := o.bind fun t => t.d?.map fun d => .ok (.f d) ρ
theorem wz_lift : lift fa ρ = kLift ρ (fa ρ) := rfl
theorem kLift_s : kLift ρ (some (.f d)) = some (.ok (.f d) ρ) := rfl
def kFz (r : Option Re) : Option Re := r.bind fun r => match r with
  | .ok t ρ' => t.fz.map fun d => .ok (.f d) ρ'
  | r => some r
theorem wz_fFz {fo} : fFz fo ρ = kFz (fo ρ) := by
  unfold fFz kFz
  cases fo ρ with
  | none => rfl
  | some r => cases r <;> rfl
theorem kFz_f : kFz (some (.ok (.f d) ρ)) = some (.ok (.f d) ρ) := rfl
theorem kFz_l : kFz (some (.ok (.l ds) ρ)) = some (.ok (.f (.lst ds)) ρ) := rfl
theorem kFz_dk {ks} : kFz (some (.ok (.dk ks ds) ρ)) = some (.ok (.f (.dct ks ds)) ρ) := rfl
theorem wz_sNil : sNil ρ = some (.nx ρ) := rfl
def kSeq (g : FS) (o : Option Out) : Option Out := o.bind fun o => match o with
  | .nx ρ1 => g ρ1
  | o => some o
theorem wz_sSeq : sSeq f g ρ = kSeq g (f ρ) := by
  unfold sSeq kSeq
  cases f ρ with
  | none => rfl
  | some r => cases r <;> rfl
theorem kSeq_nx : kSeq g (some (.nx ρ)) = g ρ := rfl
theorem kSeq_rt : kSeq g (some (.rt t ρ)) = some (.rt t ρ) := rfl
theorem kSeq_bk : kSeq g (some (.bk ρ)) = some (.bk ρ) := rfl
theorem kSeq_ct : kSeq g (some (.ct ρ)) = some (.ct ρ) := rfl
theorem kSeq_xc {C} : kSeq g (some (.xc C ρ)) = some (.xc C ρ) := rfl
def kSet (i : Nat) (o : Option Re) : Option Out := o.map fun r => match r with
  | .ok t ρ1 => .nx (ρ1.set i t)
  | .xc C ρ1 => .xc C ρ1
theorem wz_sSet {fo} : sSet i fo ρ = kSet i (fo ρ) := by
  unfold sSet kSet
  cases fo ρ with
  | none => rfl
  | some r => cases r <;> rfl
theorem kSet_s : kSet i (some (.ok t ρ)) = some (.nx (ρ.set i t)) := rfl
def kEx (o : Option Re) : Option Out := o.map fun r => match r with
  | .ok t ρ1 => .nx ρ1
  | .xc C ρ1 => .xc C ρ1
theorem wz_sExpr {fo} : sExpr fo ρ = kEx (fo ρ) := by
  unfold sExpr kEx
  cases fo ρ with
  | none => rfl
  | some r => cases r <;> rfl
theorem kEx_s : kEx (some (.ok t ρ)) = some (.nx ρ) := rfl
def kRet (o : Option Re) : Option Out := o.map fun r => match r with
  | .ok t ρ1 => .rt t ρ1
  | .xc C ρ1 => .xc C ρ1
theorem wz_sRet {fo} : sRet fo ρ = kRet (fo ρ) := by
  unfold sRet kRet
  cases fo ρ with
  | none => rfl
  | some r => cases r <;> rfl
theorem kRet_s : kRet (some (.ok t ρ)) = some (.rt t ρ) := rfl
theorem wz_sRetN : sRetN ρ = some (.rt (.f .non) ρ) := rfl
theorem wz_sBk : sBk ρ = some (.bk ρ) := rfl
theorem wz_sCt : sCt ρ = some (.ct ρ) := rfl
def kLiB (ρ : List T) (o : Option Bool) : Option Rb := o.map fun x => .ok x ρ
theorem wz_liftB {h} : liftB h ρ = kLiB ρ (h ρ) := rfl
theorem kLiB_s : kLiB ρ (some b) = some (.ok b ρ) := rfl
def kTst (r : Option Re) : Option Rb := r.bind fun r => match r with
  | .ok t ρ1 => t.b?.map fun x => .ok x ρ1
  | .xc C ρ1 => some (.xc C ρ1)
theorem wz_oTest {fo} : oTest fo ρ = kTst (fo ρ) := by
  unfold oTest kTst
  cases fo ρ with
  | none => rfl
  | some r => cases r <;> rfl
theorem kTst_s : kTst (some (.ok (.f (.bl b)) ρ)) = some (.ok b ρ) := rfl
def kONot (r : Option Rb) : Option Rb := r.map fun r => match r with
  | .ok x ρ1 => .ok (!x) ρ1
  | r => r
theorem wz_oNot {ga} : oNot ga ρ = kONot (ga ρ) := by
  unfold oNot kONot
  cases ga ρ with
  | none => rfl
  | some r => cases r <;> rfl
theorem kONot_s : kONot (some (.ok b ρ)) = some (.ok (!b) ρ) := rfl
def kIfS (f g : FS) (r : Option Rb) : Option Out := r.bind fun r => match r with
  | .ok x ρ1 => if x = true then f ρ1 else g ρ1
  | .xc C ρ1 => some (.xc C ρ1)
theorem wz_sIf {h} : sIf h f g ρ = kIfS f g (h ρ) := by
  unfold sIf kIfS
  cases h ρ with
  | none => rfl
  | some r => cases r <;> rfl
theorem kIfS_t : kIfS f g (some (.ok true ρ)) = f ρ := rfl
theorem kIfS_f : kIfS f g (some (.ok false ρ)) = g ρ := rfl
theorem kIfS_d {p : Prop} [Decidable p] : kIfS f g (some (.ok (decide p) ρ)) = if p then f ρ else g ρ := by
  by_cases h : p
  · rw [decide_eq_true h, if_pos h]; rfl
  · rw [decide_eq_false h, if_neg h]; rfl
/-! calls -/
def kV (o : Option D) : Option T := o.map .f
theorem kV_s : kV (some d) = some (.f d) := rfl
def kCall (G : List T → Option Re) (o : Option (List T)) : Option T := o.bind fun ts => (T.fzs ts).bind fun ds => (val (G (ds.map .f))).bind fun d => if (ts.all isF || d.atom) = true then some (.f d) else none
theorem wz_fCallV {G fs} : fCallV G fs ρ = kCall G (fs ρ) := fCallV_eq G fs ρ
theorem fzs_f : ∀ (ds : List D), T.fzs (ds.map .f) = some ds
  | [] => rfl
  | d :: ds => by
    show (T.fz (.f d)).bind (fun d => (T.fzs (ds.map .f)).map fun ds => d :: ds) = _
    rw [fzs_f ds]
    rfl
theorem all_f : ∀ (ds : List D), (ds.map T.f).all isF = true
  | [] => rfl
  | d :: ds => by
    show (isF (.f d) && (ds.map T.f).all isF) = true
    rw [all_f ds]
    rfl
theorem kCall_m {G} : kCall G (some (ds.map T.f)) = kV (val (G (ds.map T.f))) := by
  show (T.fzs (ds.map T.f)).bind _ = _
  rw [fzs_f]
  show (val (G (ds.map .f))).bind _ = _
  rw [all_f]
  cases val (G (ds.map .f)) <;> rfl
theorem kCall_0 {G} : kCall G (some []) = kV (val (G [])) := kCall_m (ds := [])
theorem kCall_1 {G d1} : kCall G (some [.f d1]) = kV (val (G [.f d1])) := kCall_m (ds := [d1])
theorem kCall_2 {G d1 d2} : kCall G (some [.f d1, .f d2]) = kV (val (G [.f d1, .f d2])) := kCall_m (ds := [d1, d2])
theorem kCall_3 {G d1 d2 d3} : kCall G (some [.f d1, .f d2, .f d3]) = kV (val (G [.f d1, .f d2, .f d3])) := kCall_m (ds := [d1, d2, d3])
theorem kCall_4 {G d1 d2 d3 d4} : kCall G (some [.f d1, .f d2, .f d3, .f d4]) = kV (val (G [.f d1, .f d2, .f d3, .f d4])) := kCall_m (ds := [d1, d2, d3, d4])
theorem kCall_5 {G d1 d2 d3 d4 d5} : kCall G (some [.f d1, .f d2, .f d3, .f d4, .f d5]) = kV (val (G [.f d1, .f d2, .f d3, .f d4, .f d5])) := kCall_m (ds := [d1, d2, d3, d4, d5])
theorem kCall_6 {G d1 d2 d3 d4 d5 d6} : kCall G (some [.f d1, .f d2, .f d3, .f d4, .f d5, .f d6]) = kV (val (G [.f d1, .f d2, .f d3, .f d4, .f d5, .f d6])) := kCall_m (ds := [d1, d2, d3, d4, d5, d6])
theorem kCall_7 {G d1 d2 d3 d4 d5 d6 d7} : kCall G (some [.f d1, .f d2, .f d3, .f d4, .f d5, .f d6, .f d7]) = kV (val (G [.f d1, .f d2, .f d3, .f d4, .f d5, .f d6, .f d7])) := kCall_m (ds := [d1, d2, d3, d4, d5, d6, d7])
/-- owned things lent to a def that answers with an atom -/
theorem kCall_g {G ts} (h : T.fzs ts = some ds) (hv : val (G (ds.map .f)) = some d) (ha : d.atom = true) : kCall G (some ts) = some (.f d) := by
  show (T.fzs ts).bind _ = _
  rw [h]
  show (val (G (ds.map .f))).bind _ = _
  rw [hv]
  show (if _ then _ else _) = _
  rw [if_pos (by rw [ha, Bool.or_true])]
/-! displays -/
def kDisp (o : Option (List (Key × D))) : Option T := o.bind fun kds => if kds.length ≤ 15 then some (.f (.dct (dmerge [] [] kds).1 (dmerge [] [] kds).2)) else none
theorem wz_fDispD {h} : fDispD h ρ = kDisp (h ρ) := rfl
theorem kDisp_s {kds : List (Key × D)} (h : kds.length ≤ 15) : kDisp (some kds) = some (.f (.dct (dmerge [] [] kds).1 (dmerge [] [] kds).2)) := if_pos h
theorem wz_pNil : pNil ρ = some [] := rfl
def kPair (ok ov : Option T) (o : Option (List (Key × D))) : Option (List (Key × D)) := ok.bind fun k => k.key?.bind fun k => ov.bind fun v => v.d?.bind fun d => o.map fun r => (k, d) :: r
theorem wz_pCons {h} : pCons fa fb h ρ = kPair (fa ρ) (fb ρ) (h ρ) := rfl
theorem kPair_s {x : Str} {r} : kPair (some (.f (.str x))) (some (.f d)) (some r) = some ((.inr x, d) :: r) := rfl
theorem kPair_i {x : Int} {r} : kPair (some (.f (.int x))) (some (.f d)) (some r) = some ((.inl x, d) :: r) := rfl
def kNl (ρ : List T) (o : Option (List D)) : Option Re := o.bind fun ds => if ds.length ≤ sizeLine then some (.ok (.l ds) ρ) else none
def kNl' (ρ : List T) (o : Option (List T)) : Option Re := o.bind fun ts => kNl ρ (deep ts)
theorem wz_fNewL {fs} : fNewL fs ρ = kNl' ρ (fs ρ) := rfl
theorem kNl'_s {ts} : kNl' ρ (some ts) = kNl ρ (deep ts) := rfl
theorem kNl_s (h : ds.length ≤ 16777216) : kNl ρ (some ds) = some (.ok (.l ds) ρ) := if_pos h
theorem wz_fNewD : fNewD ρ = some (.ok (.dk [] []) ρ) := rfl
/-! loops -/
def kFor (fg : T → List T → Option (List T)) (fb : FS) (r : Option Ri) : Option Out := r.bind fun r => match r with
  | .ok ds ρ1 => forF fg fb ds ρ1
  | .xc C ρ1 => some (.xc C ρ1)
theorem wz_sFor {fi fg fb} : sFor fi fg fb ρ = kFor fg fb (fi ρ) := by
  unfold sFor kFor
  cases fi ρ with
  | none => rfl
  | some r => cases r <;> rfl
theorem kFor_s {fg fb} : kFor fg fb (some (.ok ds ρ)) = forF fg fb ds ρ := rfl
theorem for_nil {fg fb} : forF fg fb [] ρ = some (.nx ρ) := rfl
def kBody (fg : T → List T → Option (List T)) (fb : FS) (ds : List D) (o : Option Out) : Option Out := o.bind fun o => match o with
  | .nx ρ2 => forF fg fb ds ρ2
  | .ct ρ2 => forF fg fb ds ρ2
  | .bk ρ2 => some (.nx ρ2)
  | o => some o
def kTgt (fg : T → List T → Option (List T)) (fb : FS) (ds : List D) (o : Option (List T)) : Option Out := o.bind fun ρ1 => kBody fg fb ds (fb ρ1)
theorem for_cons {fg fb} : forF fg fb (d :: ds) ρ = kTgt fg fb ds (fg (.f d) ρ) := by
  show (fg (.f d) ρ).bind _ = (fg (.f d) ρ).bind _
  cases fg (.f d) ρ with
  | none => rfl
  | some ρ1 =>
    show (fb ρ1).bind _ = (fb ρ1).bind _
    cases fb ρ1 with
    | none => rfl
    | some o => cases o <;> rfl
theorem kTgt_s {fg fb} : kTgt fg fb ds (some ρ) = kBody fg fb ds (fb ρ) := rfl
theorem kBody_nx {fg fb} : kBody fg fb ds (some (.nx ρ)) = forF fg fb ds ρ := rfl
theorem kBody_ct {fg fb} : kBody fg fb ds (some (.ct ρ)) = forF fg fb ds ρ := rfl
theorem kBody_bk {fg fb} : kBody fg fb ds (some (.bk ρ)) = some (.nx ρ) := rfl
theorem kBody_rt {fg fb} : kBody fg fb ds (some (.rt t ρ)) = some (.rt t ρ) := rfl
theorem kBody_xc {fg fb C} : kBody fg fb ds (some (.xc C ρ)) = some (.xc C ρ) := rfl
/-- a loop that runs to its end -/
theorem for_inv {fg : T → List T → Option (List T)} {fb : FS} (P : List D → List T → Prop)
    (step : ∀ d ds ρ, P (d :: ds) ρ → ∃ ρ1 ρ2, fg (.f d) ρ = some ρ1 ∧ (fb ρ1 = some (.nx ρ2) ∨ fb ρ1 = some (.ct ρ2)) ∧ P ds ρ2) :
    ∀ {ds : List D} {ρ : List T}, P ds ρ → ∃ ρ', forF fg fb ds ρ = some (.nx ρ') ∧ P [] ρ'
  | [], ρ, h => ⟨ρ, rfl, h⟩
  | d :: ds, ρ, h => by
    obtain ⟨ρ1, ρ2, e1, e2, h2⟩ := step d ds ρ h
    obtain ⟨ρ', e3, h3⟩ := for_inv P step h2
    refine ⟨ρ', ?_, h3⟩
    rw [for_cons, e1, kTgt_s]
    rcases e2 with e2 | e2
    · rw [e2, kBody_nx, e3]
    · rw [e2, kBody_ct, e3]
def kIt (r : Option Re) : Option Ri := r.bind fun r => match r with
  | .ok t ρ1 => t.d?.bind fun d => d.its.map fun ds => .ok ds ρ1
  | .xc C ρ1 => some (.xc C ρ1)
theorem wz_iVal {fo} : iVal fo ρ = kIt (fo ρ) := by
  unfold iVal kIt
  cases fo ρ with
  | none => rfl
  | some r => cases r <;> rfl
theorem kIt_l : kIt (some (.ok (.f (.lst ds)) ρ)) = some (.ok ds ρ) := rfl
theorem kIt_t : kIt (some (.ok (.f (.tup ds)) ρ)) = some (.ok ds ρ) := rfl
theorem kIt_s {z : Str} : kIt (some (.ok (.f (.str z)) ρ)) = some (.ok (signs z) ρ) := rfl
def kI1 (g : List D → List D) (ρ : List T) (o : Option (List T)) : Option Ri := o.bind fun ts => match ts with
  | [.f (.lst ds)] => some (.ok (g ds) ρ)
  | _ => none
theorem wz_iL1 {g fs} : iL1 g fs ρ = kI1 g ρ (fs ρ) := by
  unfold iL1 kI1
  rfl
theorem kI1_s {g} : kI1 g ρ (some [.f (.lst ds)]) = some (.ok (g ds) ρ) := rfl
def kI2 (g : List D → List D → List D) (ρ : List T) (o : Option (List T)) : Option Ri := o.bind fun ts => match ts with
  | [.f (.lst ds), .f (.lst es)] => some (.ok (g ds es) ρ)
  | _ => none
theorem wz_iL2 {g fs} : iL2 g fs ρ = kI2 g ρ (fs ρ) := by
  unfold iL2 kI2
  rfl
theorem kI2_s {g} : kI2 g ρ (some [.f (.lst ds), .f (.lst es)]) = some (.ok (g ds es) ρ) := rfl
def kR1 (ρ : List T) (o : Option (List T)) : Option Ri := o.bind fun ts => match ts with
  | [.f (.int n)] => if -(2 ^ 62) ≤ n ∧ n < 2 ^ 62 then some (.ok (rangeD 0 n.toNat) ρ) else none
  | _ => none
theorem wz_iR1 {fs} : iR1 fs ρ = kR1 ρ (fs ρ) := by
  unfold iR1 kR1
  rfl
theorem kR1_s {k : Int} (h : -(2 ^ 62) ≤ k ∧ k < 2 ^ 62) : kR1 ρ (some [.f (.int k)]) = some (.ok (rangeD 0 k.toNat) ρ) := if_pos h
def kR2 (ρ : List T) (o : Option (List T)) : Option Ri := o.bind fun ts => match ts with
  | [.f (.int m), .f (.int n)] => if -(2 ^ 62) ≤ m ∧ m < 2 ^ 62 ∧ -(2 ^ 62) ≤ n ∧ n < 2 ^ 62 then some (.ok (rangeD m (n - m).toNat) ρ) else none
  | _ => none
theorem wz_iR2 {fs} : iR2 fs ρ = kR2 ρ (fs ρ) := by
  unfold iR2 kR2
  rfl
theorem kR2_s {j k : Int} (h : -(2 ^ 62) ≤ j ∧ j < 2 ^ 62 ∧ -(2 ^ 62) ≤ k ∧ k < 2 ^ 62) : kR2 ρ (some [.f (.int j), .f (.int k)]) = some (.ok (rangeD j (k - j).toNat) ρ) := if_pos h
theorem rangeD_zero {j : Int} : rangeD j 0 = [] := rfl
theorem rangeD_succ {j : Int} : rangeD j (n + 1) = .int j :: rangeD (j + 1) n := by
  unfold rangeD
  rw [List.range_succ_eq_map, List.map_cons, List.map_map]
  congr 1
  · simp
  · refine List.map_congr_left fun a _ => ?_
    show D.int (j + ((a + 1 : Nat) : Int)) = D.int (j + 1 + (a : Int))
    congr 1
    omega
/-! targets -/
theorem wz_gSet : gSet i t ρ = some (ρ.set i t) := rfl
theorem wz_gsNil : gsNil [] ρ = some ρ := rfl
def kGs (g : List T → List T → Option (List T)) (ts : List T) (o : Option (List T)) : Option (List T) := o.bind fun ρ1 => g ts ρ1
theorem wz_gsCons {h g ts} : gsCons h g (t :: ts) ρ = kGs g ts (h t ρ) := rfl
theorem kGs_s {g ts} : kGs g ts (some ρ) = g ts ρ := rfl
theorem wz_gTupT {h} (e : ds.length = n) : gTupT n h (.f (.tup ds)) ρ = h (ds.map .f) ρ := if_pos e
/-! ends -/
theorem oval_rt (m : Nat) (d : D) (ρ : List T) (h : m ≤ ρ.length) : oval (some (.rt (.f d) ρ)) m = some d := if_pos h
theorem oval_nx (m : Nat) (ρ : List T) (h : m ≤ ρ.length) : oval (some (.nx ρ)) m = some .non := if_pos h
/-! values -/
theorem gIx_ds {ks z} (h : dAt ks ds (.inr z) = some d) : gIx (.f (.dct ks ds)) (.f (.str z)) = some (.f d) := by
  show (Option.orElse none fun _ => _) = _
  show (Option.orElse none fun _ => (dAt ks ds (.inr z)).map T.f) = _
  rw [h]
  rfl
theorem gIx_di {ks} {z : Int} (h : dAt ks ds (.inl z) = some d) : gIx (.f (.dct ks ds)) (.f (.int z)) = some (.f d) := by
  show (Option.orElse none fun _ => _) = _
  show (Option.orElse none fun _ => (dAt ks ds (.inl z)).map T.f) = _
  rw [h]
  rfl
theorem deep_nil : deep [] = some [] := rfl
def kDc (d : D) (o : Option (List D)) : Option (List D) := o.map fun ds => d :: ds
theorem deep_f {ts} : deep (.f d :: ts) = kDc d (deep ts) := rfl
theorem kDc_s : kDc d (some ds) = some (d :: ds) := rfl
theorem deep_map : ∀ (ds : List D), deep (ds.map .f) = some ds
  | [] => rfl
  | d :: ds => by
    show kDc d (deep (ds.map .f)) = _
    rw [deep_map ds]
    rfl
def kTp (o : Option (List D)) : Option T := o.bind fun ds => if ds.length ≤ sizeLine then some (.f (.tup ds)) else none
theorem wz_gTup {ts} : Z.gTup ts = kTp (deep ts) := rfl
theorem kTp_s (h : ds.length ≤ 16777216) : kTp (some ds) = some (.f (.tup ds)) := if_pos h
def kLs (o : Option (List D)) : Option T := o.bind fun ds => if ds.length ≤ sizeLine then some (.f (.lst ds)) else none
theorem wz_gLst {ts} : gLst ts = kLs (deep ts) := rfl
theorem kLs_s (h : ds.length ≤ 16777216) : kLs (some ds) = some (.f (.lst ds)) := if_pos h
theorem atI_of {α : Type} {xs : List α} {i : Int} {a : α} (h0 : 0 ≤ i) (h : xs[i.toNat]? = some a) : atI xs i = some a := by
  have hl : i.toNat < xs.length := by
    rcases Nat.lt_or_ge i.toNat xs.length with z | z
    · exact z
    · rw [List.getElem?_eq_none z] at h; cases h
  unfold atI ixN
  rw [if_pos h0, if_pos (by omega)]
  exact h
theorem atI_nat {α : Type} {xs : List α} {i : Nat} {a : α} (h : xs[i]? = some a) : atI xs (i : Int) = some a := atI_of (by omega) (by simpa using h)
theorem cutD_take {α : Type} {xs : List α} {k : Nat} : cutD xs none (some (k : Int)) = xs.take k := by
  unfold cutD
  rw [HT.sIx_none, HT.sIx_nat, List.drop_zero, Nat.sub_zero]
  rcases Nat.le_total k xs.length with h | h
  · rw [Nat.min_eq_left h]
  · rw [Nat.min_eq_right h, List.take_length, List.take_of_length_le h]
theorem cutD_drop {α : Type} {xs : List α} {k : Nat} : cutD xs (some (k : Int)) none = xs.drop k := by
  unfold cutD
  rw [HT.sIx_none, HT.sIx_nat]
  rcases Nat.le_total k xs.length with h | h
  · rw [Nat.min_eq_left h, List.take_of_length_le (by rw [List.length_drop]; exact Nat.le_refl _)]
  · rw [Nat.min_eq_right h, List.drop_of_length_le (Nat.le_refl _), List.drop_of_length_le h]
    simp
theorem gSl_l {lo hi} : gSl (.f (.lst ds)) lo hi = some (.f (.lst (cutD ds lo hi))) := rfl
theorem gSl_o {lo hi} : gSl (.l ds) lo hi = some (.f (.lst (cutD ds lo hi))) := rfl
def kS00 (o : Option T) : Option T := o.bind fun t => gSl t none none
def kS10 (o p : Option T) : Option T := o.bind fun t => p.bind fun x => x.i?.bind fun i => gSl t (some i) none
def kS01 (o p : Option T) : Option T := o.bind fun t => p.bind fun x => x.i?.bind fun i => gSl t none (some i)
def kS11 (o p q : Option T) : Option T := o.bind fun t => p.bind fun x => x.i?.bind fun i => q.bind fun y => y.i?.bind fun j => gSl t (some i) (some j)
theorem wz_sl00 : fSl fa none none ρ = kS00 (fa ρ) := rfl
theorem wz_sl10 : fSl fa (some fb) none ρ = kS10 (fa ρ) (fb ρ) := rfl
theorem wz_sl01 : fSl fa none (some fb) ρ = kS01 (fa ρ) (fb ρ) := rfl
theorem wz_sl11 : fSl fa (some fb) (some fc) ρ = kS11 (fa ρ) (fb ρ) (fc ρ) := rfl
theorem kS00_s : kS00 (some t) = gSl t none none := rfl
theorem kS10_s {i : Int} : kS10 (some t) (some (.f (.int i))) = gSl t (some i) none := rfl
theorem kS01_s {i : Int} : kS01 (some t) (some (.f (.int i))) = gSl t none (some i) := rfl
theorem kS11_s {i j : Int} : kS11 (some t) (some (.f (.int i))) (some (.f (.int j))) = gSl t (some i) (some j) := rfl
def gIsi (n : String) (t : T) : Option T := t.ty.bind fun m => (kitB m n).map fun b => .f (.bl b)
theorem wz_fIsi {n : String} : fIsi n fa ρ = k1 (gIsi n) (fa ρ) := rfl
theorem kitB_ii : kitB "int" "int" = some true := by decide +kernel
theorem kitB_ib : kitB "int" "bool" = some false := by decide +kernel
theorem kitB_nl : kitB "NoneType" "list" = some false := by decide +kernel
theorem kitB_ll : kitB "list" "list" = some true := by decide +kernel
theorem kitB_tt : kitB "tuple" "tuple" = some true := by decide +kernel
theorem kitB_ss : kitB "str" "str" = some true := by decide +kernel
theorem kitB_bb : kitB "bool" "bool" = some true := by decide +kernel
theorem kitB_tl : kitB "tuple" "list" = some false := by decide +kernel
theorem kitB_dd : kitB "dict" "dict" = some true := by decide +kernel
theorem gIsi_ii {i : Int} : gIsi "int" (.f (.int i)) = some (.f (.bl true)) := congrArg (Option.map fun b => T.f (.bl b)) kitB_ii
theorem gIsi_ib {i : Int} : gIsi "bool" (.f (.int i)) = some (.f (.bl false)) := congrArg (Option.map fun b => T.f (.bl b)) kitB_ib
theorem gIsi_ll : gIsi "list" (.f (.lst ds)) = some (.f (.bl true)) := congrArg (Option.map fun b => T.f (.bl b)) kitB_ll
theorem gIsi_lo : gIsi "list" (.l ds) = some (.f (.bl true)) := congrArg (Option.map fun b => T.f (.bl b)) kitB_ll
theorem gIsi_tt : gIsi "tuple" (.f (.tup ds)) = some (.f (.bl true)) := congrArg (Option.map fun b => T.f (.bl b)) kitB_tt
theorem gIsi_ss {i : Str} : gIsi "str" (.f (.str i)) = some (.f (.bl true)) := congrArg (Option.map fun b => T.f (.bl b)) kitB_ss
theorem gIsi_bb {i : Bool} : gIsi "bool" (.f (.bl i)) = some (.f (.bl true)) := congrArg (Option.map fun b => T.f (.bl b)) kitB_bb
theorem gIsi_dd {ks} : gIsi "dict" (.f (.dct ks ds)) = some (.f (.bl true)) := congrArg (Option.map fun b => T.f (.bl b)) kitB_dd
theorem gCat_l (h : ds.length + es.length ≤ 16777216) : gAdd (.f (.lst ds)) (.f (.lst es)) = some (.f (.lst (ds ++ es))) := by
  show (Option.orElse none fun _ => Option.orElse none fun _ => Option.orElse (if ds.length + es.length ≤ sizeLine then some (T.f (.lst (ds ++ es))) else none) fun _ => _) = _
  rw [if_pos (show ds.length + es.length ≤ sizeLine from h)]
  rfl
theorem gCat_s {x y : Str} (h : x.length + y.length ≤ 16777216) : gAdd (.f (.str x)) (.f (.str y)) = some (.f (.str (x ++ y))) := by
  show (Option.orElse none fun _ => Option.orElse (if x.length + y.length ≤ sizeLine then some (T.f (.str (x ++ y))) else none) fun _ => _) = _
  rw [if_pos (show x.length + y.length ≤ sizeLine from h)]
  rfl
theorem dec01 {p : Prop} [Decidable p] : (if decide p = true then (1 : Int) else 0) = if p then 1 else 0 := by
  by_cases h : p
  · rw [decide_eq_true h, if_pos h]; rfl
  · rw [decide_eq_false h, if_neg h]; rfl
end
end Z

namespace Z
open PySem L2
/-! ### rules with number conditions, for a walk that discharges them -/
section
variable {i j : Int} {x y : Str} {a b : Bool} {ds es : List D} {d e : D} {ρ : List T}
theorem str_inj {a b : String} : (Str.ofString a = Str.ofString b) = (a = b) := propext ⟨fun h => by
  rw [Str.ofString_eq_toList, Str.ofString_eq_toList] at h
  injection h with h
  have h2 : a.toList.map Char.toNat = b.toList.map Char.toNat := by simpa using h
  have h3 := (List.map_inj_right (fun x y e => Char.ext (UInt32.toNat_inj.mp e))).mp h2
  exact String.ext h3, fun h => by rw [h]⟩
theorem pow8999 : (10 : Nat) ^ 60 < 2 ^ 8999 := by
  have h : (2 : Nat) ^ 200 ≤ 2 ^ 8999 := Nat.pow_le_pow_right (by decide) (by decide)
  exact Nat.lt_of_lt_of_le (by decide) h
theorem pow1000 : (10 : Nat) ^ 60 < 2 ^ 1000 := by
  have h : (2 : Nat) ^ 200 ≤ 2 ^ 1000 := Nat.pow_le_pow_right (by decide) (by decide)
  exact Nat.lt_of_lt_of_le (by decide) h
theorem gDiv_o (h : 0 < j) (h2 : j ≤ 1000000000000000000000000000000000000000000000000000000000000) : gDiv (.f (.int i)) (.f (.int j)) = some (.f (.int (i / j))) := gDiv_ok h (Nat.lt_of_le_of_lt (by show j.natAbs ≤ 10 ^ 60; omega) pow8999)
theorem gMul_o (h1 : -1000000000000000000000000000000000000000000000000000000000000 ≤ i) (h2 : i ≤ 1000000000000000000000000000000000000000000000000000000000000) (h3 : -1000000000000000000000000000000000000000000000000000000000000 ≤ j) (h4 : j ≤ 1000000000000000000000000000000000000000000000000000000000000) : gMul (.f (.int i)) (.f (.int j)) = some (.f (.int (i * j))) :=
  gMul_small (Nat.lt_of_le_of_lt (by show i.natAbs ≤ 10 ^ 60; omega) pow1000) (Nat.lt_of_le_of_lt (by show j.natAbs ≤ 10 ^ 60; omega) pow1000)
theorem gShl_o (h : 0 ≤ j) (h1 : j ≤ 1000000) : gShl (.f (.int 1)) (.f (.int j)) = some (.f (.int (2 ^ j.toNat))) := by
  rw [gShl_ok h h1 (by decide), Int.one_mul]
theorem gShr_o (h : 0 ≤ j) : gShr (.f (.int i)) (.f (.int j)) = some (.f (.int (i / 2 ^ j.toNat))) := gShr_ok h
def kVT (o : Option D) : Option T := o.map T.f
theorem kVT_s : kVT (some d) = some (.f d) := rfl
theorem or2_none {g h : T → T → Option T} {s t : T} (e : g s t = none) : or2 g h s t = h s t := by
  unfold or2
  rw [e]
  rfl
theorem or2_r {g h : T → T → Option T} {s t : T} (e : h s t = none) : or2 g h s t = g s t := by
  unfold or2
  rw [e]
  cases g s t <;> rfl
theorem gIx_lst : gIx (.f (.lst ds)) (.f (.int i)) = kVT (atI ds i) := by
  unfold gIx
  rw [or2_r rfl, or2_r rfl]
  rfl
theorem gIx_own : gIx (.l ds) (.f (.int i)) = kVT (atI ds i) := by
  unfold gIx
  rw [or2_r rfl, or2_r rfl]
  rfl
theorem gIx_tup : gIx (.f (.tup ds)) (.f (.int i)) = kVT (atI ds i) := by
  unfold gIx
  rw [or2_r rfl, or2_r rfl]
  rfl
theorem gIx_dct {ks} : gIx (.f (.dct ks ds)) (.f (.str x)) = kVT (dAt ks ds (.inr x)) := by
  unfold gIx
  rw [or2_none rfl]
  rfl
theorem gIx_dcti {ks} : gIx (.f (.dct ks ds)) (.f (.int i)) = kVT (dAt ks ds (.inl i)) := by
  unfold gIx
  rw [or2_none rfl]
  rfl
theorem gIx_odct {ks} : gIx (.dk ks ds) (.f (.str x)) = kVT (dAt ks ds (.inr x)) := by
  unfold gIx
  rw [or2_none rfl]
  rfl
theorem gIx_odcti {ks} : gIx (.dk ks ds) (.f (.int i)) = kVT (dAt ks ds (.inl i)) := by
  unfold gIx
  rw [or2_none rfl]
  rfl
theorem atI_pos {α : Type} {xs : List α} (h : 0 ≤ i) : atI xs i = xs[i.toNat]? := by
  unfold atI ixN
  rw [if_pos h]
  by_cases hl : i < xs.length
  · rw [if_pos hl]; rfl
  · rw [if_neg hl]
    show none = _
    rw [List.getElem?_eq_none (by omega)]
theorem atI_neg {α : Type} {xs : List α} (h : i < 0) (h2 : -(xs.length : Int) ≤ i) : atI xs i = xs[(i + xs.length).toNat]? := by
  unfold atI ixN
  rw [if_neg (by omega), if_pos h2]
  rfl
theorem dAt_cons {k q : Key} {ks : List Key} : dAt (k :: ks) (d :: ds) q = if k = q then some d else dAt ks ds q := rfl
theorem gTupT1 {h a} : gTupT 1 h (.f (.tup [a])) ρ = h [.f a] ρ := rfl
theorem gTupT2 {h a b} : gTupT 2 h (.f (.tup [a, b])) ρ = h [.f a, .f b] ρ := rfl
theorem gTupT3 {h a b c} : gTupT 3 h (.f (.tup [a, b, c])) ρ = h [.f a, .f b, .f c] ρ := rfl
theorem gTupT4 {h a b c d} : gTupT 4 h (.f (.tup [a, b, c, d])) ρ = h [.f a, .f b, .f c, .f d] ρ := rfl
theorem gTupT5 {h a b c d e} : gTupT 5 h (.f (.tup [a, b, c, d, e])) ρ = h [.f a, .f b, .f c, .f d, .f e] ρ := rfl
/-! None -/
theorem gIsNn_i {neg : Bool} : gIsNn neg (.f (.int i)) = some (.f (.bl (xor neg false))) := rfl
theorem gIsNn_s {neg : Bool} : gIsNn neg (.f (.str x)) = some (.f (.bl (xor neg false))) := rfl
theorem gIsNn_b {neg : Bool} : gIsNn neg (.f (.bl a)) = some (.f (.bl (xor neg false))) := rfl
theorem gIsNn_n {neg : Bool} : gIsNn neg (.f .non) = some (.f (.bl (xor neg true))) := rfl
theorem gIsNn_l {neg : Bool} : gIsNn neg (.f (.lst ds)) = some (.f (.bl (xor neg false))) := rfl
theorem gIsNn_t {neg : Bool} : gIsNn neg (.f (.tup ds)) = some (.f (.bl (xor neg false))) := rfl
theorem gIsNn_d {neg : Bool} {ks} : gIsNn neg (.f (.dct ks ds)) = some (.f (.bl (xor neg false))) := rfl
theorem gIsNn_o {neg : Bool} : gIsNn neg (.l ds) = some (.f (.bl (xor neg false))) := rfl
theorem gIsNn_od {neg : Bool} {ks} : gIsNn neg (.dk ks ds) = some (.f (.bl (xor neg false))) := rfl
theorem wz_fIsN {neg : Bool} {fa} : fIsN neg fa ρ = k1 (gIsNn neg) (fa ρ) := rfl
/-! chains -/
def kChain (g h : T → T → Option T) (fd : List T → Option T) (ρ : List T) (oa ob : Option T) : Option T := oa.bind fun x => ob.bind fun y => (g x y).bind fun z => z.b?.bind fun k => if k = true then (fd ρ).bind fun w => h y w else some (.f (.bl false))
theorem wz_fChain {g h fa fb fd} : fChain g h fa fb fd ρ = kChain g h fd ρ (fa ρ) (fb ρ) := rfl
def kCh1 (h : T → T → Option T) (fd : List T → Option T) (ρ : List T) (y : T) (o : Option T) : Option T := o.bind fun z => z.b?.bind fun k => if k = true then (fd ρ).bind fun w => h y w else some (.f (.bl false))
theorem kChain_s {g h fd x y} : kChain g h fd ρ (some x) (some y) = kCh1 h fd ρ y (g x y) := rfl
theorem kCh1_t {h fd y} : kCh1 h fd ρ y (some (.f (.bl true))) = k2 h (some y) (fd ρ) := rfl
theorem kCh1_f {h fd y} : kCh1 h fd ρ y (some (.f (.bl false))) = some (.f (.bl false)) := rfl
/-! ends of turns -/
def Wn0 (Q : List T → Prop) (R : Out → Prop) : Option Out → Prop
  | some (.nx ρ) => Q ρ
  | some (.ct ρ) => Q ρ
  | some (.bk ρ) => R (.nx ρ)
  | some (.rt t ρ) => R (.rt t ρ)
  | some (.xc C ρ) => R (.xc C ρ)
  | none => False
structure Wn (Q : List T → Prop) (R : Out → Prop) (o : Option Out) : Prop where
  go : Wn0 Q R o
def kTurn (fb : FS) (o : Option (List T)) : Option Out := o.bind fb
theorem kTurn_s {fb} : kTurn fb (some ρ) = fb ρ := rfl
/-- a loop: P what stands ahead of each turn, R how it may end otherwise -/
theorem for_wp {fg : T → List T → Option (List T)} {fb : FS} (P : List D → List T → Prop) (R : Out → Prop) (step : ∀ d ds ρ, P (d :: ds) ρ → Wn (P ds) R (kTurn fb (fg (.f d) ρ))) :
    ∀ {ds : List D} {ρ : List T}, P ds ρ → ∃ o, forF fg fb ds ρ = some o ∧ ((∃ ρ', o = .nx ρ' ∧ P [] ρ') ∨ R o)
  | [], ρ, h => ⟨.nx ρ, rfl, .inl ⟨ρ, rfl, h⟩⟩
  | d :: ds, ρ, h => by
    have s := step d ds ρ h
    rw [for_cons]
    cases e1 : fg (.f d) ρ with
    | none => rw [e1] at s; exact s.go.elim
    | some ρ1 =>
      rw [e1, kTurn_s] at s
      rw [kTgt_s]
      cases e2 : fb ρ1 with
      | none => rw [e2] at s; exact s.go.elim
      | some o =>
        rw [e2] at s
        cases o with
        | nx ρ2 => rw [kBody_nx]; exact for_wp P R step s.go
        | ct ρ2 => rw [kBody_ct]; exact for_wp P R step s.go
        | bk ρ2 => rw [kBody_bk]; exact ⟨_, rfl, .inr s.go⟩
        | rt t ρ2 => rw [kBody_rt]; exact ⟨_, rfl, .inr s.go⟩
        | xc C ρ2 => rw [kBody_xc]; exact ⟨_, rfl, .inr s.go⟩
theorem for_all {fg : T → List T → Option (List T)} {fb : FS} (P : List D → List T → Prop) (step : ∀ d ds ρ, P (d :: ds) ρ → Wn (P ds) (fun _ => False) (kTurn fb (fg (.f d) ρ))) {ds : List D} {ρ : List T} (h : P ds ρ) : ∃ ρ', forF fg fb ds ρ = some (.nx ρ') ∧ P [] ρ' := by
  obtain ⟨o, e, ⟨ρ', rfl, h'⟩ | h'⟩ := for_wp P (fun _ => False) step h
  · exact ⟨ρ', e, h'⟩
  · exact h'.elim
theorem Wn_of {o : Option Out} {Q R} {ρ' : List T} (h : o = some (.nx ρ')) (hq : Q ρ') : Wn Q R o := ⟨by rw [h]; exact hq⟩
theorem Wn_of_rt {o : Option Out} {Q R t} {ρ' : List T} (h : o = some (.rt t ρ')) (hq : R (.rt t ρ')) : Wn Q R o := ⟨by rw [h]; exact hq⟩
theorem Wn_of_ct {o : Option Out} {Q R} {ρ' : List T} (h : o = some (.ct ρ')) (hq : Q ρ') : Wn Q R o := ⟨by rw [h]; exact hq⟩
theorem Wn_of_bk {o : Option Out} {Q R} {ρ' : List T} (h : o = some (.bk ρ')) (hq : R (.nx ρ')) : Wn Q R o := ⟨by rw [h]; exact hq⟩
/-- what a def answers -/
def Vd (Q : D → Prop) (m : Nat) (o : Option Out) : Prop := ∃ d, oval o m = some d ∧ Q d
theorem oval_rt' {m : Nat} {d : D} (h : m ≤ ρ.length) : oval (some (.rt (.f d) ρ)) m = some d := if_pos h
theorem oval_nx' {m : Nat} (h : m ≤ ρ.length) : oval (some (.nx ρ)) m = some .non := if_pos h
end
end Z

namespace Z
open PySem L2
/-! ### walking: lists made, things changed in place -/
section
variable {ρ ρ1 : List T} {d e : D} {ds es : List D} {t x y : T} {i n m : Nat} {b : Bool} {f g : FS} {fa fb fc fe fk : List T → Option T} {vs : List Nat} {q : Int} {z : Str}
variable {fi : List T → Option (List D)} {fg : T → List T → Option (List T)} {ft : List T → Option Bool}
def okV (o : Option T) : Bool := match o with
  | none => true
  | some .un => true
  | some (.f _) => true
  | _ => false
theorem okW_nil : okW ρ [] = true := rfl
theorem okW_cons {v : Nat} : okW ρ (v :: vs) = (okV ρ[v]? && okW ρ vs) := by
  unfold okW okV
  rw [List.all_cons]
  try rfl
theorem okV_n : okV none = true := rfl
theorem okV_u : okV (some .un) = true := rfl
theorem okV_f : okV (some (.f d)) = true := rfl
theorem wipeR_nil : wipeR ρ [] = ρ := rfl
theorem wipeR_cons {v : Nat} : wipeR ρ (v :: vs) = (wipeR ρ vs).set v .un := rfl
def kLc (fg : T → List T → Option (List T)) (ft : List T → Option Bool) (fe : List T → Option T) (ρ0 : List T) (o : Option (List D)) : Option T := o.bind fun ds => kLs (lcF fg ft fe ρ0 ds)
def kLcB (b : Bool) (o : Option T) : Option T := if b = true then o else none
theorem wz_fLc : fLc vs fi fg ft fe ρ = kLcB (okW ρ vs) (kLc fg ft fe (wipeR ρ vs) (fi ρ)) := rfl
theorem kLcB_t {o} : kLcB true o = o := rfl
theorem kLc_s : kLc fg ft fe ρ (some ds) = kLs (lcF fg ft fe ρ ds) := rfl
def kL3 (rest : Option (List D)) (o : Option T) : Option (List D) := o.bind fun t => t.d?.bind fun e => rest.map fun r => e :: r
def kL2 (fe : List T → Option T) (rest : Option (List D)) (ρ1 : List T) (o : Option Bool) : Option (List D) := o.bind fun b => if b = true then kL3 rest (fe ρ1) else rest
def kL1 (ft : List T → Option Bool) (fe : List T → Option T) (rest : Option (List D)) (o : Option (List T)) : Option (List D) := o.bind fun ρ1 => kL2 fe rest ρ1 (ft ρ1)
theorem lcF_nil : lcF fg ft fe ρ [] = some [] := rfl
theorem lcF_cons : lcF fg ft fe ρ (d :: ds) = kL1 ft fe (lcF fg ft fe ρ ds) (fg (.f d) ρ) := rfl
theorem kL1_s {rest} : kL1 ft fe rest (some ρ1) = kL2 fe rest ρ1 (ft ρ1) := rfl
theorem kL2_t {rest} : kL2 fe rest ρ1 (some true) = kL3 rest (fe ρ1) := rfl
theorem kL2_f {rest} : kL2 fe rest ρ1 (some false) = rest := rfl
theorem kL2_d {rest} {p : Prop} [Decidable p] : kL2 fe rest ρ1 (some (decide p)) = if p then kL3 rest (fe ρ1) else rest := by
  by_cases h : p
  · rw [decide_eq_true h, if_pos h]; rfl
  · rw [decide_eq_false h, if_neg h]; rfl
theorem kL3_s : kL3 (some ds) (some (.f d)) = some (d :: ds) := rfl
theorem tYes_s : tYesF ρ = some true := rfl
/-- one turn -/
def lcT (fg : T → List T → Option (List T)) (ft : List T → Option Bool) (fe : List T → Option T) (ρ0 : List T) (d : D) : Option (List D) := kL1 ft fe (some []) (fg (.f d) ρ0)
theorem wz_lcT : lcT fg ft fe ρ d = kL1 ft fe (some []) (fg (.f d) ρ) := rfl
theorem lcF_of {α : Type} {φ : α → D} {G : α → List D} : ∀ {as : List α}, (∀ a ∈ as, lcT fg ft fe ρ (φ a) = some (G a)) → lcF fg ft fe ρ (as.map φ) = some (as.flatMap G)
  | [], _ => rfl
  | a :: as, h => by
    have h1 := h a List.mem_cons_self
    have h2 := lcF_of (as := as) fun b hb => h b (List.mem_cons_of_mem _ hb)
    rw [List.map_cons, lcF_cons, h2, List.flatMap_cons]
    unfold lcT at h1
    cases e1 : fg (.f (φ a)) ρ with
    | none => rw [e1] at h1; cases h1
    | some ρ1 =>
      rw [e1, kL1_s] at h1
      rw [kL1_s]
      cases e2 : ft ρ1 with
      | none => rw [e2] at h1; cases h1
      | some c =>
        rw [e2] at h1
        cases c with
        | false => rw [kL2_f] at h1 ⊢; rw [← Option.some.inj h1]; rfl
        | true =>
          rw [kL2_t] at h1 ⊢
          cases e3 : fe ρ1 with
          | none => rw [e3] at h1; cases h1
          | some t =>
            rw [e3] at h1
            cases t with
            | f dd =>
              rw [kL3_s] at h1 ⊢
              rw [← Option.some.inj h1]
              rfl
            | _ => cases h1
def kJV (o : Option T) : Option (List D) := o.bind fun t => match t with
  | .f d => d.its
  | _ => none
theorem wz_jVal : jVal fa ρ = kJV (fa ρ) := by unfold jVal kJV; rfl
theorem kJV_l : kJV (some (.f (.lst ds))) = some ds := rfl
theorem kJV_t : kJV (some (.f (.tup ds))) = some ds := rfl
theorem kJV_s : kJV (some (.f (.str z))) = some (signs z) := rfl
def kJ1 (g : List D → List D) (o : Option (List T)) : Option (List D) := o.bind fun ts => match ts with
  | [.f (.lst ds)] => some (g ds)
  | _ => none
theorem wz_jL1 {g fs} : jL1 g fs ρ = kJ1 g (fs ρ) := by unfold jL1 kJ1; rfl
theorem kJ1_s {g} : kJ1 g (some [.f (.lst ds)]) = some (g ds) := rfl
def kJ2 (g : List D → List D → List D) (o : Option (List T)) : Option (List D) := o.bind fun ts => match ts with
  | [.f (.lst ds), .f (.lst es)] => some (g ds es)
  | _ => none
theorem wz_jL2 {g fs} : jL2 g fs ρ = kJ2 g (fs ρ) := by unfold jL2 kJ2; rfl
theorem kJ2_s {g} : kJ2 g (some [.f (.lst ds), .f (.lst es)]) = some (g ds es) := rfl
def kJR1 (o : Option (List T)) : Option (List D) := o.bind fun ts => match ts with
  | [.f (.int n)] => if -(2 ^ 62) ≤ n ∧ n < 2 ^ 62 then some (rangeD 0 n.toNat) else none
  | _ => none
theorem wz_jR1 {fs} : jR1 fs ρ = kJR1 (fs ρ) := by unfold jR1 kJR1; rfl
theorem kJR1_s {k : Int} (h : -(2 ^ 62) ≤ k ∧ k < 2 ^ 62) : kJR1 (some [.f (.int k)]) = some (rangeD 0 k.toNat) := if_pos h
def kJR2 (o : Option (List T)) : Option (List D) := o.bind fun ts => match ts with
  | [.f (.int m), .f (.int n)] => if -(2 ^ 62) ≤ m ∧ m < 2 ^ 62 ∧ -(2 ^ 62) ≤ n ∧ n < 2 ^ 62 then some (rangeD m (n - m).toNat) else none
  | _ => none
theorem wz_jR2 {fs} : jR2 fs ρ = kJR2 (fs ρ) := by unfold jR2 kJR2; rfl
theorem kJR2_s {j k : Int} (h : -(2 ^ 62) ≤ j ∧ j < 2 ^ 62 ∧ -(2 ^ 62) ≤ k ∧ k < 2 ^ 62) : kJR2 (some [.f (.int j), .f (.int k)]) = some (rangeD j (k - j).toNat) := if_pos h
/-! places -/
theorem wz_pHere : pHere ρ = some [] := rfl
def kMu (i : Nat) (ρ : List T) (o : Option T) : Option (List T) := o.map fun u => ρ.set i u
theorem kMu_s : kMu i ρ (some t) = some (ρ.set i t) := rfl
theorem mutF_here {g : T → Option T} : mutF i [] g ρ = kMu i ρ (k1 g ρ[i]?) := by
  unfold mutF kMu k1
  cases ρ[i]? <;> rfl
def kNx (o : Option (List T)) : Option Out := o.map .nx
theorem kNx_s : kNx (some ρ) = some (.nx ρ) := rfl
def kApp (i : Nat) (ρ : List T) (π : Option (List Sel)) (o : Option T) : Option Out := π.bind fun π => o.bind fun x => x.d?.bind fun d => kNx (mutF i π (appT d) ρ)
theorem wz_sApp {fp} : sApp i fp fe ρ = kApp i ρ (fp ρ) (fe ρ) := rfl
theorem kApp_s {π} : kApp i ρ (some π) (some (.f d)) = kNx (mutF i π (appT d) ρ) := rfl
theorem appT_l (h : ds.length < 16777216) : appT d (.l ds) = some (.l (ds ++ [d])) := if_pos h
def kSI (i : Nat) (ρ : List T) (o : Option T) (π : Option (List Sel)) (k : Option T) : Option Out := o.bind fun x => x.d?.bind fun d => π.bind fun π => k.bind fun z => z.d?.bind fun q => kNx (mutF i π (setT q d) ρ)
theorem wz_sSetIx {fp} : sSetIx i fp fk fe ρ = kSI i ρ (fe ρ) (fp ρ) (fk ρ) := rfl
theorem kSI_s {π} {q : D} : kSI i ρ (some (.f d)) (some π) (some (.f q)) = kNx (mutF i π (setT q d) ρ) := rfl
theorem setT_l (h0 : 0 ≤ q) (h : q < ds.length) : setT (.int q) d (.l ds) = some (.l (ds.set q.toNat d)) := by
  show (ixN ds.length q).map _ = _
  unfold ixN
  rw [if_pos h0, if_pos h]
  rfl
theorem setT_ds {ks : List Key} (h : ks.length < 16777216) : setT (.str z) d (.dk ks ds) = some (.dk (dput ks ds (.inr z) d).1 (dput ks ds (.inr z) d).2) := if_pos h
theorem setT_di {ks : List Key} (h : ks.length < 16777216) : setT (.int q) d (.dk ks ds) = some (.dk (dput ks ds (.inl q) d).1 (dput ks ds (.inl q) d).2) := if_pos h
/-! becoming deep -/
def kF2 (i : Nat) (ρ : List T) (o : Option T) : Option (List T) := match o with
  | some .un => some ρ
  | some t => t.fz.map fun d => ρ.set i (.f d)
  | none => none
theorem wz_fzS : fzS i ρ = kF2 i ρ ρ[i]? := by unfold fzS kF2; rfl
theorem kF2_u : kF2 i ρ (some .un) = some ρ := rfl
theorem kF2_f : kF2 i ρ (some (.f d)) = some (ρ.set i (.f d)) := rfl
theorem kF2_l : kF2 i ρ (some (.l ds)) = some (ρ.set i (.f (.lst ds))) := rfl
theorem kF2_d {ks} : kF2 i ρ (some (.dk ks ds)) = some (ρ.set i (.f (.dct ks ds))) := rfl
def kFS (f : FS) (o : Option (List T)) : Option Out := o.bind f
theorem wz_sFz : sFz i f ρ = kFS f (fzS i ρ) := rfl
theorem kFS_s : kFS f (some ρ) = f ρ := rfl
/-! in -/
def lstD (l : List Str) : List D := l.map .str
theorem any_v {z : Str} : ∀ (l : List Str), inV (.str z) ((l.map D.str).map D.v) = decide (z ∈ l)
  | [] => rfl
  | a :: l => by
    have ih := any_v (z := z) l
    unfold inV at ih ⊢
    rw [List.map_cons, List.map_cons, List.any_cons, ih]
    rw [show eqV (D.str a).v (V.str z) = decide (a = z) from rfl]
    by_cases h : a = z
    · subst h; simp
    · have h' : z ≠ a := fun e => h e.symm
      simp [h, h']
theorem flat_strs : ∀ (l : List Str), (l.map D.str).all flatD = true
  | [] => rfl
  | a :: l => by rw [List.map_cons, List.all_cons, flat_strs l]; rfl
theorem any_i {z : Int} : ∀ (l : List Int), inV (.int z) ((l.map D.int).map D.v) = decide (z ∈ l)
  | [] => rfl
  | a :: l => by
    have ih := any_i (z := z) l
    unfold inV at ih ⊢
    rw [List.map_cons, List.map_cons, List.any_cons, ih]
    rw [show eqV (D.int a).v (V.int z) = decide (a = z) from rfl]
    by_cases h : a = z
    · subst h; simp
    · have h' : z ≠ a := fun e => h e.symm
      simp [h, h']
theorem flat_ints : ∀ (l : List Int), (l.map D.int).all flatD = true
  | [] => rfl
  | a :: l => by rw [List.map_cons, List.all_cons, flat_ints l]; rfl
theorem gIn_of {neg : Bool} {w : V} {t u : T} {ds : List D} (h1 : t.v? = some w) (h2 : u.sq? = some ds) (h3 : ds.all flatD = true) : gInQ neg t u = some (.f (.bl (xor neg (inV w (ds.map D.v))))) := by
  unfold gInQ
  rw [h1, h2]
  show (if ds.all flatD = true then _ else none) = _
  rw [if_pos h3]
theorem or2_some {g h : T → T → Option T} {s t u : T} (e : g s t = some u) : or2 g h s t = some u := by
  unfold or2
  rw [e]
  rfl
theorem gIn_ss {l : List Str} : gIn (.f (.str z)) (.f (.lst (l.map D.str))) = some (.f (.bl (decide (z ∈ l)))) := by
  rw [show gIn (.f (.str z)) (.f (.lst (l.map D.str))) = _ from or2_some (gIn_of (neg := false) rfl rfl (flat_strs l)), any_v, Bool.false_xor]
theorem gIn_ii {l : List Int} : gIn (.f (.int q)) (.f (.lst (l.map D.int))) = some (.f (.bl (decide (q ∈ l)))) := by
  rw [show gIn (.f (.int q)) (.f (.lst (l.map D.int))) = _ from or2_some (gIn_of (neg := false) rfl rfl (flat_ints l)), any_i, Bool.false_xor]
theorem gNotIn_ss {l : List Str} : gNotIn (.f (.str z)) (.f (.lst (l.map D.str))) = some (.f (.bl (!decide (z ∈ l)))) := by
  rw [show gNotIn (.f (.str z)) (.f (.lst (l.map D.str))) = _ from or2_some (gIn_of (neg := true) rfl rfl (flat_strs l)), any_v, Bool.true_xor]
theorem gNotIn_ii {l : List Int} : gNotIn (.f (.int q)) (.f (.lst (l.map D.int))) = some (.f (.bl (!decide (q ∈ l)))) := by
  rw [show gNotIn (.f (.int q)) (.f (.lst (l.map D.int))) = _ from or2_some (gIn_of (neg := true) rfl rfl (flat_ints l)), any_i, Bool.true_xor]
-- nosimp lcF_of
-- nosimp any_v
-- nosimp any_i
-- nosimp flat_strs
-- nosimp flat_ints
-- nosimp gIn_of
-- nosimp or2_some
end
/-! == of alike deep things -/
mutual
def D.fine : D → Nat → Bool
  | .non, _ => true
  | .bl _, _ => true
  | .int _, _ => true
  | .str x, _ => PyData.canLay0 (.str x)
  | .tup l, n => decide (0 < n) && D.fines l (n - 1)
  | .lst l, n => decide (0 < n) && D.fines l (n - 1)
  | .nst l, n => decide (0 < n) && D.fines l (n - 1)
  | .dct _ _, _ => false
  | .obj _ _ _, _ => false
def D.fines : List D → Nat → Bool
  | [], _ => true
  | d :: ds, n => D.fine d n && D.fines ds n
end
mutual
theorem D.fine_py : ∀ (d : D) (n : Nat), d.fine n = true → ∃ p, d.py = some p ∧ p.canLay0 = true ∧ p.depth ≤ n
  | .non, n, _ => ⟨_, rfl, rfl, Nat.zero_le _⟩
  | .bl _, n, _ => ⟨_, rfl, rfl, Nat.zero_le _⟩
  | .int _, n, _ => ⟨_, rfl, rfl, Nat.zero_le _⟩
  | .str x, n, h => ⟨_, rfl, h, Nat.zero_le _⟩
  | .tup l, n, h => by
    have h' : (decide (0 < n) && D.fines l (n - 1)) = true := h
    rw [Bool.and_eq_true, decide_eq_true_eq] at h'
    obtain ⟨ps, e, q1, q2⟩ := D.fines_py l (n - 1) h'.2
    refine ⟨.tuple ps, by show (D.pys l).map _ = _; rw [e]; rfl, q1, ?_⟩
    show PyData.depthAll ps + 1 ≤ n
    omega
  | .lst l, n, h => by
    have h' : (decide (0 < n) && D.fines l (n - 1)) = true := h
    rw [Bool.and_eq_true, decide_eq_true_eq] at h'
    obtain ⟨ps, e, q1, q2⟩ := D.fines_py l (n - 1) h'.2
    refine ⟨.list ps, by show (D.pys l).map _ = _; rw [e]; rfl, q1, ?_⟩
    show PyData.depthAll ps + 1 ≤ n
    omega
  | .nst l, n, h => by
    have h' : (decide (0 < n) && D.fines l (n - 1)) = true := h
    rw [Bool.and_eq_true, decide_eq_true_eq] at h'
    obtain ⟨ps, e, q1, q2⟩ := D.fines_py l (n - 1) h'.2
    refine ⟨.list ps, by show (D.pys l).map _ = _; rw [e]; rfl, q1, ?_⟩
    show PyData.depthAll ps + 1 ≤ n
    omega
  | .dct _ _, _, h => by cases h
  | .obj _ _ _, _, h => by cases h
theorem D.fines_py : ∀ (l : List D) (n : Nat), D.fines l n = true → ∃ ps, D.pys l = some ps ∧ PyData.canLayAll0 ps = true ∧ PyData.depthAll ps ≤ n
  | [], n, _ => ⟨[], rfl, rfl, Nat.zero_le _⟩
  | d :: ds, n, h => by
    have h' : (D.fine d n && D.fines ds n) = true := h
    rw [Bool.and_eq_true] at h'
    obtain ⟨p, e, q1, q2⟩ := D.fine_py d n h'.1
    obtain ⟨ps, e2, q3, q4⟩ := D.fines_py ds n h'.2
    refine ⟨p :: ps, ?_, ?_, ?_⟩
    · show (D.py d).bind _ = _
      rw [e]
      show (D.pys ds).map _ = _
      rw [e2]
      rfl
    · show (p.canLay0 && PyData.canLayAll0 ps) = true
      rw [q1, q3]
      rfl
    · show max p.depth (PyData.depthAll ps) ≤ n
      omega
end
theorem shaped_fine {d : D} (h : d.fine 64 = true) : ∃ p, d.py = some p ∧ SeqAt.shaped p = true ∧ PyData.eqv p p = true := by
  obtain ⟨p, e, q1, q2⟩ := D.fine_py d 64 h
  refine ⟨p, e, ?_, SeqAt.eqv_refl p q1⟩
  show (p.canLay0 && decide (p.depth ≤ 64)) = true
  rw [q1, decide_eq_true q2]
  rfl
theorem gEqD_refl {d : D} {s t : T} (neg : Bool) (h1 : s.vd = some d) (h2 : t.vd = some d) (h : d.fine 64 = true) : gEqD neg s t = some (.f (.bl (xor neg true))) := by
  obtain ⟨p, e, q1, q2⟩ := shaped_fine h
  unfold gEqD
  rw [h1, h2]
  show ((d.py).bind fun p => (d.py).bind fun q => _) = _
  rw [e]
  show (if _ then _ else _) = _
  rw [if_pos ⟨q1, q1⟩, q2]
theorem gEq_refl_l {ds : List D} (h : D.fines ds 63 = true) : gEq (.f (.lst ds)) (.f (.lst ds)) = some (.f (.bl true)) := by
  unfold gEq
  rw [or2_none rfl]
  exact gEqD_refl false rfl rfl h
theorem gEq_refl_t {ds : List D} (h : D.fines ds 63 = true) : gEq (.f (.tup ds)) (.f (.tup ds)) = some (.f (.bl true)) := by
  unfold gEq
  rw [or2_none rfl]
  exact gEqD_refl false rfl rfl h
theorem gNe_refl_l {ds : List D} (h : D.fines ds 63 = true) : gNe (.f (.lst ds)) (.f (.lst ds)) = some (.f (.bl false)) := by
  unfold gNe
  rw [or2_none rfl]
  exact gEqD_refl true rfl rfl h
theorem gNe_refl_t {ds : List D} (h : D.fines ds 63 = true) : gNe (.f (.tup ds)) (.f (.tup ds)) = some (.f (.bl false)) := by
  unfold gNe
  rw [or2_none rfl]
  exact gEqD_refl true rfl rfl h
theorem fines_of {α : Type} {φ : α → D} {n : Nat} : ∀ {as : List α}, (∀ a ∈ as, (φ a).fine n = true) → D.fines (as.map φ) n = true
  | [], _ => rfl
  | a :: as, h => by
    show (D.fine (φ a) n && D.fines (as.map φ) n) = true
    rw [h a List.mem_cons_self, fines_of fun b hb => h b (List.mem_cons_of_mem _ hb)]
    rfl
section
variable {i j : Int} {x y : Str} {a b : Bool} {ds es : List D}
theorem gEq_sn : gEq (.f (.str x)) (.f .non) = some (.f (.bl false)) := rfl
theorem gEq_ns : gEq (.f .non) (.f (.str x)) = some (.f (.bl false)) := rfl
theorem gEq_in : gEq (.f (.int i)) (.f .non) = some (.f (.bl false)) := rfl
theorem gEq_ni : gEq (.f .non) (.f (.int i)) = some (.f (.bl false)) := rfl
theorem gEq_nn : gEq (.f .non) (.f .non) = some (.f (.bl true)) := rfl
theorem gNe_sn : gNe (.f (.str x)) (.f .non) = some (.f (.bl true)) := rfl
theorem gNe_ns : gNe (.f .non) (.f (.str x)) = some (.f (.bl true)) := rfl
theorem gNe_in : gNe (.f (.int i)) (.f .non) = some (.f (.bl true)) := rfl
theorem gNe_ni : gNe (.f .non) (.f (.int i)) = some (.f (.bl true)) := rfl
theorem gNe_nn : gNe (.f .non) (.f .non) = some (.f (.bl false)) := rfl
end
/-! sums and picks -/
theorem intsOf_map : ∀ (ns : List Int), intsOf (ns.map D.int) = some ns
  | [] => rfl
  | n :: ns => by
    show (intsOf (ns.map D.int)).map _ = _
    rw [intsOf_map ns]
    rfl
theorem gSum_l {ns : List Int} : gSum [.f (.lst (ns.map D.int))] = some (.f (.int ns.sum)) := by
  show (intsOf (ns.map D.int)).map _ = _
  rw [intsOf_map]
  rfl
theorem gList_l {ds : List D} : gList [.f (.lst ds)] = some (.f (.lst ds)) := rfl
theorem gList_t {ds : List D} : gList [.f (.tup ds)] = some (.f (.lst ds)) := rfl
theorem gTuple_l {ds : List D} : gTuple [.f (.lst ds)] = some (.f (.tup ds)) := rfl
theorem gTuple_t {ds : List D} : gTuple [.f (.tup ds)] = some (.f (.tup ds)) := rfl
theorem pick {α : Type} {xs : List α} (hn : 0 < xs.length) (z : Int) : ∃ x ∈ xs, 0 ≤ z % xs.length ∧ ∀ {β : Type} (f : α → β), (xs.map f)[(z % xs.length).toNat]? = some (f x) := by
  have h0 : 0 ≤ z % (xs.length : Int) := Int.emod_nonneg _ (by omega)
  have h1 : z % (xs.length : Int) < xs.length := Int.emod_lt_of_pos _ (by omega)
  have h2 : (z % (xs.length : Int)).toNat < xs.length := by omega
  refine ⟨xs[(z % (xs.length : Int)).toNat], List.getElem_mem h2, h0, fun f => ?_⟩
  rw [List.getElem?_map, List.getElem?_eq_getElem h2]
  rfl
-- nosimp shaped_fine
-- nosimp gEqD_refl
-- nosimp gEq_refl_l
-- nosimp gEq_refl_t
-- nosimp gNe_refl_l
-- nosimp gNe_refl_t
-- nosimp fines_of
-- nosimp intsOf_map
-- nosimp pick
-- nosimp D.fine_py
-- nosimp D.fines_py
end Z

namespace Z
open PySem L2
/-! ### walking: objects, methods, things of one's own -/
section
variable {ρ ρ1 ρ2 : List T} {d e : D} {ds es : List D} {t x y u : T} {ts us : List T} {i n m C : Nat} {b : Bool} {f g : FS} {fa fb fc fe fk fd : List T → Option T} {nm z : Str} {ns : List Str} {ks : List Key} {π : List Sel} {s : Sel}
  {fp : List T → Option (List Sel)} {fm : List T → Option (T × List T)} {fms : List T → Option (List T × List T)} {fo : List T → Option Re} {fr : List T → Option Rs} {G : List T → Option Re} {io : List Nat} {as : List Ar} {fs : List T → Option (List T)}
theorem atN_nil : atN [] [] z = none := rfl
theorem atN_cons : atN (nm :: ns) (t :: ts) z = if nm = z then some t else atN ns ts z := rfl
theorem atD_nil : atD [] [] z = none := rfl
theorem atD_cons : atD (nm :: ns) (d :: ds) z = if nm = z then some d else atD ns ds z := rfl
theorem setN_cons : setN (nm :: ns) (t :: ts) z u = if nm = z then u :: ts else t :: setN ns ts z u := rfl
theorem sub_o : (T.o C ns ts).sub (.at z) = atN ns ts z := rfl
theorem sub_l : (T.ll ts).sub (.ix n) = ts[n]? := rfl
theorem sub_t : (T.tu ts).sub (.ix n) = ts[n]? := rfl
theorem upd_o : (T.o C ns ts).upd (.at z) u = .o C ns (setN ns ts z u) := rfl
theorem upd_l : (T.ll ts).upd (.ix n) u = .ll (ts.set n u) := rfl
theorem upd_t : (T.tu ts).upd (.ix n) u = .tu (ts.set n u) := rfl
def kGp (π : List Sel) (o : Option T) : Option T := o.bind fun t => t.getP π
theorem getP_nil : t.getP [] = some t := by cases t <;> rfl
theorem getP_cons : t.getP (s :: π) = kGp π (t.sub s) := by cases t <;> rfl
theorem kGp_s : kGp π (some t) = t.getP π := rfl
def kPp (t : T) (s : Sel) (π : List Sel) (u : T) (o : Option T) : T := match o with
  | some t1 => t.upd s (t1.putP π u)
  | none => t
theorem putP_nil : t.putP [] u = u := by cases t <;> rfl
theorem putP_cons : t.putP (s :: π) u = kPp t s π u (t.sub s) := by cases t <;> (unfold T.putP kPp; rfl)
theorem kPp_s {t1 : T} : kPp t s π u (some t1) = t.upd s (t1.putP π u) := rfl
/-! attributes -/
def kNn (o : Option T) : Option T := o.bind fun t => match t with
  | .un => none
  | t => some t
theorem kNn_f : kNn (some (.f d)) = some (.f d) := rfl
theorem kNn_l : kNn (some (.l ds)) = some (.l ds) := rfl
theorem kNn_dk : kNn (some (.dk ks ds)) = some (.dk ks ds) := rfl
theorem gAtt_f : gAtt C z (.f (.obj C ns ds)) = kVT (atD ns ds z) := if_pos rfl
theorem gAtt_o : gAtt C z (.o C ns ts) = kNn (atN ns ts z) := if_pos rfl
def kPA3 (z : Str) (π : List Sel) (o : Option T) : Option (List Sel) := o.map fun _ => π ++ [.at z]
def kPA2 (C : Nat) (z : Str) (π : List Sel) (o : Option T) : Option (List Sel) := o.bind fun u => match u with
  | .o C' ns ts => if C' = C then kPA3 z π (atN ns ts z) else none
  | _ => none
def kPA (C : Nat) (z : Str) (o : Option T) (p : Option (List Sel)) : Option (List Sel) := p.bind fun π => kPA2 C z π (kGp π o)
theorem wz_pAt : pAt C z i fp ρ = kPA C z ρ[i]? (fp ρ) := by unfold pAt kPA kPA2 kPA3 kGp; rfl
theorem kPA_s {o : Option T} : kPA C z o (some π) = kPA2 C z π (kGp π o) := rfl
theorem kPA2_s : kPA2 C z π (some (.o C ns ts)) = kPA3 z π (atN ns ts z) := if_pos rfl
theorem kPA3_s : kPA3 z π (some t) = some (π ++ [.at z]) := rfl
def kPI4 (π : List Sel) (o : Option Nat) : Option (List Sel) := o.map fun n => π ++ [.ix n]
def kPI3 (π : List Sel) (l : Nat) (k : Option T) : Option (List Sel) := k.bind fun k => k.i?.bind fun j => kPI4 π (ixN l j)
def kPI2 (π : List Sel) (k : Option T) (o : Option T) : Option (List Sel) := o.bind fun u => u.tsq?.bind fun ts => kPI3 π ts.length k
def kPI (k : Option T) (o : Option T) (p : Option (List Sel)) : Option (List Sel) := p.bind fun π => kPI2 π k (kGp π o)
theorem wz_pIx : pIx fk i fp ρ = kPI (fk ρ) ρ[i]? (fp ρ) := by unfold pIx kPI kPI2 kPI3 kPI4 kGp; rfl
theorem kPI_s {k o : Option T} : kPI k o (some π) = kPI2 π k (kGp π o) := rfl
theorem kPI2_l {k : Option T} : kPI2 π k (some (.ll ts)) = kPI3 π ts.length k := rfl
theorem kPI2_t {k : Option T} : kPI2 π k (some (.tu ts)) = kPI3 π ts.length k := rfl
theorem kPI3_s {j : Int} : kPI3 π n (some (.f (.int j))) = kPI4 π (ixN n j) := rfl
theorem kPI4_s : kPI4 π (some n) = some (π ++ [.ix n]) := rfl
theorem ixN_pos {l : Nat} {j : Int} (h : 0 ≤ j) (h2 : j < l) : ixN l j = some j.toNat := by unfold ixN; rw [if_pos h, if_pos (by omega)]
theorem ixN_neg {l : Nat} {j : Int} (h : j < 0) (h2 : -(l : Int) ≤ j) : ixN l j = some (j + l).toNat := by
  unfold ixN
  rw [if_neg (by omega)]
  first
    | rw [if_pos (by omega)]; done
    | (rw [if_pos (by omega)]; congr 1; omega)
def kM2 (i : Nat) (ρ : List T) (π : List Sel) (t : T) (o : Option T) : Option (List T) := o.map fun u' => ρ.set i (t.putP π u')
def kM1 (i : Nat) (ρ : List T) (π : List Sel) (g : T → Option T) (o : Option T) : Option (List T) := o.bind fun t => kM2 i ρ π t (k1 g (t.getP π))
theorem mutF_at {g : T → Option T} : mutF i (s :: π) g ρ = kM1 i ρ (s :: π) g ρ[i]? := by
  unfold mutF kM1 kM2 k1
  cases ρ[i]? with
  | none => rfl
  | some t =>
    show ((t.getP (s :: π)).bind fun u => (g u).map _) = ((t.getP (s :: π)).bind g).map _
    cases t.getP (s :: π) <;> rfl
theorem kM1_s {g : T → Option T} : kM1 i ρ π g (some t) = kM2 i ρ π t (k1 g (t.getP π)) := rfl
theorem kM2_s : kM2 i ρ π t (some u) = some (ρ.set i (t.putP π u)) := rfl
def kSAt (C : Nat) (z : Str) (i : Nat) (ρ : List T) (o : Option T) (p : Option (List Sel)) : Option Out := o.bind fun x => x.d?.bind fun d => p.bind fun π => kNx (mutF i π (attT C z d) ρ)
theorem wz_sAtt : sAtt C z i fp fe ρ = kSAt C z i ρ (fe ρ) (fp ρ) := rfl
theorem kSAt_s : kSAt C z i ρ (some (.f d)) (some π) = kNx (mutF i π (attT C z d) ρ) := rfl
def kAt (C : Nat) (ns : List Str) (ts : List T) (z : Str) (d : D) (o : Option T) : Option T := match o with
  | none => some (.o C (ns ++ [z]) (ts ++ [.f d]))
  | some (.f _) => if z = Str.ofString "endings" then none else some (.o C ns (setN ns ts z (.f d)))
  | _ => none
theorem attT_o (h : ns.length < 1000) : attT C z d (.o C ns ts) = kAt C ns ts z d (atN ns ts z) := by
  exact if_pos ⟨rfl, h⟩
theorem kAt_n : kAt C ns ts z d none = some (.o C (ns ++ [z]) (ts ++ [.f d])) := rfl
theorem kAt_f : kAt C ns ts z d (some (.f e)) = if z = Str.ofString "endings" then none else some (.o C ns (setN ns ts z (.f d))) := rfl
def kSAM (C : Nat) (z : Str) (i : Nat) (fp : List T → Option (List Sel)) (o : Option (T × List T)) : Option Out := o.bind fun q => (fp q.2).bind fun π => kNx (mutF i π (attM C z q.1) q.2)
def kSAM2 (C : Nat) (z : Str) (i : Nat) (t : T) (ρ : List T) (p : Option (List Sel)) : Option Out := p.bind fun π => kNx (mutF i π (attM C z t) ρ)
theorem wz_sAttM : sAttM C z i fp fm ρ = kSAM C z i fp (fm ρ) := rfl
theorem kSAM_s : kSAM C z i fp (some (t, ρ)) = kSAM2 C z i t ρ (fp ρ) := rfl
theorem kSAM2_s : kSAM2 C z i t ρ (some π) = kNx (mutF i π (attM C z t) ρ) := rfl
def kAM (C : Nat) (ns : List Str) (ts : List T) (z : Str) (t : T) (o : Option T) : Option T := match o with
  | none => some (.o C (ns ++ [z]) (ts ++ [t]))
  | _ => none
theorem attM_o (h : ns.length < 1000) : attM C z t (.o C ns ts) = kAM C ns ts z t (atN ns ts z) := by
  show (if C = C ∧ ns.length < 1000 ∧ (atN ns ts z).isNone = true then _ else _) = _
  cases atN ns ts z with
  | none => exact if_pos ⟨rfl, h, rfl⟩
  | some q => exact if_neg fun z => by cases z.2.2
theorem kAM_n : kAM C ns ts z t none = some (.o C (ns ++ [z]) (ts ++ [t])) := rfl
def kAG5 (C : Nat) (z : Str) (i : Nat) (ρ : List T) (π : List Sel) (o : Option T) : Option Out := o.bind fun z' => z'.d?.bind fun d => kNx (mutF i π (attT C z d) ρ)
def kAG2 (C : Nat) (z : Str) (i : Nat) (ρ : List T) (h : T → T → Option T) (x : Option T) (π : List Sel) (o : Option T) : Option Out := o.bind fun u => kAG5 C z i ρ π (k2 h (gAtt C z u) x)
def kAG (C : Nat) (z : Str) (i : Nat) (ρ : List T) (h : T → T → Option T) (x : Option T) (o : Option T) (p : Option (List Sel)) : Option Out := p.bind fun π => kAG2 C z i ρ h x π (kGp π o)
theorem wz_sAttAug {h : T → T → Option T} : sAttAug C z i fp h fe ρ = kAG C z i ρ h (fe ρ) ρ[i]? (fp ρ) := by
  unfold sAttAug kAG kAG2 kAG5 kGp k2
  cases fp ρ with
  | none => rfl
  | some π =>
    cases q : (ρ[i]?.bind fun t => t.getP π) with
    | none => simp only [Option.bind_some, q, Option.bind_none]
    | some u =>
      simp only [Option.bind_some, q]
      cases gAtt C z u with
      | none => rfl
      | some a => cases fe ρ with
        | none => rfl
        | some x => cases h a x <;> rfl
theorem kAG_s {h : T → T → Option T} {x o : Option T} : kAG C z i ρ h x o (some π) = kAG2 C z i ρ h x π (kGp π o) := rfl
theorem kAG2_s {h : T → T → Option T} {x : Option T} : kAG2 C z i ρ h x π (some u) = kAG5 C z i ρ π (k2 h (gAtt C z u) x) := rfl
theorem kAG5_s : kAG5 C z i ρ π (some (.f d)) = kNx (mutF i π (attT C z d) ρ) := rfl
/-! own values -/
def kME (o : Option (T × List T)) : Option Re := o.map fun p => .ok p.1 p.2
theorem wz_mE : mE fm ρ = kME (fm ρ) := rfl
theorem kME_s : kME (some (t, ρ)) = some (.ok t ρ) := rfl
def kMP (ρ : List T) (o : Option T) : Option (T × List T) := o.bind fun t => t.d?.map fun d => (.f d, ρ)
theorem wz_mP : mP fe ρ = kMP ρ (fe ρ) := rfl
theorem kMP_s : kMP ρ (some (.f d)) = some (.f d, ρ) := rfl
def kMV (i : Nat) (ρ : List T) (o : Option T) : Option (T × List T) := match o with
  | some .un => none
  | some t => some (t, ρ.set i .un)
  | none => none
theorem wz_mV : mV i ρ = kMV i ρ ρ[i]? := by unfold mV kMV; rfl
theorem kMV_f : kMV i ρ (some (.f d)) = some (.f d, ρ.set i .un) := rfl
theorem kMV_l : kMV i ρ (some (.l ds)) = some (.l ds, ρ.set i .un) := rfl
theorem kMV_dk : kMV i ρ (some (.dk ks ds)) = some (.dk ks ds, ρ.set i .un) := rfl
theorem kMV_ll : kMV i ρ (some (.ll ts)) = some (.ll ts, ρ.set i .un) := rfl
theorem kMV_tu : kMV i ρ (some (.tu ts)) = some (.tu ts, ρ.set i .un) := rfl
theorem kMV_o : kMV i ρ (some (.o C ns ts)) = some (.o C ns ts, ρ.set i .un) := rfl
theorem wz_msNil : msNil ρ = some ([], ρ) := rfl
def kMs2 (t : T) (o : Option (List T × List T)) : Option (List T × List T) := o.map fun q => (t :: q.1, q.2)
def kMs (g : List T → Option (List T × List T)) (o : Option (T × List T)) : Option (List T × List T) := o.bind fun p => kMs2 p.1 (g p.2)
theorem wz_msCons : msCons fm fms ρ = kMs fms (fm ρ) := rfl
theorem kMs_s : kMs fms (some (t, ρ)) = kMs2 t (fms ρ) := rfl
theorem kMs2_s : kMs2 t (some (ts, ρ)) = some (t :: ts, ρ) := rfl
def kMTup (o : Option (List T × List T)) : Option (T × List T) := o.bind fun p => if p.1.length ≤ sizeLine then some (.tu p.1, p.2) else none
def kMLst (o : Option (List T × List T)) : Option (T × List T) := o.bind fun p => if p.1.length ≤ sizeLine then some (.ll p.1, p.2) else none
theorem wz_mTup : mTup fms ρ = kMTup (fms ρ) := rfl
theorem wz_mLst : mLst fms ρ = kMLst (fms ρ) := rfl
theorem kMTup_s (h : ts.length ≤ 16777216) : kMTup (some (ts, ρ)) = some (.tu ts, ρ) := if_pos h
theorem kMLst_s (h : ts.length ≤ 16777216) : kMLst (some (ts, ρ)) = some (.ll ts, ρ) := if_pos h
def kMN2 (ρ : List T) (o : Option (List D)) : Option (T × List T) := o.bind fun ds => if ds.length ≤ sizeLine then some (.l ds, ρ) else none
def kMN (ρ : List T) (o : Option (List T)) : Option (T × List T) := o.bind fun ts => kMN2 ρ (deep ts)
theorem wz_mNew : mNew fs ρ = kMN ρ (fs ρ) := rfl
theorem kMN_s : kMN ρ (some ts) = kMN2 ρ (deep ts) := rfl
theorem kMN2_s (h : ds.length ≤ 16777216) : kMN2 ρ (some ds) = some (.l ds, ρ) := if_pos h
theorem wz_mNewD : mNewD ρ = some (.dk [] [], ρ) := rfl
def kMPt3 (i : Nat) (ρ : List T) (π : List Sel) (t0 : T) (o : Option T) : Option (T × List T) := o.bind fun u => if owned u = true then some (u, ρ.set i (t0.putP π .un)) else none
def kMPt2 (i : Nat) (ρ : List T) (π : List Sel) (o : Option T) : Option (T × List T) := o.bind fun t0 => kMPt3 i ρ π t0 (t0.getP π)
def kMPt (i : Nat) (ρ : List T) (p : Option (List Sel)) : Option (T × List T) := p.bind fun π => kMPt2 i ρ π ρ[i]?
theorem wz_mPart : mPart i fp ρ = kMPt i ρ (fp ρ) := rfl
theorem kMPt_s : kMPt i ρ (some π) = kMPt2 i ρ π ρ[i]? := rfl
theorem kMPt2_s : kMPt2 i ρ π (some t) = kMPt3 i ρ π t (t.getP π) := rfl
theorem kMPt3_l : kMPt3 i ρ π t (some (.l ds)) = some (.l ds, ρ.set i (t.putP π .un)) := rfl
theorem kMPt3_d : kMPt3 i ρ π t (some (.dk ks ds)) = some (.dk ks ds, ρ.set i (t.putP π .un)) := rfl
def kMC3 (ρ : List T) (r : Option Re) : Option (T × List T) := r.bind fun r => match r with
  | .ok τ _ => some (τ, ρ)
  | _ => none
def kMC2 (G : List T → Option Re) (ρ : List T) (o : Option (List D)) : Option (T × List T) := o.bind fun ds => kMC3 ρ (G (ds.map .f))
def kMC (G : List T → Option Re) (ρ : List T) (o : Option (List T)) : Option (T × List T) := o.bind fun ts => kMC2 G ρ (deep ts)
theorem wz_mCall : mCall G fs ρ = kMC G ρ (fs ρ) := by unfold mCall kMC kMC2 kMC3; rfl
theorem kMC_s : kMC G ρ (some ts) = kMC2 G ρ (deep ts) := rfl
theorem kMC2_s : kMC2 G ρ (some ds) = kMC3 ρ (G (ds.map .f)) := rfl
theorem kMC3_s : kMC3 ρ (some (.ok t ρ1)) = some (t, ρ) := rfl
def kMCa2 (ρ : List T) (o : Option (List D)) : Option (T × List T) := o.map fun ds => (.l ds, ρ)
def kMCa (ρ : List T) (o p : Option T) : Option (T × List T) := o.bind fun a => p.bind fun b => kMCa2 ρ (gCatO a b)
theorem wz_mCat : mCat fa fb ρ = kMCa ρ (fa ρ) (fb ρ) := rfl
theorem kMCa_s : kMCa ρ (some x) (some y) = kMCa2 ρ (gCatO x y) := rfl
theorem kMCa2_s : kMCa2 ρ (some ds) = some (.l ds, ρ) := rfl
theorem gCatO_ol (h : ds.length + es.length ≤ 16777216) : gCatO (.l ds) (.f (.lst es)) = some (ds ++ es) := if_pos h
theorem gCatO_ll (h : ds.length + es.length ≤ 16777216) : gCatO (.f (.lst ds)) (.f (.lst es)) = some (ds ++ es) := if_pos h
theorem gCatO_lo (h : ds.length + es.length ≤ 16777216) : gCatO (.f (.lst ds)) (.l es) = some (ds ++ es) := if_pos h
theorem gCat_ol (h : ds.length + es.length ≤ 16777216) : gAdd (.l ds) (.f (.lst es)) = some (.f (.lst (ds ++ es))) := by
  show (Option.orElse none fun _ => Option.orElse none fun _ => Option.orElse (if ds.length + es.length ≤ sizeLine then some (T.f (.lst (ds ++ es))) else none) fun _ => _) = _
  rw [if_pos (show ds.length + es.length ≤ sizeLine from h)]
  rfl
theorem gCat_lo (h : ds.length + es.length ≤ 16777216) : gAdd (.f (.lst ds)) (.l es) = some (.f (.lst (ds ++ es))) := by
  show (Option.orElse none fun _ => Option.orElse none fun _ => Option.orElse (if ds.length + es.length ≤ sizeLine then some (T.f (.lst (ds ++ es))) else none) fun _ => _) = _
  rw [if_pos (show ds.length + es.length ≤ sizeLine from h)]
  rfl
theorem gCat_oo (h : ds.length + es.length ≤ 16777216) : gAdd (.l ds) (.l es) = some (.f (.lst (ds ++ es))) := by
  show (Option.orElse none fun _ => Option.orElse none fun _ => Option.orElse (if ds.length + es.length ≤ sizeLine then some (T.f (.lst (ds ++ es))) else none) fun _ => _) = _
  rw [if_pos (show ds.length + es.length ≤ sizeLine from h)]
  rfl
def kMLc (ρ : List T) (o : Option T) : Option (T × List T) := o.bind fun t => match t with
  | .f (.lst es) => some (.l es, ρ)
  | _ => none
theorem wz_mLc {vs : List Nat} {fi fg ft} : mLc vs fi fg ft fe ρ = kMLc ρ (fLc vs fi fg ft fe ρ) := by unfold mLc kMLc; rfl
theorem kMLc_s : kMLc ρ (some (.f (.lst es))) = some (.l es, ρ) := rfl
def kAM3 (i : Nat) (π : List Sel) (o : Option (T × List T)) : Option Out := o.bind fun q => kNx (mutF i π (appM q.1) q.2)
def kAM2 (i : Nat) (fm : List T → Option (T × List T)) (ρ : List T) (π : List Sel) (o : Option T) : Option Out := o.bind fun u0 => if isLst u0 = true then kAM3 i π (fm ρ) else none
def kAM1 (i : Nat) (fm : List T → Option (T × List T)) (ρ : List T) (p : Option (List Sel)) : Option Out := p.bind fun π => kAM2 i fm ρ π (kGp π ρ[i]?)
theorem wz_sAppM : sAppM i fp fm ρ = kAM1 i fm ρ (fp ρ) := by unfold sAppM kAM1 kAM2 kAM3 kGp kNx; rfl
theorem kAM1_s : kAM1 i fm ρ (some π) = kAM2 i fm ρ π (kGp π ρ[i]?) := rfl
theorem kAM2_l : kAM2 i fm ρ π (some (.l ds)) = kAM3 i π (fm ρ) := rfl
theorem kAM2_ll : kAM2 i fm ρ π (some (.ll ts)) = kAM3 i π (fm ρ) := rfl
theorem kAM3_s : kAM3 i π (some (t, ρ)) = kNx (mutF i π (appM t) ρ) := rfl
theorem appM_ll (h : ts.length < 16777216) : appM t (.ll ts) = some (.ll (ts ++ [t])) := if_pos h
/-! pop, targets -/
def kPop4 (i : Nat) (ρ : List T) (π : List Sel) (t0 : T) (o : Option (T × T)) : Option Re := o.map fun q => .ok q.1 (ρ.set i (t0.putP π q.2))
def kPop3 (i : Nat) (ρ : List T) (π : List Sel) (t0 : T) (o : Option T) : Option Re := o.bind fun u => kPop4 i ρ π t0 (popT u)
def kPop2 (i : Nat) (ρ : List T) (π : List Sel) (o : Option T) : Option Re := o.bind fun t0 => kPop3 i ρ π t0 (t0.getP π)
def kPop (i : Nat) (ρ : List T) (p : Option (List Sel)) : Option Re := p.bind fun π => kPop2 i ρ π ρ[i]?
theorem wz_fPop : fPop i fp ρ = kPop i ρ (fp ρ) := rfl
theorem kPop_s : kPop i ρ (some π) = kPop2 i ρ π ρ[i]? := rfl
theorem kPop2_s : kPop2 i ρ π (some t) = kPop3 i ρ π t (t.getP π) := rfl
theorem kPop3_s : kPop3 i ρ π t (some u) = kPop4 i ρ π t (popT u) := rfl
theorem kPop4_s {q : T × T} : kPop4 i ρ π t (some q) = some (.ok q.1 (ρ.set i (t.putP π q.2))) := rfl
theorem popT_l : popT (.l (ds ++ [d])) = some (.f d, .l ds) := by
  show ((ds ++ [d]).getLast?.map fun x => (T.f x, T.l (ds ++ [d]).dropLast)) = _
  rw [List.getLast?_append]
  simp
theorem popT_tu : popT (.ll (ts ++ [.tu us])) = some (.tu us, .ll ts) := by
  show ((ts ++ [T.tu us]).getLast?.bind fun t => _) = _
  rw [List.getLast?_append]
  simp
theorem popT_lf : popT (.ll (ts ++ [.f d])) = some (.f d, .ll ts) := by
  show ((ts ++ [T.f d]).getLast?.bind fun t => _) = _
  rw [List.getLast?_append]
  simp
theorem gTupM2 {h x y} : gTupM 2 h (.f (.tup [x, y])) ρ = h [.f x, .f y] ρ := rfl
theorem gTupM3 {h x y w} : gTupM 3 h (.f (.tup [x, y, w])) ρ = h [.f x, .f y, .f w] ρ := rfl
theorem gTupM4 {h x y w v} : gTupM 4 h (.f (.tup [x, y, w, v])) ρ = h [.f x, .f y, .f w, .f v] ρ := rfl
theorem gTupN2 {h x y} : gTupM 2 h (.tu [x, y]) ρ = h [x, y] ρ := rfl
theorem gTupN3 {h x y w} : gTupM 3 h (.tu [x, y, w]) ρ = h [x, y, w] ρ := rfl
theorem gTupN4 {h x y w v} : gTupM 4 h (.tu [x, y, w, v]) ρ = h [x, y, w, v] ρ := rfl
def kAsg (fg : T → List T → Option (List T)) (r : Option Re) : Option Out := r.bind fun r => match r with
  | .ok t ρ1 => kNx (fg t ρ1)
  | .xc C ρ1 => some (.xc C ρ1)
theorem wz_sAsg {fg} : sAsg fg fo ρ = kAsg fg (fo ρ) := by unfold sAsg kAsg kNx; rfl
theorem kAsg_s {fg} : kAsg fg (some (.ok t ρ)) = kNx (fg t ρ) := rfl
/-! calls that change what they are lent -/
theorem wz_bNil : bNil ρ = some (.ok [] ρ) := rfl
def kBC2 (t : T) (o : Option Rs) : Option Rs := o.map fun r => match r with
    | .ok as ρ2 => .ok (.v t :: as) ρ2
    | r => r
def kBC (g : List T → Option Rs) (o : Option Re) : Option Rs := o.bind fun r => match r with
  | .ok t ρ1 => kBC2 t (g ρ1)
  | .xc C ρ1 => some (.xc C ρ1)
theorem wz_bCons : bCons fo fr ρ = kBC fr (fo ρ) := by unfold bCons kBC kBC2; rfl
theorem kBC_s : kBC fr (some (.ok t ρ)) = kBC2 t (fr ρ) := rfl
theorem kBC2_s : kBC2 t (some (.ok as ρ)) = some (.ok (.v t :: as) ρ) := rfl
def kBS2 (i : Nat) (o : Option Rs) : Option Rs := o.map fun r => match r with
    | .ok as ρ2 => .ok (.s i :: as) ρ2
    | r => r
def kBS (i : Nat) (g : List T → Option Rs) (ρ : List T) (o : Option T) : Option Rs := match o with
  | none => none
  | some .un => none
  | some _ => kBS2 i (g ρ)
theorem wz_bSlot : bSlot i fr ρ = kBS i fr ρ ρ[i]? := by
  unfold bSlot kBS bSlot0 kBS2
  cases ρ[i]? with
  | none => rfl
  | some t => cases t <;> rfl
theorem kBS_f : kBS i fr ρ (some (.f d)) = kBS2 i (fr ρ) := rfl
theorem kBS_l : kBS i fr ρ (some (.l ds)) = kBS2 i (fr ρ) := rfl
theorem kBS_dk : kBS i fr ρ (some (.dk ks ds)) = kBS2 i (fr ρ) := rfl
theorem kBS_ll : kBS i fr ρ (some (.ll ts)) = kBS2 i (fr ρ) := rfl
theorem kBS_tu : kBS i fr ρ (some (.tu ts)) = kBS2 i (fr ρ) := rfl
theorem kBS_o : kBS i fr ρ (some (.o C ns ts)) = kBS2 i (fr ρ) := rfl
theorem kBS2_s : kBS2 i (some (.ok as ρ)) = some (.ok (.s i :: as) ρ) := rfl
theorem take_nil : takeF [] ρ = some ([], ρ) := rfl
def kTk (t : T) (o : Option (List T × List T)) : Option (List T × List T) := o.map fun p => (t :: p.1, p.2)
theorem take_v : takeF (.v t :: as) ρ = kTk t (takeF as ρ) := rfl
def kTs (as : List Ar) (j : Nat) (ρ : List T) (o : Option T) : Option (List T × List T) := match o with
    | none => none
    | some .un => none
    | some t => kTk t (takeF as (ρ.set j .un))
theorem take_s : takeF (.s i :: as) ρ = kTs as i ρ ρ[i]? := by
  rw [takeF]
  unfold kTs kTk
  cases ρ[i]? with
  | none => rfl
  | some t => cases t <;> rfl
theorem kTs_f : kTs as i ρ (some (.f d)) = kTk (.f d) (takeF as (ρ.set i .un)) := rfl
theorem kTs_l : kTs as i ρ (some (.l ds)) = kTk (.l ds) (takeF as (ρ.set i .un)) := rfl
theorem kTs_dk : kTs as i ρ (some (.dk ks ds)) = kTk (.dk ks ds) (takeF as (ρ.set i .un)) := rfl
theorem kTs_ll : kTs as i ρ (some (.ll ts)) = kTk (.ll ts) (takeF as (ρ.set i .un)) := rfl
theorem kTs_tu : kTs as i ρ (some (.tu ts)) = kTk (.tu ts) (takeF as (ρ.set i .un)) := rfl
theorem kTs_o : kTs as i ρ (some (.o C ns ts)) = kTk (.o C ns ts) (takeF as (ρ.set i .un)) := rfl
theorem kTk_s : kTk t (some (ts, ρ)) = some (t :: ts, ρ) := rfl
theorem put_nil : putF [] us ρ = ρ := by cases us <;> rfl
theorem put_v : putF (.v t :: as) (u :: us) ρ = putF as us ρ := rfl
theorem put_s : putF (.s i :: as) (u :: us) ρ = putF as us (ρ.set i u) := rfl
def kCl3 (as : List Ar) (ρ : List T) (r : Option Re) : Option Re := r.bind fun r => match r with
    | .ok τ us => if us.length = as.length then some (.ok τ (putF as us ρ)) else none
    | .xc C us => if us.length = as.length then some (.xc C (putF as us ρ)) else none
def kIo (b : Bool) (o : Option Re) : Option Re := if b = true then o else none
def kCl2 (io : List Nat) (G : List T → Option Re) (as : List Ar) (o : Option (List T × List T)) : Option Re := o.bind fun p => kCl3 as p.2 (kIo (ioOk io 0 p.1) (G p.1))
def kCl (io : List Nat) (G : List T → Option Re) (o : Option Rs) : Option Re := o.bind fun r => match r with
  | .xc C ρ1 => some (.xc C ρ1)
  | .ok as ρ1 => kCl2 io G as (takeF as ρ1)
theorem wz_fCall : fCall io G fr ρ = kCl io G (fr ρ) := by
  unfold fCall kCl kCl2 kCl3 kIo
  cases fr ρ with
  | none => rfl
  | some r => cases r with
    | xc C ρ1 => rfl
    | ok as ρ1 =>
      show ((takeF as ρ1).bind _) = ((takeF as ρ1).bind _)
      cases takeF as ρ1 with
      | none => rfl
      | some p =>
        simp only [Option.bind_some]
        by_cases h : ioOk io 0 p.1 = true
        · rw [if_pos h, if_pos h]
          all_goals (rcases G p.1 with _ | r <;> first | rfl | (cases r <;> rfl))
        · rw [if_neg h, if_neg h]
          all_goals rfl
theorem kCl_s : kCl io G (some (.ok as ρ)) = kCl2 io G as (takeF as ρ) := rfl
theorem kCl2_s : kCl2 io G as (some (ts, ρ)) = kCl3 as ρ (kIo (ioOk io 0 ts) (G ts)) := rfl
theorem kIo_t {o : Option Re} : kIo true o = o := rfl
theorem kCl3_s (h : us.length = as.length) : kCl3 as ρ (some (.ok t us)) = some (.ok t (putF as us ρ)) := if_pos h
theorem ioOk_nil : ioOk io n [] = true := rfl
theorem ioOk_cons : ioOk io n (t :: ts) = ((io.contains n || isF t) && ioOk io (n + 1) ts) := rfl
theorem isF_f : isF (.f d) = true := rfl
theorem cont_nil {j : Nat} : ([] : List Nat).contains j = false := rfl
theorem cont_cons {j : Nat} {l : List Nat} : (i :: l).contains j = (decide (j = i) || l.contains j) := by
  rw [List.contains_cons]
  by_cases h : j = i
  · subst h; simp
  · rw [decide_eq_false h, beq_eq_false_iff_ne.mpr h]
theorem conS_nil : ([] : List Str).contains z = false := rfl
theorem conS_cons : (nm :: ns).contains z = (decide (z = nm) || ns.contains z) := by
  rw [List.contains_cons]
  by_cases h : z = nm
  · subst h; simp
  · rw [decide_eq_false h, beq_eq_false_iff_ne.mpr h]
def kMt2 (b : Bool) (o : Option Re) : Option Re := if b = true then none else o
def kMt (C : Nat) (m : Str) (io : List Nat) (G : List T → Option Re) (fr : List T → Option Rs) (ρ : List T) (o : Option T) : Option Re := match o with
  | some (.o C' ns _) => if C' = C ∧ ns.contains m = false then fCall io G fr ρ else none
  | _ => none
theorem wz_fMeth : fMeth C z i io G fr ρ = kMt C z io G (bSlot i fr) ρ ρ[i]? := by unfold fMeth kMt; rfl
theorem kMt_s : kMt C z io G fr ρ (some (.o C ns ts)) = kMt2 (ns.contains z) (fCall io G fr ρ) := by
  show (if C = C ∧ ns.contains z = false then _ else _) = _
  unfold kMt2
  cases ns.contains z
  · rw [if_pos ⟨rfl, rfl⟩]; rfl
  · rw [if_neg (fun q => by cases q.2)]; rfl
theorem kMt2_f {o : Option Re} : kMt2 false o = o := rfl
def kMv2 (b : Bool) (o : Option T) : Option T := if b = true then none else o
def kMv (C : Nat) (m : Str) (i : Nat) (G : List T → Option Re) (fs : List T → Option (List T)) (ρ : List T) (o : Option T) : Option T := match o with
  | some (.o C' ns _) => if C' = C ∧ ns.contains m = false then fCallV G (aCons (fVar i) fs) ρ else none
  | some (.f (.obj C' ns _)) => if C' = C ∧ ns.contains m = false then fCallV G (aCons (fVar i) fs) ρ else none
  | _ => none
theorem wz_fMethV : fMethV C z i G fs ρ = kMv C z i G fs ρ ρ[i]? := by unfold fMethV kMv; rfl
theorem kMv_o : kMv C z i G fs ρ (some (.o C ns ts)) = kMv2 (ns.contains z) (fCallV G (aCons (fVar i) fs) ρ) := by
  show (if C = C ∧ ns.contains z = false then _ else _) = _
  unfold kMv2
  cases ns.contains z
  · rw [if_pos ⟨rfl, rfl⟩]; rfl
  · rw [if_neg (fun q => by cases q.2)]; rfl
theorem kMv_f : kMv C z i G fs ρ (some (.f (.obj C ns ds))) = kMv2 (ns.contains z) (fCallV G (aCons (fVar i) fs) ρ) := by
  show (if C = C ∧ ns.contains z = false then _ else _) = _
  unfold kMv2
  cases ns.contains z
  · rw [if_pos ⟨rfl, rfl⟩]; rfl
  · rw [if_neg (fun q => by cases q.2)]; rfl
theorem kMv2_f {o : Option T} : kMv2 false o = o := rfl
/-! own things read by a call that answers with an atom -/
def kCO2 (o : Option D) : Option T := o.bind fun d => if d.atom = true then some (.f d) else none
def kCO (G : List T → Option Re) (o : Option (List D)) : Option T := o.bind fun ds => kCO2 (val (G (ds.map .f)))
theorem kCall_own {t : T} {ts : List T} (h : (t :: ts).all isF = false) : kCall G (some (t :: ts)) = kCO G (T.fzs (t :: ts)) := by
  unfold kCO kCO2
  show (T.fzs (t :: ts)).bind _ = _
  cases T.fzs (t :: ts) with
  | none => rfl
  | some ds =>
    show (val (G (ds.map .f))).bind _ = (val (G (ds.map .f))).bind _
    rw [h]
    simp only [Bool.false_or]
theorem kCall_o : kCall G (some (.o C ns ts :: us)) = kCO G (T.fzs (.o C ns ts :: us)) := kCall_own rfl
theorem kCall_l : kCall G (some (.l ds :: us)) = kCO G (T.fzs (.l ds :: us)) := kCall_own rfl
theorem kCall_dk : kCall G (some (.dk ks ds :: us)) = kCO G (T.fzs (.dk ks ds :: us)) := kCall_own rfl
theorem kCall_tu : kCall G (some (.tu ts :: us)) = kCO G (T.fzs (.tu ts :: us)) := kCall_own rfl
theorem kCall_ll : kCall G (some (.ll ts :: us)) = kCO G (T.fzs (.ll ts :: us)) := kCall_own rfl
theorem kCall_f1 : kCall G (some [.f d, .dk ks ds]) = kCO G (T.fzs [.f d, .dk ks ds]) := kCall_own rfl
theorem kCall_f2 : kCall G (some [.f d, .l ds]) = kCO G (T.fzs [.f d, .l ds]) := kCall_own rfl
theorem kCO_s : kCO G (some ds) = kCO2 (val (G (ds.map .f))) := rfl
theorem kCO2_i {j : Int} : kCO2 (some (.int j)) = some (.f (.int j)) := rfl
theorem kCO2_b : kCO2 (some (.bl b)) = some (.f (.bl b)) := rfl
theorem kCO2_s : kCO2 (some (.str z)) = some (.f (.str z)) := rfl
theorem fzs_nil : T.fzs [] = some [] := rfl
def kFs (o : Option D) (p : Option (List D)) : Option (List D) := o.bind fun d => p.map fun ds => d :: ds
theorem fzs_cons : T.fzs (t :: ts) = kFs t.fz (T.fzs ts) := rfl
theorem kFs_s : kFs (some d) (some ds) = some (d :: ds) := rfl
theorem fz_f : (T.f d).fz = some d := rfl
theorem fz_l : (T.l ds).fz = some (.lst ds) := rfl
theorem fz_dk : (T.dk ks ds).fz = some (.dct ks ds) := rfl
def kFo (C : Nat) (ns : List Str) (o : Option (List D)) : Option D := o.map (.obj C ns)
def kFt (o : Option (List D)) : Option D := o.map .tup
def kFl (o : Option (List D)) : Option D := o.map .lst
theorem fz_o : (T.o C ns ts).fz = kFo C ns (T.fzs ts) := by unfold kFo; rw [T.fz]
theorem fz_tu : (T.tu ts).fz = kFt (T.fzs ts) := by unfold kFt; rw [T.fz]
theorem fz_ll : (T.ll ts).fz = kFl (T.fzs ts) := by unfold kFl; rw [T.fz]
theorem kFo_s : kFo C ns (some ds) = some (.obj C ns ds) := rfl
theorem kFt_s : kFt (some ds) = some (.tup ds) := rfl
theorem kFl_s : kFl (some ds) = some (.lst ds) := rfl
def kFz2 (i : Nat) (ρ : List T) (o : Option D) : Option (List T) := o.map fun d => ρ.set i (.f d)
theorem kF2_o : kF2 i ρ (some (.o C ns ts)) = kFz2 i ρ (T.o C ns ts).fz := rfl
theorem kF2_tu : kF2 i ρ (some (.tu ts)) = kFz2 i ρ (T.tu ts).fz := rfl
theorem kF2_ll : kF2 i ρ (some (.ll ts)) = kFz2 i ρ (T.ll ts).fz := rfl
theorem kFz2_s : kFz2 i ρ (some d) = some (ρ.set i (.f d)) := rfl
def kFzR (ρ : List T) (o : Option D) : Option Re := o.map fun d => .ok (.f d) ρ
theorem kFz_o : kFz (some (.ok (.o C ns ts) ρ)) = kFzR ρ (T.o C ns ts).fz := rfl
theorem kFz_tu : kFz (some (.ok (.tu ts) ρ)) = kFzR ρ (T.tu ts).fz := rfl
theorem kFz_ll : kFz (some (.ok (.ll ts) ρ)) = kFzR ρ (T.ll ts).fz := rfl
theorem kFzR_s : kFzR ρ (some d) = some (.ok (.f d) ρ) := rfl
theorem wz_fzR : fzR G ts = kFz (G ts) := by
  unfold fzR kFz
  cases G ts with
  | none => rfl
  | some r => cases r <;> rfl
theorem val_ok : val (some (.ok (.f d) ρ)) = some d := rfl
/-! making -/
def kMk4 (ρ : List T) (o : Option T) : Option Re := o.map fun u => .ok u ρ
def kMk3 (b : Bool) (o : Option Re) : Option T := if b = true then o.bind fun r => match r with
  | .ok (.f .non) (u :: _) => some u
  | _ => none
  else none
def kMk2 (C : Nat) (io : List Nat) (G : List T → Option Re) (ρ : List T) (o : Option (List D)) : Option Re := o.bind fun ds => kMk4 ρ (mkF C io G ds)
def kMk (C : Nat) (io : List Nat) (G : List T → Option Re) (ρ : List T) (o : Option (List T)) : Option Re := o.bind fun ts => kMk2 C io G ρ (deep ts)
theorem wz_fMake : fMake C io G fs ρ = kMk C io G ρ (fs ρ) := rfl
theorem kMk_s : kMk C io G ρ (some ts) = kMk2 C io G ρ (deep ts) := rfl
theorem kMk2_s : kMk2 C io G ρ (some ds) = kMk4 ρ (mkF C io G ds) := rfl
theorem wz_mkF : mkF C io G ds = kMk3 (ioOk io 0 (.o C [] [] :: ds.map .f)) (G (.o C [] [] :: ds.map .f)) := rfl
theorem kMk3_t : kMk3 true (some (.ok (.f .non) (u :: us))) = some u := rfl
theorem kMk4_s : kMk4 ρ (some u) = some (.ok u ρ) := rfl
/-! tests with effects -/
def kOAnd (h : List T → Option Rb) (o : Option Rb) : Option Rb := o.bind fun r => match r with
  | .ok true ρ1 => h ρ1
  | r => some r
def kOOr (h : List T → Option Rb) (o : Option Rb) : Option Rb := o.bind fun r => match r with
  | .ok false ρ1 => h ρ1
  | r => some r
theorem wz_oAnd {h k : List T → Option Rb} : oAnd h k ρ = kOAnd k (h ρ) := by unfold oAnd kOAnd; rfl
theorem wz_oOr {h k : List T → Option Rb} : oOr h k ρ = kOOr k (h ρ) := by unfold oOr kOOr; rfl
theorem kOAnd_t {k : List T → Option Rb} : kOAnd k (some (.ok true ρ)) = k ρ := rfl
theorem kOAnd_f {k : List T → Option Rb} : kOAnd k (some (.ok false ρ)) = some (.ok false ρ) := rfl
theorem kOOr_f {k : List T → Option Rb} : kOOr k (some (.ok false ρ)) = k ρ := rfl
theorem kOOr_t {k : List T → Option Rb} : kOOr k (some (.ok true ρ)) = some (.ok true ρ) := rfl
theorem wz_sAug {h : T → T → Option T} : sAug i h fe ρ = kSet i (lift (f2 h (fVar i) fe) ρ) := wz_sSet
theorem gAddI_i {p q : Int} : gAddI (.f (.int p)) (.f (.int q)) = some (.f (.int (p + q))) := rfl
/-! dicts -/
def kG3 (o p q : Option T) : Option T := o.bind fun a => p.bind fun k => q.bind fun d => gGet a k d
theorem wz_fGet : fGet fa fk fd ρ = kG3 (fa ρ) (fk ρ) (fd ρ) := rfl
theorem kG3_s : kG3 (some t) (some x) (some y) = gGet t x y := rfl
theorem gGet_f : gGet (.f (.dct ks ds)) (.f (.str z)) (.f d) = some (.f ((dAt ks ds (.inr z)).getD d)) := rfl
theorem gGet_o : gGet (.dk ks ds) (.f (.str z)) (.f d) = some (.f ((dAt ks ds (.inr z)).getD d)) := rfl
theorem gCopy_f : gCopy (.f (.dct ks ds)) = some (.f (.dct ks ds)) := rfl
theorem gCopy_o : gCopy (.dk ks ds) = some (.f (.dct ks ds)) := rfl
def kClr (i : Nat) (h : T → Option T) (ρ : List T) (p : Option (List Sel)) : Option Out := p.bind fun π => kNx (mutF i π h ρ)
theorem wz_sClr {h : T → Option T} : sClr i fp h ρ = kClr i h ρ (fp ρ) := rfl
theorem kClr_s {h : T → Option T} : kClr i h ρ (some π) = kNx (mutF i π h ρ) := rfl
theorem clrT_s : clrT (.dk ks ds) = some (.dk [] []) := rfl
theorem gRevL_l : gRevL (.f (.lst ds)) = some (.f (.lst ds.reverse)) := rfl
theorem gRevL_o : gRevL (.l ds) = some (.f (.lst ds.reverse)) := rfl
theorem gVals_f : gVals (.f (.dct ks ds)) = some (.f (.lst ds)) := rfl
theorem gVals_o : gVals (.dk ks ds) = some (.f (.lst ds)) := rfl
theorem kNn_ll : kNn (some (.ll ts)) = some (.ll ts) := rfl
theorem kNn_tu : kNn (some (.tu ts)) = some (.tu ts) := rfl
theorem kNn_o : kNn (some (.o C ns ts)) = some (.o C ns ts) := rfl
theorem gIx_ll {j : Int} : gIx (.ll ts) (.f (.int j)) = kNn (atI ts j) := by
  unfold gIx
  rw [or2_r rfl, or2_none rfl]
  show ((atI ts j).bind fun t => match t with | .un => none | t => some t) = _
  unfold kNn
  rfl
theorem gIx_tu {j : Int} : gIx (.tu ts) (.f (.int j)) = kNn (atI ts j) := by
  unfold gIx
  rw [or2_r rfl, or2_none rfl]
  show ((atI ts j).bind fun t => match t with | .un => none | t => some t) = _
  unfold kNn
  rfl
theorem gLen_ll : gLen [.ll ts] = some (.f (.int ts.length)) := rfl
theorem gLen_tu : gLen [.tu ts] = some (.f (.int ts.length)) := rfl
theorem gLen_dk : gLen [.dk ks ds] = some (.f (.int ks.length)) := rfl
theorem gLen_df : gLen [.f (.dct ks ds)] = some (.f (.int ks.length)) := rfl
/-! a def whole, and what it hands back -/
def kRun (m : Nat) (io : List Nat) (ts : List T) (o : Option Out) : Option Re := o.bind fun o => match o with
  | .rt τ ρ => if m ≤ ρ.length then some (.ok τ (outs io 0 ts ρ)) else none
  | .nx ρ => if m ≤ ρ.length then some (.ok (.f .non) (outs io 0 ts ρ)) else none
  | .xc C ρ => if m ≤ ρ.length then some (.xc C (outs io 0 ts ρ)) else none
  | _ => none
theorem run_of {fb : FS} (h : ts.length = m) : runF m n io fb ts = kRun m io ts (fb (ts ++ List.replicate (n - m) .un)) := if_pos h
theorem kRun_rt (h : m ≤ ρ.length) : kRun m io ts (some (.rt t ρ)) = some (.ok t (outs io 0 ts ρ)) := if_pos h
theorem kRun_nx (h : m ≤ ρ.length) : kRun m io ts (some (.nx ρ)) = some (.ok (.f .non) (outs io 0 ts ρ)) := if_pos h
theorem outs_nil : outs io n [] ρ = [] := by cases ρ <;> rfl
def kOut (b : Bool) (x y : T) : T := if b = true then x else y
theorem outs_cons : outs io n (t :: ts) (u :: ρ) = kOut (io.contains n) u t :: outs io (n + 1) ts ρ := by
  unfold kOut
  show (if n ∈ io then u else t) :: outs io (n + 1) ts ρ = _
  congr 1
  by_cases h : n ∈ io
  · rw [if_pos h, if_pos (List.contains_iff_mem.mpr h)]
  · rw [if_neg h, if_neg (fun q => h (List.contains_iff_mem.mp q))]
theorem kOut_t : kOut true x y = x := rfl
theorem kOut_f : kOut false x y = y := rfl
end
-- nosimp kCall_own
-- nosimp run_of
theorem last_n {α : Type} {A : List α} {x : α} : (-1 + ((A ++ [x]).length : Int)).toNat = A.length := by
  rw [List.length_append]
  simp
  omega
theorem last_g {α : Type} {A : List α} {x : α} : (A ++ [x])[A.length]? = some x := by simp
theorem last_s {α : Type} {A : List α} {x y : α} : (A ++ [x]).set A.length y = A ++ [y] := by
  rw [List.set_append_right _ _ (Nat.le_refl _)]
  simp
theorem cast1 : ((1 : Nat) : Int) = 1 := rfl
theorem cast2 : ((2 : Nat) : Int) = 2 := rfl
theorem cast3 : ((3 : Nat) : Int) = 3 := rfl
theorem cast4 : ((4 : Nat) : Int) = 4 := rfl
theorem cast5 : ((5 : Nat) : Int) = 5 := rfl
theorem cast6 : ((6 : Nat) : Int) = 6 := rfl
theorem cast7 : ((7 : Nat) : Int) = 7 := rfl
theorem cast8 : ((8 : Nat) : Int) = 8 := rfl
theorem cast9 : ((9 : Nat) : Int) = 9 := rfl
theorem cast10 : ((10 : Nat) : Int) = 10 := rfl
theorem cast11 : ((11 : Nat) : Int) = 11 := rfl
theorem cast12 : ((12 : Nat) : Int) = 12 := rfl
/-! while -/
section
variable {ρ ρ1 : List T} {t : T} {n : Nat} {ft : List T → Option Rb} {fb : FS}
def kW2 (ft : List T → Option Rb) (fb : FS) (n : Nat) (o : Option Out) : Option Out := o.bind fun o => match o with
      | .nx ρ2 => whileF ft fb n ρ2
      | .ct ρ2 => whileF ft fb n ρ2
      | .bk ρ2 => some (.nx ρ2)
      | o => some o
def kW1 (ft : List T → Option Rb) (fb : FS) (n : Nat) (o : Option Rb) : Option Out := o.bind fun r => match r with
    | .xc C ρ1 => some (.xc C ρ1)
    | .ok false ρ1 => some (.nx ρ1)
    | .ok true ρ1 => kW2 ft fb n (fb ρ1)
theorem while_step : whileF ft fb (n + 1) ρ = kW1 ft fb n (ft ρ) := by
  rw [whileF]
  unfold kW1 kW2
  cases ft ρ with
  | none => rfl
  | some r => cases r with
    | xc C ρ1 => rfl
    | ok b ρ1 => cases b with
      | false => rfl
      | true =>
        simp only [Option.bind_some]
        all_goals (rcases fb ρ1 with _ | o <;> first | rfl | (cases o <;> rfl))
theorem wz_sWhile {m : Nat} : sWhile (fun _ => m) ft fb ρ = whileF ft fb m ρ := rfl
theorem kW1_f : kW1 ft fb n (some (.ok false ρ)) = some (.nx ρ) := rfl
theorem kW1_t : kW1 ft fb n (some (.ok true ρ)) = kW2 ft fb n (fb ρ) := rfl
theorem kW2_nx : kW2 ft fb n (some (.nx ρ)) = whileF ft fb n ρ := rfl
theorem kW2_ct : kW2 ft fb n (some (.ct ρ)) = whileF ft fb n ρ := rfl
theorem kW2_bk : kW2 ft fb n (some (.bk ρ)) = some (.nx ρ) := rfl
theorem kW2_rt : kW2 ft fb n (some (.rt t ρ)) = some (.rt t ρ) := rfl
end
-- nosimp while_step
/-! ### texts joined, dicts copied and walked, things sorted -/
section
variable {ρ : List T} {ds : List D} {ks : List Key} {t : T} {fa : List T → Option T}
theorem gJoin_l {z : Str} {xs : List Str} (h : (xs.map (·.length)).sum + xs.length * z.length ≤ 16777216) : gJoin (.f (.str z)) (.f (.lst (xs.map D.str))) = some (.f (.str (Txt.join z xs))) := by
  show (strsOf (xs.map D.str)).bind _ = _
  rw [strsOf_map]
  exact if_pos h
theorem gDictOf_f : gDictOf [.f (.dct ks ds)] = some (.f (.dct ks ds)) := rfl
theorem gDictOf_o : gDictOf [.dk ks ds] = some (.f (.dct ks ds)) := rfl
theorem gSorted_d {xs : List Str} (h : xs.length < 64) : gSorted [.f (.dct (xs.map Sum.inr) ds)] = some (.f (.lst ((ssort xs).map D.str))) := by
  have e : gSortD (.f (.dct (xs.map Sum.inr) ds)) = some (.f (.lst ((ssort xs).map D.str))) := by
    show (skeys (xs.map Sum.inr)).bind _ = _
    rw [skeys_map]
    exact if_pos h
  show gSorted1 (.f (.dct (xs.map Sum.inr) ds)) = _
  unfold gSorted1
  rw [show gSortI (.f (.dct (xs.map Sum.inr) ds)) = none from rfl, e]
theorem gSorted_i {ns : List Int} : gSorted [.f (.lst (ns.map D.int))] = some (.f (.lst ((isort ns).map D.int))) := by
  have e : gSortI (.f (.lst (ns.map D.int))) = some (.f (.lst ((isort ns).map D.int))) := by
    show (intsOf (ns.map D.int)).map _ = _
    rw [intsOf_map]
    rfl
  show gSorted1 (.f (.lst (ns.map D.int))) = _
  unfold gSorted1
  rw [e]
theorem gMaxL_l {ns : List Int} : gMaxL [.f (.lst (ns.map D.int))] = (imax ns).map fun m => .f (.int m) := by
  show (intsOf (ns.map D.int)).bind _ = _
  rw [intsOf_map]
  rfl
def kTix (k : Int) (o : Option T) : Option T := o.bind fun t => match t with
  | .f (.tup ds) => (atI ds k).map .f
  | _ => none
theorem wz_fTix {k : Int} : fTix k fa ρ = kTix k (fa ρ) := by unfold fTix kTix; rfl
theorem kTix_s {k : Int} : kTix k (some (.f (.tup ds))) = kV (atI ds k) := rfl
def kNoX (o : Option Out) : Option Out := o.bind noX
theorem kNoX_nx : kNoX (some (.nx ρ)) = some (.nx ρ) := rfl
theorem kNoX_rt : kNoX (some (.rt t ρ)) = some (.rt t ρ) := rfl
def kForK (fg : T → List T → Option (List T)) (fb : FS) (ρ : List T) (o : Option T) : Option Out := o.bind fun t => match t with
  | .f (.dct ks _) => kNoX (forF fg fb (ks.map kD) ρ)
  | _ => none
theorem wz_sForK {fg fb} : sForK fa fg fb ρ = kForK fg fb ρ (fa ρ) := by unfold sForK kForK; rfl
theorem kForK_s {fg fb} : kForK fg fb ρ (some (.f (.dct ks ds))) = kNoX (forF fg fb (ks.map kD) ρ) := rfl
end
/-! ### operators behind effects, stores by such keys, things handed over twice -/
section
variable {ρ ρ1 : List T} {d q : D} {ds : List D} {t u : T} {ts us : List T} {ns : List Str} {i j k C : Nat} {io : List Nat} {al : List (Nat × Nat)} {G : List T → Option Re} {fr : List T → Option Rs} {fo fk : List T → Option Re} {fb fe : List T → Option T} {fp : List T → Option (List Sel)} {as : List Ar}
def kE2 (g : T → T → Option T) (fb : List T → Option T) (o : Option Re) : Option Re := o.bind fun r => match r with
  | .ok t ρ1 => t.d?.bind fun d => (fb ρ1).bind fun y => (g (.f d) y).bind fun z => z.d?.map fun dz => .ok (.f dz) ρ1
  | .xc C ρ1 => some (.xc C ρ1)
theorem wz_fE2 {g} : fE2 g fo fb ρ = kE2 g fb (fo ρ) := by
  unfold fE2 kE2
  cases fo ρ with
  | none => rfl
  | some r => cases r <;> rfl
theorem kE2_s {g} : kE2 g fb (some (.ok (.f d) ρ1)) = kLift ρ1 (k2 g (some (.f d)) (fb ρ1)) := by
  show ((fb ρ1).bind _) = _
  unfold kLift k2
  cases fb ρ1 with
  | none => rfl
  | some y => rfl
def kSE (i : Nat) (fk : List T → Option Re) (ρ : List T) (x : Option T) (p : Option (List Sel)) : Option Out := x.bind fun x => x.d?.bind fun d => p.bind fun π => (isEnd π).bind fun _ => (ρ[i]?).bind fun t => (t.getP π).bind fun u => if isObj t = true ∧ owned u = true then (fk ρ).bind (kSetE i π d) else none
theorem wz_sSetIxE : sSetIxE i fp fk fe ρ = kSE i fk ρ (fe ρ) (fp ρ) := rfl
def kSE2 (i : Nat) (fk : List T → Option Re) (d : D) (ρ : List T) (o : Option T) : Option Out := o.bind fun t => (t.getP [.at (Str.ofString "endings")]).bind fun u => if isObj t = true ∧ owned u = true then (fk ρ).bind (kSetE i [.at (Str.ofString "endings")] d) else none
theorem kSE_s : kSE i fk ρ (some (.f d)) (some [.at (Str.ofString "endings")]) = kSE2 i fk d ρ ρ[i]? := rfl
def kSE3 (i : Nat) (fk : List T → Option Re) (d : D) (ρ : List T) (o : Option T) : Option Out := o.bind fun u => if owned u = true then (fk ρ).bind (kSetE i [.at (Str.ofString "endings")] d) else none
theorem kSE2_s : kSE2 i fk d ρ (some (.o C ns ts)) = kSE3 i fk d ρ (atN ns ts (Str.ofString "endings")) := by
  unfold kSE2 kSE3
  rw [Option.bind_some, getP_cons, sub_o]
  cases atN ns ts (Str.ofString "endings") with
  | none => rfl
  | some u =>
    show (if isObj (T.o C ns ts) = true ∧ owned u = true then _ else _) = _
    by_cases h : owned u = true
    · exact (if_pos ⟨rfl, h⟩).trans (if_pos h).symm
    · exact (if_neg fun z => h z.2).trans (if_neg h).symm
def kSE4 (i : Nat) (d : D) (o : Option Re) : Option Out := o.bind (kSetE i [.at (Str.ofString "endings")] d)
theorem kSE3_l : kSE3 i fk d ρ (some (.l ds)) = kSE4 i d (fk ρ) := rfl
theorem kSE4_s : kSE4 i d (some (.ok (.f q) ρ1)) = kNx (mutF i [.at (Str.ofString "endings")] (setT q d) ρ1) := rfl
def kAl2 (i : Nat) (o : Option Rs) : Option Rs := o.map fun r => match r with
    | .ok as ρ2 => .ok (.a i :: as) ρ2
    | r => r
def kAl (i : Nat) (g : List T → Option Rs) (ρ : List T) (o : Option T) : Option Rs := match o with
  | none => none
  | some .un => none
  | some _ => kAl2 i (g ρ)
theorem wz_bAl : bAl i fr ρ = kAl i fr ρ ρ[i]? := by
  unfold bAl kAl kAl2
  cases ρ[i]? with
  | none => rfl
  | some t => cases t <;> rfl
theorem kAl_dk {ks} : kAl i fr ρ (some (.dk ks ds)) = kAl2 i (fr ρ) := rfl
theorem kAl2_s : kAl2 i (some (.ok as ρ)) = some (.ok (.a i :: as) ρ) := rfl
theorem take_a : takeF (.a i :: as) ρ = kTk .un (takeF as ρ) := rfl
theorem put_a : putF (.a i :: as) (u :: us) ρ = putF as us ρ := rfl
def kCA (al : List (Nat × Nat)) (io : List Nat) (G : List T → Option Re) (o : Option Rs) : Option Re := o.bind fun r => if alR io al r = true then kCl io G (some r) else none
theorem wz_fCallA : fCallA al io G fr ρ = kCA al io G (fr ρ) := by
  unfold fCallA kCA
  cases fr ρ with
  | none => rfl
  | some r =>
    show (if alR io al r = true then _ else _) = (if alR io al r = true then _ else _)
    rw [wz_fCall]
theorem kCA_do {t1 t5 : T} : kCA [(1, 2)] [1, 2, 3] G (some (.ok [.v t1, .s i, .a i, .s k, .v t5] ρ)) = kCl [1, 2, 3] G (some (.ok [.v t1, .s i, .a i, .s k, .v t5] ρ)) := by
  refine if_pos ?_
  show (([1, 2, 3].contains 1 && [1, 2, 3].contains 2 && (i == i)) && true) = true
  rw [beq_self_eq_true]
  rfl
theorem isF_un : isF .un = false := rfl
end
/-! ### a copy of one's own -/
section
variable {ρ : List T} {ds : List D} {ks : List Key} {fa : List T → Option T}
theorem wz_fD0 : fD0 ρ = some (.f (.dct [] [])) := rfl
def kCp (ρ : List T) (o : Option T) : Option (T × List T) := o.bind fun t => t.dk?.map fun p => (.dk p.1 p.2, ρ)
theorem wz_mCopy : mCopy fa ρ = kCp ρ (fa ρ) := rfl
theorem kCp_f : kCp ρ (some (.f (.dct ks ds))) = some (.dk ks ds, ρ) := rfl
theorem kCp_o : kCp ρ (some (.dk ks ds)) = some (.dk ks ds, ρ) := rfl
end
/-! ### dicts whose keys are tuples -/
section
variable {ρ : List T} {d q : D} {ts : List T} {i : Nat} {fe fk : List T → Option T} {fp : List T → Option (List Sel)} {ks : List NestedKey}
theorem nn_dix : nn (some (.di ks ts)) = some (.di ks ts) := rfl
theorem wz_fNewX : fNewX ρ = some (.ok (.di [] []) ρ) := rfl
theorem gInZ_k {k : NestedKey} (h : keyT (.f d) = some k) : gInZ (.f d) (.di ks ts) = some (.f (.bl (decide (k ∈ ks)))) := by
  have e : gInX false (.f d) (.di ks ts) = some (.f (.bl (decide (k ∈ ks)))) := by
    unfold gInX
    rw [h]
    show some (T.f (.bl (xor false (decide (k ∈ ks))))) = _
    rw [Bool.false_xor]
  have n : gIn (.f d) (.di ks ts) = none := by
    unfold gIn or2
    cases d <;> rfl
  unfold gInZ or2
  rw [n]
  exact e
theorem gNotInZ_k {k : NestedKey} (h : keyT (.f d) = some k) : gNotInZ (.f d) (.di ks ts) = some (.f (.bl (!decide (k ∈ ks)))) := by
  have e : gInX true (.f d) (.di ks ts) = some (.f (.bl (!decide (k ∈ ks)))) := by
    unfold gInX
    rw [h]
    show some (T.f (.bl (xor true (decide (k ∈ ks))))) = _
    rw [Bool.true_xor]
  have n : gNotIn (.f d) (.di ks ts) = none := by
    unfold gNotIn or2
    cases d <;> rfl
  unfold gNotInZ or2
  rw [n]
  exact e
theorem gIxZ_k {k : NestedKey} {e : D} (h : keyT (.f d) = some k) (ha : atT ks ts k = some (.f e)) : gIxZ (.di ks ts) (.f d) = some (.f e) := by
  have n : gIx (.di ks ts) (.f d) = none := by
    unfold gIx or2
    cases d <;> rfl
  unfold gIxZ or2
  rw [n]
  unfold gIxX
  show (keyT (.f d)).bind _ = _
  rw [h]
  show (atT ks ts k).bind _ = _
  rw [ha]
  rfl
theorem gLenZ_k : gLenZ [.di ks ts] = some (.f (.int ks.length)) := rfl
def kSX (i : Nat) (ρ : List T) (o : Option T) (π : Option (List Sel)) (k : Option T) : Option Out := o.bind fun x => x.d?.bind fun d => π.bind fun π => k.bind fun z => z.d?.bind fun q => kNx (mutF i π (setX q d) ρ)
theorem wz_sSetX : sSetX i fp fk fe ρ = kSX i ρ (fe ρ) (fp ρ) (fk ρ) := rfl
theorem kSX_s {π : List Sel} : kSX i ρ (some (.f d)) (some π) (some (.f q)) = kNx (mutF i π (setX q d) ρ) := rfl
theorem setX_new {k : NestedKey} (h : keyT (.f q) = some k) (hn : k ∉ ks) (hz : ks.length < 16777216) : setX q d (.di ks ts) = some (.di (ks ++ [k]) (ts ++ [.f d])) := by
  show (keyT (.f q)).bind (fun q => if ks.length < sizeLine then (if q ∈ ks then (putT ks ts q d).map (T.di ks) else some (.di (ks ++ [q]) (ts ++ [.f d]))) else none) = _
  rw [h, Option.bind_some, if_pos (by rw [sizeLine_eq]; exact hz), if_neg hn]
theorem setX_old {k : NestedKey} {us : List T} (h : keyT (.f q) = some k) (hn : k ∈ ks) (hp : putT ks ts k d = some us) (hz : ks.length < 16777216) : setX q d (.di ks ts) = some (.di ks us) := by
  show (keyT (.f q)).bind (fun q => if ks.length < sizeLine then (if q ∈ ks then (putT ks ts q d).map (T.di ks) else some (.di (ks ++ [q]) (ts ++ [.f d]))) else none) = _
  rw [h, Option.bind_some, if_pos (by rw [sizeLine_eq]; exact hz), if_pos hn, hp]
  rfl
end
/-! list(a dict) -/
section
variable {ds : List D} {ks : List Key}
theorem gListX_l : gListX [.f (.lst ds)] = some (.f (.lst ds)) := rfl
theorem gListX_t : gListX [.f (.tup ds)] = some (.f (.lst ds)) := rfl
theorem gListX_d : gListX [.f (.dct ks ds)] = some (.f (.lst (ks.map kD))) := rfl
end
/-! lists known new -/
section
variable {ds : List D} {i : Int} {ρ : List T}
theorem gIx_nst : gIx (.f (.nst ds)) (.f (.int i)) = kVT (atI ds i) := by
  unfold gIx
  rw [or2_r rfl, or2_r rfl]
  rfl
theorem gLen_nst : gLen [.f (.nst ds)] = some (.f (.int ds.length)) := rfl
theorem gIsi_nst : gIsi "list" (.f (.nst ds)) = some (.f (.bl true)) := congrArg (Option.map fun b => T.f (.bl b)) kitB_ll
theorem gIsNn_nst {neg : Bool} : gIsNn neg (.f (.nst ds)) = some (.f (.bl (xor neg false))) := rfl
theorem kCall_f3 {G : List T → Option Re} {d d2 : D} : kCall G (some [.f d, .l ds, .f d2]) = kCO G (T.fzs [.f d, .l ds, .f d2]) := kCall_own rfl
theorem kIt_nst : kIt (some (.ok (.f (.nst ds)) ρ)) = some (.ok ds ρ) := rfl
theorem kJV_nst : kJV (some (.f (.nst ds))) = some ds := rfl
end
-- nosimp gInZ_k
-- nosimp gNotInZ_k
-- nosimp gIxZ_k
-- nosimp setX_new
-- nosimp setX_old
-- nosimp gJoin_l
-- nosimp gSorted_d
-- nosimp gSorted_i
-- nosimp gMaxL_l
end Z

namespace Z
open PySem L2
/-! ### loops by the place -/
section
variable {fg : T → List T → Option (List T)} {fb : FS}
theorem for_idx (ds : List D) (P : Nat → List T → Prop) (R : Out → Prop) (step : ∀ i d ρ, ds[i]? = some d → P i ρ → Wn (P (i + 1)) R (kTurn fb (fg (.f d) ρ))) {ρ : List T} (h : P 0 ρ) :
    ∃ o, forF fg fb ds ρ = some o ∧ ((∃ ρ', o = .nx ρ' ∧ P ds.length ρ') ∨ R o) := by
  obtain ⟨o, e, h⟩ := for_wp (fg := fg) (fb := fb) (fun l ρ => ∃ i, l = ds.drop i ∧ i ≤ ds.length ∧ P i ρ) R (by
    rintro d l ρ ⟨i, e, hi, hp⟩
    have hlt : i < ds.length := by
      rcases Nat.lt_or_ge i ds.length with z | z
      · exact z
      · rw [List.drop_of_length_le z] at e; cases e
    rw [List.drop_eq_getElem_cons hlt] at e
    have e1 := (List.cons.inj e).1
    have e2 := (List.cons.inj e).2
    have s := step i d ρ (by rw [e1]; exact List.getElem?_eq_getElem hlt) hp
    generalize kTurn fb (fg (.f d) ρ) = o at s ⊢
    refine ⟨?_⟩
    have s := s.go
    cases o with
    | none => exact s
    | some o => cases o with
      | nx ρ2 => exact ⟨i + 1, e2, hlt, s⟩
      | ct ρ2 => exact ⟨i + 1, e2, hlt, s⟩
      | _ => exact s) (ds := ds) (ρ := ρ) ⟨0, rfl, Nat.zero_le _, h⟩
  refine ⟨o, e, h.imp (fun ⟨ρ', e1, i, e2, hi, hp⟩ => ⟨ρ', e1, ?_⟩) id⟩
  have : i = ds.length := by
    rcases Nat.lt_or_ge i ds.length with z | z
    · rw [List.drop_eq_getElem_cons z] at e2; cases e2
    · omega
  rw [← this]
  exact hp
theorem for_idxN (ds : List D) (P : Nat → List T → Prop) (step : ∀ i d ρ, ds[i]? = some d → P i ρ → Wn (P (i + 1)) (fun _ => False) (kTurn fb (fg (.f d) ρ))) {ρ : List T} (h : P 0 ρ) :
    ∃ ρ', forF fg fb ds ρ = some (.nx ρ') ∧ P ds.length ρ' := by
  obtain ⟨o, e, ⟨ρ', rfl, h⟩ | h⟩ := for_idx ds P (fun _ => False) step h
  · exact ⟨ρ', e, h⟩
  · exact h.elim
theorem rangeD_len {lo : Int} {n : Nat} : (rangeD lo n).length = n := by unfold rangeD; rw [List.length_map, List.length_range]
theorem rangeD_at {lo : Int} {n i : Nat} {d : D} (h : (rangeD lo n)[i]? = some d) : i < n ∧ d = .int (lo + i) := by
  unfold rangeD at h
  rw [List.getElem?_map] at h
  obtain ⟨j, e, e2⟩ := Option.map_eq_some_iff.mp h
  have hl := (List.getElem?_eq_some_iff.mp e).1
  rw [List.length_range] at hl
  rw [List.getElem?_range hl] at e
  cases e
  exact ⟨hl, e2.symm⟩
theorem enumD_at : ∀ {ds : List D} {k i : Nat} {d : D}, (enumD k ds)[i]? = some d → ∃ x, ds[i]? = some x ∧ d = .tup [.int ((k + i : Nat) : Int), x]
  | [], _, _, _, h => by simp [enumD] at h
  | x :: ds, k, 0, d, h => ⟨x, rfl, by simpa [enumD] using h.symm⟩
  | x :: ds, k, i + 1, d, h => by
    have h' : (enumD (k + 1) ds)[i]? = some d := by simpa [enumD] using h
    obtain ⟨y, e, r⟩ := enumD_at h'
    exact ⟨y, by simpa using e, by rw [r, show k + 1 + i = k + (i + 1) by omega]⟩
theorem map_at {α : Type} {φ : α → D} {xs : List α} {i : Nat} {d : D} (h : (xs.map φ)[i]? = some d) : ∃ a, xs[i]? = some a ∧ d = φ a := by
  rw [List.getElem?_map] at h
  obtain ⟨a, e, e2⟩ := Option.map_eq_some_iff.mp h
  exact ⟨a, e, e2.symm⟩
theorem at_map {α : Type} {φ : α → D} {xs : List α} {i : Nat} {a : α} (h : xs[i]? = some a) : (xs.map φ)[i]? = some (φ a) := by
  rw [List.getElem?_map, h]
  rfl
/-- over range(n) -/
theorem for_range (n : Nat) (P : Nat → List T → Prop) (step : ∀ (i : Nat) ρ, i < n → P i ρ → Wn (P (i + 1)) (fun _ => False) (kTurn fb (fg (.f (.int (i : Int))) ρ))) {ρ : List T} (h : P 0 ρ) :
    ∃ ρ', forF fg fb (rangeD 0 n) ρ = some (.nx ρ') ∧ P n ρ' := by
  obtain ⟨ρ', e, q⟩ := for_idxN (fg := fg) (fb := fb) (rangeD 0 n) P (fun i d ρ hd hp => by
    obtain ⟨hi, rfl⟩ := rangeD_at hd
    rw [Int.zero_add]
    exact step i ρ hi hp) h
  rw [rangeD_len] at q
  exact ⟨ρ', e, q⟩
/-- over a list's items -/
theorem for_map {α : Type} {φ : α → D} (xs : List α) (P : Nat → List T → Prop) (step : ∀ (i : Nat) a ρ, xs[i]? = some a → P i ρ → Wn (P (i + 1)) (fun _ => False) (kTurn fb (fg (.f (φ a)) ρ))) {ρ : List T} (h : P 0 ρ) :
    ∃ ρ', forF fg fb (xs.map φ) ρ = some (.nx ρ') ∧ P xs.length ρ' := by
  obtain ⟨ρ', e, q⟩ := for_idxN (fg := fg) (fb := fb) (xs.map φ) P (fun i d ρ hd hp => by
    obtain ⟨a, ha, rfl⟩ := map_at hd
    exact step i a ρ ha hp) h
  rw [List.length_map] at q
  exact ⟨ρ', e, q⟩
theorem for_enum {α : Type} {φ : α → D} (xs : List α) (P : Nat → List T → Prop) (step : ∀ (i : Nat) a ρ, xs[i]? = some a → P i ρ → Wn (P (i + 1)) (fun _ => False) (kTurn fb (fg (.f (.tup [.int (i : Int), φ a])) ρ))) {ρ : List T} (h : P 0 ρ) :
    ∃ ρ', forF fg fb (enumD 0 (xs.map φ)) ρ = some (.nx ρ') ∧ P xs.length ρ' := by
  obtain ⟨ρ', e, q⟩ := for_idxN (fg := fg) (fb := fb) (enumD 0 (xs.map φ)) P (fun i d ρ hd hp => by
    obtain ⟨x, hx, rfl⟩ := enumD_at hd
    obtain ⟨a, ha, rfl⟩ := map_at hx
    rw [Nat.zero_add]
    exact step i a ρ ha hp) h
  rw [enumD_len, List.length_map] at q
  exact ⟨ρ', e, q⟩
end
end Z

set_option maxHeartbeats 4000000
set_option exponentiation.threshold 3000
namespace K
open PySem PySem.Spec PyProof.Rows L2 Z
def top (i : Nat) : Stmt := PySem.Challenge.pw_deedloom_k60_wires_told.main.body.getD i (.Pass ⟨0, 0, 0, 0⟩)
structure Bi (mg : Str → Option Value) : Prop where
  range_ : mg "range" = none
  isinstance_ : mg "isinstance" = none
  int_ : mg "int" = none
  bool_ : mg "bool" = none
  len_ : mg "len" = none
  list_ : mg "list" = none
  min_ : mg "min" = none
  dict_ : mg "dict" = none
abbrev s_gate_bit : Stmt := top 1
theorem sc_gate_bit : FnScope ["row", "bits", "words"] ["row", "bits", "words"] (defScope s_gate_bit) := ⟨rfl, rfl, rfl, by decide +kernel, rfl, by decide +kernel, by decide +kernel⟩
def b_gate_bit : FS := sSeq (sIf (liftB (fT (f2 gEq (f2 gIx (fVar 0) (fC (.int 0))) (fC (.str "fix"))))) (sRet (lift (f2 gIx (fVar 0) (fC (.int 1))))) (sNil)) (sSeq (sIf (liftB (fT (f2 gEq (f2 gIx (fVar 0) (fC (.int 0))) (fC (.str "in"))))) (sRet (lift (f2 gBAnd (f2 gShr (f2 gIx (fVar 2) (f2 gIx (fVar 0) (fC (.int 1)))) (f2 gIx (fVar 0) (fC (.int 2)))) (fC (.int 1))))) (sNil)) (sSeq (sIf (liftB (fT (f2 gEq (f2 gIx (fVar 0) (fC (.int 0))) (fC (.str "not"))))) (sRet (lift (f2 gSub (fC (.int 1)) (f2 gIx (fVar 1) (f2 gIx (fVar 0) (fC (.int 1))))))) (sNil)) (sSeq (sIf (liftB (fT (f2 gEq (f2 gIx (fVar 0) (fC (.int 0))) (fC (.str "and"))))) (sRet (lift (f2 gBAnd (f2 gIx (fVar 1) (f2 gIx (fVar 0) (fC (.int 1)))) (f2 gIx (fVar 1) (f2 gIx (fVar 0) (fC (.int 2))))))) (sNil)) (sSeq (sIf (liftB (fT (f2 gEq (f2 gIx (fVar 0) (fC (.int 0))) (fC (.str "or"))))) (sRet (lift (f2 gBOr (f2 gIx (fVar 1) (f2 gIx (fVar 0) (fC (.int 1)))) (f2 gIx (fVar 1) (f2 gIx (fVar 0) (fC (.int 2))))))) (sNil)) (sRet (lift (f2 gBXor (f2 gIx (fVar 1) (f2 gIx (fVar 0) (fC (.int 1)))) (f2 gIx (fVar 1) (f2 gIx (fVar 0) (fC (.int 2)))))))))))
def g_gate_bit : List T → Option Re := runF 3 3 [] b_gate_bit
theorem ok_gate_bit {P : Program} {w : World} {W : Wd} {mg : Str → Option Value} {base : Heap} {f : Addr} {fd : FuncData} (ew : w = W.w) (F : Fun W.K "gate_bit" "gate_bit" s_gate_bit f fd) (B : Bi mg) : FnOk P w W.K mg base CX0 1 f fd ["row", "bits", "words"] (spF W [] g_gate_bit) :=
  fnZ ew F sc_gate_bit (by decide) (by decide) fun _ _ _ _ _ _ hr =>
  sms_cons (sm_if (tvo (tv_c c_eq (ev_ix (ev_v 0) (ev_int)) (ev_str))) (sms_one (sm_ret (evo (ev_ix (ev_v 0) (ev_int))))) (sms_nil)) (sms_cons (sm_if (tvo (tv_c c_eq (ev_ix (ev_v 0) (ev_int)) (ev_str))) (sms_one (sm_ret (evo (ev_band (ev_shr (ev_ix (ev_v 2) (ev_ix (ev_v 0) (ev_int))) (ev_ix (ev_v 0) (ev_int))) (ev_int))))) (sms_nil)) (sms_cons (sm_if (tvo (tv_c c_eq (ev_ix (ev_v 0) (ev_int)) (ev_str))) (sms_one (sm_ret (evo (ev_sub (ev_int) (ev_ix (ev_v 1) (ev_ix (ev_v 0) (ev_int))))))) (sms_nil)) (sms_cons (sm_if (tvo (tv_c c_eq (ev_ix (ev_v 0) (ev_int)) (ev_str))) (sms_one (sm_ret (evo (ev_band (ev_ix (ev_v 1) (ev_ix (ev_v 0) (ev_int))) (ev_ix (ev_v 1) (ev_ix (ev_v 0) (ev_int))))))) (sms_nil)) (sms_cons (sm_if (tvo (tv_c c_eq (ev_ix (ev_v 0) (ev_int)) (ev_str))) (sms_one (sm_ret (evo (ev_bor (ev_ix (ev_v 1) (ev_ix (ev_v 0) (ev_int))) (ev_ix (ev_v 1) (ev_ix (ev_v 0) (ev_int))))))) (sms_nil)) (sms_one (sm_ret (evo (ev_bxor (ev_ix (ev_v 1) (ev_ix (ev_v 0) (ev_int))) (ev_ix (ev_v 1) (ev_ix (ev_v 0) (ev_int)))))))))))
abbrev s_beat_told : Stmt := top 2
theorem sc_beat_told : FnScope ["rows", "words", "before", "bits", "row"] ["rows", "words", "before"] (defScope s_beat_told) := ⟨rfl, rfl, rfl, by decide +kernel, rfl, by decide +kernel, by decide +kernel⟩
def l_beat_told_1 : FS := sIf (liftB (fT (f2 gNe (f2 gIx (fVar 4) (fC (.int 0))) (fC (.str "latch"))))) (sApp 3 (pHere) (fCallV g_gate_bit (aCons (fVar 4) (aCons (fVar 3) (aCons (fVar 1) (aNil)))))) (sIf (liftB (fT (fIsN false (fVar 2)))) (sApp 3 (pHere) (fC (.int 0))) (sApp 3 (pHere) (f2 gIx (fVar 2) (f2 gIx (fVar 4) (fC (.int 1))))))
def b_beat_told : FS := sSeq (sSet 3 (mE (mNew (aNil)))) (sSeq (sFor (iVal (lift (fVar 0))) (gSet 4) (l_beat_told_1)) (sRet (fFzN (fMv 3))))
def g_beat_told : List T → Option Re := runF 3 5 [] b_beat_told
theorem ok_beat_told {P : Program} {w : World} {W : Wd} {mg : Str → Option Value} {base : Heap} {f : Addr} {fd : FuncData} (ew : w = W.w) (F : Fun W.K "beat_told" "beat_told" s_beat_told f fd) (B : Bi mg) (C_gate_bit : Cl P w W mg base CX0 1 "gate_bit" [] g_gate_bit) : FnOk P w W.K mg base CX0 2 f fd ["rows", "words", "before"] (spF W [] g_beat_told) :=
  fnZ ew F sc_beat_told (by decide) (by decide) fun _ _ _ _ _ _ hr =>
  sms_cons (sm_s 3 (emo (em_new (av_nil)))) (sms_cons (sm_for (fun _ => PassesOwn.never) (iw_val (evo (ev_v 0))) (gt_n 4) (sms_one (sm_if (tvo (tv_c c_ne (ev_ix (ev_v 4) (ev_int)) (ev_str))) (sms_one (sm_app (lo_v 3) (ev_call (fun _ => C_gate_bit) (Nat.le_of_ble_eq_true rfl) (by intro _; rfl) (E := E0) (fun _ => pass0') (av_cons (ev_v 4) (av_cons (ev_v 3) (av_cons (ev_v 1) (av_nil))))))) (sms_one (sm_if (tvo (tv_isN (ev_v 2))) (sms_one (sm_app (lo_v 3) (ev_int))) (sms_one (sm_app (lo_v 3) (ev_ix (ev_v 2) (ev_ix (ev_v 4) (ev_int)))))))))) (sms_one (sm_ret (eo_fzN (eo_m 3)))))
abbrev s_wires_told : Stmt := top 3
theorem sc_wires_told : FnScope ["rows", "words", "beats", "found", "before", "beat"] ["rows", "words", "beats"] (defScope s_wires_told) := ⟨rfl, rfl, rfl, by decide +kernel, rfl, by decide +kernel, by decide +kernel⟩
def l_wires_told_1 : FS := sSeq (sSet 4 (lift (fCallV g_beat_told (aCons (fVar 0) (aCons (fVar 1) (aCons (fVar 4) (aNil))))))) (sApp 3 (pHere) (fVar 4))
def b_wires_told : FS := sSeq (sSet 3 (mE (mNew (aNil)))) (sSeq (sSet 4 (lift (fC .non))) (sSeq (sFor (iR1 (aCons (fVar 2) (aNil))) (gSet 5) (l_wires_told_1)) (sRet (fMv 3))))
def g_wires_told : List T → Option Re := runF 3 6 [] b_wires_told
theorem ok_wires_told {P : Program} {w : World} {W : Wd} {mg : Str → Option Value} {base : Heap} {f : Addr} {fd : FuncData} (ew : w = W.w) (F : Fun W.K "wires_told" "wires_told" s_wires_told f fd) (B : Bi mg) (C_beat_told : Cl P w W mg base CX0 2 "beat_told" [] g_beat_told) : FnOk P w W.K mg base CX0 3 f fd ["rows", "words", "beats"] (spF W [] g_wires_told) :=
  fnZ ew F sc_wires_told (by decide) (by decide) fun _ _ _ _ _ _ hr =>
  sms_cons (sm_s 3 (emo (em_new (av_nil)))) (sms_cons (sm_s 4 (evo (ev_non))) (sms_cons (sm_for (fun _ => PassesOwn.never) (iw_range1 (by intro _; rfl) (fun _ => B.range_) (av_cons (ev_v 2) (av_nil))) (gt_n 5) (sms_cons (sm_s 4 (evo (ev_call (fun _ => C_beat_told) (Nat.le_of_ble_eq_true rfl) (by intro _; rfl) (E := E0) (fun _ => pass0') (av_cons (ev_v 0) (av_cons (ev_v 1) (av_cons (ev_v 4) (av_nil))))))) (sms_one (sm_app (lo_v 3) (ev_v 4))))) (sms_one (sm_ret (eo_m 3)))))
abbrev s_law_whole : Stmt := top 5
theorem sc_law_whole : FnScope ["_law_found"] ["_law_found"] (defScope s_law_whole) := ⟨rfl, rfl, rfl, by decide +kernel, rfl, by decide +kernel, by decide +kernel⟩
def b_law_whole : FS := sRet (lift (fAnd (fIsi "int" (fVar 0)) (fNot (fIsi "bool" (fVar 0)))))
def g_law_whole : List T → Option Re := runF 1 1 [] b_law_whole
theorem ok_law_whole {P : Program} {w : World} {W : Wd} {mg : Str → Option Value} {base : Heap} {f : Addr} {fd : FuncData} (ew : w = W.w) (F : Fun W.K "_law_whole" "_law_whole" s_law_whole f fd) (B : Bi mg) : FnOk P w W.K mg base CX0 1 f fd ["_law_found"] (spF W [] g_law_whole) :=
  fnZ ew F sc_law_whole (by decide) (by decide) fun _ _ _ _ _ _ hr =>
  sms_one (sm_ret (evo (ev_and (ev_isi (by intro _; rfl) (fun _ => B.isinstance_) (ev_v 0) (by intro _; rfl) (fun _ => B.int_) (by decide +kernel)) (ev_one (ev_not (ev_isi (by intro _; rfl) (fun _ => B.isinstance_) (ev_v 0) (by intro _; rfl) (fun _ => B.bool_) (by decide +kernel)))))))
abbrev s_law_at : Stmt := top 6
theorem sc_law_at : FnScope ["_law_script", "_law_k"] ["_law_script", "_law_k"] (defScope s_law_at) := ⟨rfl, rfl, rfl, by decide +kernel, rfl, by decide +kernel, by decide +kernel⟩
def b_law_at : FS := sSeq (sIf (liftB (fT (f2 gLt (fVar 1) (fN gLen (aCons (fVar 0) (aNil)))))) (sRet (lift (f2 gIx (fVar 0) (fVar 1)))) (sNil)) (sRet (lift (fC (.int 0))))
def g_law_at : List T → Option Re := runF 2 2 [] b_law_at
theorem ok_law_at {P : Program} {w : World} {W : Wd} {mg : Str → Option Value} {base : Heap} {f : Addr} {fd : FuncData} (ew : w = W.w) (F : Fun W.K "_law_at" "_law_at" s_law_at f fd) (B : Bi mg) : FnOk P w W.K mg base CX0 1 f fd ["_law_script", "_law_k"] (spF W [] g_law_at) :=
  fnZ ew F sc_law_at (by decide) (by decide) fun _ _ _ _ _ _ hr =>
  sms_cons (sm_if (tvo (tv_c c_lt (ev_v 1) (ev_callB (fun j => callLen j) sn_len (by intro _; rfl) (fun _ => B.len_) (by decide +kernel) (av_cons (ev_v 0) (av_nil))))) (sms_one (sm_ret (evo (ev_ix (ev_v 0) (ev_v 1))))) (sms_nil)) (sms_one (sm_ret (evo (ev_int))))
abbrev s_law_mixed : Stmt := top 7
theorem sc_law_mixed : FnScope ["_law_cell", "_law_k", "_law_number"] ["_law_cell", "_law_k"] (defScope s_law_mixed) := ⟨rfl, rfl, rfl, by decide +kernel, rfl, by decide +kernel, by decide +kernel⟩
def b_law_mixed : FS := sSeq (sIf (liftB (fT (f2 gGe (fVar 0) (f2 gPow (fC (.int 10)) (fC (.int 40)))))) (sRet (lift (f2 gMod (f2 gDiv (f2 gSub (fVar 0) (f2 gPow (fC (.int 10)) (fC (.int 40)))) (f2 gShl (fC (.int 1)) (f2 gMul (fC (.int 31)) (f2 gMod (fVar 1) (fC (.int 60)))))) (f2 gShl (fC (.int 1)) (fC (.int 31)))))) (sNil)) (sSeq (sSet 2 (lift (f2 gMod (f2 gAdd (f2 gAdd (f2 gMul (fVar 0) (fC (.int 1103515245))) (f2 gMul (f2 gMul (fC (.int 7919)) (fVar 1)) (fVar 1))) (fVar 1)) (fC (.int 2147483647))))) (sSeq (sSet 2 (lift (f2 gMod (f2 gMul (fVar 2) (fVar 2)) (fC (.int 2147483629))))) (sRet (lift (f2 gMod (f2 gMul (fVar 2) (fC (.int 69621))) (fC (.int 2147483587)))))))
def g_law_mixed : List T → Option Re := runF 2 3 [] b_law_mixed
theorem ok_law_mixed {P : Program} {w : World} {W : Wd} {mg : Str → Option Value} {base : Heap} {f : Addr} {fd : FuncData} (ew : w = W.w) (F : Fun W.K "_law_mixed" "_law_mixed" s_law_mixed f fd) (B : Bi mg) : FnOk P w W.K mg base CX0 1 f fd ["_law_cell", "_law_k"] (spF W [] g_law_mixed) :=
  fnZ ew F sc_law_mixed (by decide) (by decide) fun _ _ _ _ _ _ hr =>
  sms_cons (sm_if (tvo (tv_c c_ge (ev_v 0) (ev_pow (ev_int) (ev_int)))) (sms_one (sm_ret (evo (ev_mod (ev_div (ev_sub (ev_v 0) (ev_pow (ev_int) (ev_int))) (ev_shl (ev_int) (ev_mul (ev_int) (ev_mod (ev_v 1) (ev_int))))) (ev_shl (ev_int) (ev_int)))))) (sms_nil)) (sms_cons (sm_s 2 (evo (ev_mod (ev_add (ev_add (ev_mul (ev_v 0) (ev_int)) (ev_mul (ev_mul (ev_int) (ev_v 1)) (ev_v 1))) (ev_v 1)) (ev_int)))) (sms_cons (sm_s 2 (evo (ev_mod (ev_mul (ev_v 2) (ev_v 2)) (ev_int)))) (sms_one (sm_ret (evo (ev_mod (ev_mul (ev_v 2) (ev_int)) (ev_int)))))))
abbrev s_law_list : Stmt := top 8
theorem sc_law_list : FnScope ["_law_found", "_law_due", "_law_k"] ["_law_found", "_law_due"] (defScope s_law_list) := ⟨rfl, rfl, rfl, by decide +kernel, rfl, by decide +kernel, by decide +kernel⟩
def l_law_list_1 : FS := sIf (liftB (tOrF (tNotF (fT (fCallV g_law_whole (aCons (f2 gIx (fVar 0) (fVar 2)) (aNil))))) (fT (f2 gNe (f2 gIx (fVar 0) (fVar 2)) (f2 gIx (fVar 1) (fVar 2)))))) (sRet (lift (fC (.bl false)))) (sNil)
def b_law_list : FS := sSeq (sIf (liftB (tOrF (tNotF (fT (fIsi "list" (fVar 0)))) (fT (f2 gNe (fN gLen (aCons (fVar 0) (aNil))) (fN gLen (aCons (fVar 1) (aNil))))))) (sRet (lift (fC (.bl false)))) (sNil)) (sSeq (sFor (iR1 (aCons (fN gLen (aCons (fVar 1) (aNil))) (aNil))) (gSet 2) (l_law_list_1)) (sRet (lift (fC (.bl true)))))
def g_law_list : List T → Option Re := runF 2 3 [] b_law_list
theorem ok_law_list {P : Program} {w : World} {W : Wd} {mg : Str → Option Value} {base : Heap} {f : Addr} {fd : FuncData} (ew : w = W.w) (F : Fun W.K "_law_list" "_law_list" s_law_list f fd) (B : Bi mg) (C_law_whole : Cl P w W mg base CX0 1 "_law_whole" [] g_law_whole) : FnOk P w W.K mg base CX0 2 f fd ["_law_found", "_law_due"] (spF W [] g_law_list) :=
  fnZ ew F sc_law_list (by decide) (by decide) fun _ _ _ _ _ _ hr =>
  sms_cons (sm_if (tvo (wvt (wv_or (tv_not (tv_val (ev_isi (by intro _; rfl) (fun _ => B.isinstance_) (ev_v 0) (by intro _; rfl) (fun _ => B.list_) (by decide +kernel)) (by intro _ _; rfl))) (wv_or1 (tv_c c_ne (ev_callB (fun j => callLen j) sn_len (by intro _; rfl) (fun _ => B.len_) (by decide +kernel) (av_cons (ev_v 0) (av_nil))) (ev_callB (fun j => callLen j) sn_len (by intro _; rfl) (fun _ => B.len_) (by decide +kernel) (av_cons (ev_v 1) (av_nil)))))))) (sms_one (sm_ret (evo (ev_bl)))) (sms_nil)) (sms_cons (sm_for (fun _ => PassesOwn.never) (iw_range1 (by intro _; rfl) (fun _ => B.range_) (av_cons (ev_callB (fun j => callLen j) sn_len (by intro _; rfl) (fun _ => B.len_) (by decide +kernel) (av_cons (ev_v 1) (av_nil))) (av_nil))) (gt_n 2) (sms_one (sm_if (tvo (wvt (wv_or (tv_not (tv_val (ev_call (fun _ => C_law_whole) (Nat.le_of_ble_eq_true rfl) (by intro _; rfl) (E := E0) (fun _ => pass0') (av_cons (ev_ix (ev_v 0) (ev_v 2)) (av_nil))) (by intro _ _; rfl))) (wv_or1 (tv_c c_ne (ev_ix (ev_v 0) (ev_v 2)) (ev_ix (ev_v 1) (ev_v 2))))))) (sms_one (sm_ret (evo (ev_bl)))) (sms_nil)))) (sms_one (sm_ret (evo (ev_bl)))))
abbrev s_law_names : Stmt := top 9
theorem sc_law_names : FnScope ["_law_number", "_law_many", "_law_letters", "_law_some", "_law_at_here", "_law_names_here", "_law_j", "_law_spots", "_law_k", "_law_spot"] ["_law_number", "_law_many"] (defScope s_law_names) := ⟨rfl, rfl, rfl, by decide +kernel, rfl, by decide +kernel, by decide +kernel⟩
def m_law_names_1 : List T → Option T := f2 gIx (fVar 2) (f2 gMod (fVar 9) (fC (.int 26)))
def m_law_names_2 : List T → Option T := f2 gAdd (f2 gIx (fVar 3) (fVar 8)) (f2 gMul (f2 gMul (fC (.int 3)) (fVar 6)) (fN gInt1 (aCons (f2 gEq (fVar 8) (fVar 4)) (aNil))))
def l_law_names_1 : FS := sSeq (sSet 7 (lift (fLc [8] (jR1 (aCons (fN gLen (aCons (fVar 3) (aNil))) (aNil))) (gSet 8) (tYesF) (m_law_names_2)))) (sApp 5 (pHere) (f2 gJoin (fC (.str "")) (fLc [9] (jVal (fVar 7)) (gSet 9) (tYesF) (m_law_names_1))))
def m_law_names_3 : List T → Option T := f2 gMod (f2 gDiv (fVar 0) (f2 gAdd (fVar 8) (fC (.int 1)))) (fC (.int 26))
def b_law_names : FS := sSeq (sSet 2 (lift (fC (.str "abcdefghijklmnopqrstuvwxyz")))) (sSeq (sSet 3 (lift (fLc [8] (jR1 (aCons (f2 gAdd (fC (.int 1)) (f2 gMod (fVar 0) (fC (.int 6)))) (aNil))) (gSet 8) (tYesF) (m_law_names_3)))) (sSeq (sSet 4 (lift (f2 gMod (f2 gDiv (fVar 0) (fC (.int 64))) (fN gLen (aCons (fVar 3) (aNil)))))) (sSeq (sSet 5 (mE (mNew (aNil)))) (sSeq (sFor (iR1 (aCons (fVar 1) (aNil))) (gSet 6) (l_law_names_1)) (sSeq (sIf (liftB (fT (f2 gEq (f2 gMod (f2 gDiv (fVar 0) (fC (.int 512))) (fC (.int 4))) (fC (.int 0))))) (sSet 5 (lift (fSl (fN gLst (aCons (fC (.str "tell")) (aCons (fC (.str "if")) (aCons (fC (.str "end")) (aCons (fC (.str "plus")) (aCons (fC (.str "in")) (aCons (fC (.str "box")) (aCons (fC (.str "while")) (aCons (fC (.str "else")) (aNil)))))))))) none (some (fVar 1))))) (sNil)) (sRet (fFz (fMv 5))))))))
def g_law_names : List T → Option Re := runF 2 10 [] b_law_names
theorem ok_law_names {P : Program} {w : World} {W : Wd} {mg : Str → Option Value} {base : Heap} {f : Addr} {fd : FuncData} (ew : w = W.w) (F : Fun W.K "_law_names" "_law_names" s_law_names f fd) (B : Bi mg) : FnOk P w W.K mg base CX0 1 f fd ["_law_number", "_law_many"] (spF W [] g_law_names) :=
  fnZ ew F sc_law_names (by decide) (by decide) fun _ _ _ _ _ _ hr =>
  sms_cons (sm_s 2 (evo (ev_str))) (sms_cons ((by first | exact sm_setLc 3 [("_law_k", 8)] (ip_range1 (by intro _; rfl) (fun _ => B.range_) (av_cons (ev_add (ev_int) (ev_mod (ev_v 0) (ev_int))) (av_nil))) (gc_n 8) (tvs_nil) (ev_mod (ev_div (ev_v 0) (ev_add (ev_v 8) (ev_int))) (ev_int)) | exact sm_s 3 (evo (ev_lc [("_law_k", 8)] (ip_range1 (by intro _; rfl) (fun _ => B.range_) (av_cons (ev_add (ev_int) (ev_mod (ev_v 0) (ev_int))) (av_nil))) (gc_n 8) (tvs_nil) (ev_mod (ev_div (ev_v 0) (ev_add (ev_v 8) (ev_int))) (ev_int)))))) (sms_cons (sm_s 4 (evo (ev_mod (ev_div (ev_v 0) (ev_int)) (ev_callB (fun j => callLen j) sn_len (by intro _; rfl) (fun _ => B.len_) (by decide +kernel) (av_cons (ev_v 3) (av_nil)))))) (sms_cons (sm_s 5 (emo (em_new (av_nil)))) (sms_cons (sm_for (fun _ => PassesOwn.never) (iw_range1 (by intro _; rfl) (fun _ => B.range_) (av_cons (ev_v 1) (av_nil))) (gt_n 6) (sms_cons ((by first | exact sm_setLc 7 [("_law_k", 8)] (ip_range1 (by intro _; rfl) (fun _ => B.range_) (av_cons (ev_callB (fun j => callLen j) sn_len (by intro _; rfl) (fun _ => B.len_) (by decide +kernel) (av_cons (ev_v 3) (av_nil))) (av_nil))) (gc_n 8) (tvs_nil) (ev_add (ev_ix (ev_v 3) (ev_v 8)) (ev_mul (ev_mul (ev_int) (ev_v 6)) (ev_callTy (fun _ => call_int1) sn_int1 (by intro _; rfl) (fun _ => B.int_) (by decide +kernel) (av_cons (ev_c c_eq (ev_v 8) (ev_v 4)) (av_nil))))) | exact sm_s 7 (evo (ev_lc [("_law_k", 8)] (ip_range1 (by intro _; rfl) (fun _ => B.range_) (av_cons (ev_callB (fun j => callLen j) sn_len (by intro _; rfl) (fun _ => B.len_) (by decide +kernel) (av_cons (ev_v 3) (av_nil))) (av_nil))) (gc_n 8) (tvs_nil) (ev_add (ev_ix (ev_v 3) (ev_v 8)) (ev_mul (ev_mul (ev_int) (ev_v 6)) (ev_callTy (fun _ => call_int1) sn_int1 (by intro _; rfl) (fun _ => B.int_) (by decide +kernel) (av_cons (ev_c c_eq (ev_v 8) (ev_v 4)) (av_nil))))))))) (sms_one (sm_app (lo_v 5) (ev_join (ev_str) (ev_lc [("_law_spot", 9)] (ip_val (ev_v 7)) (gc_n 9) (tvs_nil) (ev_ix (ev_v 2) (ev_mod (ev_v 9) (ev_int))))))))) (sms_cons (sm_if (tvo (tv_c c_eq (ev_mod (ev_div (ev_v 0) (ev_int)) (ev_int)) (ev_int))) (sms_one (sm_s 5 (evo (ev_sl01 (ev_lst (av_cons (ev_str) (av_cons (ev_str) (av_cons (ev_str) (av_cons (ev_str) (av_cons (ev_str) (av_cons (ev_str) (av_cons (ev_str) (av_cons (ev_str) (av_nil)))))))))) (ev_v 1))))) (sms_nil)) (sms_one (sm_ret (eo_fz (eo_m 5)))))))))
abbrev s_law_bit : Stmt := top 10
theorem sc_law_bit : FnScope ["_law_row_here", "_law_bits", "_law_words", "_law_total"] ["_law_row_here", "_law_bits", "_law_words"] (defScope s_law_bit) := ⟨rfl, rfl, rfl, by decide +kernel, rfl, by decide +kernel, by decide +kernel⟩
def b_law_bit : FS := sSeq (sIf (liftB (fT (f2 gEq (f2 gIx (fVar 0) (fC (.int 0))) (fC (.str "fix"))))) (sRet (lift (f2 gIx (fVar 0) (fC (.int 1))))) (sNil)) (sSeq (sIf (liftB (fT (f2 gEq (f2 gIx (fVar 0) (fC (.int 0))) (fC (.str "in"))))) (sRet (lift (f2 gMod (f2 gDiv (f2 gIx (fVar 2) (f2 gIx (fVar 0) (fC (.int 1)))) (f2 gShl (fC (.int 1)) (f2 gIx (fVar 0) (fC (.int 2))))) (fC (.int 2))))) (sNil)) (sSeq (sIf (liftB (fT (f2 gEq (f2 gIx (fVar 0) (fC (.int 0))) (fC (.str "not"))))) (sRet (lift (f2 gSub (fC (.int 1)) (f2 gIx (fVar 1) (f2 gIx (fVar 0) (fC (.int 1))))))) (sNil)) (sSeq (sSet 3 (lift (f2 gAdd (f2 gIx (fVar 1) (f2 gIx (fVar 0) (fC (.int 1)))) (f2 gIx (fVar 1) (f2 gIx (fVar 0) (fC (.int 2))))))) (sSeq (sIf (liftB (fT (f2 gEq (f2 gIx (fVar 0) (fC (.int 0))) (fC (.str "and"))))) (sRet (lift (f2 gDiv (fVar 3) (fC (.int 2))))) (sNil)) (sSeq (sIf (liftB (fT (f2 gEq (f2 gIx (fVar 0) (fC (.int 0))) (fC (.str "or"))))) (sRet (lift (fN gMin2 (aCons (fVar 3) (aCons (fC (.int 1)) (aNil)))))) (sNil)) (sRet (lift (f2 gMod (fVar 3) (fC (.int 2))))))))))
def g_law_bit : List T → Option Re := runF 3 4 [] b_law_bit
theorem ok_law_bit {P : Program} {w : World} {W : Wd} {mg : Str → Option Value} {base : Heap} {f : Addr} {fd : FuncData} (ew : w = W.w) (F : Fun W.K "_law_bit" "_law_bit" s_law_bit f fd) (B : Bi mg) : FnOk P w W.K mg base CX0 1 f fd ["_law_row_here", "_law_bits", "_law_words"] (spF W [] g_law_bit) :=
  fnZ ew F sc_law_bit (by decide) (by decide) fun _ _ _ _ _ _ hr =>
  sms_cons (sm_if (tvo (tv_c c_eq (ev_ix (ev_v 0) (ev_int)) (ev_str))) (sms_one (sm_ret (evo (ev_ix (ev_v 0) (ev_int))))) (sms_nil)) (sms_cons (sm_if (tvo (tv_c c_eq (ev_ix (ev_v 0) (ev_int)) (ev_str))) (sms_one (sm_ret (evo (ev_mod (ev_div (ev_ix (ev_v 2) (ev_ix (ev_v 0) (ev_int))) (ev_shl (ev_int) (ev_ix (ev_v 0) (ev_int)))) (ev_int))))) (sms_nil)) (sms_cons (sm_if (tvo (tv_c c_eq (ev_ix (ev_v 0) (ev_int)) (ev_str))) (sms_one (sm_ret (evo (ev_sub (ev_int) (ev_ix (ev_v 1) (ev_ix (ev_v 0) (ev_int))))))) (sms_nil)) (sms_cons (sm_s 3 (evo (ev_add (ev_ix (ev_v 1) (ev_ix (ev_v 0) (ev_int))) (ev_ix (ev_v 1) (ev_ix (ev_v 0) (ev_int)))))) (sms_cons (sm_if (tvo (tv_c c_eq (ev_ix (ev_v 0) (ev_int)) (ev_str))) (sms_one (sm_ret (evo (ev_div (ev_v 3) (ev_int))))) (sms_nil)) (sms_cons (sm_if (tvo (tv_c c_eq (ev_ix (ev_v 0) (ev_int)) (ev_str))) (sms_one (sm_ret (evo (ev_callB (fun j => callMin2 j) sn_min2 (by intro _; rfl) (fun _ => B.min_) (by decide +kernel) (av_cons (ev_v 3) (av_cons (ev_int) (av_nil))))))) (sms_nil)) (sms_one (sm_ret (evo (ev_mod (ev_v 3) (ev_int))))))))))
abbrev s_law_beats : Stmt := top 11
theorem sc_law_beats : FnScope ["_law_rows", "_law_words", "_law_many", "_law_found", "_law_t", "_law_bits", "_law_row_here"] ["_law_rows", "_law_words", "_law_many"] (defScope s_law_beats) := ⟨rfl, rfl, rfl, by decide +kernel, rfl, by decide +kernel, by decide +kernel⟩
def l_law_beats_2 : FS := sIf (liftB (fT (f2 gNe (f2 gIx (fVar 6) (fC (.int 0))) (fC (.str "latch"))))) (sApp 5 (pHere) (fCallV g_law_bit (aCons (fVar 6) (aCons (fVar 5) (aCons (fVar 1) (aNil)))))) (sIf (liftB (fT (f2 gEq (fVar 4) (fC (.int 0))))) (sApp 5 (pHere) (fC (.int 0))) (sApp 5 (pHere) (f2 gIx (f2 gIx (fVar 3) (f2 gSub (fVar 4) (fC (.int 1)))) (f2 gIx (fVar 6) (fC (.int 1))))))
def l_law_beats_1 : FS := sSeq (sSet 5 (mE (mNew (aNil)))) (sSeq (sFor (iVal (lift (fVar 0))) (gSet 6) (l_law_beats_2)) (sFz 5 (sApp 3 (pHere) (fVar 5))))
def b_law_beats : FS := sSeq (sSet 3 (mE (mNew (aNil)))) (sSeq (sFor (iR1 (aCons (fVar 2) (aNil))) (gSet 4) (l_law_beats_1)) (sRet (fFz (fMv 3))))
def g_law_beats : List T → Option Re := runF 3 7 [] b_law_beats
theorem ok_law_beats {P : Program} {w : World} {W : Wd} {mg : Str → Option Value} {base : Heap} {f : Addr} {fd : FuncData} (ew : w = W.w) (F : Fun W.K "_law_beats" "_law_beats" s_law_beats f fd) (B : Bi mg) (C_law_bit : Cl P w W mg base CX0 1 "_law_bit" [] g_law_bit) : FnOk P w W.K mg base CX0 2 f fd ["_law_rows", "_law_words", "_law_many"] (spF W [] g_law_beats) :=
  fnZ ew F sc_law_beats (by decide) (by decide) fun _ _ _ _ _ _ hr =>
  sms_cons (sm_s 3 (emo (em_new (av_nil)))) (sms_cons (sm_for (fun _ => PassesOwn.never) (iw_range1 (by intro _; rfl) (fun _ => B.range_) (av_cons (ev_v 2) (av_nil))) (gt_n 4) (sms_cons (sm_s 5 (emo (em_new (av_nil)))) (sms_cons (sm_for (fun _ => PassesOwn.never) (iw_val (evo (ev_v 0))) (gt_n 6) (sms_one (sm_if (tvo (tv_c c_ne (ev_ix (ev_v 6) (ev_int)) (ev_str))) (sms_one (sm_app (lo_v 5) (ev_call (fun _ => C_law_bit) (Nat.le_of_ble_eq_true rfl) (by intro _; rfl) (E := E0) (fun _ => pass0') (av_cons (ev_v 6) (av_cons (ev_v 5) (av_cons (ev_v 1) (av_nil))))))) (sms_one (sm_if (tvo (tv_c c_eq (ev_v 4) (ev_int))) (sms_one (sm_app (lo_v 5) (ev_int))) (sms_one (sm_app (lo_v 5) (ev_ix (ev_ix (ev_v 3) (ev_sub (ev_v 4) (ev_int))) (ev_ix (ev_v 6) (ev_int)))))))))) (sms_fz 5 (sms_one (sm_app (lo_v 3) (ev_v 5))))))) (sms_one (sm_ret (eo_fz (eo_m 3)))))
abbrev s_law_row : Stmt := top 12
theorem sc_law_row : FnScope ["_law_number", "_law_at_here", "_law_many", "_law_names_here", "_law_mixed_here", "_law_one"] ["_law_number", "_law_at_here", "_law_many", "_law_names_here"] (defScope s_law_row) := ⟨rfl, rfl, rfl, by decide +kernel, rfl, by decide +kernel, by decide +kernel⟩
def b_law_row : FS := sSeq (sSet 4 (lift (fCallV g_law_mixed (aCons (fVar 0) (aCons (fC (.int 2)) (aNil)))))) (sSeq (sIf (liftB (tOrF (fT (f2 gEq (f2 gMod (fVar 0) (fC (.int 9))) (fC (.int 0)))) (fT (f2 gEq (fVar 1) (fC (.int 0)))))) (sRet (lift (fN gTup (aCons (fC (.str "in")) (aCons (f2 gIx (fVar 3) (f2 gMod (fVar 4) (fN gLen (aCons (fVar 3) (aNil))))) (aCons (f2 gMod (f2 gDiv (fVar 4) (fC (.int 8))) (fC (.int 8))) (aNil))))))) (sNil)) (sSeq (sIf (liftB (fT (f2 gEq (f2 gMod (fVar 0) (fC (.int 9))) (fC (.int 1))))) (sRet (lift (fN gTup (aCons (fC (.str "fix")) (aCons (f2 gMod (fVar 4) (fC (.int 2))) (aNil)))))) (sNil)) (sSeq (sIf (liftB (fT (f2 gLt (f2 gMod (fVar 0) (fC (.int 9))) (fC (.int 4))))) (sRet (lift (fN gTup (aCons (fC (.str "latch")) (aCons (f2 gMod (fVar 4) (fVar 2)) (aNil)))))) (sNil)) (sSeq (sIf (liftB (fT (f2 gEq (f2 gMod (fVar 0) (fC (.int 9))) (fC (.int 4))))) (sRet (lift (fN gTup (aCons (fC (.str "not")) (aCons (f2 gMod (fVar 4) (fVar 1)) (aNil)))))) (sNil)) (sSeq (sSet 5 (lift (f2 gSub (f2 gSub (fVar 1) (fC (.int 1))) (f2 gMod (fVar 4) (fN gMin2 (aCons (fVar 1) (aCons (fC (.int 5)) (aNil)))))))) (sRet (lift (fN gTup (aCons (f2 gIx (fN gLst (aCons (fC (.str "and")) (aCons (fC (.str "or")) (aCons (fC (.str "xor")) (aNil))))) (f2 gMod (f2 gDiv (fVar 0) (fC (.int 9))) (fC (.int 3)))) (aCons (fVar 5) (aCons (f2 gMod (f2 gDiv (fVar 4) (fC (.int 8))) (fVar 1)) (aNil))))))))))))
def g_law_row : List T → Option Re := runF 4 6 [] b_law_row
theorem ok_law_row {P : Program} {w : World} {W : Wd} {mg : Str → Option Value} {base : Heap} {f : Addr} {fd : FuncData} (ew : w = W.w) (F : Fun W.K "_law_row" "_law_row" s_law_row f fd) (B : Bi mg) (C_law_mixed : Cl P w W mg base CX0 1 "_law_mixed" [] g_law_mixed) : FnOk P w W.K mg base CX0 2 f fd ["_law_number", "_law_at_here", "_law_many", "_law_names_here"] (spF W [] g_law_row) :=
  fnZ ew F sc_law_row (by decide) (by decide) fun _ _ _ _ _ _ hr =>
  sms_cons (sm_s 4 (evo (ev_call (fun _ => C_law_mixed) (Nat.le_of_ble_eq_true rfl) (by intro _; rfl) (E := E0) (fun _ => pass0') (av_cons (ev_v 0) (av_cons (ev_int) (av_nil)))))) (sms_cons (sm_if (tvo (wvt (wv_or (tv_c c_eq (ev_mod (ev_v 0) (ev_int)) (ev_int)) (wv_or1 (tv_c c_eq (ev_v 1) (ev_int)))))) (sms_one (sm_ret (evo (ev_tup (av_cons (ev_str) (av_cons (ev_ix (ev_v 3) (ev_mod (ev_v 4) (ev_callB (fun j => callLen j) sn_len (by intro _; rfl) (fun _ => B.len_) (by decide +kernel) (av_cons (ev_v 3) (av_nil))))) (av_cons (ev_mod (ev_div (ev_v 4) (ev_int)) (ev_int)) (av_nil)))))))) (sms_nil)) (sms_cons (sm_if (tvo (tv_c c_eq (ev_mod (ev_v 0) (ev_int)) (ev_int))) (sms_one (sm_ret (evo (ev_tup (av_cons (ev_str) (av_cons (ev_mod (ev_v 4) (ev_int)) (av_nil))))))) (sms_nil)) (sms_cons (sm_if (tvo (tv_c c_lt (ev_mod (ev_v 0) (ev_int)) (ev_int))) (sms_one (sm_ret (evo (ev_tup (av_cons (ev_str) (av_cons (ev_mod (ev_v 4) (ev_v 2)) (av_nil))))))) (sms_nil)) (sms_cons (sm_if (tvo (tv_c c_eq (ev_mod (ev_v 0) (ev_int)) (ev_int))) (sms_one (sm_ret (evo (ev_tup (av_cons (ev_str) (av_cons (ev_mod (ev_v 4) (ev_v 1)) (av_nil))))))) (sms_nil)) (sms_cons (sm_s 5 (evo (ev_sub (ev_sub (ev_v 1) (ev_int)) (ev_mod (ev_v 4) (ev_callB (fun j => callMin2 j) sn_min2 (by intro _; rfl) (fun _ => B.min_) (by decide +kernel) (av_cons (ev_v 1) (av_cons (ev_int) (av_nil)))))))) (sms_one (sm_ret (evo (ev_tup (av_cons (ev_ix (ev_lst (av_cons (ev_str) (av_cons (ev_str) (av_cons (ev_str) (av_nil))))) (ev_mod (ev_div (ev_v 0) (ev_int)) (ev_int))) (av_cons (ev_v 5) (av_cons (ev_mod (ev_div (ev_v 4) (ev_int)) (ev_v 1)) (av_nil)))))))))))))
abbrev s_law_same : Stmt := top 13
theorem sc_law_same : FnScope ["_law_found", "_law_due", "_law_t"] ["_law_found", "_law_due"] (defScope s_law_same) := ⟨rfl, rfl, rfl, by decide +kernel, rfl, by decide +kernel, by decide +kernel⟩
def l_law_same_1 : FS := sIf (liftB (tNotF (fT (fCallV g_law_list (aCons (f2 gIx (fVar 0) (fVar 2)) (aCons (f2 gIx (fVar 1) (fVar 2)) (aNil))))))) (sRet (lift (fC (.bl false)))) (sNil)
def b_law_same : FS := sSeq (sIf (liftB (tOrF (tNotF (fT (fIsi "list" (fVar 0)))) (fT (f2 gNe (fN gLen (aCons (fVar 0) (aNil))) (fN gLen (aCons (fVar 1) (aNil))))))) (sRet (lift (fC (.bl false)))) (sNil)) (sSeq (sFor (iR1 (aCons (fN gLen (aCons (fVar 1) (aNil))) (aNil))) (gSet 2) (l_law_same_1)) (sRet (lift (fC (.bl true)))))
def g_law_same : List T → Option Re := runF 2 3 [] b_law_same
theorem ok_law_same {P : Program} {w : World} {W : Wd} {mg : Str → Option Value} {base : Heap} {f : Addr} {fd : FuncData} (ew : w = W.w) (F : Fun W.K "_law_same" "_law_same" s_law_same f fd) (B : Bi mg) (C_law_list : Cl P w W mg base CX0 2 "_law_list" [] g_law_list) : FnOk P w W.K mg base CX0 3 f fd ["_law_found", "_law_due"] (spF W [] g_law_same) :=
  fnZ ew F sc_law_same (by decide) (by decide) fun _ _ _ _ _ _ hr =>
  sms_cons (sm_if (tvo (wvt (wv_or (tv_not (tv_val (ev_isi (by intro _; rfl) (fun _ => B.isinstance_) (ev_v 0) (by intro _; rfl) (fun _ => B.list_) (by decide +kernel)) (by intro _ _; rfl))) (wv_or1 (tv_c c_ne (ev_callB (fun j => callLen j) sn_len (by intro _; rfl) (fun _ => B.len_) (by decide +kernel) (av_cons (ev_v 0) (av_nil))) (ev_callB (fun j => callLen j) sn_len (by intro _; rfl) (fun _ => B.len_) (by decide +kernel) (av_cons (ev_v 1) (av_nil)))))))) (sms_one (sm_ret (evo (ev_bl)))) (sms_nil)) (sms_cons (sm_for (fun _ => PassesOwn.never) (iw_range1 (by intro _; rfl) (fun _ => B.range_) (av_cons (ev_callB (fun j => callLen j) sn_len (by intro _; rfl) (fun _ => B.len_) (by decide +kernel) (av_cons (ev_v 1) (av_nil))) (av_nil))) (gt_n 2) (sms_one (sm_if (tvo (tv_not (tv_val (ev_call (fun _ => C_law_list) (Nat.le_of_ble_eq_true rfl) (by intro _; rfl) (E := E0) (fun _ => pass0') (av_cons (ev_ix (ev_v 0) (ev_v 2)) (av_cons (ev_ix (ev_v 1) (ev_v 2)) (av_nil)))) (by intro _ _; rfl)))) (sms_one (sm_ret (evo (ev_bl)))) (sms_nil)))) (sms_one (sm_ret (evo (ev_bl)))))
abbrev s_law : Stmt := top 14
theorem sc_law : FnScope ["_law_script", "_law_number", "_law_names_here", "_law_cells", "_law_beats_here", "_law_rows", "_law_k", "_law_words", "_law_handed", "_law_kept", "_law_due", "_law_found", "_law_bits"] ["_law_script"] (defScope s_law) := ⟨rfl, rfl, rfl, by decide +kernel, rfl, by decide +kernel, by decide +kernel⟩
def l_law_1 : FS := sSetIx 7 (pHere) (f2 gIx (fVar 2) (fVar 6)) (f2 gMod (fCallV g_law_mixed (aCons (fCallV g_law_at (aCons (fVar 0) (aCons (fC (.int 1)) (aNil)))) (aCons (f2 gAdd (fVar 6) (fC (.int 4))) (aNil)))) (fC (.int 256)))
def l_law_2 : FS := sApp 5 (pHere) (fCallV g_law_row (aCons (fCallV g_law_mixed (aCons (f2 gIx (fVar 3) (fVar 6)) (aCons (fVar 6) (aNil)))) (aCons (fVar 6) (aCons (fN gLen (aCons (fVar 3) (aNil))) (aCons (fVar 2) (aNil))))))
def b_law : FS := sSeq (sSet 1 (lift (fCallV g_law_mixed (aCons (fCallV g_law_at (aCons (fVar 0) (aCons (fC (.int 0)) (aNil)))) (aCons (fC (.int 2)) (aNil)))))) (sSeq (sSet 2 (lift (fCallV g_law_names (aCons (f2 gDiv (fVar 1) (fC (.int 8))) (aCons (f2 gAdd (fC (.int 1)) (f2 gMod (fVar 1) (fC (.int 4)))) (aNil)))))) (sSeq (sSet 3 (lift (fSl (fVar 0) (some (fC (.int 2))) (some (fC (.int 63)))))) (sSeq (sSet 4 (lift (f2 gMod (fCallV g_law_at (aCons (fVar 0) (aCons (fC (.int 1)) (aNil)))) (fC (.int 21))))) (sSeq (sIf (liftB (fT (f2 gEq (f2 gMod (f2 gDiv (fCallV g_law_at (aCons (fVar 0) (aCons (fC (.int 1)) (aNil)))) (fC (.int 21))) (fC (.int 16))) (fC (.int 15))))) (sSeq (sSet 3 (lift (fSl (fVar 3) none (some (fC (.int 8)))))) (sSet 4 (lift (fC (.int 300))))) (sNil)) (sSeq (sSet 5 (mE (mNew (aNil)))) (sSeq (sFor (iR1 (aCons (fN gLen (aCons (fVar 3) (aNil))) (aNil))) (gSet 6) (l_law_2)) (sFz 5 (sSeq (sSet 7 (mE (mNewD))) (sSeq (sFor (iR1 (aCons (fN gLen (aCons (fVar 2) (aNil))) (aNil))) (gSet 6) (l_law_1)) (sFz 7 (sSeq (sSet 8 (lift (fN gList (aCons (fVar 5) (aNil))))) (sSeq (sSet 9 (lift (fN gDictOf (aCons (fVar 7) (aNil))))) (sSeq (sSet 10 (lift (fCallV g_law_beats (aCons (fVar 5) (aCons (fVar 7) (aCons (fVar 4) (aNil))))))) (sSeq (sSet 11 (fCallN g_wires_told (aCons (fVar 8) (aCons (fVar 7) (aCons (fVar 4) (aNil)))))) (sSeq (sIf (liftB (tNotF (fT (fCallV g_law_same (aCons (fVar 11) (aCons (fVar 10) (aNil))))))) (sRet (lift (fC (.bl false)))) (sNil)) (sSeq (sHv 11 12 false [fC (.int 2)]) (sRet (lift (fAnd (f2 gEq (fVar 8) (fVar 5)) (fAnd (f2 gEqX (fVar 7) (fVar 9)) (fCallV g_law_same (aCons (fCallV (fzR g_wires_told) (aCons (fVar 8) (aCons (fVar 7) (aCons (fN gMin2 (aCons (fVar 4) (aCons (fC (.int 3)) (aNil)))) (aNil))))) (aCons (fSl (fVar 10) none (some (fC (.int 3)))) (aNil))))))))))))))))))))))))
def g_law : List T → Option Re := runF 1 13 [] b_law
theorem ok_law {P : Program} {w : World} {W : Wd} {mg : Str → Option Value} {base : Heap} {f : Addr} {fd : FuncData} (ew : w = W.w) (F : Fun W.K "law" "law" s_law f fd) (B : Bi mg) (C_wires_told : ClN P w W mg base CX0 3 "wires_told" [] g_wires_told) (C_law_same : Cl P w W mg base CX0 3 "_law_same" [] g_law_same) (C_law_beats : Cl P w W mg base CX0 2 "_law_beats" [] g_law_beats) (C_law_at : Cl P w W mg base CX0 1 "_law_at" [] g_law_at) (C_law_mixed : Cl P w W mg base CX0 1 "_law_mixed" [] g_law_mixed) (C_law_row : Cl P w W mg base CX0 2 "_law_row" [] g_law_row) (C_law_names : Cl P w W mg base CX0 1 "_law_names" [] g_law_names) : FnOk P w W.K mg base CX0 4 f fd ["_law_script"] (spF W [] g_law) :=
  fnZ ew F sc_law (by decide) (by decide) fun _ _ _ _ _ _ hr =>
  sms_cons (sm_s 1 (evo (ev_call (fun _ => C_law_mixed) (Nat.le_of_ble_eq_true rfl) (by intro _; rfl) (E := E0) (fun _ => pass0') (av_cons (ev_call (fun _ => C_law_at) (Nat.le_of_ble_eq_true rfl) (by intro _; rfl) (E := E0) (fun _ => pass0') (av_cons (ev_v 0) (av_cons (ev_int) (av_nil)))) (av_cons (ev_int) (av_nil)))))) (sms_cons (sm_s 2 (evo (ev_call (fun _ => C_law_names) (Nat.le_of_ble_eq_true rfl) (by intro _; rfl) (E := E0) (fun _ => pass0') (av_cons (ev_div (ev_v 1) (ev_int)) (av_cons (ev_add (ev_int) (ev_mod (ev_v 1) (ev_int))) (av_nil)))))) (sms_cons (sm_s 3 (evo (ev_sl11 (ev_v 0) (ev_int) (ev_int)))) (sms_cons (sm_s 4 (evo (ev_mod (ev_call (fun _ => C_law_at) (Nat.le_of_ble_eq_true rfl) (by intro _; rfl) (E := E0) (fun _ => pass0') (av_cons (ev_v 0) (av_cons (ev_int) (av_nil)))) (ev_int)))) (sms_cons (sm_if (tvo (tv_c c_eq (ev_mod (ev_div (ev_call (fun _ => C_law_at) (Nat.le_of_ble_eq_true rfl) (by intro _; rfl) (E := E0) (fun _ => pass0') (av_cons (ev_v 0) (av_cons (ev_int) (av_nil)))) (ev_int)) (ev_int)) (ev_int))) (sms_cons (sm_s 3 (evo (ev_sl01 (ev_v 3) (ev_int)))) (sms_one (sm_s 4 (evo (ev_int))))) (sms_nil)) (sms_cons (sm_s 5 (emo (em_new (av_nil)))) (sms_cons (sm_for (fun _ => PassesOwn.never) (iw_range1 (by intro _; rfl) (fun _ => B.range_) (av_cons (ev_callB (fun j => callLen j) sn_len (by intro _; rfl) (fun _ => B.len_) (by decide +kernel) (av_cons (ev_v 3) (av_nil))) (av_nil))) (gt_n 6) (sms_one (sm_app (lo_v 5) (ev_call (fun _ => C_law_row) (Nat.le_of_ble_eq_true rfl) (by intro _; rfl) (E := E0) (fun _ => pass0') (av_cons (ev_call (fun _ => C_law_mixed) (Nat.le_of_ble_eq_true rfl) (by intro _; rfl) (E := E0) (fun _ => pass0') (av_cons (ev_ix (ev_v 3) (ev_v 6)) (av_cons (ev_v 6) (av_nil)))) (av_cons (ev_v 6) (av_cons (ev_callB (fun j => callLen j) sn_len (by intro _; rfl) (fun _ => B.len_) (by decide +kernel) (av_cons (ev_v 3) (av_nil))) (av_cons (ev_v 2) (av_nil))))))))) (sms_fz 5 (sms_cons (sm_s 7 (emo (em_newd))) (sms_cons (sm_for (fun _ => PassesOwn.never) (iw_range1 (by intro _; rfl) (fun _ => B.range_) (av_cons (ev_callB (fun j => callLen j) sn_len (by intro _; rfl) (fun _ => B.len_) (by decide +kernel) (av_cons (ev_v 2) (av_nil))) (av_nil))) (gt_n 6) (sms_one (sm_setIx (lo_v 7) (ev_ix (ev_v 2) (ev_v 6)) (ev_mod (ev_call (fun _ => C_law_mixed) (Nat.le_of_ble_eq_true rfl) (by intro _; rfl) (E := E0) (fun _ => pass0') (av_cons (ev_call (fun _ => C_law_at) (Nat.le_of_ble_eq_true rfl) (by intro _; rfl) (E := E0) (fun _ => pass0') (av_cons (ev_v 0) (av_cons (ev_int) (av_nil)))) (av_cons (ev_add (ev_v 6) (ev_int)) (av_nil)))) (ev_int))))) (sms_fz 7 (sms_cons (sm_s 8 (evo (ev_callTy (fun j => callList j) sn_list (by intro _; rfl) (fun _ => B.list_) (by decide +kernel) (av_cons (ev_v 5) (av_nil))))) (sms_cons (sm_s 9 (evo (ev_callTy (fun j => callDict j) sn_dict (by intro _; rfl) (fun _ => B.dict_) (by decide +kernel) (av_cons (ev_v 7) (av_nil))))) (sms_cons (sm_s 10 (evo (ev_call (fun _ => C_law_beats) (Nat.le_of_ble_eq_true rfl) (by intro _; rfl) (E := E0) (fun _ => pass0') (av_cons (ev_v 5) (av_cons (ev_v 7) (av_cons (ev_v 4) (av_nil))))))) (sms_cons (sm_s 11 (eo_callN (fun _ => C_wires_told) (Nat.le_of_ble_eq_true rfl) (by intro _; rfl) (E := E0) (fun _ => pass0') (av_cons (ev_v 8) (av_cons (ev_v 7) (av_cons (ev_v 4) (av_nil)))))) (sms_cons (sm_if (tvo (tv_not (tv_val (ev_call (fun _ => C_law_same) (Nat.le_of_ble_eq_true rfl) (by intro _; rfl) (E := E0) (fun _ => pass0') (av_cons (ev_v 11) (av_cons (ev_v 10) (av_nil)))) (by intro _ _; rfl)))) (sms_one (sm_ret (evo (ev_bl)))) (sms_nil)) (sms_cons (sm_hv 11 12 (fun _ => PassesOwn.never) (hb_one (ha_app (ht_v 12) (ev_int)))) (sms_one (sm_ret (evo (ev_and (ev_c c_eq (ev_v 8) (ev_v 5)) (ev_and (ev_c c_eqX (ev_v 7) (ev_v 9)) (ev_one (ev_call (fun _ => C_law_same) (Nat.le_of_ble_eq_true rfl) (by intro _; rfl) (E := E0) (fun _ => pass0') (av_cons (ev_call (fun _ => C_wires_told.cl.fz) (Nat.le_of_ble_eq_true rfl) (by intro _; rfl) (E := E0) (fun _ => pass0') (av_cons (ev_v 8) (av_cons (ev_v 7) (av_cons (ev_callB (fun j => callMin2 j) sn_min2 (by intro _; rfl) (fun _ => B.min_) (by decide +kernel) (av_cons (ev_v 4) (av_cons (ev_int) (av_nil)))) (av_nil))))) (av_cons (ev_sl01 (ev_v 10) (ev_int)) (av_nil))))))))))))))))))))))))))
theorem all_mk {l : PySem.W.OpenLaw} {w : World} {K : PySem.W.Frag} {h : Heap} {mg : Str → Option Value} {fa f1 f2 f3 f4 f5 f6 f7 f8 f9 f10 f11 f12 f13 : Addr} (X : K.In h) (G : h.Ns mainGlobals mg) (hfa : mg "law" = some (.ref fa))
    {od1 an1 od2 an2 od3 an3 od4 an4 od5 an5 od6 an6 od7 an7 od8 an8 od9 an9 od10 an10 od11 an11 od12 an12 od13 an13 : Option Addr} {sl1 sl2 sl3 sl4 sl5 sl6 sl7 sl8 sl9 sl10 sl11 sl12 sl13 : Array (Option Value)} {oc1 kV1 dc1 pm1 cd1 ct1 oc2 kV2 dc2 pm2 cd2 ct2 oc3 kV3 dc3 pm3 cd3 ct3 oc4 kV4 dc4 pm4 cd4 ct4 oc5 kV5 dc5 pm5 cd5 ct5 oc6 kV6 dc6 pm6 cd6 ct6 oc7 kV7 dc7 pm7 cd7 ct7 oc8 kV8 dc8 pm8 cd8 ct8 oc9 kV9 dc9 pm9 cd9 ct9 oc10 kV10 dc10 pm10 cd10 ct10 oc11 kV11 dc11 pm11 cd11 ct11 oc12 kV12 dc12 pm12 cd12 ct12 oc13 kV13 dc13 pm13 cd13 ct13 : Value}
    (a1 : PySem.W.nsIn K mainGlobals "gate_bit" = some (some (.ref f1)))
    (l1 : K.lookup f1 = some ⟨oc1, od1, .func (PySem.W.fnOf "gate_bit" "gate_bit" (defArgs s_gate_bit) (defBody s_gate_bit) (defScope s_gate_bit) .none kV1 dc1 pm1 an1 cd1 ct1), sl1⟩) (c1 : PySem.W.codeIn K cd1 "gate_bit" = true) (k1 : PySem.W.keepIn K (.ref f1) = true)
    (a2 : PySem.W.nsIn K mainGlobals "beat_told" = some (some (.ref f2)))
    (l2 : K.lookup f2 = some ⟨oc2, od2, .func (PySem.W.fnOf "beat_told" "beat_told" (defArgs s_beat_told) (defBody s_beat_told) (defScope s_beat_told) .none kV2 dc2 pm2 an2 cd2 ct2), sl2⟩) (c2 : PySem.W.codeIn K cd2 "beat_told" = true) (k2 : PySem.W.keepIn K (.ref f2) = true)
    (a3 : PySem.W.nsIn K mainGlobals "wires_told" = some (some (.ref f3)))
    (l3 : K.lookup f3 = some ⟨oc3, od3, .func (PySem.W.fnOf "wires_told" "wires_told" (defArgs s_wires_told) (defBody s_wires_told) (defScope s_wires_told) .none kV3 dc3 pm3 an3 cd3 ct3), sl3⟩) (c3 : PySem.W.codeIn K cd3 "wires_told" = true) (k3 : PySem.W.keepIn K (.ref f3) = true)
    (a4 : PySem.W.nsIn K mainGlobals "_law_whole" = some (some (.ref f4)))
    (l4 : K.lookup f4 = some ⟨oc4, od4, .func (PySem.W.fnOf "_law_whole" "_law_whole" (defArgs s_law_whole) (defBody s_law_whole) (defScope s_law_whole) .none kV4 dc4 pm4 an4 cd4 ct4), sl4⟩) (c4 : PySem.W.codeIn K cd4 "_law_whole" = true) (k4 : PySem.W.keepIn K (.ref f4) = true)
    (a5 : PySem.W.nsIn K mainGlobals "_law_at" = some (some (.ref f5)))
    (l5 : K.lookup f5 = some ⟨oc5, od5, .func (PySem.W.fnOf "_law_at" "_law_at" (defArgs s_law_at) (defBody s_law_at) (defScope s_law_at) .none kV5 dc5 pm5 an5 cd5 ct5), sl5⟩) (c5 : PySem.W.codeIn K cd5 "_law_at" = true) (k5 : PySem.W.keepIn K (.ref f5) = true)
    (a6 : PySem.W.nsIn K mainGlobals "_law_mixed" = some (some (.ref f6)))
    (l6 : K.lookup f6 = some ⟨oc6, od6, .func (PySem.W.fnOf "_law_mixed" "_law_mixed" (defArgs s_law_mixed) (defBody s_law_mixed) (defScope s_law_mixed) .none kV6 dc6 pm6 an6 cd6 ct6), sl6⟩) (c6 : PySem.W.codeIn K cd6 "_law_mixed" = true) (k6 : PySem.W.keepIn K (.ref f6) = true)
    (a7 : PySem.W.nsIn K mainGlobals "_law_list" = some (some (.ref f7)))
    (l7 : K.lookup f7 = some ⟨oc7, od7, .func (PySem.W.fnOf "_law_list" "_law_list" (defArgs s_law_list) (defBody s_law_list) (defScope s_law_list) .none kV7 dc7 pm7 an7 cd7 ct7), sl7⟩) (c7 : PySem.W.codeIn K cd7 "_law_list" = true) (k7 : PySem.W.keepIn K (.ref f7) = true)
    (a8 : PySem.W.nsIn K mainGlobals "_law_names" = some (some (.ref f8)))
    (l8 : K.lookup f8 = some ⟨oc8, od8, .func (PySem.W.fnOf "_law_names" "_law_names" (defArgs s_law_names) (defBody s_law_names) (defScope s_law_names) .none kV8 dc8 pm8 an8 cd8 ct8), sl8⟩) (c8 : PySem.W.codeIn K cd8 "_law_names" = true) (k8 : PySem.W.keepIn K (.ref f8) = true)
    (a9 : PySem.W.nsIn K mainGlobals "_law_bit" = some (some (.ref f9)))
    (l9 : K.lookup f9 = some ⟨oc9, od9, .func (PySem.W.fnOf "_law_bit" "_law_bit" (defArgs s_law_bit) (defBody s_law_bit) (defScope s_law_bit) .none kV9 dc9 pm9 an9 cd9 ct9), sl9⟩) (c9 : PySem.W.codeIn K cd9 "_law_bit" = true) (k9 : PySem.W.keepIn K (.ref f9) = true)
    (a10 : PySem.W.nsIn K mainGlobals "_law_beats" = some (some (.ref f10)))
    (l10 : K.lookup f10 = some ⟨oc10, od10, .func (PySem.W.fnOf "_law_beats" "_law_beats" (defArgs s_law_beats) (defBody s_law_beats) (defScope s_law_beats) .none kV10 dc10 pm10 an10 cd10 ct10), sl10⟩) (c10 : PySem.W.codeIn K cd10 "_law_beats" = true) (k10 : PySem.W.keepIn K (.ref f10) = true)
    (a11 : PySem.W.nsIn K mainGlobals "_law_row" = some (some (.ref f11)))
    (l11 : K.lookup f11 = some ⟨oc11, od11, .func (PySem.W.fnOf "_law_row" "_law_row" (defArgs s_law_row) (defBody s_law_row) (defScope s_law_row) .none kV11 dc11 pm11 an11 cd11 ct11), sl11⟩) (c11 : PySem.W.codeIn K cd11 "_law_row" = true) (k11 : PySem.W.keepIn K (.ref f11) = true)
    (a12 : PySem.W.nsIn K mainGlobals "_law_same" = some (some (.ref f12)))
    (l12 : K.lookup f12 = some ⟨oc12, od12, .func (PySem.W.fnOf "_law_same" "_law_same" (defArgs s_law_same) (defBody s_law_same) (defScope s_law_same) .none kV12 dc12 pm12 an12 cd12 ct12), sl12⟩) (c12 : PySem.W.codeIn K cd12 "_law_same" = true) (k12 : PySem.W.keepIn K (.ref f12) = true)
    (a13 : PySem.W.nsIn K mainGlobals "law" = some (some (.ref f13)))
    (l13 : K.lookup f13 = some ⟨oc13, od13, .func (PySem.W.fnOf "law" "law" (defArgs s_law) (defBody s_law) (defScope s_law) .none kV13 dc13 pm13 an13 cd13 ct13), sl13⟩) (c13 : PySem.W.codeIn K cd13 "law" = true) (k13 : PySem.W.keepIn K (.ref f13) = true)
    (z_range : PySem.W.nsIn K mainGlobals "range" = some none)
    (z_isinstance : PySem.W.nsIn K mainGlobals "isinstance" = some none)
    (z_int : PySem.W.nsIn K mainGlobals "int" = some none)
    (z_bool : PySem.W.nsIn K mainGlobals "bool" = some none)
    (z_len : PySem.W.nsIn K mainGlobals "len" = some none)
    (z_list : PySem.W.nsIn K mainGlobals "list" = some none)
    (z_min : PySem.W.nsIn K mainGlobals "min" = some none)
    (z_dict : PySem.W.nsIn K mainGlobals "dict" = some none)
    : ∃ (fd : FuncData) (cl : Nat → Addr), (∀ (s : Shared) (v : Value), BindsTo s fd ⟨[v], []⟩ [("_law_script", v)]) ∧ ∀ base : Heap, K.In base → base.Ns mainGlobals mg → FnOk l.prog w K mg base CX0 4 fa fd ["_law_script"] (spF ⟨K, cl, w, fun _ => True⟩ [] g_law) := by
  have e := hfa.symm.trans (PySem.W.mg_of X G a13)
  cases e
  have B : Bi mg := ⟨PySem.W.mg_none_of X G z_range, PySem.W.mg_none_of X G z_isinstance, PySem.W.mg_none_of X G z_int, PySem.W.mg_none_of X G z_bool, PySem.W.mg_none_of X G z_len, PySem.W.mg_none_of X G z_list, PySem.W.mg_none_of X G z_min, PySem.W.mg_none_of X G z_dict⟩
  have F1 := fun_mk (st := s_gate_bit) l1 c1 k1
  have b1 := F1.binds (ps := ["row", "bits", "words"]) fun _ _ _ _ _ _ us hl => match us, hl with | [_, _, _], _ => rfl
  have F2 := fun_mk (st := s_beat_told) l2 c2 k2
  have b2 := F2.binds (ps := ["rows", "words", "before"]) fun _ _ _ _ _ _ us hl => match us, hl with | [_, _, _], _ => rfl
  have F3 := fun_mk (st := s_wires_told) l3 c3 k3
  have b3 := F3.binds (ps := ["rows", "words", "beats"]) fun _ _ _ _ _ _ us hl => match us, hl with | [_, _, _], _ => rfl
  have F4 := fun_mk (st := s_law_whole) l4 c4 k4
  have b4 := F4.binds (ps := ["_law_found"]) fun _ _ _ _ _ _ us hl => match us, hl with | [_], _ => rfl
  have F5 := fun_mk (st := s_law_at) l5 c5 k5
  have b5 := F5.binds (ps := ["_law_script", "_law_k"]) fun _ _ _ _ _ _ us hl => match us, hl with | [_, _], _ => rfl
  have F6 := fun_mk (st := s_law_mixed) l6 c6 k6
  have b6 := F6.binds (ps := ["_law_cell", "_law_k"]) fun _ _ _ _ _ _ us hl => match us, hl with | [_, _], _ => rfl
  have F7 := fun_mk (st := s_law_list) l7 c7 k7
  have b7 := F7.binds (ps := ["_law_found", "_law_due"]) fun _ _ _ _ _ _ us hl => match us, hl with | [_, _], _ => rfl
  have F8 := fun_mk (st := s_law_names) l8 c8 k8
  have b8 := F8.binds (ps := ["_law_number", "_law_many"]) fun _ _ _ _ _ _ us hl => match us, hl with | [_, _], _ => rfl
  have F9 := fun_mk (st := s_law_bit) l9 c9 k9
  have b9 := F9.binds (ps := ["_law_row_here", "_law_bits", "_law_words"]) fun _ _ _ _ _ _ us hl => match us, hl with | [_, _, _], _ => rfl
  have F10 := fun_mk (st := s_law_beats) l10 c10 k10
  have b10 := F10.binds (ps := ["_law_rows", "_law_words", "_law_many"]) fun _ _ _ _ _ _ us hl => match us, hl with | [_, _, _], _ => rfl
  have F11 := fun_mk (st := s_law_row) l11 c11 k11
  have b11 := F11.binds (ps := ["_law_number", "_law_at_here", "_law_many", "_law_names_here"]) fun _ _ _ _ _ _ us hl => match us, hl with | [_, _, _, _], _ => rfl
  have F12 := fun_mk (st := s_law_same) l12 c12 k12
  have b12 := F12.binds (ps := ["_law_found", "_law_due"]) fun _ _ _ _ _ _ us hl => match us, hl with | [_, _], _ => rfl
  have F13 := fun_mk (st := s_law) l13 c13 k13
  have b13 := F13.binds (ps := ["_law_script"]) fun _ _ _ _ _ _ us hl => match us, hl with | [_], _ => rfl
  refine ⟨PySem.W.fnOf "law" "law" (defArgs s_law) (defBody s_law) (defScope s_law) .none kV13 dc13 pm13 an13 cd13 ct13, fun _ => 0, fun s v => .of_eq rfl, fun base _ _ => ?_⟩
  have C_gate_bit : ∀ nw : Addr → Prop, Cl l.prog w ⟨K, fun _ => 0, w, nw⟩ mg base CX0 1 "gate_bit" [] g_gate_bit := fun nw => .mk' (ok_gate_bit (W := ⟨K, fun _ => 0, w, nw⟩) rfl F1 B) (PySem.W.mg_of X G a1) k1 b1
  have C_beat_told : ∀ nw : Addr → Prop, Cl l.prog w ⟨K, fun _ => 0, w, nw⟩ mg base CX0 2 "beat_told" [] g_beat_told := fun nw => .mk' (ok_beat_told (W := ⟨K, fun _ => 0, w, nw⟩) rfl F2 B (C_gate_bit nw)) (PySem.W.mg_of X G a2) k2 b2
  have C_wires_told : ∀ nw : Addr → Prop, ClN l.prog w ⟨K, fun _ => 0, w, nw⟩ mg base CX0 3 "wires_told" [] g_wires_told := fun nw => .mk' (fun nw => (ok_wires_told (W := ⟨K, fun _ => 0, w, nw⟩) rfl F3 B (C_beat_told nw))) (PySem.W.mg_of X G a3) k3 b3
  have C_law_whole : ∀ nw : Addr → Prop, Cl l.prog w ⟨K, fun _ => 0, w, nw⟩ mg base CX0 1 "_law_whole" [] g_law_whole := fun nw => .mk' (ok_law_whole (W := ⟨K, fun _ => 0, w, nw⟩) rfl F4 B) (PySem.W.mg_of X G a4) k4 b4
  have C_law_at : ∀ nw : Addr → Prop, Cl l.prog w ⟨K, fun _ => 0, w, nw⟩ mg base CX0 1 "_law_at" [] g_law_at := fun nw => .mk' (ok_law_at (W := ⟨K, fun _ => 0, w, nw⟩) rfl F5 B) (PySem.W.mg_of X G a5) k5 b5
  have C_law_mixed : ∀ nw : Addr → Prop, Cl l.prog w ⟨K, fun _ => 0, w, nw⟩ mg base CX0 1 "_law_mixed" [] g_law_mixed := fun nw => .mk' (ok_law_mixed (W := ⟨K, fun _ => 0, w, nw⟩) rfl F6 B) (PySem.W.mg_of X G a6) k6 b6
  have C_law_list : ∀ nw : Addr → Prop, Cl l.prog w ⟨K, fun _ => 0, w, nw⟩ mg base CX0 2 "_law_list" [] g_law_list := fun nw => .mk' (ok_law_list (W := ⟨K, fun _ => 0, w, nw⟩) rfl F7 B (C_law_whole nw)) (PySem.W.mg_of X G a7) k7 b7
  have C_law_names : ∀ nw : Addr → Prop, Cl l.prog w ⟨K, fun _ => 0, w, nw⟩ mg base CX0 1 "_law_names" [] g_law_names := fun nw => .mk' (ok_law_names (W := ⟨K, fun _ => 0, w, nw⟩) rfl F8 B) (PySem.W.mg_of X G a8) k8 b8
  have C_law_bit : ∀ nw : Addr → Prop, Cl l.prog w ⟨K, fun _ => 0, w, nw⟩ mg base CX0 1 "_law_bit" [] g_law_bit := fun nw => .mk' (ok_law_bit (W := ⟨K, fun _ => 0, w, nw⟩) rfl F9 B) (PySem.W.mg_of X G a9) k9 b9
  have C_law_beats : ∀ nw : Addr → Prop, Cl l.prog w ⟨K, fun _ => 0, w, nw⟩ mg base CX0 2 "_law_beats" [] g_law_beats := fun nw => .mk' (ok_law_beats (W := ⟨K, fun _ => 0, w, nw⟩) rfl F10 B (C_law_bit nw)) (PySem.W.mg_of X G a10) k10 b10
  have C_law_row : ∀ nw : Addr → Prop, Cl l.prog w ⟨K, fun _ => 0, w, nw⟩ mg base CX0 2 "_law_row" [] g_law_row := fun nw => .mk' (ok_law_row (W := ⟨K, fun _ => 0, w, nw⟩) rfl F11 B (C_law_mixed nw)) (PySem.W.mg_of X G a11) k11 b11
  have C_law_same : ∀ nw : Addr → Prop, Cl l.prog w ⟨K, fun _ => 0, w, nw⟩ mg base CX0 3 "_law_same" [] g_law_same := fun nw => .mk' (ok_law_same (W := ⟨K, fun _ => 0, w, nw⟩) rfl F12 B (C_law_list nw)) (PySem.W.mg_of X G a12) k12 b12
  exact ok_law (W := ⟨K, fun _ => 0, w, fun _ => True⟩) rfl F13 B (C_wires_told _) (C_law_same _) (C_law_beats _) (C_law_at _) (C_law_mixed _) (C_law_row _) (C_law_names _)
theorem walk {l : PySem.W.OpenLaw} {q : Program} {loose : List Str} {XP : (Str → Option Value) → Heap → Prop} {YP : World → Heap → Prop} {d : DefRec} {K : Params → PySem.W.Frag} (hn : l.most = some 63) (hdf : d.params.defaults = [])
    (hY : ∀ (w : World) (h : Heap), YP w h → (K w.params).In h) (ht : ∀ ns : List Int, ns.length ≤ 63 → (∀ z ∈ ns, Builtin.Int.intBits z ≤ 1048576) → ∃ us, g_law [.f (.lst (ns.map .int))] = some (.ok (.f (.bl true)) us))
    (F : ∀ (w : World) (mg : Str → Option Value) (fa : Addr) (h : Heap), (K w.params).In h → h.Ns mainGlobals mg → mg d.name = some (.ref fa) →
      ∃ (fd : FuncData) (cl : Nat → Addr), (∀ (s : Shared) (u : Value), BindsTo s fd ⟨[u], []⟩ [("_law_script", u)]) ∧ ∀ base : Heap, (K w.params).In base → base.Ns mainGlobals mg → FnOk l.prog w (K w.params) mg base CX0 4 fa fd ["_law_script"] (spF ⟨K w.params, cl, w, fun _ => True⟩ [] g_law)) :
    PySem.W.WalkO q loose XP YP l.row.toRowW d [] (fun f vs => PySem.call f vs) :=
  L2.walk_ofB (n := 63) (k := 4) (x := "_law_script") (CX := fun _ => CX0) (sp := fun w vs H Q E => ∀ cl, spF ⟨K w.params, cl, w, fun _ => True⟩ [] g_law vs H Q E) hn (by decide) hdf ⟨rfl, by decide, by decide⟩ hY (fun w mg fa h a b c => let ⟨fd, cl, h1, h2⟩ := F w mg fa h a b c; ⟨fd, h1, fun base p q => (h2 base p q).imp fun vs H Q E h => h cl⟩) (fun w H a ns hl hb _ hS cl => law_sp (W := ⟨K w.params, cl, w, fun _ => True⟩) hS (fun _ => trivial) (ht ns hl hb)) fun _ _ _ _ _ z => z
end K
namespace K
open PySem L2 Z
local macro_rules | `(tactic| walk_at "w") => `(tactic| simp -implicitDefEqProofs (disch := (first | omega | ((try simp only [List.length_cons, List.length_nil, List.length_map, List.length_append, List.length_range, List.length_take, List.length_set, List.length_reverse, enumD_len]) <;> omega) | fail)) only [wz_var, nn_f, nn_l, nn_dk, nn_ll, nn_tu, nn_o, wz_mv, mvK_f, mvK_l, mvK_dk, mvK_ll, mvK_tu, mvK_o, wz_f1, k1_s, wz_f2, k2_s, wz_fN, kN_s, wz_fC, wz_aNil, wz_aCons, kCons_s, wz_fT, kT_s, wz_tAnd, wz_tOr, wz_tNot, kAnd_t, kAnd_f, kOr_t, kOr_f, kNot_s, wz_fIf, kIf_t, kIf_f, wz_fAnd, wz_fOr, kBl_s, wz_fNot, wz_lift, kLift_s, wz_fFz, kFz_f, kFz_l, kFz_dk, wz_sNil, wz_sSeq, kSeq_nx, kSeq_rt, kSeq_bk, kSeq_ct, kSeq_xc, wz_sSet, kSet_s, wz_sExpr, kEx_s, wz_sRet, kRet_s, wz_sRetN, wz_sBk, wz_sCt, wz_liftB, kLiB_s, wz_oTest, kTst_s, wz_oNot, kONot_s, wz_sIf, kIfS_t, kIfS_f, kIfS_d, kV_s, wz_fCallV, kCall_0, kCall_1, kCall_2, kCall_3, kCall_4, kCall_5, kCall_6, kCall_7, wz_fDispD, wz_pNil, wz_pCons, kPair_s, kPair_i, wz_fNewL, kNl'_s, wz_fNewD, wz_sFor, kFor_s, for_nil, for_cons, kTgt_s, kBody_nx, kBody_ct, kBody_bk, kBody_rt, kBody_xc, wz_iVal, kIt_l, kIt_t, kIt_s, wz_iL1, kI1_s, wz_iL2, kI2_s, wz_iR1, kR1_s, wz_iR2, kR2_s, wz_gSet, wz_gsNil, wz_gsCons, kGs_s, deep_nil, deep_f, kDc_s, wz_gTup, wz_gLst, gSl_l, gSl_o, wz_sl00, wz_sl10, wz_sl01, wz_sl11, kS00_s, kS10_s, kS01_s, kS11_s, wz_fIsi, gIsi_ii, gIsi_ib, gIsi_ll, gIsi_lo, gIsi_tt, gIsi_ss, gIsi_bb, gIsi_dd, dec01, str_inj, gDiv_o, gMul_o, gShl_o, gShr_o, kVT_s, gIx_lst, gIx_own, gIx_tup, gIx_dct, gIx_dcti, gIx_odct, gIx_odcti, atI_pos, atI_neg, gTupT1, gTupT2, gTupT3, gTupT4, gTupT5, gIsNn_i, gIsNn_s, gIsNn_b, gIsNn_n, gIsNn_l, gIsNn_t, gIsNn_d, gIsNn_o, gIsNn_od, wz_fIsN, wz_fChain, kChain_s, kCh1_t, kCh1_f, kTurn_s, okW_nil, okW_cons, okV_n, okV_u, okV_f, wipeR_nil, wipeR_cons, wz_fLc, kLcB_t, kLc_s, lcF_nil, lcF_cons, kL1_s, kL2_t, kL2_f, kL2_d, kL3_s, tYes_s, wz_lcT, wz_jVal, kJV_l, kJV_t, kJV_s, wz_jL1, kJ1_s, wz_jL2, kJ2_s, wz_jR1, kJR1_s, wz_jR2, kJR2_s, wz_pHere, kMu_s, mutF_here, kNx_s, wz_sApp, kApp_s, appT_l, wz_sSetIx, kSI_s, setT_l, setT_ds, setT_di, wz_fzS, kF2_u, kF2_f, kF2_l, kF2_d, wz_sFz, kFS_s, gIn_ss, gIn_ii, gNotIn_ss, gNotIn_ii, gEq_sn, gEq_ns, gEq_in, gEq_ni, gEq_nn, gNe_sn, gNe_ns, gNe_in, gNe_ni, gNe_nn, gSum_l, gList_l, gList_t, gTuple_l, gTuple_t, atN_nil, atN_cons, atD_nil, atD_cons, setN_cons, sub_o, sub_l, sub_t, upd_o, upd_l, upd_t, getP_nil, getP_cons, kGp_s, putP_nil, putP_cons, kPp_s, kNn_f, kNn_l, kNn_dk, gAtt_f, gAtt_o, wz_pAt, kPA_s, kPA2_s, kPA3_s, wz_pIx, kPI_s, kPI2_l, kPI2_t, kPI3_s, kPI4_s, ixN_pos, ixN_neg, mutF_at, kM1_s, kM2_s, wz_sAtt, kSAt_s, attT_o, kAt_n, kAt_f, wz_sAttM, kSAM_s, kSAM2_s, attM_o, kAM_n, wz_sAttAug, kAG_s, kAG2_s, kAG5_s, wz_mE, kME_s, wz_mP, kMP_s, wz_mV, kMV_f, kMV_l, kMV_dk, kMV_ll, kMV_tu, kMV_o, wz_msNil, wz_msCons, kMs_s, kMs2_s, wz_mTup, wz_mLst, kMTup_s, kMLst_s, wz_mNew, kMN_s, kMN2_s, wz_mNewD, wz_mPart, kMPt_s, kMPt2_s, kMPt3_l, kMPt3_d, wz_mCall, kMC_s, kMC2_s, kMC3_s, wz_mCat, kMCa_s, kMCa2_s, gCatO_ol, gCatO_ll, gCatO_lo, gCat_ol, gCat_lo, gCat_oo, wz_mLc, kMLc_s, wz_sAppM, kAM1_s, kAM2_l, kAM2_ll, kAM3_s, appM_ll, wz_fPop, kPop_s, kPop2_s, kPop3_s, kPop4_s, popT_l, popT_tu, popT_lf, gTupM2, gTupM3, gTupM4, gTupN2, gTupN3, gTupN4, wz_sAsg, kAsg_s, wz_bNil, wz_bCons, kBC_s, kBC2_s, wz_bSlot, kBS_f, kBS_l, kBS_dk, kBS_ll, kBS_tu, kBS_o, kBS2_s, take_nil, take_v, take_s, kTs_f, kTs_l, kTs_dk, kTs_ll, kTs_tu, kTs_o, kTk_s, put_nil, put_v, put_s, wz_fCall, kCl_s, kCl2_s, kIo_t, kCl3_s, ioOk_nil, ioOk_cons, isF_f, cont_nil, cont_cons, conS_nil, conS_cons, wz_fMeth, kMt_s, kMt2_f, wz_fMethV, kMv_o, kMv_f, kMv2_f, kCall_o, kCall_l, kCall_dk, kCall_tu, kCall_ll, kCall_f1, kCall_f2, kCO_s, kCO2_i, kCO2_b, kCO2_s, fzs_nil, fzs_cons, kFs_s, fz_f, fz_l, fz_dk, fz_o, fz_tu, fz_ll, kFo_s, kFt_s, kFl_s, kF2_o, kF2_tu, kF2_ll, kFz2_s, kFz_o, kFz_tu, kFz_ll, kFzR_s, wz_fzR, val_ok, wz_fMake, kMk_s, kMk2_s, wz_mkF, kMk3_t, kMk4_s, wz_oAnd, wz_oOr, kOAnd_t, kOAnd_f, kOOr_f, kOOr_t, wz_sAug, gAddI_i, wz_fGet, kG3_s, gGet_f, gGet_o, gCopy_f, gCopy_o, wz_sClr, kClr_s, clrT_s, gRevL_l, gRevL_o, gVals_f, gVals_o, kNn_ll, kNn_tu, kNn_o, Z.gIx_ll, gIx_tu, gLen_ll, gLen_tu, gLen_dk, gLen_df, kRun_rt, kRun_nx, outs_nil, outs_cons, kOut_t, kOut_f, last_n, last_g, last_s, cast1, cast2, cast3, cast4, cast5, cast6, cast7, cast8, cast9, cast10, cast11, cast12, wz_sWhile, kW1_f, kW1_t, kW2_nx, kW2_ct, kW2_bk, kW2_rt, gDictOf_f, gDictOf_o, wz_fTix, kTix_s, kNoX_nx, kNoX_rt, wz_sForK, kForK_s, wz_fE2, kE2_s, wz_sSetIxE, kSE_s, kSE2_s, kSE3_l, kSE4_s, wz_bAl, kAl_dk, kAl2_s, take_a, put_a, wz_fCallA, kCA_do, isF_un, wz_fD0, wz_mCopy, kCp_f, kCp_o, nn_dix, wz_fNewX, gLenZ_k, wz_sSetX, kSX_s, gListX_l, gListX_t, gListX_d, gIx_nst, gLen_nst, gIsi_nst, gIsNn_nst, kCall_f3, kIt_nst, kJV_nst, kTp_s, kLs_s, kNl_s, kDisp_s, gCat_l, gCat_s, oval_rt', oval_nx', gMod_ok, Sum.inr.injEq, Sum.inl.injEq, reduceCtorEq, String.reduceEq, reduceIte, gAdd_i, gSub_i, gBAnd_i, gBOr_i, gBXor_i, gLt_i, gLe_i, gGt_i, gGe_i, gEq_i, gEq_s, gEq_b, gEq_is, gEq_si, gNe_i, gNe_s, gNe_b, gNe_is, gNe_si, gNeg_i, gInt1_i, gInt1_b, gMax2_i, gMin2_i, gLen_l, gLen_t, gLen_o, List.getElem?_cons_zero, List.getElem?_cons_succ, List.set_cons_zero, List.set_cons_succ, List.length_cons, List.length_nil, List.map_cons, List.map_nil, List.cons_append, List.nil_append, List.replicate, List.length_map, Nat.zero_add, Nat.reduceAdd, Nat.reduceSub, Nat.reduceLeDiff, Nat.reduceEqDiff, Bool.not_true, Bool.not_false, Bool.not_not, if_true, if_false, Bool.false_eq_true, decide_true, decide_false, eq_self, Int.reduceLT, Int.reduceLE, Int.reduceEq, Int.reduceToNat, Int.reduceAdd, Int.reduceSub, Int.toNat_natCast, Bool.true_xor, Bool.true_and, Bool.and_true, Bool.false_and, Bool.and_false, Bool.true_or, Bool.or_true, Bool.false_or, Bool.or_false, Bool.false_xor, Bool.xor_false, Bool.xor_true, not_true, not_false])
local macro_rules | `(tactic| walk_at "W") => `(tactic| simp -implicitDefEqProofs (disch := (first | omega | ((try simp only [List.length_cons, List.length_nil, List.length_map, List.length_append, List.length_range, List.length_take, List.length_set, List.length_reverse, enumD_len]) <;> omega) | fail)) only [wz_var, nn_f, nn_l, nn_dk, nn_ll, nn_tu, nn_o, wz_mv, mvK_f, mvK_l, mvK_dk, mvK_ll, mvK_tu, mvK_o, wz_f1, k1_s, wz_f2, k2_s, wz_fN, kN_s, wz_fC, wz_aNil, wz_aCons, kCons_s, wz_fT, kT_s, wz_tAnd, wz_tOr, wz_tNot, kAnd_t, kAnd_f, kOr_t, kOr_f, kNot_s, wz_fIf, kIf_t, kIf_f, wz_fAnd, wz_fOr, kBl_s, wz_fNot, wz_lift, kLift_s, wz_fFz, kFz_f, kFz_l, kFz_dk, wz_sNil, wz_sSeq, kSeq_nx, kSeq_rt, kSeq_bk, kSeq_ct, kSeq_xc, wz_sSet, kSet_s, wz_sExpr, kEx_s, wz_sRet, kRet_s, wz_sRetN, wz_sBk, wz_sCt, wz_liftB, kLiB_s, wz_oTest, kTst_s, wz_oNot, kONot_s, wz_sIf, kIfS_t, kIfS_f, kIfS_d, kV_s, wz_fCallV, kCall_0, kCall_1, kCall_2, kCall_3, kCall_4, kCall_5, kCall_6, kCall_7, wz_fDispD, wz_pNil, wz_pCons, kPair_s, kPair_i, wz_fNewL, kNl'_s, wz_fNewD, wz_sFor, kFor_s, for_nil, for_cons, kTgt_s, kBody_nx, kBody_ct, kBody_bk, kBody_rt, kBody_xc, wz_iVal, kIt_l, kIt_t, kIt_s, wz_iL1, kI1_s, wz_iL2, kI2_s, wz_iR1, kR1_s, wz_iR2, kR2_s, wz_gSet, wz_gsNil, wz_gsCons, kGs_s, deep_nil, deep_f, kDc_s, wz_gTup, wz_gLst, gSl_l, gSl_o, wz_sl00, wz_sl10, wz_sl01, wz_sl11, kS00_s, kS10_s, kS01_s, kS11_s, wz_fIsi, gIsi_ii, gIsi_ib, gIsi_ll, gIsi_lo, gIsi_tt, gIsi_ss, gIsi_bb, gIsi_dd, dec01, str_inj, gDiv_o, gMul_o, gShl_o, gShr_o, kVT_s, gIx_lst, gIx_own, gIx_tup, gIx_dct, gIx_dcti, gIx_odct, gIx_odcti, atI_pos, atI_neg, gTupT1, gTupT2, gTupT3, gTupT4, gTupT5, gIsNn_i, gIsNn_s, gIsNn_b, gIsNn_n, gIsNn_l, gIsNn_t, gIsNn_d, gIsNn_o, gIsNn_od, wz_fIsN, wz_fChain, kChain_s, kCh1_t, kCh1_f, kTurn_s, okW_nil, okW_cons, okV_n, okV_u, okV_f, wipeR_nil, wipeR_cons, wz_fLc, kLcB_t, kLc_s, lcF_nil, lcF_cons, kL1_s, kL2_t, kL2_f, kL2_d, kL3_s, tYes_s, wz_lcT, wz_jVal, kJV_l, kJV_t, kJV_s, wz_jL1, kJ1_s, wz_jL2, kJ2_s, wz_jR1, kJR1_s, wz_jR2, kJR2_s, wz_pHere, kMu_s, mutF_here, kNx_s, wz_sApp, kApp_s, appT_l, wz_sSetIx, kSI_s, setT_l, setT_ds, setT_di, wz_fzS, kF2_u, kF2_f, kF2_l, kF2_d, wz_sFz, kFS_s, gIn_ss, gIn_ii, gNotIn_ss, gNotIn_ii, gEq_sn, gEq_ns, gEq_in, gEq_ni, gEq_nn, gNe_sn, gNe_ns, gNe_in, gNe_ni, gNe_nn, gSum_l, gList_l, gList_t, gTuple_l, gTuple_t, atN_nil, atN_cons, atD_nil, atD_cons, setN_cons, sub_o, sub_l, sub_t, upd_o, upd_l, upd_t, getP_nil, getP_cons, kGp_s, putP_nil, putP_cons, kPp_s, kNn_f, kNn_l, kNn_dk, gAtt_f, gAtt_o, wz_pAt, kPA_s, kPA2_s, kPA3_s, wz_pIx, kPI_s, kPI2_l, kPI2_t, kPI3_s, kPI4_s, ixN_pos, ixN_neg, mutF_at, kM1_s, kM2_s, wz_sAtt, kSAt_s, attT_o, kAt_n, kAt_f, wz_sAttM, kSAM_s, kSAM2_s, attM_o, kAM_n, wz_sAttAug, kAG_s, kAG2_s, kAG5_s, wz_mE, kME_s, wz_mP, kMP_s, wz_mV, kMV_f, kMV_l, kMV_dk, kMV_ll, kMV_tu, kMV_o, wz_msNil, wz_msCons, kMs_s, kMs2_s, wz_mTup, wz_mLst, kMTup_s, kMLst_s, wz_mNew, kMN_s, kMN2_s, wz_mNewD, wz_mPart, kMPt_s, kMPt2_s, kMPt3_l, kMPt3_d, wz_mCall, kMC_s, kMC2_s, kMC3_s, wz_mCat, kMCa_s, kMCa2_s, gCatO_ol, gCatO_ll, gCatO_lo, gCat_ol, gCat_lo, gCat_oo, wz_mLc, kMLc_s, wz_sAppM, kAM1_s, kAM2_l, kAM2_ll, kAM3_s, appM_ll, wz_fPop, kPop_s, kPop2_s, kPop3_s, kPop4_s, popT_l, popT_tu, popT_lf, gTupM2, gTupM3, gTupM4, gTupN2, gTupN3, gTupN4, wz_sAsg, kAsg_s, wz_bNil, wz_bCons, kBC_s, kBC2_s, wz_bSlot, kBS_f, kBS_l, kBS_dk, kBS_ll, kBS_tu, kBS_o, kBS2_s, take_nil, take_v, take_s, kTs_f, kTs_l, kTs_dk, kTs_ll, kTs_tu, kTs_o, kTk_s, put_nil, put_v, put_s, wz_fCall, kCl_s, kCl2_s, kIo_t, kCl3_s, ioOk_nil, ioOk_cons, isF_f, cont_nil, cont_cons, conS_nil, conS_cons, wz_fMeth, kMt_s, kMt2_f, wz_fMethV, kMv_o, kMv_f, kMv2_f, kCall_o, kCall_l, kCall_dk, kCall_tu, kCall_ll, kCall_f1, kCall_f2, kCO_s, kCO2_i, kCO2_b, kCO2_s, fzs_nil, fzs_cons, kFs_s, fz_f, fz_l, fz_dk, fz_o, fz_tu, fz_ll, kFo_s, kFt_s, kFl_s, kF2_o, kF2_tu, kF2_ll, kFz2_s, kFz_o, kFz_tu, kFz_ll, kFzR_s, wz_fzR, val_ok, wz_fMake, kMk_s, kMk2_s, wz_mkF, kMk3_t, kMk4_s, wz_oAnd, wz_oOr, kOAnd_t, kOAnd_f, kOOr_f, kOOr_t, wz_sAug, gAddI_i, wz_fGet, kG3_s, gGet_f, gGet_o, gCopy_f, gCopy_o, wz_sClr, kClr_s, clrT_s, gRevL_l, gRevL_o, gVals_f, gVals_o, kNn_ll, kNn_tu, kNn_o, Z.gIx_ll, gIx_tu, gLen_ll, gLen_tu, gLen_dk, gLen_df, kRun_rt, kRun_nx, outs_nil, outs_cons, kOut_t, kOut_f, last_n, last_g, last_s, cast1, cast2, cast3, cast4, cast5, cast6, cast7, cast8, cast9, cast10, cast11, cast12, wz_sWhile, kW1_f, kW1_t, kW2_nx, kW2_ct, kW2_bk, kW2_rt, gDictOf_f, gDictOf_o, wz_fTix, kTix_s, kNoX_nx, kNoX_rt, wz_sForK, kForK_s, wz_fE2, kE2_s, wz_sSetIxE, kSE_s, kSE2_s, kSE3_l, kSE4_s, wz_bAl, kAl_dk, kAl2_s, take_a, put_a, wz_fCallA, kCA_do, isF_un, wz_fD0, wz_mCopy, kCp_f, kCp_o, nn_dix, wz_fNewX, gLenZ_k, wz_sSetX, kSX_s, gListX_l, gListX_t, gListX_d, gIx_nst, gLen_nst, gIsi_nst, gIsNn_nst, kCall_f3, kIt_nst, kJV_nst, kTp_s, kLs_s, kNl_s, kDisp_s, gCat_l, gCat_s, oval_rt', oval_nx', gMod_ok, Sum.inr.injEq, Sum.inl.injEq, reduceCtorEq, String.reduceEq, reduceIte, gAdd_i, gSub_i, gBAnd_i, gBOr_i, gBXor_i, gLt_i, gLe_i, gGt_i, gGe_i, gEq_i, gEq_s, gEq_b, gEq_is, gEq_si, gNe_i, gNe_s, gNe_b, gNe_is, gNe_si, gNeg_i, gInt1_i, gInt1_b, gMax2_i, gMin2_i, gLen_l, gLen_t, gLen_o, List.getElem?_cons_zero, List.getElem?_cons_succ, List.set_cons_zero, List.set_cons_succ, List.length_cons, List.length_nil, List.map_cons, List.map_nil, List.cons_append, List.nil_append, List.replicate, List.length_map, Nat.zero_add, Nat.reduceAdd, Nat.reduceSub, Nat.reduceLeDiff, Nat.reduceEqDiff, Bool.not_true, Bool.not_false, Bool.not_not, if_true, if_false, Bool.false_eq_true, decide_true, decide_false, eq_self, Int.reduceLT, Int.reduceLE, Int.reduceEq, Int.reduceToNat, Int.reduceAdd, Int.reduceSub, Int.toNat_natCast, Bool.true_xor, Bool.true_and, Bool.and_true, Bool.false_and, Bool.and_false, Bool.true_or, Bool.or_true, Bool.false_or, Bool.or_false, Bool.false_xor, Bool.xor_false, Bool.xor_true, not_true, not_false, *])
/-! boxes -/
def upd (f : Str → Int) (x : Str) (v : Int) : Str → Int := fun y => if y = x then v else f y
def bK (ks : List Str) : List Key := ks.map .inr
def bD (ks : List Str) (f : Str → Int) : List D := ks.map fun x => .int (f x)
theorem bK_len {ks : List Str} : (bK ks).length = ks.length := List.length_map _
theorem bD_at {f : Str → Int} {x : Str} : ∀ {ks : List Str}, x ∈ ks → dAt (bK ks) (bD ks f) (.inr x) = some (.int (f x))
  | [], h => by cases h
  | k :: ks, h => by
    show (if (Sum.inr k : Key) = .inr x then some (D.int (f k)) else dAt (bK ks) (bD ks f) (.inr x)) = _
    by_cases q : k = x
    · subst q; rw [if_pos rfl]
    · rw [if_neg (fun z => q (Sum.inr.inj z)), bD_at ((List.mem_cons.mp h).resolve_left (fun z => q z.symm))]
theorem bD_no {f : Str → Int} {x : Str} : ∀ {ks : List Str}, x ∉ ks → dAt (bK ks) (bD ks f) (.inr x) = none
  | [], _ => rfl
  | k :: ks, h => by
    show (if (Sum.inr k : Key) = .inr x then some (D.int (f k)) else dAt (bK ks) (bD ks f) (.inr x)) = _
    rw [if_neg (fun z => h (by rw [Sum.inr.inj z]; exact List.mem_cons_self)), bD_no (fun z => h (List.mem_cons_of_mem _ z))]
theorem bK_any {x : Str} : ∀ {ks : List Str}, ((bK ks).any fun q => decide (q = .inr x)) = decide (x ∈ ks)
  | [] => rfl
  | k :: ks => by
    show (decide ((Sum.inr k : Key) = .inr x) || ((bK ks).any fun q => decide (q = .inr x))) = _
    rw [bK_any]
    by_cases q : k = x
    · subst q; simp
    · rw [decide_eq_false (fun z => q (Sum.inr.inj z)), Bool.false_or]
      by_cases q2 : x ∈ ks
      · rw [decide_eq_true q2, decide_eq_true (List.mem_cons_of_mem _ q2)]
      · rw [decide_eq_false q2, decide_eq_false (fun z => (List.mem_cons.mp z).elim (fun z => q z.symm) q2)]
theorem bD_zip {f : Str → Int} {x : Str} {v : Int} : ∀ {ks : List Str}, List.zipWith (fun q e => if q = (.inr x : Key) then .int v else e) (bK ks) (bD ks f) = bD ks (upd f x v)
  | [] => rfl
  | k :: ks => by
    show (if (Sum.inr k : Key) = .inr x then D.int v else .int (f k)) :: List.zipWith _ (bK ks) (bD ks f) = .int (upd f x v k) :: bD ks (upd f x v)
    rw [bD_zip]
    unfold upd
    by_cases q : k = x
    · subst q; rw [if_pos rfl, if_pos rfl]
    · rw [if_neg (fun z => q (Sum.inr.inj z)), if_neg q]
theorem bD_upd {f : Str → Int} {x : Str} {v : Int} {ks : List Str} (h : x ∉ ks) : bD ks (upd f x v) = bD ks f := by
  unfold bD
  refine List.map_congr_left fun y hy => ?_
  unfold upd
  rw [if_neg (fun z => h (by rw [← z]; exact hy))]
/-- the keys behind a store -/
def kput (ks : List Str) (x : Str) : List Str := if x ∈ ks then ks else ks ++ [x]
theorem kput_mem {ks : List Str} {x : Str} (h : x ∈ ks) : kput ks x = ks := if_pos h
theorem kput_len {ks : List Str} {x : Str} : (kput ks x).length ≤ ks.length + 1 := by
  unfold kput
  split
  · omega
  · rw [List.length_append]; exact Nat.le_refl _
theorem kput_nd {ks : List Str} {x : Str} (h : ks.Nodup) : (kput ks x).Nodup := by
  unfold kput
  split
  · exact h
  · rename_i q
    exact List.nodup_append.mpr ⟨h, by simp, fun a ha b hb => by
      rw [List.mem_singleton.mp hb]
      rintro rfl
      exact q ha⟩
theorem kput_in {ks : List Str} {x y : Str} : y ∈ kput ks x ↔ y ∈ ks ∨ y = x := by
  unfold kput
  split
  · rename_i q
    exact ⟨.inl, fun h => h.elim id (fun z => by rw [z]; exact q)⟩
  · simp
theorem bput {f : Str → Int} {x : Str} {v : Int} {ks : List Str} : dput (bK ks) (bD ks f) (.inr x) (.int v) = (bK (kput ks x), bD (kput ks x) (upd f x v)) := by
  unfold dput kput
  rw [bK_any]
  by_cases q : x ∈ ks
  · rw [if_pos (decide_eq_true q), if_pos q, bD_zip]
  · rw [if_neg (by rw [decide_eq_false q]; simp), if_neg q]
    unfold bK
    have h1 : bD (ks ++ [x]) (upd f x v) = bD ks f ++ [.int v] := by
      have h2 : bD (ks ++ [x]) (upd f x v) = bD ks (upd f x v) ++ [.int (upd f x v x)] := by unfold bD; rw [List.map_append]; rfl
      rw [h2, bD_upd q]
      unfold upd
      rw [if_pos rfl]
    rw [h1, List.map_append]
    rfl
theorem bput1 {f : Str → Int} {x : Str} {v : Int} {ks : List Str} : (dput (bK ks) (bD ks f) (.inr x) (.int v)).1 = bK (kput ks x) := by rw [bput]
theorem bput2 {f : Str → Int} {x : Str} {v : Int} {ks : List Str} : (dput (bK ks) (bD ks f) (.inr x) (.int v)).2 = bD (kput ks x) (upd f x v) := by rw [bput]
theorem upd_self {f : Str → Int} {x : Str} : upd f x (f x) = f := by
  funext y
  unfold upd
  split
  · rename_i h; rw [h]
  · rfl
def ded (l : List Str) : List Str := l.foldl kput []
theorem ded_snoc {l : List Str} {x : Str} : ded (l ++ [x]) = kput (ded l) x := by unfold ded; rw [List.foldl_append]; rfl
theorem ded_aux {x : Str} : ∀ (l ks : List Str), x ∈ l.foldl kput ks ↔ x ∈ ks ∨ x ∈ l
  | [], ks => by simp
  | y :: l, ks => by
    rw [List.foldl_cons, ded_aux l, kput_in, List.mem_cons]
    constructor
    · rintro ((h | h) | h)
      · exact .inl h
      · exact .inr (.inl h)
      · exact .inr (.inr h)
    · rintro (h | h | h)
      · exact .inl (.inl h)
      · exact .inl (.inr h)
      · exact .inr h
theorem ded_in {x : Str} {l : List Str} : x ∈ ded l ↔ x ∈ l := by unfold ded; rw [ded_aux]; simp
theorem ded_len : ∀ (l ks : List Str), (l.foldl kput ks).length ≤ ks.length + l.length
  | [], _ => Nat.le_refl _
  | y :: l, ks => by
    rw [List.foldl_cons, List.length_cons]
    have := ded_len l (kput ks y)
    have := kput_len (ks := ks) (x := y)
    omega
theorem ded_nd : ∀ (l ks : List Str), ks.Nodup → (l.foldl kput ks).Nodup
  | [], _, h => h
  | y :: l, ks, h => by rw [List.foldl_cons]; exact ded_nd l _ (kput_nd h)
theorem take_snoc {α : Type} {l : List α} {i : Nat} {a : α} (h : l[i]? = some a) : l.take (i + 1) = l.take i ++ [a] := by
  rw [List.take_succ, h]
  rfl
/-- the words at the beginning -/
def f0 (ins : List Str) (g : Str → Int) : Str → Int := fun y => if y ∈ ins then g y else 0
theorem f0_snoc {l : List Str} {g : Str → Int} {a : Str} : upd (f0 l g) a (g a) = f0 (l ++ [a]) g := by
  funext y
  unfold upd f0
  by_cases h : y = a
  · subst h
    rw [if_pos rfl, if_pos (by simp)]
  · rw [if_neg h]
    by_cases q : y ∈ l
    · rw [if_pos q, if_pos (List.mem_append_left _ q)]
    · rw [if_neg q, if_neg (fun z => (List.mem_append.mp z).elim q (fun z => h (List.mem_singleton.mp z)))]
theorem get_f0 {ins : List Str} {g : Str → Int} {x : Str} : (dAt (bK (ded ins)) (bD (ded ins) g) (.inr x)).getD (.int 0) = .int (f0 ins g x) := by
  unfold f0
  by_cases h : x ∈ ins
  · rw [bD_at (ded_in.mpr h), if_pos h]; rfl
  · rw [bD_no (fun z => h (ded_in.mp z)), if_neg h]; rfl
theorem ded_le {l : List Str} {k : Nat} (h : l.length ≤ k) : (ded l).length ≤ k := by
  have := ded_len l []
  unfold ded
  simp only [List.length_nil, Nat.zero_add] at this
  omega
theorem dk_refl {ks : List Str} {f : Str → Int} : ∀ l : List Str, (∀ x ∈ l, x ∈ ks) → dkSub (bK ks) (bD ks f) (bK l) (bD l f) = true
  | [], _ => rfl
  | x :: l, h => by
    show ((match (T.f (.int (f x))).v?, (dAt (bK ks) (bD ks f) (.inr x)).bind fun y => (T.f y).v? with | some v, some w => decide (v = w) | _, _ => false) && dkSub (bK ks) (bD ks f) (bK l) (bD l f)) = true
    rw [bD_at (h x List.mem_cons_self), dk_refl l fun y hy => h y (List.mem_cons_of_mem _ hy), Bool.and_true]
    show decide (V.int (f x) = V.int (f x)) = true
    exact decide_eq_true rfl
theorem gEqX_dk {ks : List Str} {f : Str → Int} : gEqX (.f (.dct (bK ks) (bD ks f))) (.f (.dct (bK ks) (bD ks f))) = some (.f (.bl true)) := by
  unfold gEqX
  rw [or2_none rfl]
  exact if_pos ⟨rfl, dk_refl ks fun _ h => h⟩
theorem gNeX_dk {ks : List Str} {f : Str → Int} : gNeX (.f (.dct (bK ks) (bD ks f))) (.f (.dct (bK ks) (bD ks f))) = some (.f (.bl false)) := by
  unfold gNeX
  rw [or2_none rfl]
  exact if_pos ⟨rfl, dk_refl ks fun _ h => h⟩
/-! the script's numbers -/
theorem lcF_app1 {fg : T → List T → Option (List T)} {ft : List T → Option Bool} {fe : List T → Option T} {ρ : List T} {d e : D} {ds es : List D} (h1 : lcT fg ft fe ρ d = some [e]) (h2 : lcF fg ft fe ρ ds = some es) : lcF fg ft fe ρ (d :: ds) = some (e :: es) := by
  have h := lcF_of (fg := fg) (ft := ft) (fe := fe) (ρ := ρ) (φ := fun _ : Unit => d) (G := fun _ => [e]) (as := [()]) fun _ _ => h1
  rw [lcF_cons, h2]
  have h' : kL1 ft fe (some []) (fg (.f d) ρ) = some [e] := h
  cases e1 : fg (.f d) ρ with
  | none => rw [e1] at h'; cases h'
  | some ρ1 =>
    rw [e1, kL1_s] at h'
    rw [kL1_s]
    cases e2 : ft ρ1 with
    | none => rw [e2] at h'; cases h'
    | some b =>
      rw [e2] at h'
      cases b with
      | false => cases h'
      | true =>
        rw [kL2_t] at h' ⊢
        cases e3 : fe ρ1 with
        | none => rw [e3] at h'; cases h'
        | some t =>
          rw [e3] at h'
          unfold kL3 at h' ⊢
          obtain ⟨x, hx, h3⟩ := Option.bind_eq_some_iff.mp h'
          obtain ⟨y, hy, h4⟩ := Option.bind_eq_some_iff.mp h3
          cases hx
          have h5 : y :: [] = [e] := Option.some.inj h4
          cases h5
          rw [Option.bind_some, hy]
          rfl
theorem lc_ex {fg : T → List T → Option (List T)} {ft : List T → Option Bool} {fe : List T → Option T} {ρ : List T} {P : D → Prop} : ∀ {ds : List D}, (∀ d ∈ ds, ∃ e, P e ∧ lcT fg ft fe ρ d = some [e]) → ∃ es, es.length = ds.length ∧ (∀ e ∈ es, P e) ∧ lcF fg ft fe ρ ds = some es
  | [], _ => ⟨[], rfl, fun e h => absurd h List.not_mem_nil, rfl⟩
  | d :: ds, h => by
    obtain ⟨e, h1, h2⟩ := h d List.mem_cons_self
    obtain ⟨es, h3, h4, h5⟩ := lc_ex (ds := ds) fun x hx => h x (List.mem_cons_of_mem _ hx)
    refine ⟨e :: es, by rw [List.length_cons, List.length_cons, h3], fun x hx => ?_, ?_⟩
    · rcases List.mem_cons.mp hx with z | z
      · rw [z]; exact h1
      · exact h4 x z
    · have h6 := lcF_app1 h2 h5
      exact h6
theorem lc_map {fg : T → List T → Option (List T)} {ft : List T → Option Bool} {fe : List T → Option T} {ρ : List T} {α : Type} {φ F : α → D} {as : List α} (h : ∀ a ∈ as, lcT fg ft fe ρ (φ a) = some [F a]) : lcF fg ft fe ρ (as.map φ) = some (as.map F) := by
  rw [lcF_of (G := fun a => [F a]) h]
  congr 1
  clear h
  induction as with
  | nil => rfl
  | cons a as ih => rw [List.flatMap_cons, ih]; rfl
theorem rangeD_map {n : Nat} : rangeD 0 n = (List.range n).map fun i : Nat => D.int (i : Int) := by
  unfold rangeD
  exact List.map_congr_left fun i _ => by rw [Int.zero_add]
theorem lc_range {fg : T → List T → Option (List T)} {ft : List T → Option Bool} {fe : List T → Option T} {ρ : List T} {n : Nat} {F : Nat → D} (h : ∀ i, i < n → lcT fg ft fe ρ (.int (i : Int)) = some [F i]) : lcF fg ft fe ρ (rangeD 0 n) = some ((List.range n).map F) := by
  rw [rangeD_map]
  exact lc_map fun i hi => h i (List.mem_range.mp hi)
theorem log2_bits {z : Int} (h : Builtin.Int.intBits z ≤ 1048576) : z.natAbs.log2 ≤ 1048576 := by
  unfold Builtin.Int.intBits at h
  split at h
  · rename_i h0
    have : z = 0 := by simpa using h0
    subst this
    simp
  · omega
def cell (ns : List Int) (k : Nat) : Int := (ns[k]?).getD 0
theorem cell_bits {ns : List Int} (hb : ∀ z ∈ ns, Builtin.Int.intBits z ≤ 1048576) (k : Nat) : Builtin.Int.intBits (cell ns k) ≤ 1048576 := by
  unfold cell
  cases h : ns[k]? with
  | none => decide
  | some z => exact hb z (List.mem_of_getElem? h)
theorem at_ok {ns : List Int} {k : Nat} : val (g_law_at [.f (.lst (ns.map .int)), .f (.int (k : Int))]) = some (.int (cell ns k)) := by
  have hv : val (g_law_at [.f (.lst (ns.map .int)), .f (.int (k : Int))]) = oval (b_law_at ([.f (.lst (ns.map .int)), .f (.int (k : Int))] ++ List.replicate (2 - 2) .un)) 2 := val_run (m := 2) (n := 2) rfl
  rw [hv]
  clear hv
  unfold b_law_at cell
  by_cases h : k < ns.length
  · have h1 : ((k : Int) < (ns.length : Int)) = True := eq_true (by omega)
    have h2 : (ns.map D.int)[k]? = some (.int ns[k]) := at_map (List.getElem?_eq_getElem h)
    have h3 : ns[k]? = some ns[k] := List.getElem?_eq_getElem h
    rw [h3, Option.getD_some]
    clear h3
    generalize ns[k] = z at *
    clear h
    walk_at "W"
  · have h1 : ((k : Int) < (ns.length : Int)) = False := eq_false (by omega)
    rw [List.getElem?_eq_none (by omega), Option.getD_none]
    clear h
    walk_at "W"
theorem whole_ok (i : Int) : val (g_law_whole [.f (.int i)]) = some (.bl true) := by
  have hv : val (g_law_whole [.f (.int i)]) = oval (b_law_whole ([.f (.int i)] ++ List.replicate (1 - 1) .un)) 1 := val_run (m := 1) (n := 1) rfl
  rw [hv]
  unfold b_law_whole
  walk_at "w"
theorem mixed_ok {c k : Int} (hb : Builtin.Int.intBits c ≤ 1048576) (h0 : 0 ≤ k) (h1 : k < 1000) : ∃ m : Int, 0 ≤ m ∧ m < 2 ^ 31 ∧ val (g_law_mixed [.f (.int c), .f (.int k)]) = some (.int m) := by
  have hv : val (g_law_mixed [.f (.int c), .f (.int k)]) = oval (b_law_mixed ([.f (.int c), .f (.int k)] ++ List.replicate (3 - 2) .un)) 2 := val_run (m := 2) (n := 3) rfl
  rw [hv]
  clear hv
  unfold b_law_mixed
  have e40 : gPow (.f (.int 10)) (.f (.int 40)) = some (.f (.int (10 ^ 40))) := gPow_ok (by decide) (by decide) (by decide)
  have hk60 : 0 ≤ k % 60 ∧ k % 60 < 60 := ⟨Int.emod_nonneg _ (by decide), Int.emod_lt_of_pos _ (by decide)⟩
  by_cases hc : (10 : Int) ^ 40 ≤ c
  · have hp : (0 : Int) < 2 ^ (31 * (k % 60)).toNat := Int.pow_pos (by decide)
    have e5 : gDiv (.f (.int (c - 10 ^ 40))) (.f (.int (2 ^ (31 * (k % 60)).toNat))) = some (.f (.int ((c - 10 ^ 40) / (2 ^ (31 * (k % 60)).toNat)))) := gDiv_ok hp (by
      rw [Int.natAbs_pow]
      exact Nat.pow_lt_pow_right (by decide) (by omega))
    have e6 := gMod_ok (i := (c - 10 ^ 40) / (2 ^ (31 * (k % 60)).toNat)) (j := 2 ^ (31 : Int).toNat) (by decide)
    refine ⟨((c - 10 ^ 40) / (2 ^ (31 * (k % 60)).toNat)) % (2 ^ (31 : Int).toNat), Int.emod_nonneg _ (by decide), Int.emod_lt_of_pos _ (by decide), ?_⟩
    have hcd := decide_eq_true hc
    clear hp hb hk60
    walk_at "W"
  · have hl := log2_bits hb
    have m1 : gMul (.f (.int c)) (.f (.int 1103515245)) = some (.f (.int (c * 1103515245))) := gMul_ok (by
      have a : (1103515245 : Int).natAbs.log2 < 32 := by decide
      omega)
    have m2 : gMul (.f (.int 7919)) (.f (.int k)) = some (.f (.int (7919 * k))) := gMul_o (by omega) (by omega) (by omega) (by omega)
    have m3 : gMul (.f (.int (7919 * k))) (.f (.int k)) = some (.f (.int (7919 * k * k))) := gMul_o (by omega) (by omega) (by omega) (by omega)
    generalize hn : (c * 1103515245 + 7919 * k * k + k) % 2147483647 = n
    have hn0 : 0 ≤ n := by rw [← hn]; exact Int.emod_nonneg _ (by decide)
    have hn1 : n < 2147483647 := by rw [← hn]; exact Int.emod_lt_of_pos _ (by decide)
    have m4 : gMul (.f (.int n)) (.f (.int n)) = some (.f (.int (n * n))) := gMul_o (by omega) (by omega) (by omega) (by omega)
    generalize hq : n * n % 2147483629 = q
    have hq0 : 0 ≤ q := by rw [← hq]; exact Int.emod_nonneg _ (by decide)
    have hq1 : q < 2147483629 := by rw [← hq]; exact Int.emod_lt_of_pos _ (by decide)
    have m5 : gMul (.f (.int q)) (.f (.int 69621)) = some (.f (.int (q * 69621))) := gMul_o (by omega) (by omega) (by omega) (by omega)
    have m6 := gMod_ok (i := c * 1103515245 + 7919 * k * k + k) (j := 2147483647) (by decide)
    rw [hn] at m6
    have m7 := gMod_ok (i := n * n) (j := 2147483629) (by decide)
    rw [hq] at m7
    refine ⟨q * 69621 % 2147483587, Int.emod_nonneg _ (by decide), Int.lt_trans (Int.emod_lt_of_pos _ (by decide)) (by decide), ?_⟩
    have hcd := decide_eq_false hc
    clear hc hn hq hl hb hk60 hn0 hn1 hq0 hq1 h0 h1
    walk_at "W"
/-! what is drawn -/
theorem strOk_app {x y : Str} (h1 : PyData.strOk x = true) (h2 : PyData.strOk y = true) : PyData.strOk (x ++ y) = true := by
  show (x.cps ++ y.cps).all (· < 0x110000) = true
  rw [Array.all_append]
  exact Bool.and_eq_true_iff.mpr ⟨h1, h2⟩
theorem strOk_join {y : Str} (hy : PyData.strOk y = true) : ∀ {xs : List Str}, (∀ x ∈ xs, PyData.strOk x = true) → PyData.strOk (Str.join y xs) = true
  | [], _ => (by decide +kernel : PyData.strOk Str.empty = true)
  | [x], h => h x List.mem_cons_self
  | x :: z :: r, h => by
    show PyData.strOk (x ++ y ++ Str.join y (z :: r)) = true
    exact strOk_app (strOk_app (h x List.mem_cons_self) hy) (strOk_join hy fun q hq => h q (List.mem_cons_of_mem _ hq))
theorem letter_ok {i : Int} (h0 : 0 ≤ i) (h1 : i < 26) : ∃ x : Str, (x.length = 1 ∧ PyData.strOk x = true) ∧ gIx (.f (.str "abcdefghijklmnopqrstuvwxyz")) (.f (.int i)) = some (.f (.str x)) := by
  have hl : ("abcdefghijklmnopqrstuvwxyz" : Str).cps.toList.length = 26 := by decide +kernel
  have hlt : i.toNat < ("abcdefghijklmnopqrstuvwxyz" : Str).cps.toList.length := by rw [hl]; omega
  have e : atI ("abcdefghijklmnopqrstuvwxyz" : Str).cps.toList i = some (("abcdefghijklmnopqrstuvwxyz" : Str).cps.toList[i.toNat]) := by
    rw [atI_pos h0]
    exact List.getElem?_eq_getElem hlt
  have hall : ∀ c ∈ ("abcdefghijklmnopqrstuvwxyz" : Str).cps.toList, c < 0x110000 := by decide +kernel
  have hc := hall _ (List.getElem_mem hlt)
  refine ⟨⟨#[("abcdefghijklmnopqrstuvwxyz" : Str).cps.toList[i.toNat]]⟩, ⟨rfl, ?_⟩, ?_⟩
  · show (#[("abcdefghijklmnopqrstuvwxyz" : Str).cps.toList[i.toNat]] : Array Nat).all (· < 0x110000) = true
    rw [Array.all_eq_true]
    intro j hj
    have hj0 : j = 0 := by simp at hj; omega
    subst hj0
    exact decide_eq_true hc
  unfold gIx
  rw [or2_none rfl]
  refine or2_some ?_
  show (if ("abcdefghijklmnopqrstuvwxyz" : Str).length ≤ sizeLine then (atI ("abcdefghijklmnopqrstuvwxyz" : Str).cps.toList i).map fun c => T.f (.str ⟨#[c]⟩) else none) = _
  rw [if_pos (by decide +kernel), e]
  rfl
theorem strs_ex {P : Str → Prop} : ∀ {es : List D}, (∀ e ∈ es, ∃ x : Str, (x.length = 1 ∧ P x) ∧ e = .str x) → ∃ xs : List Str, es = xs.map .str ∧ (xs.map (·.length)).sum = xs.length ∧ ∀ x ∈ xs, P x
  | [], _ => ⟨[], rfl, rfl, fun x h => absurd h List.not_mem_nil⟩
  | e :: es, h => by
    obtain ⟨x, h1, rfl⟩ := h _ List.mem_cons_self
    obtain ⟨xs, rfl, h2, h3⟩ := strs_ex (es := es) fun y hy => h y (List.mem_cons_of_mem _ hy)
    exact ⟨x :: xs, rfl, by rw [List.map_cons, List.sum_cons, List.length_cons, h1.1, h2]; omega, fun y hy => (List.mem_cons.mp hy).elim (fun z => by rw [z]; exact h1.2) (h3 y)⟩
theorem ints_ex {P : Int → Prop} : ∀ {es : List D}, (∀ e ∈ es, ∃ x : Int, P x ∧ e = .int x) → ∃ xs : List Int, es = xs.map .int ∧ ∀ x ∈ xs, P x
  | [], _ => ⟨[], rfl, fun x h => absurd h List.not_mem_nil⟩
  | e :: es, h => by
    obtain ⟨x, h1, rfl⟩ := h _ List.mem_cons_self
    obtain ⟨xs, rfl, h2⟩ := ints_ex (es := es) fun y hy => h y (List.mem_cons_of_mem _ hy)
    exact ⟨x :: xs, rfl, fun y hy => (List.mem_cons.mp hy).elim (fun z => by rw [z]; exact h1) (h2 y)⟩
theorem mem_rangeD {n : Nat} {d : D} (h : d ∈ rangeD 0 n) : ∃ i : Nat, i < n ∧ d = .int (i : Int) := by
  rw [rangeD_map] at h
  obtain ⟨i, hi, rfl⟩ := List.mem_map.mp h
  exact ⟨i, List.mem_range.mp hi, rfl⟩
theorem law_names_ok {m : Int} {k : Nat} (hm0 : 0 ≤ m) (hm1 : m < 2 ^ 62) (hk : k ≤ 8) : ∃ l : List Str, l.length = k ∧ (∀ x ∈ l, PyData.strOk x = true) ∧ val (g_law_names [.f (.int m), .f (.int (k : Int))]) = some (.lst (l.map .str)) := by
  have hv : val (g_law_names [.f (.int m), .f (.int (k : Int))]) = oval (b_law_names ([.f (.int m), .f (.int (k : Int))] ++ List.replicate (10 - 2) .un)) 2 := val_run (m := 2) (n := 10) rfl
  rw [hv]
  clear hv
  unfold b_law_names
  obtain ⟨n, hn⟩ := Int.eq_ofNat_of_zero_le (show 0 ≤ 1 + m % 6 by omega)
  have hn1 : 1 ≤ n ∧ n ≤ 6 := by omega
  obtain ⟨es, hel, hes, e1⟩ := lc_ex (fg := gSet 8) (ft := tYesF) (fe := m_law_names_3) (ρ := [.f (.int m), .f (.int (k : Int)), .f (.str "abcdefghijklmnopqrstuvwxyz"), .un, .un, .un, .un, .un, .un, .un]) (P := fun e => ∃ x : Int, True ∧ e = .int x) (ds := rangeD 0 n) (by
    intro d hd
    obtain ⟨i, hi, rfl⟩ := mem_rangeD hd
    refine ⟨_, ⟨m / ((i : Int) + 1) % 26, trivial, rfl⟩, ?_⟩
    unfold m_law_names_3
    clear hd hn
    walk_at "W")
  obtain ⟨zs, rfl, -⟩ := ints_ex hes
  have hzl : zs.length = n := by rw [List.length_map, rangeD_len] at hel; exact hel
  clear hel hes
  obtain ⟨pl, hpl, hpl1⟩ : ∃ pl : Int, m / 64 % (n : Int) = pl ∧ 0 ≤ pl := ⟨_, rfl, Int.emod_nonneg _ (by omega)⟩
  obtain ⟨ρ', l1, l, s6, s7, ⟨hl, hlo⟩, rfl⟩ := for_range (fg := gSet 6) (fb := l_law_names_1) (ρ := [.f (.int m), .f (.int (k : Int)), .f (.str "abcdefghijklmnopqrstuvwxyz"), .f (.lst (zs.map .int)), .f (.int pl), .l [], .un, .un, .un, .un]) k
    (fun i ρ => ∃ (l : List Str) (s6 s7 : T), (l.length = i ∧ ∀ x ∈ l, PyData.strOk x = true) ∧ ρ = [.f (.int m), .f (.int (k : Int)), .f (.str "abcdefghijklmnopqrstuvwxyz"), .f (.lst (zs.map .int)), .f (.int pl), .l (l.map .str), s6, s7, .un, .un]) (by
    rintro j ρ hj ⟨l, s6, s7, ⟨hl, hlo⟩, rfl⟩
    obtain ⟨es, hel, hes, e2⟩ := lc_ex (fg := gSet 8) (ft := tYesF) (fe := m_law_names_2) (ρ := [.f (.int m), .f (.int (k : Int)), .f (.str "abcdefghijklmnopqrstuvwxyz"), .f (.lst (zs.map .int)), .f (.int pl), .l (l.map .str), .f (.int (j : Int)), s7, .un, .un]) (P := fun e => ∃ x : Int, True ∧ e = .int x) (ds := rangeD 0 n) (by
      intro d hd
      obtain ⟨i, hi, rfl⟩ := mem_rangeD hd
      have hi2 : i < zs.length := by omega
      have hix : (zs.map D.int)[i]? = some (.int zs[i]) := at_map (List.getElem?_eq_getElem hi2)
      generalize zs[i] = z at hix
      have hmu : gMul (.f (.int (3 * (j : Int)))) (.f (.int (if (i : Int) = pl then 1 else 0))) = some (.f (.int (3 * (j : Int) * (if (i : Int) = pl then 1 else 0)))) := gMul_o (by omega) (by omega) (by split <;> omega) (by split <;> omega)
      refine ⟨_, ⟨z + 3 * (j : Int) * (if (i : Int) = pl then 1 else 0), trivial, rfl⟩, ?_⟩
      unfold m_law_names_2
      clear hd hn e1 hpl hi2 hzl hl hm0 hm1
      walk_at "W")
    obtain ⟨ws, rfl, -⟩ := ints_ex hes
    have hwl : ws.length = n := by rw [List.length_map, rangeD_len] at hel; exact hel
    clear hel hes
    obtain ⟨es, hel, hes, e3⟩ := lc_ex (fg := gSet 9) (ft := tYesF) (fe := m_law_names_1) (ρ := [.f (.int m), .f (.int (k : Int)), .f (.str "abcdefghijklmnopqrstuvwxyz"), .f (.lst (zs.map .int)), .f (.int pl), .l (l.map .str), .f (.int (j : Int)), .f (.lst (ws.map .int)), .un, .un]) (P := fun e => ∃ x : Str, (x.length = 1 ∧ PyData.strOk x = true) ∧ e = .str x) (ds := ws.map .int) (by
      intro d hd
      obtain ⟨z, hz, rfl⟩ := List.mem_map.mp hd
      obtain ⟨y, hy, ey⟩ := letter_ok (i := z % 26) (by omega) (by omega)
      refine ⟨_, ⟨y, hy, rfl⟩, ?_⟩
      unfold m_law_names_1
      clear hd hn e1 e2 hpl hzl hwl hz hl hm0 hm1 hy
      walk_at "W")
    obtain ⟨xs, rfl, hxs, hxo⟩ := strs_ex hes
    have hno : PyData.strOk (Txt.join "" xs) = true := by rw [TL.join_eq]; exact strOk_join (by decide +kernel) hxo
    rw [List.length_map, List.length_map] at hel
    have hj2 := gJoin_l (z := "") (xs := xs) (by
      rw [hxs, show ("" : Str).length = 0 from rfl]
      omega)
    generalize Txt.join "" xs = nm at hj2 hno
    have hll : (l ++ [nm]).length = j + 1 := by simp; omega
    have hlo2 : ∀ x ∈ l ++ [nm], PyData.strOk x = true := fun x hx => (List.mem_append.mp hx).elim (hlo x) fun h => by rw [List.mem_singleton.mp h]; exact hno
    have hl2 : l.length < 1000 := by omega
    have hxl : xs.length ≤ 1000 := by omega
    have hwl2 : ws.length ≤ 1000 := by omega
    have hzl2 : (zs.length : Int) = (n : Int) := by omega
    clear hl hxs hel hwl hpl hn hm0 hm1 e1 hlo hno hxo hes
    unfold l_law_names_1
    apply Wn_of
    case h =>
      walk_at "W"
      rfl
    case hq => exact ⟨l ++ [nm], _, _, ⟨hll, hlo2⟩, by rw [List.map_append]; rfl⟩) ⟨[], _, _, ⟨rfl, fun x h => absurd h List.not_mem_nil⟩, rfl⟩
  have hcut : cutD [D.str "tell", .str "if", .str "end", .str "plus", .str "in", .str "box", .str "while", .str "else"] none (some (k : Int)) = ((["tell", "if", "end", "plus", "in", "box", "while", "else"] : List Str).take k).map .str := by
    rw [cutD_take, List.map_take]
    rfl
  have hw8 : ∀ x ∈ (["tell", "if", "end", "plus", "in", "box", "while", "else"] : List Str), PyData.strOk x = true := by decide +kernel
  by_cases h5 : m / 512 % 4 = 0
  · refine ⟨(["tell", "if", "end", "plus", "in", "box", "while", "else"] : List Str).take k, by rw [List.length_take]; exact Nat.min_eq_left hk, fun x hx => hw8 x (List.mem_of_mem_take hx), ?_⟩
    clear hl hlo hw8
    walk_at "W"
  · refine ⟨l, hl, hlo, ?_⟩
    clear hl hlo hw8
    walk_at "W"
/-! gates and latches -/
inductive Op3 | and | or | xor
def Op3.s : Op3 → Str | .and => "and" | .or => "or" | .xor => "xor"
inductive Gt | inp (x : Str) (b : Nat) | fx (b : Int) | lat (i : Nat) | nt (i : Nat) | bi (o : Op3) (a b : Nat)
def Gt.d : Gt → D
  | .inp x b => .tup [.str "in", .str x, .int b]
  | .fx b => .tup [.str "fix", .int b]
  | .lat i => .tup [.str "latch", .int i]
  | .nt i => .tup [.str "not", .int i]
  | .bi o a b => .tup [.str o.s, .int a, .int b]
def Gt.Ok (ks : List Str) (k m : Nat) : Gt → Prop
  | .inp x b => x ∈ ks ∧ b < 8
  | .fx b => b = 0 ∨ b = 1
  | .lat i => i < m
  | .nt i => i < k
  | .bi _ a b => a < k ∧ b < k
def Op3.v : Op3 → Int → Int → Int
  | .and, x, y => (x + y) / 2
  | .or, x, y => if 1 < x + y then 1 else x + y
  | .xor, x, y => (x + y) % 2
def Gt.v (f : Str → Int) (prev : Option (List Int)) (bits : List Int) : Gt → Int
  | .inp x b => f x / 2 ^ b % 2
  | .fx b => b
  | .lat i => match prev with
    | none => 0
    | some p => p.getD i 0
  | .nt i => 1 - bits.getD i 0
  | .bi o a b => o.v (bits.getD a 0) (bits.getD b 0)
def beat (f : Str → Int) (prev : Option (List Int)) (rows : List Gt) : List Int := rows.foldl (fun bits g => bits ++ [g.v f prev bits]) []
theorem beat_snoc {f : Str → Int} {prev : Option (List Int)} {rows : List Gt} {g : Gt} : beat f prev (rows ++ [g]) = beat f prev rows ++ [g.v f prev (beat f prev rows)] := by
  unfold beat
  rw [List.foldl_append]
  rfl
def Bits (l : List Int) : Prop := ∀ x ∈ l, x = 0 ∨ x = 1
theorem Bits.at {l : List Int} (h : Bits l) (i : Nat) : l.getD i 0 = 0 ∨ l.getD i 0 = 1 := by
  rw [List.getD_eq_getElem?_getD]
  cases e : l[i]? with
  | none => exact .inl rfl
  | some x => exact h x (List.mem_of_getElem? e)
theorem Gt.v_bit {f : Str → Int} {prev : Option (List Int)} {bits : List Int} {ks : List Str} {k m : Nat} {g : Gt} (hg : g.Ok ks k m) (hb : Bits bits) (hp : ∀ p, prev = some p → Bits p) : g.v f prev bits = 0 ∨ g.v f prev bits = 1 := by
  cases g with
  | inp x b =>
    show f x / 2 ^ b % 2 = 0 ∨ f x / 2 ^ b % 2 = 1
    omega
  | fx b => exact hg
  | lat i =>
    cases prev with
    | none => exact .inl rfl
    | some p => exact (hp p rfl).at i
  | nt i =>
    show 1 - bits.getD i 0 = 0 ∨ 1 - bits.getD i 0 = 1
    rcases hb.at i with e | e <;> rw [e] <;> decide
  | bi o a b =>
    show o.v (bits.getD a 0) (bits.getD b 0) = 0 ∨ o.v (bits.getD a 0) (bits.getD b 0) = 1
    rcases hb.at a with e | e <;> rcases hb.at b with e2 | e2 <;> rw [e, e2] <;> cases o <;> decide
def RowsOk (ks : List Str) (rows : List Gt) : Prop := ∀ (k : Nat) g, rows[k]? = some g → g.Ok ks k rows.length
theorem beat_take {f : Str → Int} {prev : Option (List Int)} {rows : List Gt} {i : Nat} {g : Gt} (h : rows[i]? = some g) : beat f prev (rows.take (i + 1)) = beat f prev (rows.take i) ++ [g.v f prev (beat f prev (rows.take i))] := by
  rw [take_snoc h, beat_snoc]
theorem beat_len {f : Str → Int} {prev : Option (List Int)} (rows : List Gt) : (beat f prev rows).length = rows.length := by
  have h : ∀ (l : List Gt) (acc : List Int), (l.foldl (fun bits g => bits ++ [g.v f prev bits]) acc).length = acc.length + l.length := by
    intro l
    induction l with
    | nil => intro acc; rfl
    | cons g l ih => intro acc; rw [List.foldl_cons, ih, List.length_append, List.length_cons, List.length_cons, List.length_nil]; omega
  have := h rows []
  rw [List.length_nil, Nat.zero_add] at this
  exact this
theorem beat_bits {ks : List Str} {f : Str → Int} {prev : Option (List Int)} {rows : List Gt} (hr : RowsOk ks rows) (hp : ∀ p, prev = some p → Bits p) : ∀ i, i ≤ rows.length → Bits (beat f prev (rows.take i))
  | 0, _ => by rw [List.take_zero]; intro x hx; cases hx
  | i + 1, h => by
    have hi : i < rows.length := h
    have e := List.getElem?_eq_getElem hi
    rw [beat_take e]
    intro x hx
    have ih := beat_bits (f := f) hr hp i (by omega)
    rcases List.mem_append.mp hx with z | z
    · exact ih x z
    · rw [List.mem_singleton.mp z]
      exact Gt.v_bit (hr i _ e) ih hp
theorem ba_tab : Builtin.bitAnd 0 0 = 0 ∧ Builtin.bitAnd 0 1 = 0 ∧ Builtin.bitAnd 1 0 = 0 ∧ Builtin.bitAnd 1 1 = 1 := by decide
theorem bo_tab : Builtin.bitOr 0 0 = 0 ∧ Builtin.bitOr 0 1 = 1 ∧ Builtin.bitOr 1 0 = 1 ∧ Builtin.bitOr 1 1 = 1 := by decide
theorem bx_tab : Builtin.bitXor 0 0 = 0 ∧ Builtin.bitXor 0 1 = 1 ∧ Builtin.bitXor 1 0 = 1 ∧ Builtin.bitXor 1 1 = 0 := by decide
theorem gate_bit_ok {ks : List Str} {f : Str → Int} {prev : Option (List Int)} {bits : List Int} {m : Nat} {g : Gt} (hg : g.Ok ks bits.length m) (hn : ∀ i, g ≠ .lat i) (hb : Bits bits) : val (g_gate_bit [.f g.d, .f (.lst (bits.map .int)), .f (.dct (bK ks) (bD ks f))]) = some (.int (g.v f prev bits)) := by
  have hv : val (g_gate_bit [.f g.d, .f (.lst (bits.map .int)), .f (.dct (bK ks) (bD ks f))]) = oval (b_gate_bit ([.f g.d, .f (.lst (bits.map .int)), .f (.dct (bK ks) (bD ks f))] ++ List.replicate (3 - 3) .un)) 3 := val_run (m := 3) (n := 3) rfl
  rw [hv]
  clear hv
  unfold b_gate_bit
  cases g with
  | inp x b =>
    have h1 := bD_at (f := f) hg.1
    have h2 := hg.2
    generalize bK ks = kb at *
    generalize bD ks f = db at *
    generalize bits.map D.int = bd at *
    have mk : Builtin.bitAnd (f x / 2 ^ b) 1 = f x / 2 ^ b % 2 := PySem.W.kbt_mask _ 1
    show oval _ _ = some (.int (f x / 2 ^ b % 2))
    generalize f x = z at *
    unfold Gt.d
    clear hg hn hb
    walk_at "W"
  | fx b =>
    generalize bK ks = kb at *
    generalize bD ks f = db at *
    generalize bits.map D.int = bd at *
    show oval _ _ = some (.int b)
    unfold Gt.d
    clear hg hn hb
    walk_at "W"
  | lat i => exact absurd rfl (hn i)
  | nt i =>
    have h1 : (bits.map D.int)[i]? = some (.int (bits.getD i 0)) := by
      rw [List.getElem?_map, List.getD_eq_getElem?_getD, List.getElem?_eq_getElem hg]
      rfl
    generalize bK ks = kb at *
    generalize bD ks f = db at *
    show oval _ _ = some (.int (1 - bits.getD i 0))
    generalize bits.getD i 0 = z at *
    have hi : (i : Int) < ((bits.map D.int).length : Int) := by rw [List.length_map]; exact Int.ofNat_lt.mpr hg
    generalize bits.map D.int = bd at *
    unfold Gt.d
    clear hg hn hb
    walk_at "W"
  | bi o a b =>
    have h1 : (bits.map D.int)[a]? = some (.int (bits.getD a 0)) := by
      rw [List.getElem?_map, List.getD_eq_getElem?_getD, List.getElem?_eq_getElem hg.1]
      rfl
    have h2 : (bits.map D.int)[b]? = some (.int (bits.getD b 0)) := by
      rw [List.getElem?_map, List.getD_eq_getElem?_getD, List.getElem?_eq_getElem hg.2]
      rfl
    have hx := hb.at a
    have hy := hb.at b
    generalize bK ks = kb at *
    generalize bD ks f = db at *
    show oval _ _ = some (.int (o.v (bits.getD a 0) (bits.getD b 0)))
    generalize bits.getD a 0 = x at *
    generalize bits.getD b 0 = y at *
    have hi : (a : Int) < ((bits.map D.int).length : Int) := by rw [List.length_map]; exact Int.ofNat_lt.mpr hg.1
    have hj : (b : Int) < ((bits.map D.int).length : Int) := by rw [List.length_map]; exact Int.ofNat_lt.mpr hg.2
    generalize bits.map D.int = bd at *
    clear hg hn hb
    obtain ⟨a1, a2, a3, a4⟩ := ba_tab
    obtain ⟨o1, o2, o3, o4⟩ := bo_tab
    obtain ⟨x1, x2, x3, x4⟩ := bx_tab
    unfold Gt.d
    cases o <;> rcases hx with rfl | rfl <;> rcases hy with rfl | rfl <;> unfold Op3.s Op3.v <;> walk_at "W" <;> rfl
theorem law_bit_ok {ks : List Str} {f : Str → Int} {prev : Option (List Int)} {bits : List Int} {m : Nat} {g : Gt} (hg : g.Ok ks bits.length m) (hn : ∀ i, g ≠ .lat i) (hb : Bits bits) : val (g_law_bit [.f g.d, .f (.lst (bits.map .int)), .f (.dct (bK ks) (bD ks f))]) = some (.int (g.v f prev bits)) := by
  have hv : val (g_law_bit [.f g.d, .f (.lst (bits.map .int)), .f (.dct (bK ks) (bD ks f))]) = oval (b_law_bit ([.f g.d, .f (.lst (bits.map .int)), .f (.dct (bK ks) (bD ks f))] ++ List.replicate (4 - 3) .un)) 3 := val_run (m := 3) (n := 4) rfl
  rw [hv]
  clear hv
  unfold b_law_bit
  cases g with
  | inp x b =>
    have h1 := bD_at (f := f) hg.1
    have h2 := hg.2
    generalize bK ks = kb at *
    generalize bD ks f = db at *
    generalize bits.map D.int = bd at *
    show oval _ _ = some (.int (f x / 2 ^ b % 2))
    generalize f x = z at *
    have h3 : gDiv (.f (.int z)) (.f (.int (2 ^ b))) = some (.f (.int (z / 2 ^ b))) := gDiv_o (Int.pow_pos (by decide)) (by
      have : ∀ b, b < 8 → (2 : Int) ^ b ≤ 1000000000000000000000000000000000000000000000000000000000000 := by decide
      exact this b h2)
    unfold Gt.d
    clear hg hn hb
    walk_at "W"
  | fx b =>
    generalize bK ks = kb at *
    generalize bD ks f = db at *
    generalize bits.map D.int = bd at *
    show oval _ _ = some (.int b)
    unfold Gt.d
    clear hg hn hb
    walk_at "W"
  | lat i => exact absurd rfl (hn i)
  | nt i =>
    have h1 : (bits.map D.int)[i]? = some (.int (bits.getD i 0)) := by
      rw [List.getElem?_map, List.getD_eq_getElem?_getD, List.getElem?_eq_getElem hg]
      rfl
    generalize bK ks = kb at *
    generalize bD ks f = db at *
    show oval _ _ = some (.int (1 - bits.getD i 0))
    generalize bits.getD i 0 = z at *
    have hi : (i : Int) < ((bits.map D.int).length : Int) := by rw [List.length_map]; exact Int.ofNat_lt.mpr hg
    generalize bits.map D.int = bd at *
    unfold Gt.d
    clear hg hn hb
    walk_at "W"
  | bi o a b =>
    have h1 : (bits.map D.int)[a]? = some (.int (bits.getD a 0)) := by
      rw [List.getElem?_map, List.getD_eq_getElem?_getD, List.getElem?_eq_getElem hg.1]
      rfl
    have h2 : (bits.map D.int)[b]? = some (.int (bits.getD b 0)) := by
      rw [List.getElem?_map, List.getD_eq_getElem?_getD, List.getElem?_eq_getElem hg.2]
      rfl
    have hx := hb.at a
    have hy := hb.at b
    generalize bK ks = kb at *
    generalize bD ks f = db at *
    show oval _ _ = some (.int (o.v (bits.getD a 0) (bits.getD b 0)))
    generalize bits.getD a 0 = x at *
    generalize bits.getD b 0 = y at *
    have hi : (a : Int) < ((bits.map D.int).length : Int) := by rw [List.length_map]; exact Int.ofNat_lt.mpr hg.1
    have hj : (b : Int) < ((bits.map D.int).length : Int) := by rw [List.length_map]; exact Int.ofNat_lt.mpr hg.2
    generalize bits.map D.int = bd at *
    clear hg hn hb
    unfold Gt.d
    cases o <;> rcases hx with rfl | rfl <;> rcases hy with rfl | rfl <;> unfold Op3.s Op3.v <;> walk_at "W" <;> rfl
/-! a beat -/
def pvD : Option (List Int) → D
  | none => .non
  | some p => .nst (p.map .int)
def wD (f : Str → Int) (ks : List Str) : D := .dct (bK ks) (bD ks f)
def rD (rows : List Gt) : D := .lst (rows.map Gt.d)
structure PvOk (rows : List Gt) (prev : Option (List Int)) : Prop where
  len : ∀ p, prev = some p → p.length = rows.length
  bit : ∀ p, prev = some p → Bits p
theorem beat_told_ok {ks : List Str} {f : Str → Int} {prev : Option (List Int)} {rows : List Gt} (hr : RowsOk ks rows) (hp : PvOk rows prev) (hl : rows.length ≤ 1000) : val (g_beat_told [.f (rD rows), .f (wD f ks), .f (pvD prev)]) = some (.nst ((beat f prev rows).map .int)) := by
  have hv : val (g_beat_told [.f (rD rows), .f (wD f ks), .f (pvD prev)]) = oval (b_beat_told ([.f (rD rows), .f (wD f ks), .f (pvD prev)] ++ List.replicate (5 - 3) .un)) 3 := val_run (m := 3) (n := 5) rfl
  rw [hv]
  clear hv
  obtain ⟨ρ', l1, s4, rfl⟩ := for_map (φ := Gt.d) (fg := gSet 4) (fb := l_beat_told_1) (ρ := [.f (rD rows), .f (wD f ks), .f (pvD prev), .l [], .un]) rows
    (fun i ρ => ∃ s4 : T, ρ = [.f (rD rows), .f (wD f ks), .f (pvD prev), .l ((beat f prev (rows.take i)).map .int), s4]) (by
    rintro i g ρ hg ⟨s4, rfl⟩
    have hi := (List.getElem?_eq_some_iff.mp hg).1
    have hok := hr i g hg
    have hbb := beat_bits (f := f) hr hp.bit i (by omega)
    have hbl : (beat f prev (rows.take i)).length = i := by rw [beat_len, List.length_take]; omega
    rw [beat_take hg]
    generalize beat f prev (rows.take i) = bits at *
    rw [List.map_append]
    by_cases hn : ∀ j, g ≠ .lat j
    · have hgb := gate_bit_ok (f := f) (prev := prev) (by rw [hbl]; exact hok) hn hbb
      have hd : ∃ x tl, g.d = .tup (.str x :: tl) ∧ x ≠ "latch" := by
        cases g with
        | lat j => exact absurd rfl (hn j)
        | inp x b => exact ⟨_, _, rfl, by decide⟩
        | fx b => exact ⟨_, _, rfl, by decide⟩
        | nt i => exact ⟨_, _, rfl, by decide⟩
        | bi o a b => exact ⟨_, _, rfl, by cases o <;> decide⟩
      obtain ⟨x, tl, hd, hx⟩ := hd
      rw [hd] at hgb ⊢
      have hx' : (x = "latch") = False := eq_false hx
      have hll : (bits.map D.int).length < 1001 := by rw [List.length_map]; omega
      generalize bits.map D.int = bd at *
      generalize g.v f prev bits = z at *
      generalize rD rows = rd at *
      generalize pvD prev = pd at *
      unfold wD at *
      generalize bK ks = kb at *
      generalize bD ks f = db at *
      unfold l_beat_told_1
      clear hg hok hbb hbl hd hx hp hr hn
      apply Wn_of
      case h =>
        walk_at "W"
        rfl
      case hq => exact ⟨_, rfl⟩
    · obtain ⟨j, rfl⟩ : ∃ j, g = .lat j := by
        cases g with
        | lat j => exact ⟨j, rfl⟩
        | _ => exact absurd (fun _ h => by cases h) hn
      have hll : (bits.map D.int).length < 1001 := by rw [List.length_map]; omega
      have hok' : j < rows.length := hok
      cases prev with
      | none =>
        show Wn _ _ _
        unfold Gt.d Gt.v pvD
        generalize bits.map D.int = bd at *
        generalize rD rows = rd at *
        generalize wD f ks = wd at *
        unfold l_beat_told_1
        clear hg hok hbb hbl hp hr hn
        apply Wn_of
        case h =>
          walk_at "W"
          rfl
        case hq => exact ⟨_, rfl⟩
      | some p =>
        have hpl := hp.len p rfl
        have h1 : (p.map D.int)[j]? = some (.int (p.getD j 0)) := by
          rw [List.getElem?_map, List.getD_eq_getElem?_getD, List.getElem?_eq_getElem (by omega)]
          rfl
        have h2 : (j : Int) < ((p.map D.int).length : Int) := by rw [List.length_map]; omega
        rw [show pvD (some p) = .nst (p.map .int) from rfl, show Gt.v f (some p) bits (.lat j) = p.getD j 0 from rfl]
        unfold Gt.d
        generalize bits.map D.int = bd at *
        generalize p.getD j 0 = z at *
        generalize p.map D.int = pd at *
        generalize rD rows = rd at *
        generalize wD f ks = wd at *
        unfold l_beat_told_1
        clear hg hok hbb hbl hp hr hn hpl
        apply Wn_of
        case h =>
          walk_at "W"
          rfl
        case hq => exact ⟨_, rfl⟩) ⟨_, rfl⟩
  rw [List.take_length] at *
  unfold b_beat_told
  have zz : ∀ (fo : List T → Option Re) ρ, fFzN fo ρ = (fo ρ).bind fun r => match r with
    | .ok t ρ' => t.fzN.map fun d => .ok (.f d) ρ'
    | r => some r := fun _ _ => rfl
  unfold rD at *
  generalize wD f ks = wd at *
  generalize pvD prev = pd at *
  generalize rows.map Gt.d = rd at *
  clear hp hr hl
  walk_at "W"
  rfl
/-! beats -/
def wires (f : Str → Int) (rows : List Gt) : Nat → List (List Int)
  | 0 => []
  | n + 1 => wires f rows n ++ [beat f (wires f rows n).getLast? rows]
theorem wires_len {f : Str → Int} {rows : List Gt} : ∀ n, (wires f rows n).length = n
  | 0 => rfl
  | n + 1 => by
    show (wires f rows n ++ [_]).length = n + 1
    rw [List.length_append, wires_len n]
    rfl
theorem wires_all {ks : List Str} {f : Str → Int} {rows : List Gt} (hr : RowsOk ks rows) : ∀ n, ∀ b ∈ wires f rows n, b.length = rows.length ∧ Bits b
  | 0, b, h => by cases h
  | n + 1, b, h => by
    have ih := wires_all (f := f) hr n
    rcases List.mem_append.mp h with z | z
    · exact ih b z
    · rw [List.mem_singleton.mp z]
      refine ⟨beat_len rows, ?_⟩
      have := beat_bits (f := f) (prev := (wires f rows n).getLast?) hr (fun p hp => (ih p (List.mem_of_getLast? hp)).2) rows.length (Nat.le_refl _)
      rw [List.take_length] at this
      exact this
theorem wires_pv {ks : List Str} {f : Str → Int} {rows : List Gt} (hr : RowsOk ks rows) (n : Nat) : PvOk rows (wires f rows n).getLast? :=
  ⟨fun p hp => (wires_all hr n p (List.mem_of_getLast? hp)).1, fun p hp => (wires_all hr n p (List.mem_of_getLast? hp)).2⟩
theorem wires_take {f : Str → Int} {rows : List Gt} {k : Nat} : ∀ n, k ≤ n → (wires f rows n).take k = wires f rows k
  | 0, h => by
    obtain rfl : k = 0 := by omega
    rfl
  | n + 1, h => by
    by_cases e : k = n + 1
    · subst e
      rw [List.take_of_length_le (by rw [wires_len]; exact Nat.le_refl _)]
    · show (wires f rows n ++ [_]).take k = _
      rw [List.take_append_of_le_length (by rw [wires_len]; omega)]
      exact wires_take n (by omega)
def nstD (b : List Int) : D := .nst (b.map .int)
def lstI (b : List Int) : D := .lst (b.map .int)
theorem wires_told_ok {ks : List Str} {f : Str → Int} {rows : List Gt} {n : Nat} (hr : RowsOk ks rows) (hl : rows.length ≤ 1000) (hn : n ≤ 1000) :
    g_wires_told [.f (rD rows), .f (wD f ks), .f (.int (n : Int))] = some (.ok (.l ((wires f rows n).map nstD)) [.f (rD rows), .f (wD f ks), .f (.int (n : Int))]) := by
  have hv : g_wires_told [.f (rD rows), .f (wD f ks), .f (.int (n : Int))] = kRun 3 [] [.f (rD rows), .f (wD f ks), .f (.int (n : Int))] (b_wires_told ([.f (rD rows), .f (wD f ks), .f (.int (n : Int))] ++ List.replicate (6 - 3) .un)) := run_of rfl
  rw [hv]
  clear hv
  obtain ⟨ρ', l1, s5, rfl⟩ := for_range (fg := gSet 5) (fb := l_wires_told_1) (ρ := [.f (rD rows), .f (wD f ks), .f (.int (n : Int)), .l [], .f .non, .un]) n
    (fun i ρ => ∃ s5 : T, ρ = [.f (rD rows), .f (wD f ks), .f (.int (n : Int)), .l ((wires f rows i).map nstD), .f (pvD (wires f rows i).getLast?), s5]) (by
    rintro i ρ hi ⟨s5, rfl⟩
    have hb := beat_told_ok (f := f) hr (wires_pv (f := f) hr i) hl
    have hll : ((wires f rows i).map nstD).length < 1001 := by rw [List.length_map, wires_len]; omega
    have e2 : pvD (wires f rows (i + 1)).getLast? = nstD (beat f (wires f rows i).getLast? rows) := by
      show pvD (wires f rows i ++ [beat f (wires f rows i).getLast? rows]).getLast? = _
      rw [List.getLast?_concat]
      rfl
    rw [e2]
    show Wn _ _ _
    rw [show wires f rows (i + 1) = wires f rows i ++ [beat f (wires f rows i).getLast? rows] from rfl, List.map_append]
    replace hb : val (g_beat_told [.f (rD rows), .f (wD f ks), .f (pvD (wires f rows i).getLast?)]) = some (nstD (beat f (wires f rows i).getLast? rows)) := hb
    rw [show ([beat f (wires f rows i).getLast? rows].map nstD) = [nstD (beat f (wires f rows i).getLast? rows)] from rfl]
    generalize nstD (beat f (wires f rows i).getLast? rows) = z at *
    generalize pvD (wires f rows i).getLast? = pd at *
    generalize (wires f rows i).map nstD = wd at *
    generalize rD rows = rd at *
    generalize wD f ks = fd at *
    unfold l_wires_told_1
    clear e2
    apply Wn_of
    case h =>
      walk_at "W"
      rfl
    case hq => exact ⟨_, rfl⟩) ⟨_, rfl⟩
  unfold b_wires_told
  generalize (wires f rows n).map nstD = wd at *
  generalize pvD (wires f rows n).getLast? = pd at *
  generalize rD rows = rd at *
  generalize wD f ks = fd at *
  clear hr hl
  walk_at "W"
theorem law_beats_ok {ks : List Str} {f : Str → Int} {rows : List Gt} {n : Nat} (hr : RowsOk ks rows) (hl : rows.length ≤ 1000) (hn : n ≤ 1000) :
    val (g_law_beats [.f (rD rows), .f (wD f ks), .f (.int (n : Int))]) = some (.lst ((wires f rows n).map lstI)) := by
  have hv : val (g_law_beats [.f (rD rows), .f (wD f ks), .f (.int (n : Int))]) = oval (b_law_beats ([.f (rD rows), .f (wD f ks), .f (.int (n : Int))] ++ List.replicate (7 - 3) .un)) 3 := val_run (m := 3) (n := 7) rfl
  rw [hv]
  clear hv
  obtain ⟨ρ', l1, s4, s5, s6, rfl⟩ := for_range (fg := gSet 4) (fb := l_law_beats_1) (ρ := [.f (rD rows), .f (wD f ks), .f (.int (n : Int)), .l [], .un, .un, .un]) n
    (fun i ρ => ∃ s4 s5 s6 : T, ρ = [.f (rD rows), .f (wD f ks), .f (.int (n : Int)), .l ((wires f rows i).map lstI), s4, s5, s6]) (by
    rintro i ρ hi ⟨s4, s5, s6, rfl⟩
    have hpv := wires_pv (f := f) hr i
    have hll : ((wires f rows i).map lstI).length < 1001 := by rw [List.length_map, wires_len]; omega
    have hF : i = 0 ∧ (wires f rows i).getLast? = none ∨ ∃ p, (wires f rows i).getLast? = some p ∧ 0 < i ∧ ((wires f rows i).map lstI)[((i : Int) - 1).toNat]? = some (lstI p) := by
      cases i with
      | zero => exact .inl ⟨rfl, rfl⟩
      | succ i =>
        refine .inr ⟨beat f (wires f rows i).getLast? rows, ?_, by omega, ?_⟩
        · show (wires f rows i ++ [beat f (wires f rows i).getLast? rows]).getLast? = _
          rw [List.getLast?_concat]
        · rw [show (((i + 1 : Nat) : Int) - 1).toNat = i by omega, List.getElem?_map]
          show ((wires f rows i ++ [_])[i]?).map lstI = _
          rw [List.getElem?_append_right (by rw [wires_len]; exact Nat.le_refl _), wires_len, Nat.sub_self]
          rfl
    rw [show wires f rows (i + 1) = wires f rows i ++ [beat f (wires f rows i).getLast? rows] from rfl, List.map_append]
    have hil : (((wires f rows i).map lstI).length : Int) = i := by rw [List.length_map, wires_len]
    generalize (wires f rows i).map lstI = wd at *
    generalize (wires f rows i).getLast? = prev at *
    obtain ⟨ρ', l1, s6', rfl⟩ := for_map (φ := Gt.d) (fg := gSet 6) (fb := l_law_beats_2) (ρ := [.f (rD rows), .f (wD f ks), .f (.int (n : Int)), .l wd, .f (.int (i : Int)), .l [], s6]) rows
      (fun q ρ => ∃ s6 : T, ρ = [.f (rD rows), .f (wD f ks), .f (.int (n : Int)), .l wd, .f (.int (i : Int)), .l ((beat f prev (rows.take q)).map .int), s6]) (by
      rintro q g ρ hg ⟨s6, rfl⟩
      have hi := (List.getElem?_eq_some_iff.mp hg).1
      have hok := hr q g hg
      have hbb := beat_bits (f := f) hr hpv.bit q (by omega)
      have hbl : (beat f prev (rows.take q)).length = q := by rw [beat_len, List.length_take]; omega
      rw [beat_take hg]
      generalize beat f prev (rows.take q) = bits at *
      rw [List.map_append]
      by_cases hn : ∀ j, g ≠ .lat j
      · have hgb := law_bit_ok (f := f) (prev := prev) (by rw [hbl]; exact hok) hn hbb
        have hd : ∃ x tl, g.d = .tup (.str x :: tl) ∧ x ≠ "latch" := by
          cases g with
          | lat j => exact absurd rfl (hn j)
          | inp x b => exact ⟨_, _, rfl, by decide⟩
          | fx b => exact ⟨_, _, rfl, by decide⟩
          | nt i => exact ⟨_, _, rfl, by decide⟩
          | bi o a b => exact ⟨_, _, rfl, by cases o <;> decide⟩
        obtain ⟨x, tl, hd, hx⟩ := hd
        rw [hd] at hgb ⊢
        have hx' : (x = "latch") = False := eq_false hx
        have hll : (bits.map D.int).length < 1001 := by rw [List.length_map]; omega
        generalize bits.map D.int = bd at *
        generalize g.v f prev bits = z at *
        generalize rD rows = rd at *
        unfold wD at *
        generalize bK ks = kb at *
        generalize bD ks f = db at *
        unfold l_law_beats_2
        clear hg hok hbb hbl hd hx hpv hr hn hF
        apply Wn_of
        case h =>
          walk_at "W"
          rfl
        case hq => exact ⟨_, rfl⟩
      · obtain ⟨j, rfl⟩ : ∃ j, g = .lat j := by
          cases g with
          | lat j => exact ⟨j, rfl⟩
          | _ => exact absurd (fun _ h => by cases h) hn
        have hll : (bits.map D.int).length < 1001 := by rw [List.length_map]; omega
        have hok' : j < rows.length := hok
        rcases hF with ⟨rfl, rfl⟩ | ⟨p, rfl, hi0, hix⟩
        · rw [show Gt.v f none bits (.lat j) = 0 from rfl]
          unfold Gt.d
          generalize bits.map D.int = bd at *
          generalize rD rows = rd at *
          generalize wD f ks = fd at *
          unfold l_law_beats_2
          clear hg hok hbb hbl hpv hr hn
          apply Wn_of
          case h =>
            walk_at "W"
            rfl
          case hq => exact ⟨_, rfl⟩
        · have hpl := hpv.len p rfl
          have h1 : (p.map D.int)[j]? = some (.int (p.getD j 0)) := by
            rw [List.getElem?_map, List.getD_eq_getElem?_getD, List.getElem?_eq_getElem (by omega)]
            rfl
          have h2 : (j : Int) < ((p.map D.int).length : Int) := by rw [List.length_map]; omega
          rw [show Gt.v f (some p) bits (.lat j) = p.getD j 0 from rfl]
          unfold Gt.d
          unfold lstI at hix
          have hi1 : ((i : Int) = 0) = False := eq_false (by omega)
          have hi2 : 0 ≤ (i : Int) - 1 := by omega
          generalize bits.map D.int = bd at *
          generalize p.getD j 0 = z at *
          generalize p.map D.int = pd at *
          generalize rD rows = rd at *
          generalize wD f ks = fd at *
          unfold l_law_beats_2
          clear hg hok hbb hbl hpv hr hn hpl
          apply Wn_of
          case h =>
            walk_at "W"
            rfl
          case hq => exact ⟨_, rfl⟩) ⟨_, rfl⟩
    rw [List.take_length] at *
    rw [show ([beat f prev rows].map lstI) = [.lst ((beat f prev rows).map .int)] from rfl]
    unfold rD at *
    generalize wD f ks = fd at *
    generalize rows.map Gt.d = rd at *
    generalize (beat f prev rows).map D.int = bd at *
    unfold l_law_beats_1
    clear hF hpv hr hl
    apply Wn_of
    case h =>
      walk_at "W"
      rfl
    case hq => exact ⟨_, _, _, rfl⟩) ⟨_, _, _, rfl⟩
  unfold b_law_beats
  generalize (wires f rows n).map lstI = wd at *
  generalize rD rows = rd at *
  generalize wD f ks = fd at *
  clear hr hl
  walk_at "W"
/-! what is looked at; rows drawn -/
theorem bits_small {z : Int} (h0 : 0 ≤ z) (h1 : z < 2 ^ 31) : Builtin.Int.intBits z ≤ 1048576 := by
  unfold Builtin.Int.intBits
  split
  · decide
  · rename_i h
    have hz : z.natAbs ≠ 0 := by
      intro e
      apply h
      simp
      omega
    have : z.natAbs.log2 < 31 := (Nat.log2_lt hz).mpr (by omega)
    omega
theorem law_list_n {zs : List Int} (hz : zs.length ≤ 100000) : val (g_law_list [.f (nstD zs), .f (lstI zs)]) = some (.bl true) := by
  have hv : val (g_law_list [.f (nstD zs), .f (lstI zs)]) = oval (b_law_list ([.f (nstD zs), .f (lstI zs)] ++ List.replicate (3 - 2) .un)) 2 := val_run (m := 2) (n := 3) rfl
  rw [hv]
  clear hv
  obtain ⟨ρ', l1, s2, rfl⟩ := for_range (fg := gSet 2) (fb := l_law_list_1) (ρ := [.f (nstD zs), .f (lstI zs), .un]) zs.length
    (fun i ρ => ∃ s2 : T, ρ = [.f (nstD zs), .f (lstI zs), s2]) (by
    rintro i ρ hi ⟨s2, rfl⟩
    have hx : (zs.map D.int)[i]? = some (.int zs[i]) := at_map (List.getElem?_eq_getElem hi)
    generalize zs[i] = z at hx
    have hw := whole_ok
    have hil : (i : Int) < (zs.map D.int).length := by rw [List.length_map]; omega
    unfold nstD lstI
    generalize zs.map D.int = zd at *
    unfold l_law_list_1
    clear hi
    apply Wn_of
    case h =>
      walk_at "W"
      rfl
    case hq => exact ⟨_, rfl⟩) ⟨_, rfl⟩
  unfold b_law_list
  unfold nstD lstI at *
  walk_at "W"
theorem law_same_ok {bs : List (List Int)} (hb : bs.length ≤ 100000) (hz : ∀ b ∈ bs, b.length ≤ 100000) : val (g_law_same [.f (.lst (bs.map nstD)), .f (.lst (bs.map lstI))]) = some (.bl true) := by
  have hv : val (g_law_same [.f (.lst (bs.map nstD)), .f (.lst (bs.map lstI))]) = oval (b_law_same ([.f (.lst (bs.map nstD)), .f (.lst (bs.map lstI))] ++ List.replicate (3 - 2) .un)) 2 := val_run (m := 2) (n := 3) rfl
  rw [hv]
  clear hv
  obtain ⟨ρ', l1, s2, rfl⟩ := for_range (fg := gSet 2) (fb := l_law_same_1) (ρ := [.f (.lst (bs.map nstD)), .f (.lst (bs.map lstI)), .un]) bs.length
    (fun i ρ => ∃ s2 : T, ρ = [.f (.lst (bs.map nstD)), .f (.lst (bs.map lstI)), s2]) (by
    rintro i ρ hi ⟨s2, rfl⟩
    have hx : (bs.map nstD)[i]? = some (nstD bs[i]) := at_map (List.getElem?_eq_getElem hi)
    have hy : (bs.map lstI)[i]? = some (lstI bs[i]) := at_map (List.getElem?_eq_getElem hi)
    have hh := law_list_n (hz _ (List.getElem_mem hi))
    generalize nstD bs[i] = x at *
    generalize lstI bs[i] = y at *
    have hil : (i : Int) < (bs.map nstD).length := by rw [List.length_map]; omega
    have hil2 : (i : Int) < (bs.map lstI).length := by rw [List.length_map]; omega
    generalize bs.map nstD = xd at *
    generalize bs.map lstI = yd at *
    unfold l_law_same_1
    clear hi hz
    apply Wn_of
    case h =>
      walk_at "W"
      rfl
    case hq => exact ⟨_, rfl⟩) ⟨_, rfl⟩
  unfold b_law_same
  walk_at "W"
theorem three (j : Int) (h0 : 0 ≤ j) (h : j < 3) : ∃ o : Op3, atI [D.str "and", .str "or", .str "xor"] j = some (.str o.s) := by
  obtain ⟨k, rfl⟩ := Int.eq_ofNat_of_zero_le h0
  match k, h with
  | 0, _ => exact ⟨.and, rfl⟩
  | 1, _ => exact ⟨.or, rfl⟩
  | 2, _ => exact ⟨.xor, rfl⟩
theorem d_inp {x : Str} {b : Nat} : (Gt.inp x b).d = .tup [.str "in", .str x, .int (b : Int)] := rfl
theorem d_lat {b : Nat} : (Gt.lat b).d = .tup [.str "latch", .int (b : Int)] := rfl
theorem d_nt {b : Nat} : (Gt.nt b).d = .tup [.str "not", .int (b : Int)] := rfl
theorem d_bi {o : Op3} {a b : Nat} : (Gt.bi o a b).d = .tup [.str o.s, .int (a : Int), .int (b : Int)] := rfl
theorem law_row_ok {n : Int} {k m : Nat} {l : List Str} (h0 : 0 ≤ n) (h1 : n < 2 ^ 31) (hkm : k < m) (hm : m ≤ 100) (hl0 : 0 < l.length) (hl1 : l.length ≤ 100) : ∃ g : Gt, g.Ok l k m ∧ val (g_law_row [.f (.int n), .f (.int (k : Int)), .f (.int (m : Int)), .f (.lst (l.map .str))]) = some g.d := by
  have hv : val (g_law_row [.f (.int n), .f (.int (k : Int)), .f (.int (m : Int)), .f (.lst (l.map .str))]) = oval (b_law_row ([.f (.int n), .f (.int (k : Int)), .f (.int (m : Int)), .f (.lst (l.map .str))] ++ List.replicate (6 - 4) .un)) 4 := val_run (m := 4) (n := 6) rfl
  rw [hv]
  clear hv
  obtain ⟨q, q0, q1, eq⟩ := mixed_ok (c := n) (k := 2) (bits_small h0 h1) (by omega) (by omega)
  unfold b_law_row
  have hq8 : 0 ≤ q / 8 := by omega
  have hl : 0 < (l.length : Int) := by omega
  have hlL : (l.map D.str).length = l.length := List.length_map _
  have ha : 0 ≤ q % (l.length : Int) ∧ q % (l.length : Int) < l.length := ⟨Int.emod_nonneg _ (by omega), Int.emod_lt_of_pos _ hl⟩
  have hb : 0 ≤ q / 8 % 8 ∧ q / 8 % 8 < 8 := ⟨Int.emod_nonneg _ (by decide), Int.emod_lt_of_pos _ (by decide)⟩
  by_cases c1 : n % 9 = 0 ∨ (k : Int) = 0
  · have hlt : (q % (l.length : Int)).toNat < l.length := by omega
    have hx : (l.map D.str)[(q % (l.length : Int)).toNat]? = some (.str l[(q % (l.length : Int)).toNat]) := at_map (List.getElem?_eq_getElem hlt)
    refine ⟨.inp l[(q % (l.length : Int)).toNat] (q / 8 % 8).toNat, ⟨List.getElem_mem hlt, by omega⟩, ?_⟩
    generalize l[(q % (l.length : Int)).toNat] = x at *
    have e8 : ((q / 8 % 8).toNat : Int) = q / 8 % 8 := Int.toNat_of_nonneg hb.1
    rw [d_inp, e8]
    have ha1 := ha.1
    have ha2 := ha.2
    have hmd := gMod_ok (i := q) (j := (l.length : Int)) hl
    generalize hzz : q % (l.length : Int) = y at *
    clear hzz
    by_cases c2 : n % 9 = 0
    · clear c1 e8 hb ha
      walk_at "W"
    · have c3 : (k : Int) = 0 := c1.resolve_left c2
      clear c1 e8 hb ha
      walk_at "W"
  · have c2 : (n % 9 = 0) = False := eq_false fun h => c1 (.inl h)
    have c3 : ((k : Int) = 0) = False := eq_false fun h => c1 (.inr h)
    have hk0 : 0 < (k : Int) := by
      have : (k : Int) ≠ 0 := fun h => c1 (.inr h)
      omega
    by_cases c4 : n % 9 = 1
    · refine ⟨.fx (q % 2), by show q % 2 = 0 ∨ q % 2 = 1; omega, ?_⟩
      unfold Gt.d
      clear c1 ha hb
      walk_at "W"
    have c4' : (n % 9 = 1) = False := eq_false c4
    by_cases c5 : n % 9 < 4
    · have hm0 : 0 < (m : Int) := by omega
      have hr : 0 ≤ q % (m : Int) ∧ q % (m : Int) < m := ⟨Int.emod_nonneg _ (by omega), Int.emod_lt_of_pos _ hm0⟩
      refine ⟨.lat (q % (m : Int)).toNat, by show (q % (m : Int)).toNat < m; omega, ?_⟩
      have e8 : ((q % (m : Int)).toNat : Int) = q % (m : Int) := Int.toNat_of_nonneg hr.1
      rw [d_lat, e8]
      have hmd := gMod_ok (i := q) (j := (m : Int)) hm0
      have c5' : (n % 9 < 4) = True := eq_true c5
      clear c1 ha hb hr e8
      walk_at "W"
    have c5' : (n % 9 < 4) = False := eq_false c5
    by_cases c6 : n % 9 = 4
    · have hr : 0 ≤ q % (k : Int) ∧ q % (k : Int) < k := ⟨Int.emod_nonneg _ (by omega), Int.emod_lt_of_pos _ hk0⟩
      refine ⟨.nt (q % (k : Int)).toNat, by show (q % (k : Int)).toNat < k; omega, ?_⟩
      have e8 : ((q % (k : Int)).toNat : Int) = q % (k : Int) := Int.toNat_of_nonneg hr.1
      rw [d_nt, e8]
      have hmd := gMod_ok (i := q) (j := (k : Int)) hk0
      clear c1 ha hb hr e8 c4' c5'
      walk_at "W"
    have c6' : (n % 9 = 4) = False := eq_false c6
    obtain ⟨o, ho⟩ := three (n / 9 % 3) (by omega) (by omega)
    have hmn : 0 < (if 5 < (k : Int) then 5 else (k : Int)) := by split <;> omega
    have hmx : (if 5 < (k : Int) then 5 else (k : Int)) ≤ k := by split <;> omega
    have hmd1 := gMod_ok (i := q) (j := (if 5 < (k : Int) then 5 else (k : Int))) hmn
    have hr1 : 0 ≤ q % (if 5 < (k : Int) then 5 else (k : Int)) ∧ q % (if 5 < (k : Int) then 5 else (k : Int)) < (if 5 < (k : Int) then 5 else (k : Int)) := ⟨Int.emod_nonneg _ (by omega), Int.emod_lt_of_pos _ hmn⟩
    have hr2 : 0 ≤ q / 8 % (k : Int) ∧ q / 8 % (k : Int) < k := ⟨Int.emod_nonneg _ (by omega), Int.emod_lt_of_pos _ hk0⟩
    have hmd2 := gMod_ok (i := q / 8) (j := (k : Int)) hk0
    generalize hz1 : q % (if 5 < (k : Int) then 5 else (k : Int)) = z1 at *
    generalize hz2 : q / 8 % (k : Int) = z2 at *
    refine ⟨.bi o ((k : Int) - 1 - z1).toNat z2.toNat, ⟨by omega, by omega⟩, ?_⟩
    have e8 : ((((k : Int) - 1 - z1).toNat : Nat) : Int) = (k : Int) - 1 - z1 := Int.toNat_of_nonneg (by omega)
    have e9 : ((z2.toNat : Nat) : Int) = z2 := Int.toNat_of_nonneg hr2.1
    rw [d_bi, e8, e9]
    have ho2 : gIx (.f (.lst [D.str "and", .str "or", .str "xor"])) (.f (.int (n / 9 % 3))) = some (.f (.str o.s)) := by rw [gIx_lst, ho]; rfl
    generalize o.s = os at *
    clear c1 ha hb hr1 hr2 e8 e9 ho hz2 hmx hl0 hl1 hmd1
    walk_at "W"
/-! what the law draws -/
theorem cut_mid {α : Type} {xs : List α} {a b : Nat} (hab : a ≤ b) : cutD xs (some (a : Int)) (some (b : Int)) = (xs.take b).drop a := by
  unfold cutD
  rw [HT.sIx_nat, HT.sIx_nat, List.drop_take]
  rcases Nat.le_total a xs.length with h | h
  · rw [Nat.min_eq_left h]
    rcases Nat.le_total b xs.length with h2 | h2
    · rw [Nat.min_eq_left h2]
    · rw [Nat.min_eq_right h2, List.take_of_length_le (by rw [List.length_drop]; omega), List.take_of_length_le (by rw [List.length_drop]; omega)]
  · rw [Nat.min_eq_right h, List.drop_of_length_le (Nat.le_refl _), List.drop_of_length_le h]
    simp
theorem draw_rows {ss : List D} {m0 : D} {l : List Str} {cs : List Int} {nb : D} (hl0 : 0 < l.length) (hl1 : l.length ≤ 100) (hc : cs.length ≤ 100) (hb : ∀ z ∈ cs, Builtin.Int.intBits z ≤ 1048576) :
    ∃ rows : List Gt, RowsOk l rows ∧ rows.length = cs.length ∧ ∃ s6 : T, forF (gSet 6) l_law_2 (rangeD 0 cs.length) [.f (.lst ss), .f m0, .f (.lst (l.map .str)), .f (.lst (cs.map .int)), .f nb, .l [], .un, .un, .un, .un, .un, .un, .un] = some (.nx [.f (.lst ss), .f m0, .f (.lst (l.map .str)), .f (.lst (cs.map .int)), .f nb, .l (rows.map Gt.d), s6, .un, .un, .un, .un, .un, .un]) := by
  obtain ⟨ρ', l1, rows, s6, ⟨hrl, hro⟩, rfl⟩ := for_range (fg := gSet 6) (fb := l_law_2) (ρ := [.f (.lst ss), .f m0, .f (.lst (l.map .str)), .f (.lst (cs.map .int)), .f nb, .l [], .un, .un, .un, .un, .un, .un, .un]) cs.length
    (fun i ρ => ∃ (rows : List Gt) (s6 : T), (rows.length = i ∧ ∀ (k : Nat) g, rows[k]? = some g → g.Ok l k cs.length) ∧ ρ = [.f (.lst ss), .f m0, .f (.lst (l.map .str)), .f (.lst (cs.map .int)), .f nb, .l (rows.map Gt.d), s6, .un, .un, .un, .un, .un, .un]) (by
    rintro i ρ hi ⟨rows, s6, ⟨hrl, hro⟩, rfl⟩
    have hx : (cs.map D.int)[i]? = some (.int cs[i]) := at_map (List.getElem?_eq_getElem hi)
    obtain ⟨n, n0, n1, en⟩ := mixed_ok (c := cs[i]) (k := (i : Int)) (hb _ (List.getElem_mem hi)) (by omega) (by omega)
    obtain ⟨g, hg, eg⟩ := law_row_ok (n := n) (k := i) (m := cs.length) (l := l) n0 n1 hi (by omega) hl0 hl1
    have hil : (i : Int) < (cs.map D.int).length := by rw [List.length_map]; omega
    have hcl : ((cs.map D.int).length : Int) = (cs.length : Int) := by rw [List.length_map]
    have hll : (rows.map Gt.d).length < 1001 := by rw [List.length_map]; omega
    have hro2 : (rows ++ [g]).length = i + 1 ∧ ∀ (k : Nat) g', (rows ++ [g])[k]? = some g' → g'.Ok l k cs.length := by
      refine ⟨by rw [List.length_append, hrl]; rfl, fun k g' h => ?_⟩
      by_cases hk : k < rows.length
      · rw [List.getElem?_append_left hk] at h
        exact hro k g' h
      · rw [List.getElem?_append_right (by omega)] at h
        by_cases hk2 : k = rows.length
        · subst hk2
          rw [Nat.sub_self] at h
          cases h
          rw [hrl]
          exact hg
        · rw [List.getElem?_eq_none (by rw [List.length_singleton]; omega)] at h
          cases h
    have e0 : (rows ++ [g]).map Gt.d = rows.map Gt.d ++ [g.d] := by rw [List.map_append]; rfl
    generalize cs[i] = z at *
    generalize hgd : g.d = gd at *
    generalize hrd : rows.map Gt.d = rd at *
    generalize cs.map D.int = cd at *
    generalize l.map D.str = ld at *
    unfold l_law_2
    clear hb hro hrl hg hi n0 n1
    apply Wn_of
    case h =>
      walk_at "W"
      rfl
    case hq => exact ⟨rows ++ [g], _, hro2, by rw [e0]⟩) ⟨[], .un, ⟨rfl, fun k g h => by cases h⟩, rfl⟩
  exact ⟨rows, fun k g h => by rw [hrl]; exact hro k g h, hrl, s6, l1⟩
theorem draw_words {ns : List Int} {m0 : D} {l : List Str} {cd nb rd : D} {s6 : T} (hl1 : l.length ≤ 100) (hb : ∀ z ∈ ns, Builtin.Int.intBits z ≤ 1048576) :
    ∃ (f : Str → Int) (s6' : T), forF (gSet 6) l_law_1 (rangeD 0 l.length) [.f (.lst (ns.map .int)), .f m0, .f (.lst (l.map .str)), .f cd, .f nb, .f rd, s6, .dk [] [], .un, .un, .un, .un, .un] = some (.nx [.f (.lst (ns.map .int)), .f m0, .f (.lst (l.map .str)), .f cd, .f nb, .f rd, s6', .dk (bK (ded l)) (bD (ded l) f), .un, .un, .un, .un, .un]) := by
  obtain ⟨ρ', l1, f, s6', rfl⟩ := for_range (fg := gSet 6) (fb := l_law_1) (ρ := [.f (.lst (ns.map .int)), .f m0, .f (.lst (l.map .str)), .f cd, .f nb, .f rd, s6, .dk [] [], .un, .un, .un, .un, .un]) l.length
    (fun i ρ => ∃ (f : Str → Int) (s6' : T), ρ = [.f (.lst (ns.map .int)), .f m0, .f (.lst (l.map .str)), .f cd, .f nb, .f rd, s6', .dk (bK (ded (l.take i))) (bD (ded (l.take i)) f), .un, .un, .un, .un, .un]) (by
    rintro i ρ hi ⟨f, s6', rfl⟩
    have hx : (l.map D.str)[i]? = some (.str l[i]) := at_map (List.getElem?_eq_getElem hi)
    obtain ⟨n, n0, n1, en⟩ := mixed_ok (c := cell ns 1) (k := (i : Int) + 4) (cell_bits hb 1) (by omega) (by omega)
    have ea := at_ok (ns := ns) (k := 1)
    rw [take_snoc (List.getElem?_eq_getElem hi), ded_snoc]
    have p1 := bput1 (f := f) (x := l[i]) (v := n % 256) (ks := ded (l.take i))
    have p2 := bput2 (f := f) (x := l[i]) (v := n % 256) (ks := ded (l.take i))
    have hll : (bK (ded (l.take i))).length ≤ 1000 := by
      rw [bK_len]
      exact ded_le (by rw [List.length_take]; omega)
    have hil : (i : Int) < (l.map D.str).length := by rw [List.length_map]; omega
    rw [show ((1 : Nat) : Int) = 1 from rfl] at ea
    generalize l[i] = x at *
    generalize ded (l.take i) = kk at *
    generalize bK kk = kb at *
    generalize bD kk f = db at *
    generalize l.map D.str = ld at *
    generalize cell ns 1 = cc at *
    unfold l_law_1
    clear hb hi n0 n1
    apply Wn_of
    case h =>
      walk_at "W"
      rfl
    case hq => exact ⟨_, _, rfl⟩) ⟨fun _ => 0, _, rfl⟩
  rw [List.take_length] at l1
  exact ⟨f, s6', l1⟩
theorem fine_str {x : Str} {n : Nat} (h : PyData.strOk x = true) : (D.str x).fine n = true := by
  show PyData.canLay0 (.str x) = true
  simp [PyData.canLay0, h]
theorem gt_fine {l : List Str} {k m : Nat} {g : Gt} (h : g.Ok l k m) (hl : ∀ x ∈ l, PyData.strOk x = true) : g.d.fine 63 = true := by
  cases g with
  | inp x b =>
    have := fine_str (n := 62) (hl x h.1)
    show (decide (0 < 63) && (D.fine (.str "in") 62 && (D.fine (.str x) 62 && (D.fine (.int (b : Int)) 62 && D.fines [] 62)))) = true
    rw [this]
    exact (by decide +kernel : (decide (0 < 63) && (D.fine (.str "in") 62 && (true && (true && true)))) = true)
  | fx b => show (decide (0 < 63) && (D.fine (.str "fix") 62 && (D.fine (.int b) 62 && D.fines [] 62))) = true; exact (by decide +kernel : (decide (0 < 63) && (D.fine (.str "fix") 62 && (true && true))) = true)
  | lat b => exact (by decide +kernel : (decide (0 < 63) && (D.fine (.str "latch") 62 && (true && true))) = true)
  | nt b => exact (by decide +kernel : (decide (0 < 63) && (D.fine (.str "not") 62 && (true && true))) = true)
  | bi o a b => cases o <;> first
    | exact (by decide +kernel : (decide (0 < 63) && (D.fine (.str "and") 62 && (true && (true && true)))) = true)
    | exact (by decide +kernel : (decide (0 < 63) && (D.fine (.str "or") 62 && (true && (true && true)))) = true)
    | exact (by decide +kernel : (decide (0 < 63) && (D.fine (.str "xor") 62 && (true && (true && true)))) = true)
theorem fines_all {α : Type} {F : α → D} {n : Nat} : ∀ {xs : List α}, (∀ x ∈ xs, (F x).fine n = true) → D.fines (xs.map F) n = true
  | [], _ => rfl
  | x :: xs, h => by
    show (D.fine (F x) n && D.fines (xs.map F) n) = true
    rw [h x List.mem_cons_self, fines_all fun y hy => h y (List.mem_cons_of_mem _ hy)]
    rfl
theorem gt_old (g : Gt) : g.d.old = true := by
  cases g <;> rfl
theorem olds_all {α : Type} {F : α → D} : ∀ {xs : List α}, (∀ x ∈ xs, (F x).old = true) → D.olds (xs.map F) = true
  | [], _ => rfl
  | x :: xs, h => by
    show (D.old (F x) && D.olds (xs.map F)) = true
    rw [h x List.mem_cons_self, olds_all fun y hy => h y (List.mem_cons_of_mem _ hy)]
    rfl
theorem callN_ok {G : List T → Option Re} {fs : List T → Option (List T)} {ρ us : List T} {ds es : List D} (h : fs ρ = some (ds.map .f)) (ho : D.olds ds = true) (hG : G (ds.map .f) = some (.ok (.l es) us)) : fCallN G fs ρ = some (.ok (.ln es) ρ) := by
  unfold fCallN
  rw [h]
  show (T.fzs (ds.map .f)).bind _ = _
  rw [fzs_f]
  have h1 : (ds.map T.f).all isF = true := List.all_eq_true.mpr fun t ht => by
    obtain ⟨d, _, rfl⟩ := List.mem_map.mp ht
    rfl
  show (if ((ds.map T.f).all isF && D.olds ds) = true then (G (ds.map .f)).bind _ else none) = _
  rw [h1, ho, if_pos (show (true && true) = true from rfl), hG]
  rfl
theorem hv_ok {i j : Nat} {fes : List (List T → Option T)} {ρ : List T} {ds : List D} (h : ρ[i]? = some (.ln ds)) (h1 : ∀ d ∈ ds, elOk false d = true) (h2 : ds.length ≤ 100000) (h3 : ∀ fe ∈ fes, (fe ((ρ.set i .un).set j .un)).isSome = true) (h4 : j < ρ.length) : sHv i j false fes ρ = some (.nx (((ρ.set i .un).set j .un).set i (.rg ds.length))) := by
  unfold sHv
  rw [h]
  show (if _ then _ else _) = _
  rw [if_pos]
  rw [Bool.and_eq_true, Bool.and_eq_true, Bool.and_eq_true]
  exact ⟨⟨⟨List.all_eq_true.mpr h1, decide_eq_true h2⟩, List.all_eq_true.mpr h3⟩, decide_eq_true h4⟩
/-! the law -/
theorem parts {ns : List Int} {m0 : Int} {l : List Str} {cs : List Int} {nb : Nat} (hl0 : 0 < l.length) (hl1 : l.length ≤ 100) (hlo : ∀ x ∈ l, PyData.strOk x = true) (hc : cs.length ≤ 61) (hn : nb ≤ 300) (hbn : ∀ z ∈ ns, Builtin.Int.intBits z ≤ 1048576) (hb : ∀ z ∈ cs, Builtin.Int.intBits z ≤ 1048576) :
    ∃ (rd : List D) (kb : List Key) (db : List D) (s6 s6' : T) (es due du3 : List D) (X : D),
      forF (gSet 6) l_law_2 (rangeD 0 cs.length) [.f (.lst (ns.map .int)), .f (.int m0), .f (.lst (l.map .str)), .f (.lst (cs.map .int)), .f (.int (nb : Int)), .l [], .un, .un, .un, .un, .un, .un, .un] = some (.nx [.f (.lst (ns.map .int)), .f (.int m0), .f (.lst (l.map .str)), .f (.lst (cs.map .int)), .f (.int (nb : Int)), .l rd, s6, .un, .un, .un, .un, .un, .un]) ∧
      forF (gSet 6) l_law_1 (rangeD 0 l.length) [.f (.lst (ns.map .int)), .f (.int m0), .f (.lst (l.map .str)), .f (.lst (cs.map .int)), .f (.int (nb : Int)), .f (.lst rd), s6, .dk [] [], .un, .un, .un, .un, .un] = some (.nx [.f (.lst (ns.map .int)), .f (.int m0), .f (.lst (l.map .str)), .f (.lst (cs.map .int)), .f (.int (nb : Int)), .f (.lst rd), s6', .dk kb db, .un, .un, .un, .un, .un]) ∧
      val (g_law_beats [.f (.lst rd), .f (.dct kb db), .f (.int (nb : Int))]) = some (.lst due) ∧
      (∀ ρ : List T, aCons (fVar 8) (aCons (fVar 7) (aCons (fVar 4) aNil)) ρ = some [.f (.lst rd), .f (.dct kb db), .f (.int (nb : Int))] → fCallN g_wires_told (aCons (fVar 8) (aCons (fVar 7) (aCons (fVar 4) aNil))) ρ = some (.ok (.ln es) ρ)) ∧
      val (g_law_same [.f (.lst es), .f (.lst due)]) = some (.bl true) ∧
      (∀ (ρ : List T), ρ[11]? = some (.ln es) → 12 < ρ.length → sHv 11 12 false [fC (.int 2)] ρ = some (.nx (((ρ.set 11 .un).set 12 .un).set 11 (.rg es.length)))) ∧
      gEq (.f (.lst rd)) (.f (.lst rd)) = some (.f (.bl true)) ∧
      gEqX (.f (.dct kb db)) (.f (.dct kb db)) = some (.f (.bl true)) ∧
      val (kFz (g_wires_told [.f (.lst rd), .f (.dct kb db), .f (.int (if 3 < (nb : Int) then 3 else (nb : Int)))])) = some X ∧
      cutD due none (some 3) = du3 ∧ val (g_law_same [.f X, .f (.lst du3)]) = some (.bl true) := by
  obtain ⟨rows, hro, hrl, s6, l1⟩ := draw_rows (ss := ns.map .int) (m0 := .int m0) (nb := .int (nb : Int)) hl0 hl1 (by omega) hb
  obtain ⟨f, s6', l2⟩ := draw_words (m0 := .int m0) (cd := .lst (cs.map .int)) (nb := .int (nb : Int)) (rd := .lst (rows.map Gt.d)) (s6 := s6) hl1 hbn
  have hro' : RowsOk (ded l) rows := fun k g h => by
    have := hro k g h
    cases g with
    | inp x b => exact ⟨ded_in.mpr this.1, this.2⟩
    | fx b => exact this
    | lat i => exact this
    | nt i => exact this
    | bi o a b => exact this
  have hrl1 : rows.length ≤ 1000 := by omega
  have hmin : (if 3 < (nb : Int) then 3 else (nb : Int)) = ((min nb 3 : Nat) : Int) := by split <;> omega
  have hwl : ∀ k b, b ∈ wires f rows k → b.length ≤ 100000 := fun k b h => by
    have := (wires_all hro' k b h).1
    omega
  refine ⟨rows.map Gt.d, bK (ded l), bD (ded l) f, s6, s6', (wires f rows nb).map nstD, (wires f rows nb).map lstI, (wires f rows (min nb 3)).map lstI, .lst ((wires f rows (min nb 3)).map nstD), l1, l2, law_beats_ok hro' hrl1 (by omega), fun ρ h => ?_, law_same_ok (by rw [wires_len]; omega) (hwl nb), fun ρ h h2 => ?_, ?_, gEqX_dk, ?_, ?_, law_same_ok (by rw [wires_len]; omega) (hwl _)⟩
  · refine callN_ok (ds := [.lst (rows.map Gt.d), .dct (bK (ded l)) (bD (ded l) f), .int (nb : Int)]) h ?_ (wires_told_ok hro' hrl1 (by omega))
    show (D.olds (rows.map Gt.d) && (D.olds (bD (ded l) f) && (true && true))) = true
    rw [olds_all fun g _ => gt_old g]
    unfold bD
    rw [olds_all fun x _ => rfl]
    rfl
  · refine hv_ok h (fun d hd => ?_) (by rw [List.length_map, wires_len]; omega) (fun fe hfe => ?_) h2
    · obtain ⟨b, hb2, rfl⟩ := List.mem_map.mp hd
      refine decide_eq_true ?_
      rw [List.length_map]
      have := hwl _ b hb2
      omega
    · rw [List.mem_singleton.mp hfe]
      rfl
  · refine gEq_refl_l (fines_all fun g hg => ?_)
    obtain ⟨k, hk⟩ := List.getElem?_of_mem hg
    exact gt_fine (hro k g hk) hlo
  · rw [hmin]
    rw [show g_wires_told [.f (.lst (rows.map Gt.d)), .f (.dct (bK (ded l)) (bD (ded l) f)), .f (.int ((min nb 3 : Nat) : Int))] = _ from wires_told_ok hro' hrl1 (by omega)]
    rfl
  · rw [show (3 : Int) = ((3 : Nat) : Int) from rfl, cutD_take, ← List.map_take]
    congr 1
    rcases Nat.le_total 3 nb with h | h
    · rw [Nat.min_eq_right h, wires_take nb h]
    · rw [Nat.min_eq_left h, List.take_of_length_le (by rw [wires_len]; exact h)]
theorem law_true (ns : List Int) (hl : ns.length ≤ 63) (hb : ∀ z ∈ ns, Builtin.Int.intBits z ≤ 1048576) : ∃ us, g_law [.f (.lst (ns.map .int))] = some (.ok (.f (.bl true)) us) := by
  refine val_ex ?_
  have hv : val (g_law [.f (.lst (ns.map .int))]) = oval (b_law ([.f (.lst (ns.map .int))] ++ List.replicate (13 - 1) .un)) 1 := val_run (m := 1) (n := 13) rfl
  rw [hv]
  clear hv
  obtain ⟨m0, m00, m01, em0⟩ := mixed_ok (c := cell ns 0) (k := 2) (cell_bits hb 0) (by omega) (by omega)
  have ea0 := at_ok (ns := ns) (k := 0)
  have ea1 := at_ok (ns := ns) (k := 1)
  rw [show ((0 : Nat) : Int) = 0 from rfl] at ea0
  rw [show ((1 : Nat) : Int) = 1 from rfl] at ea1
  obtain ⟨kk, hkk⟩ := Int.eq_ofNat_of_zero_le (show 0 ≤ 1 + m0 % 4 by omega)
  obtain ⟨l, hll, hlo, enames⟩ := law_names_ok (m := m0 / 8) (k := kk) (by omega) (by omega) (by omega)
  have hcut : cutD (ns.map D.int) (some 2) (some 63) = ((ns.take 63).drop 2).map D.int := by
    rw [show (63 : Int) = ((63 : Nat) : Int) from rfl, show (2 : Int) = ((2 : Nat) : Int) from rfl, cut_mid (by omega), List.map_drop, List.map_take]
  have hcl : ((ns.take 63).drop 2).length ≤ 61 := by rw [List.length_drop, List.length_take]; omega
  have hcb : ∀ z ∈ (ns.take 63).drop 2, Builtin.Int.intBits z ≤ 1048576 := fun z hz => hb z (List.mem_of_mem_take (List.mem_of_mem_drop hz))
  generalize (ns.take 63).drop 2 = c0 at *
  have n1 : ∀ ds : List D, nn (some (.ln ds)) = some (.ln ds) := fun _ => rfl
  have n2 : ∀ (G : List T → Option Re) (ds : List D) us, kCall G (some (.ln ds :: us)) = kCO G (T.fzs (.ln ds :: us)) := fun _ _ _ => kCall_own rfl
  have n3 : ∀ ds : List D, (T.ln ds).fz = some (.lst ds) := fun _ => rfl
  have hlL : ((l.map D.str).length : Int) = (l.length : Int) := by rw [List.length_map]
  have hl1 : l.length ≤ 4 := by omega
  unfold b_law
  by_cases h15 : cell ns 1 / 21 % 16 = 15
  · have hcut8 : cutD (c0.map D.int) none (some 8) = (c0.take 8).map D.int := by
      rw [show (8 : Int) = ((8 : Nat) : Int) from rfl, cutD_take, List.map_take]
    obtain ⟨rd, kb, db, s6, s6', es, due, du3, X, e1, e2, e3, e4, e5, e6, e7, e8, e9, e10, e11⟩ := parts (ns := ns) (m0 := m0) (l := l) (cs := c0.take 8) (nb := 300) (by omega) (by omega) hlo (by rw [List.length_take]; omega) (by omega) hb (fun z hz => hcb z (List.mem_of_mem_take hz))
    rw [show ((300 : Nat) : Int) = 300 from rfl] at e1 e2 e3 e4 e9
    have hcL : (((c0.take 8).map D.int).length : Int) = ((c0.take 8).length : Int) := by rw [List.length_map]
    have hc61 : (c0.take 8).length ≤ 61 := by rw [List.length_take]; omega
    generalize c0.take 8 = cs at *
    clear hb hcb hcl hl hlo hll
    generalize hlL2 : l.map D.str = ld at *
    generalize hcL2 : cs.map D.int = cd at *
    generalize hnL2 : ns.map D.int = nd at *
    generalize hc02 : c0.map D.int = cd0 at *
    clear hlL2 hcL2 hnL2 hc02
    rw [if_pos (by decide)] at e9
    walk_at "W"
    rw [e4 _ rfl]
    walk_at "W"
    rw [e6 _ rfl (by simp only [List.length_cons, List.length_nil]; decide)]
    walk_at "W"
  · obtain ⟨nb, hnb⟩ := Int.eq_ofNat_of_zero_le (show 0 ≤ cell ns 1 % 21 by omega)
    obtain ⟨rd, kb, db, s6, s6', es, due, du3, X, e1, e2, e3, e4, e5, e6, e7, e8, e9, e10, e11⟩ := parts (ns := ns) (m0 := m0) (l := l) (cs := c0) (nb := nb) (by omega) (by omega) hlo hcl (by omega) hb hcb
    have hcL : ((c0.map D.int).length : Int) = (c0.length : Int) := by rw [List.length_map]
    have hnb3 : nb ≤ 20 := by omega
    clear hb hcb hl hlo hll
    generalize hlL2 : l.map D.str = ld at *
    generalize hcL2 : c0.map D.int = cd at *
    generalize hnL2 : ns.map D.int = nd at *
    clear hlL2 hcL2 hnL2
    walk_at "W"
    rw [e4 _ rfl]
    walk_at "W"
    rw [e6 _ rfl (by simp only [List.length_cons, List.length_nil]; decide)]
    walk_at "W"
end K
open PySem PySem.W PyProof.Rows
set_option maxRecDepth 100000 in
set_option maxHeartbeats 0 in
theorem PySem.Challenge.cw_deedloom_k60_wires_told_holds : PySem.Challenge.rw_deedloom_k60_wires_told.Holds := by
  w_on; o_law; k_head; (case hw => w_witness2)
  k_fill
  refine K.walk (l := PySem.Challenge.rw_deedloom_k60_wires_told) rfl rfl (fun w h Y => PySem.W.kIn_of Y) K.law_true ?F
  case F =>
    intro w mg fa h KX G hmg
    refine' K.all_mk KX G hmg ?a1 ?l1 ?c1 ?k1 ?a2 ?l2 ?c2 ?k2 ?a3 ?l3 ?c3 ?k3 ?a4 ?l4 ?c4 ?k4 ?a5 ?l5 ?c5 ?k5 ?a6 ?l6 ?c6 ?k6 ?a7 ?l7 ?c7 ?k7 ?a8 ?l8 ?c8 ?k8 ?a9 ?l9 ?c9 ?k9 ?a10 ?l10 ?c10 ?k10 ?a11 ?l11 ?c11 ?k11 ?a12 ?l12 ?c12 ?k12 ?a13 ?l13 ?c13 ?k13 ?z_range ?z_isinstance ?z_int ?z_bool ?z_len ?z_list ?z_min ?z_dict
    (case a1 => k_is)
    (case l1 => k_is)
    (case c1 => k_is)
    (case k1 => k_is)
    (case a2 => k_is)
    (case l2 => k_is)
    (case c2 => k_is)
    (case k2 => k_is)
    (case a3 => k_is)
    (case l3 => k_is)
    (case c3 => k_is)
    (case k3 => k_is)
    (case a4 => k_is)
    (case l4 => k_is)
    (case c4 => k_is)
    (case k4 => k_is)
    (case a5 => k_is)
    (case l5 => k_is)
    (case c5 => k_is)
    (case k5 => k_is)
    (case a6 => k_is)
    (case l6 => k_is)
    (case c6 => k_is)
    (case k6 => k_is)
    (case a7 => k_is)
    (case l7 => k_is)
    (case c7 => k_is)
    (case k7 => k_is)
    (case a8 => k_is)
    (case l8 => k_is)
    (case c8 => k_is)
    (case k8 => k_is)
    (case a9 => k_is)
    (case l9 => k_is)
    (case c9 => k_is)
    (case k9 => k_is)
    (case a10 => k_is)
    (case l10 => k_is)
    (case c10 => k_is)
    (case k10 => k_is)
    (case a11 => k_is)
    (case l11 => k_is)
    (case c11 => k_is)
    (case k11 => k_is)
    (case a12 => k_is)
    (case l12 => k_is)
    (case c12 => k_is)
    (case k12 => k_is)
    (case a13 => k_is)
    (case l13 => k_is)
    (case c13 => k_is)
    (case k13 => k_is)
    (case z_range => k_is)
    (case z_isinstance => k_is)
    (case z_int => k_is)
    (case z_bool => k_is)
    (case z_len => k_is)
    (case z_list => k_is)
    (case z_min => k_is)
    (case z_dict => k_is)
