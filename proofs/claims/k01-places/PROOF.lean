import PyProof.Rows.All
import Wide.All
import OpenK.AllK
import Wide.FinOn
import HandS.ForMost
import HandS.Exc
import HandS.TryOnly
import HandS.ExcOwn
import HandS.WordsExc
import HandS.Wide
import KE.DataEq
import KE.LtSeq
import HandS.Defaults
import HandS.Ends
import HandS.EndBits
import HandS.Zip
import HandS.More
import HandS.IsInst
import HandS.TupAny
import HandS.HeadEnd
import HandS.Head0
import HandS.Head1
import HandS.Head2
import HandS.HeadHook1
import HandS.HeadHook2
import PyProof.ReprRoads
import HandS.RaiseMore
import HandS.Style
import HandS.Conv
import KE.KDictZip
import KE.GoesMore
import KE.GoesEnum
import KE.KTupSum
import HandS.SortRule
import HandS.SortInts
import HandS.TupSets
import HandS.List
import HandS.Dict
import HandS.Iter
import KE.IntBitsLaws
import PySem.Challenge.RW_thinskin_k01_places_and_vectors
section
set_option exponentiation.threshold 256
set_option Elab.async false
set_option linter.all false
set_option maxRecDepth 100000
set_option maxHeartbeats 2000000
set_option autoImplicit false
/-! P3, part a: data, who owns what, the state -/
namespace P3
open PySem PySem.Spec PyProof.Rows L2

/-- Python data, as a tree -/
inductive D where
  | non | bl (b : Bool) | int (i : Int) | str (x : Str)
  | tup (xs : List D) | lst (xs : List D)
  /-- a tuple of the module's own -/
  | ctup (xs : List D)
  /-- a list of the module's own, never changed -/
  | clst (xs : List D)
  | flst (xs : List D)
  | dK (kvs : List (Key × D)) | dT (kvs : List (List Key × D))
  | obj (C : Addr) (fs : List (Str × D))

mutual
/-- no list, dict, object within -/
def D.lf : D → Bool
  | .non => true
  | .bl _ => true
  | .int _ => true
  | .str _ => true
  | .tup xs => lfs xs
  | .ctup xs => lfs xs
  | .clst xs => lfs xs
  | .flst xs => lfs xs
  | _ => false
def lfs : List D → Bool
  | [] => true
  | d :: ds => d.lf && lfs ds
end

mutual
/-- v stands for d: lists, dicts of L are shared, those at fp (in H) are its own -/
inductive Own (K : PySem.W.Frag) (L H : Hp) : V → D → List Addr → Prop
  | non : Own K L H .non .non []
  | bl (b : Bool) : Own K L H (.bl b) (.bl b) []
  | int (i : Int) : Own K L H (.int i) (.int i) []
  | str (x : Str) : Own K L H (.str x) (.str x) []
  | tup {p : Addr} {vs : List V} {ds : List D} {fp : List Addr} (h : H p = some (.tup vs)) (hs : Owns K L H vs ds fp) : Own K L H (.ref p) (.tup ds) fp
  | ctup {p : Addr} {vs : List V} {ds : List D} (h : SqT K (fun _ => none) p vs) (hs : Owns K L H vs ds []) : Own K L H (.ref p) (.ctup ds) []
  | clst {p : Addr} {vs : List V} {ds : List D} (h : SqL K (fun _ => none) p vs) (hs : Owns K L H vs ds []) : Own K L H (.ref p) (.clst ds) []
  | flst {p : Addr} {vs : List V} {ds : List D} (h : ∃ o, H p = some (.frz o (.lst vs))) (hs : Owns K L H vs ds []) : Own K L H (.ref p) (.flst ds) []
  | bor {p : Addr} {vs : List V} {ds : List D} (h : Rd L p (.lst vs)) (hs : Owns K L H vs ds []) : Own K L H (.ref p) (.lst ds) []
  | lst {p : Addr} {vs : List V} {ds : List D} {fp : List Addr} (h : H p = some (.lst vs)) (hs : Owns K L H vs ds fp) : Own K L H (.ref p) (.lst ds) (p :: fp)
  | dKb {p : Addr} {kvs : List (Key × V)} {es : List (Key × D)} (h : Rd L p (.dK kvs)) (hk : kvs.map (·.1) = es.map (·.1)) (hs : Owns K L H (kvs.map (·.2)) (es.map (·.2)) []) : Own K L H (.ref p) (.dK es) []
  | dK {p : Addr} {kvs : List (Key × V)} {es : List (Key × D)} {fp : List Addr} (h : H p = some (.dK kvs)) (hk : kvs.map (·.1) = es.map (·.1)) (hs : Owns K L H (kvs.map (·.2)) (es.map (·.2)) fp) : Own K L H (.ref p) (.dK es) (p :: fp)
  | dTb {p : Addr} {kvs : List (List Key × V)} {es : List (List Key × D)} (h : Rd L p (.dT kvs)) (hk : kvs.map (·.1) = es.map (·.1)) (hs : Owns K L H (kvs.map (·.2)) (es.map (·.2)) []) : Own K L H (.ref p) (.dT es) []
  | dT {p : Addr} {kvs : List (List Key × V)} {es : List (List Key × D)} {fp : List Addr} (h : H p = some (.dT kvs)) (hk : kvs.map (·.1) = es.map (·.1)) (hs : Owns K L H (kvs.map (·.2)) (es.map (·.2)) fp) : Own K L H (.ref p) (.dT es) (p :: fp)
  | objb {p C dx : Addr} {fvs : List (Str × V)} {fs : List (Str × D)} (h : L p = some (.ins C dx fvs)) (hx : L dx = some (.own p)) (hk : fvs.map (·.1) = fs.map (·.1)) (hs : Owns K L H (fvs.map (·.2)) (fs.map (·.2)) []) : Own K L H (.ref p) (.obj C fs) []
  | obj {p C dx : Addr} {fvs : List (Str × V)} {fs : List (Str × D)} {fp : List Addr} (h : H p = some (.ins C dx fvs)) (hx : H dx = some (.own p)) (hk : fvs.map (·.1) = fs.map (·.1)) (hs : Owns K L H (fvs.map (·.2)) (fs.map (·.2)) fp) : Own K L H (.ref p) (.obj C fs) (p :: dx :: fp)
inductive Owns (K : PySem.W.Frag) (L H : Hp) : List V → List D → List Addr → Prop
  | nil : Owns K L H [] [] []
  | cons {v : V} {d : D} {vs : List V} {ds : List D} {f g : List Addr} (h : Own K L H v d f) (hs : Owns K L H vs ds g) : Owns K L H (v :: vs) (d :: ds) (f ++ g)
end

/-- nothing is lost -/
def Le (H H' : Hp) : Prop := ∀ a o, H a = some o → H' a = some o
theorem Le.refl (H : Hp) : Le H H := fun _ _ h => h
theorem Le.trans {H H1 H2 : Hp} (a : Le H H1) (b : Le H1 H2) : Le H H2 := fun x o h => b x o (a x o h)
theorem Le.new {H : Hp} {p : Addr} {o : HO} (h : H p = none) : Le H (upd H p o) := fun a u e => by rw [upd_ne (ne_of_none e h)]; exact e
theorem Le.mut {L H : Hp} {p : Addr} {o : HO} (e : Le L H) (h : L p = none) : Le L (upd H p o) := fun a u ha => by rw [upd_ne (ne_of_none ha h)]; exact e a u ha
theorem Le.rd {H H' : Hp} {a : Addr} {u : HO} (e : Le H H') (h : Rd H a u) : Rd H' a u := h.elim (fun h => .inl (e _ _ h)) fun ⟨o, h⟩ => .inr ⟨o, e _ _ h⟩
theorem Le.sqL {K : PySem.W.Frag} {H H' : Hp} {a : Addr} {xs : List V} (e : Le H H') (h : SqL K H a xs) : SqL K H' a xs := h.elim (fun h => .inl (e.rd h)) .inr
theorem Le.sqT {K : PySem.W.Frag} {H H' : Hp} {a : Addr} {xs : List V} (e : Le H H') (h : SqT K H a xs) : SqT K H' a xs := h.elim (fun h => .inl (e.rd h)) .inr
theorem Le.none {H H' : Hp} {p : Addr} (e : Le H H') (h : H' p = Option.none) : H p = Option.none := by
  cases h1 : H p with
  | none => rfl
  | some o => rw [e p o h1] at h; cases h
/-- tuples, locked things are kept -/
structure LeT (H H' : Hp) : Prop where
  tup : ∀ a xs, H a = some (.tup xs) → H' a = some (.tup xs)
  frz : ∀ a o u, H a = some (.frz o u) → H' a = some (.frz o u)
theorem LeT.refl (H : Hp) : LeT H H := ⟨fun _ _ h => h, fun _ _ _ h => h⟩
theorem Le.leT {H H' : Hp} (e : Le H H') : LeT H H' := ⟨fun _ _ h => e _ _ h, fun _ _ _ h => e _ _ h⟩
theorem LeT.trans {H H1 H2 : Hp} (a : LeT H H1) (b : LeT H1 H2) : LeT H H2 := ⟨fun x o h => b.tup x o (a.tup x o h), fun x o u h => b.frz x o u (a.frz x o u h)⟩
theorem LeT.mut {H : Hp} {p : Addr} {o u : HO} (h : H p = some u) (hn : ∀ xs, u ≠ .tup xs) (hf : ∀ ob v, u ≠ .frz ob v := by intro _ _ z; cases z) : LeT H (upd H p o) := by
  refine ⟨fun a xs r => ?_, fun a ob v r => ?_⟩
  · have ne : a ≠ p := by
      rintro rfl
      rw [h] at r; exact hn xs (Option.some.inj r)
    rw [upd_ne ne]; exact r
  · have ne : a ≠ p := by
      rintro rfl
      rw [h] at r; exact hf ob v (Option.some.inj r)
    rw [upd_ne ne]; exact r

section
variable {K : PySem.W.Frag} {L L' H H' : Hp}
mutual
theorem Own.mono (hl : Le L L') (ht : LeT H H') : ∀ {v : V} {d : D} {fp : List Addr}, Own K L H v d fp → (∀ a ∈ fp, H' a = H a) → Own K L' H' v d fp
  | _, _, _, .non, _ => .non
  | _, _, _, .bl b, _ => .bl b
  | _, _, _, .int i, _ => .int i
  | _, _, _, .str x, _ => .str x
  | _, _, _, .tup h hs, e => .tup (ht.tup _ _ h) (Owns.mono hl ht hs e)
  | _, _, _, .ctup h hs, e => .ctup h (Owns.mono hl ht hs e)
  | _, _, _, .clst h hs, e => .clst h (Owns.mono hl ht hs e)
  | _, _, _, .flst ⟨o, h⟩ hs, e => .flst ⟨o, ht.frz _ _ _ h⟩ (Owns.mono hl ht hs e)
  | _, _, _, .bor h hs, e => .bor (hl.rd h) (Owns.mono hl ht hs e)
  | _, _, _, .lst h hs, e => .lst (by rw [e _ List.mem_cons_self]; exact h) (Owns.mono hl ht hs fun a ha => e a (List.mem_cons_of_mem _ ha))
  | _, _, _, .dKb h hk hs, e => .dKb (hl.rd h) hk (Owns.mono hl ht hs e)
  | _, _, _, .dK h hk hs, e => .dK (by rw [e _ List.mem_cons_self]; exact h) hk (Owns.mono hl ht hs fun a ha => e a (List.mem_cons_of_mem _ ha))
  | _, _, _, .dTb h hk hs, e => .dTb (hl.rd h) hk (Owns.mono hl ht hs e)
  | _, _, _, .dT h hk hs, e => .dT (by rw [e _ List.mem_cons_self]; exact h) hk (Owns.mono hl ht hs fun a ha => e a (List.mem_cons_of_mem _ ha))
  | _, _, _, .objb h hx hk hs, e => .objb (hl _ _ h) (hl _ _ hx) hk (Owns.mono hl ht hs e)
  | _, _, _, .obj h hx hk hs, e => .obj (by rw [e _ List.mem_cons_self]; exact h) (by rw [e _ (List.mem_cons_of_mem _ List.mem_cons_self)]; exact hx) hk (Owns.mono hl ht hs fun a ha => e a (List.mem_cons_of_mem _ (List.mem_cons_of_mem _ ha)))
theorem Owns.mono (hl : Le L L') (ht : LeT H H') : ∀ {vs : List V} {ds : List D} {fp : List Addr}, Owns K L H vs ds fp → (∀ a ∈ fp, H' a = H a) → Owns K L' H' vs ds fp
  | _, _, _, .nil, _ => .nil
  | _, _, _, .cons h hs, e => .cons (Own.mono hl ht h fun a ha => e a (List.mem_append_left _ ha)) (Owns.mono hl ht hs fun a ha => e a (List.mem_append_right _ ha))
end
/-- .. where all is kept -/
theorem Own.up {v : V} {d : D} {fp : List Addr} (o : Own K L H v d fp) (hl : Le L L') (h : ∀ a ∈ fp, H' a = H a) (ht : LeT H H') : Own K L' H' v d fp := o.mono hl ht h
mutual
/-- what is owned is there -/
theorem Own.there : ∀ {v : V} {d : D} {fp : List Addr}, Own K L H v d fp → ∀ a ∈ fp, ∃ o, H a = some o ∧ (∀ xs, o ≠ .tup xs) ∧ ∀ ob u, o ≠ .frz ob u
  | _, _, _, .non, a, h => nomatch h
  | _, _, _, .bl _, a, h => nomatch h
  | _, _, _, .int _, a, h => nomatch h
  | _, _, _, .str _, a, h => nomatch h
  | _, _, _, .tup _ hs, a, h => Owns.there hs a h
  | _, _, _, .ctup _ hs, a, h => nomatch h
  | _, _, _, .clst _ hs, a, h => nomatch h
  | _, _, _, .flst _ hs, a, h => nomatch h
  | _, _, _, .bor _ hs, a, h => nomatch h
  | _, _, _, .lst h hs, a, ha => by
    rcases List.mem_cons.mp ha with rfl | ha
    · exact ⟨_, h, (by intro xs z; cases z), by intro ob u z; cases z⟩
    · exact Owns.there hs a ha
  | _, _, _, .dKb _ _ hs, a, h => nomatch h
  | _, _, _, .dK h _ hs, a, ha => by
    rcases List.mem_cons.mp ha with rfl | ha
    · exact ⟨_, h, (by intro xs z; cases z), by intro ob u z; cases z⟩
    · exact Owns.there hs a ha
  | _, _, _, .dTb _ _ hs, a, h => nomatch h
  | _, _, _, .dT h _ hs, a, ha => by
    rcases List.mem_cons.mp ha with rfl | ha
    · exact ⟨_, h, (by intro xs z; cases z), by intro ob u z; cases z⟩
    · exact Owns.there hs a ha
  | _, _, _, .objb _ _ _ hs, a, h => nomatch h
  | _, _, _, .obj h hx _ hs, a, ha => by
    rcases List.mem_cons.mp ha with rfl | ha
    · exact ⟨_, h, (by intro xs z; cases z), by intro ob u z; cases z⟩
    · rcases List.mem_cons.mp ha with rfl | ha
      · exact ⟨_, hx, (by intro xs z; cases z), by intro ob u z; cases z⟩
      · exact Owns.there hs a ha
theorem Owns.there : ∀ {vs : List V} {ds : List D} {fp : List Addr}, Owns K L H vs ds fp → ∀ a ∈ fp, ∃ o, H a = some o ∧ (∀ xs, o ≠ .tup xs) ∧ ∀ ob u, o ≠ .frz ob u
  | _, _, _, .nil, a, h => nomatch h
  | _, _, _, .cons h hs, a, ha => by
    rcases List.mem_append.mp ha with ha | ha
    · exact Own.there h a ha
    · exact Owns.there hs a ha
end
mutual
/-- shared, over any heap that has both -/
theorem Own.share {M : Hp} (hl : Le L M) : ∀ {v : V} {d : D} {fp : List Addr}, Own K L H v d fp → (∀ a ∈ fp, M a = H a) → Own K M H v d []
  | _, _, _, .non, _ => .non
  | _, _, _, .bl b, _ => .bl b
  | _, _, _, .int i, _ => .int i
  | _, _, _, .str x, _ => .str x
  | _, _, _, .tup h hs, e => .tup h (Owns.share hl hs e)
  | _, _, _, .ctup h hs, e => .ctup h (Owns.share hl hs e)
  | _, _, _, .clst h hs, e => .clst h (Owns.share hl hs e)
  | _, _, _, .flst h hs, e => .flst h (Owns.share hl hs e)
  | _, _, _, .bor h hs, e => .bor (hl.rd h) (Owns.share hl hs e)
  | _, _, _, .lst h hs, e => .bor (.inl (by rw [e _ List.mem_cons_self]; exact h)) (Owns.share hl hs fun a ha => e a (List.mem_cons_of_mem _ ha))
  | _, _, _, .dKb h hk hs, e => .dKb (hl.rd h) hk (Owns.share hl hs e)
  | _, _, _, .dK h hk hs, e => .dKb (.inl (by rw [e _ List.mem_cons_self]; exact h)) hk (Owns.share hl hs fun a ha => e a (List.mem_cons_of_mem _ ha))
  | _, _, _, .dTb h hk hs, e => .dTb (hl.rd h) hk (Owns.share hl hs e)
  | _, _, _, .dT h hk hs, e => .dTb (.inl (by rw [e _ List.mem_cons_self]; exact h)) hk (Owns.share hl hs fun a ha => e a (List.mem_cons_of_mem _ ha))
  | _, _, _, .objb h hx hk hs, e => .objb (hl _ _ h) (hl _ _ hx) hk (Owns.share hl hs e)
  | _, _, _, .obj h hx hk hs, e => .objb (by rw [e _ List.mem_cons_self]; exact h) (by rw [e _ (List.mem_cons_of_mem _ List.mem_cons_self)]; exact hx) hk (Owns.share hl hs fun a ha => e a (List.mem_cons_of_mem _ (List.mem_cons_of_mem _ ha)))
theorem Owns.share {M : Hp} (hl : Le L M) : ∀ {vs : List V} {ds : List D} {fp : List Addr}, Owns K L H vs ds fp → (∀ a ∈ fp, M a = H a) → Owns K M H vs ds []
  | _, _, _, .nil, _ => .nil
  | _, _, _, .cons h hs, e => .cons (f := []) (g := []) (Own.share hl h fun a ha => e a (List.mem_append_left _ ha)) (Owns.share hl hs fun a ha => e a (List.mem_append_right _ ha))
end
mutual
/-- without lists nothing hangs on L -/
theorem Own.free {M : Hp} : ∀ {v : V} {d : D} {fp : List Addr}, Own K L H v d fp → d.lf = true → fp = [] ∧ Own K M H v d []
  | _, _, _, .non, _ => ⟨rfl, .non⟩
  | _, _, _, .bl b, _ => ⟨rfl, .bl b⟩
  | _, _, _, .int i, _ => ⟨rfl, .int i⟩
  | _, _, _, .str x, _ => ⟨rfl, .str x⟩
  | _, _, _, .tup h hs, e => by
    obtain ⟨r, q⟩ := Owns.free (M := M) hs (by simpa [D.lf] using e)
    exact ⟨r, .tup h q⟩
  | _, _, _, .ctup h hs, e => by
    obtain ⟨r, q⟩ := Owns.free (M := M) hs (by simpa [D.lf] using e)
    exact ⟨rfl, .ctup h q⟩
  | _, _, _, .clst h hs, e => by
    obtain ⟨r, q⟩ := Owns.free (M := M) hs (by simpa [D.lf] using e)
    exact ⟨rfl, .clst h q⟩
  | _, _, _, .flst h hs, e => by
    obtain ⟨r, q⟩ := Owns.free (M := M) hs (by simpa [D.lf] using e)
    exact ⟨rfl, .flst h q⟩
  | _, _, _, .bor _ _, e => by simp [D.lf] at e
  | _, _, _, .lst _ _, e => by simp [D.lf] at e
  | _, _, _, .dKb _ _ _, e => by simp [D.lf] at e
  | _, _, _, .dK _ _ _, e => by simp [D.lf] at e
  | _, _, _, .dTb _ _ _, e => by simp [D.lf] at e
  | _, _, _, .dT _ _ _, e => by simp [D.lf] at e
  | _, _, _, .objb _ _ _ _, e => by simp [D.lf] at e
  | _, _, _, .obj _ _ _ _, e => by simp [D.lf] at e
theorem Owns.free {M : Hp} : ∀ {vs : List V} {ds : List D} {fp : List Addr}, Owns K L H vs ds fp → lfs ds = true → fp = [] ∧ Owns K M H vs ds []
  | _, _, _, .nil, _ => ⟨rfl, .nil⟩
  | _, _, _, .cons h hs, e => by
    simp only [lfs, Bool.and_eq_true] at e
    obtain ⟨r1, q1⟩ := Own.free (M := M) h e.1
    obtain ⟨r2, q2⟩ := Owns.free (M := M) hs e.2
    exact ⟨by rw [r1, r2]; rfl, .cons (f := []) (g := []) q1 q2⟩
end
theorem Owns.len {vs : List V} {ds : List D} {fp : List Addr} (h : Owns K L H vs ds fp) : vs.length = ds.length := by
  induction ds generalizing vs fp with
  | nil => cases h; rfl
  | cons d ds ih => cases h with | cons h hs => simp [ih hs]
theorem Owns.get {vs : List V} {ds : List D} {fp : List Addr} (h : Owns K L H vs ds fp) : ∀ {i : Nat} {d : D}, ds[i]? = some d → ∃ v f g1 g2, vs[i]? = some v ∧ Own K L H v d f ∧ fp = g1 ++ f ++ g2 := by
  induction ds generalizing vs fp with
  | nil => intro i d e; simp at e
  | cons d0 ds ih =>
    intro i d e
    cases h with
    | @cons _ _ _ _ f0 g0 h hs =>
      cases i with
      | zero => simp at e; subst e; exact ⟨_, _, [], _, rfl, h, rfl⟩
      | succ i =>
        obtain ⟨v, f, g1, g2, e1, o, r⟩ := ih hs (i := i) (by simpa using e)
        exact ⟨v, f, f0 ++ g1, g2, by simpa using e1, o, by rw [r]; simp [List.append_assoc]⟩
/-- .. of what is shared -/
theorem Owns.get0 {vs : List V} {ds : List D} (h : Owns K L H vs ds []) {i : Nat} {d : D} (e : ds[i]? = some d) : ∃ v, vs[i]? = some v ∧ Own K L H v d [] := by
  obtain ⟨v, f, g1, g2, e1, o, r⟩ := h.get e
  have r1 : f = [] := by
    have := congrArg List.length r
    simp at this
    exact List.eq_nil_of_length_eq_zero (by omega)
  subst r1
  exact ⟨v, e1, o⟩
theorem Owns.append {vs ws : List V} {ds es : List D} {f g : List Addr} (h1 : Owns K L H vs ds f) (h2 : Owns K L H ws es g) : Owns K L H (vs ++ ws) (ds ++ es) (f ++ g) := by
  induction ds generalizing vs f with
  | nil => cases h1; exact h2
  | cons d ds ih =>
    cases h1 with
    | cons h hs =>
      rw [List.append_assoc]
      exact .cons h (ih hs)
theorem Owns.one {v : V} {d : D} {f : List Addr} (h : Own K L H v d f) : Owns K L H [v] [d] f := by
  have := Owns.cons h .nil
  rw [List.append_nil] at this
  exact this
theorem Owns.take {vs : List V} {ds : List D} {fp : List Addr} (h : Owns K L H vs ds fp) (n : Nat) : ∃ g1 g2, fp = g1 ++ g2 ∧ Owns K L H (vs.take n) (ds.take n) g1 ∧ Owns K L H (vs.drop n) (ds.drop n) g2 := by
  induction ds generalizing vs fp n with
  | nil => cases h; exact ⟨[], [], rfl, by simpa using Owns.nil, by simpa using Owns.nil⟩
  | cons d ds ih =>
    cases h with
    | cons h hs =>
      cases n with
      | zero => exact ⟨[], _, rfl, .nil, .cons h hs⟩
      | succ n =>
        obtain ⟨g1, g2, r, q1, q2⟩ := ih hs n
        exact ⟨_, g2, by rw [r, ← List.append_assoc], .cons h q1, q2⟩
end

/-! ### the state: slots, temporary values -/
/-- a name: nothing known | shared | its own -/
inductive Slot where
  | no | b (d : D) | w (d : D)
abbrev Env3 := List Slot
/-- an entry: w: it owns (nothing of L within); else it shares -/
structure Ent where
  w : Bool
  v : V
  d : D
def EntOk (K : PySem.W.Frag) (L H : Hp) (e : Ent) (fp : List Addr) : Prop :=
  if e.w = true then Own K (fun _ => none) H e.v e.d fp else (fp = [] ∧ Own K L H e.v e.d [])
inductive HoldsL (K : PySem.W.Frag) (L H : Hp) : List Ent → List Addr → Prop
  | nil : HoldsL K L H [] []
  | cons {e : Ent} {es : List Ent} {f g : List Addr} (h : EntOk K L H e f) (hs : HoldsL K L H es g) : HoldsL K L H (e :: es) (f ++ g)
/-- all entries hold, apart from one another and from L -/
structure Holds (K : PySem.W.Frag) (L H : Hp) (es : List Ent) : Prop where
  le : Le L H
  own : ∃ fp, HoldsL K L H es fp ∧ fp.Nodup ∧ ∀ a ∈ fp, L a = none

section
variable {K : PySem.W.Frag} {L L' H H' : Hp}
theorem leEmpty : Le (fun _ => none) H := fun _ _ h => nomatch h
theorem EntOk.there {e : Ent} {fp : List Addr} (h : EntOk K L H e fp) : ∀ a ∈ fp, ∃ o, H a = some o ∧ (∀ xs, o ≠ .tup xs) ∧ ∀ ob u, o ≠ .frz ob u := by
  unfold EntOk at h
  split at h
  · exact h.there
  · rw [h.1]; intro a ha; cases ha
theorem EntOk.up {e : Ent} {fp : List Addr} (h : EntOk K L H e fp) (hl : Le L L') (hk : ∀ a ∈ fp, H' a = H a) (ht : LeT H H') : EntOk K L' H' e fp := by
  unfold EntOk at h ⊢
  split at h
  · rename_i hw; rw [if_pos hw]; exact h.mono (Le.refl _) ht hk
  · rename_i hw; rw [if_neg hw]; exact ⟨h.1, h.2.mono hl ht (by simp)⟩
theorem HoldsL.there {es : List Ent} {fp : List Addr} (h : HoldsL K L H es fp) : ∀ a ∈ fp, ∃ o, H a = some o ∧ (∀ xs, o ≠ .tup xs) ∧ ∀ ob u, o ≠ .frz ob u := by
  induction h with
  | nil => intro a ha; cases ha
  | cons h hs ih => intro a ha; exact (List.mem_append.mp ha).elim (h.there a) (ih a)
theorem HoldsL.up {es : List Ent} {fp : List Addr} (h : HoldsL K L H es fp) (hl : Le L L') (hk : ∀ a ∈ fp, H' a = H a) (ht : LeT H H') : HoldsL K L' H' es fp := by
  induction h with
  | nil => exact .nil
  | cons h hs ih => exact .cons (h.up hl (fun a ha => hk a (List.mem_append_left _ ha)) ht) (ih fun a ha => hk a (List.mem_append_right _ ha))
theorem HoldsL.append {es es' : List Ent} {f g : List Addr} (h : HoldsL K L H es f) (h' : HoldsL K L H es' g) : HoldsL K L H (es ++ es') (f ++ g) := by
  induction h with
  | nil => exact h'
  | cons h hs ih => rw [List.append_assoc]; exact .cons h ih
theorem HoldsL.perm {es es' : List Ent} (p : es.Perm es') : ∀ {f : List Addr}, HoldsL K L H es f → ∃ g, f.Perm g ∧ HoldsL K L H es' g := by
  induction p with
  | nil => intro f h; exact ⟨f, .refl _, h⟩
  | cons x p ih =>
    intro f h
    cases h with
    | cons h hs =>
      obtain ⟨g, q, r⟩ := ih hs
      exact ⟨_, q.append_left _, .cons h r⟩
  | swap x y l =>
    intro f h
    cases h with
    | cons h hs =>
      cases hs with
      | cons h2 hs =>
        refine ⟨_, ?_, .cons h2 (.cons h hs)⟩
        rw [← List.append_assoc, ← List.append_assoc]
        exact List.perm_append_comm.append_right _
  | trans p q ih1 ih2 =>
    intro f h
    obtain ⟨g, r, h1⟩ := ih1 h
    obtain ⟨g', r', h2⟩ := ih2 h1
    exact ⟨g', r.trans r', h2⟩
theorem Holds.perm {es es' : List Ent} (h : Holds K L H es) (p : es.Perm es') : Holds K L H es' := by
  obtain ⟨le, fp, hl, nd, fr⟩ := h
  obtain ⟨g, q, r⟩ := hl.perm p
  exact ⟨le, g, r, q.nodup nd, fun a ha => fr a (q.mem_iff.mpr ha)⟩
theorem Holds.drop {e : Ent} {es : List Ent} (h : Holds K L H (e :: es)) : Holds K L H es := by
  obtain ⟨le, fp, hl, nd, fr⟩ := h
  cases hl with
  | cons h hs => exact ⟨le, _, hs, (List.nodup_append.mp nd).2.1, fun a ha => fr a (List.mem_append_right _ ha)⟩
theorem Holds.dropL {es es' : List Ent} (h : Holds K L H (es ++ es')) : Holds K L H es' := by
  induction es with
  | nil => exact h
  | cons e es ih => exact ih h.drop
theorem Holds.push {v : V} {d : D} {es : List Ent} (h : Holds K L H es) (o : Own K L H v d []) : Holds K L H (⟨false, v, d⟩ :: es) := by
  obtain ⟨le, fp, hl, nd, fr⟩ := h
  exact ⟨le, fp, .cons (f := []) (by unfold EntOk; rw [if_neg Bool.false_ne_true]; exact ⟨rfl, o⟩) hl, nd, fr⟩
theorem Holds.pushW {v : V} {d : D} {es : List Ent} {fp fq : List Addr} (le : Le L H) (hl : HoldsL K L H es fq) (nq : (fp ++ fq).Nodup) (fr : ∀ a ∈ fp ++ fq, L a = none) (o : Own K (fun _ => none) H v d fp) : Holds K L H (⟨true, v, d⟩ :: es) :=
  ⟨le, fp ++ fq, .cons (by unfold EntOk; rw [if_pos rfl]; exact o) hl, nq, fr⟩
theorem Holds.fresh {v : V} {d : D} {es : List Ent} {fp : List Addr} (h : Holds K L H es) (g : Le H H') (o : Own K (fun _ => none) H' v d fp) (nd : fp.Nodup) (fr : ∀ a ∈ fp, H a = none) : Holds K L H' (⟨true, v, d⟩ :: es) := by
  obtain ⟨le, fq, hl, nq, fr2⟩ := h
  have hl' := hl.up (L' := L) (H' := H') (Le.refl _) (fun b hb => by obtain ⟨o, e, _⟩ := hl.there b hb; rw [e]; exact g _ _ e) g.leT
  refine Holds.pushW (le.trans g) hl' (List.nodup_append.mpr ⟨nd, nq, fun a ha b hb e => ?_⟩) (fun a ha => (List.mem_append.mp ha).elim (fun ha => le.none (fr a ha)) (fr2 a)) o
  subst e
  obtain ⟨x, y, _⟩ := hl.there a hb
  rw [fr a ha] at y; cases y
/-- the first entry, apart -/
theorem Holds.hd {e : Ent} {es : List Ent} (h : Holds K L H (e :: es)) : ∃ f g, EntOk K L H e f ∧ HoldsL K L H es g ∧ (f ++ g).Nodup ∧ ∀ a ∈ f ++ g, L a = none := by
  obtain ⟨le, fp, hl, nd, fr⟩ := h
  cases hl with
  | cons h hs => exact ⟨_, _, h, hs, nd, fr⟩
theorem Holds.own0 {v : V} {d : D} {es : List Ent} (h : Holds K L H (⟨false, v, d⟩ :: es)) : Own K L H v d [] := by
  obtain ⟨f, g, o, _⟩ := h.hd
  unfold EntOk at o
  rw [if_neg Bool.false_ne_true] at o
  exact o.2
theorem Holds.ownW {v : V} {d : D} {es : List Ent} (h : Holds K L H (⟨true, v, d⟩ :: es)) : ∃ f g, Own K (fun _ => none) H v d f ∧ HoldsL K L H es g ∧ (f ++ g).Nodup ∧ ∀ a ∈ f ++ g, L a = none := by
  obtain ⟨f, g, o, r⟩ := h.hd
  unfold EntOk at o
  rw [if_pos rfl] at o
  exact ⟨f, g, o, r⟩
/-- readable now -/
abbrev Rdb (K : PySem.W.Frag) (H : Hp) (v : V) (d : D) : Prop := Own K H H v d []
theorem Holds.rdb {e : Ent} {es : List Ent} (h : Holds K L H (e :: es)) : Rdb K H e.v e.d := by
  obtain ⟨f, g, o, _⟩ := h.hd
  unfold EntOk at o
  split at o
  · exact o.share leEmpty fun _ _ => rfl
  · exact o.2.share h.le fun _ _ => rfl
theorem Holds.mem {e : Ent} {es : List Ent} (h : Holds K L H es) (m : e ∈ es) : ∃ es', es.Perm (e :: es') ∧ Holds K L H (e :: es') := by
  obtain ⟨s, t, rfl⟩ := List.append_of_mem m
  exact ⟨s ++ t, List.perm_middle, h.perm List.perm_middle⟩
theorem Holds.rdbOf {e : Ent} {es : List Ent} (h : Holds K L H es) (m : e ∈ es) : Rdb K H e.v e.d := let ⟨_, _, q⟩ := h.mem m; q.rdb
/-- the heap has grown -/
theorem Holds.grow {es : List Ent} (h : Holds K L H es) (g : Le H H') : Holds K L H' es := by
  obtain ⟨le, fp, hl, nd, fr⟩ := h
  refine ⟨le.trans g, fp, hl.up (Le.refl _) (fun a ha => ?_) g.leT, nd, fr⟩
  obtain ⟨o, e, _⟩ := hl.there a ha
  rw [e]; exact g _ _ e
/-- an entry that owns is shared from now on -/
theorem Holds.freeze {v : V} {d : D} {es : List Ent} (h : Holds K L H (⟨true, v, d⟩ :: es)) : ∃ L', Le L L' ∧ Holds K L' H (⟨false, v, d⟩ :: es) := by
  obtain ⟨f, g, o, hs, nd, fr⟩ := h.ownW
  refine ⟨fun a => if a ∈ f then H a else L a, fun a u e => ?_, ?_⟩
  · show (if a ∈ f then H a else L a) = _
    split
    · rename_i hm
      rw [fr a (List.mem_append_left _ hm)] at e; cases e
    · exact e
  · have hl : Le L (fun a => if a ∈ f then H a else L a) := fun a u e => by
      show (if a ∈ f then H a else L a) = _
      split
      · rename_i hm
        rw [fr a (List.mem_append_left _ hm)] at e; cases e
      · exact e
    have hm : Holds K (fun a => if a ∈ f then H a else L a) H es := by
      refine ⟨fun a u e => ?_, g, hs.up hl (fun _ _ => rfl) (LeT.refl _), (List.nodup_append.mp nd).2.1, fun a ha => ?_⟩
      · have e' : (if a ∈ f then H a else L a) = some u := e
        split at e'
        · exact e'
        · exact h.le _ _ e'
      · show (if a ∈ f then H a else L a) = none
        rw [if_neg fun hf => (List.nodup_append.mp nd).2.2 a hf a ha rfl]
        exact fr a (List.mem_append_right _ ha)
    refine hm.push (o.share leEmpty fun a ha => ?_)
    show (if a ∈ f then H a else L a) = H a
    rw [if_pos ha]
/-- a shared value without lists may be owned -/
theorem Holds.toW {v : V} {d : D} {es : List Ent} (h : Holds K L H (⟨false, v, d⟩ :: es)) (hf : d.lf = true) : Holds K L H (⟨true, v, d⟩ :: es) :=
  let ⟨fp, hl, nd, fr⟩ := h.drop.own
  Holds.pushW (fp := []) h.le hl nd fr ((h.own0.free hf).2)
theorem Holds.toB {v : V} {d : D} {es : List Ent} (h : Holds K L H (⟨true, v, d⟩ :: es)) (hf : d.lf = true) : Holds K L H (⟨false, v, d⟩ :: es) := by
  obtain ⟨f, g, o, _⟩ := h.ownW
  exact h.drop.push (o.free hf).2
end

/-- the slots' values and the entries that they make -/
inductive Loc : Env3 → L2.St → List Ent → Prop
  | nil : Loc [] [] []
  | no {E : Env3} {σ : L2.St} {es : List Ent} {s : Option V} (h : Loc E σ es) : Loc (.no :: E) (s :: σ) es
  | b {E : Env3} {σ : L2.St} {es : List Ent} {v : V} {d : D} (h : Loc E σ es) : Loc (.b d :: E) (some v :: σ) (⟨false, v, d⟩ :: es)
  | w {E : Env3} {σ : L2.St} {es : List Ent} {v : V} {d : D} (h : Loc E σ es) : Loc (.w d :: E) (some v :: σ) (⟨true, v, d⟩ :: es)
theorem Loc.len {E : Env3} {σ : L2.St} {es : List Ent} (h : Loc E σ es) : E.length = σ.length := by
  induction h <;> simp_all
/-- a slot that is known -/
theorem Loc.getB {E : Env3} {σ : L2.St} {es : List Ent} {d : D} (h : Loc E σ es) : ∀ {i : Nat}, E[i]? = some (.b d) → ∃ v, σ[i]? = some (some v) ∧ ⟨false, v, d⟩ ∈ es := by
  induction h with
  | nil => intro i e; simp at e
  | no h ih => intro i e; cases i with
    | zero => simp at e
    | succ i => obtain ⟨v, a, b⟩ := ih (i := i) (by simpa using e); exact ⟨v, by simpa using a, b⟩
  | b h ih => intro i e; cases i with
    | zero => simp at e; subst e; exact ⟨_, rfl, List.mem_cons_self⟩
    | succ i => obtain ⟨v, a, b⟩ := ih (i := i) (by simpa using e); exact ⟨v, by simpa using a, List.mem_cons_of_mem _ b⟩
  | w h ih => intro i e; cases i with
    | zero => simp at e
    | succ i => obtain ⟨v, a, b⟩ := ih (i := i) (by simpa using e); exact ⟨v, by simpa using a, List.mem_cons_of_mem _ b⟩
theorem Loc.getW {E : Env3} {σ : L2.St} {es : List Ent} {d : D} (h : Loc E σ es) : ∀ {i : Nat}, E[i]? = some (.w d) → ∃ v es', σ[i]? = some (some v) ∧ es.Perm (⟨true, v, d⟩ :: es') ∧ Loc (E.set i .no) σ es' ∧
    ∀ d', ∃ es'', Loc (E.set i (.w d')) σ es'' ∧ es''.Perm (⟨true, v, d'⟩ :: es') := by
  induction h with
  | nil => intro i e; simp at e
  | no h ih => intro i e; cases i with
    | zero => simp at e
    | succ i =>
      obtain ⟨v, es', a, b, c, f⟩ := ih (i := i) (by simpa using e)
      exact ⟨v, es', by simpa using a, b, .no c, fun d' => let ⟨x, y, z⟩ := f d'; ⟨x, .no y, z⟩⟩
  | b h ih => intro i e; cases i with
    | zero => simp at e
    | succ i =>
      obtain ⟨v, es', a, b, c, f⟩ := ih (i := i) (by simpa using e)
      exact ⟨v, _ :: es', by simpa using a, (b.cons _).trans (.swap _ _ _), .b c, fun d' => let ⟨x, y, z⟩ := f d'; ⟨_ :: x, .b y, (z.cons _).trans (.swap _ _ _)⟩⟩
  | w h ih => intro i e; cases i with
    | zero => simp at e; subst e; exact ⟨_, _, rfl, .refl _, .no h, fun d' => ⟨_, .w h, .refl _⟩⟩
    | succ i =>
      obtain ⟨v, es', a, b, c, f⟩ := ih (i := i) (by simpa using e)
      exact ⟨v, _ :: es', by simpa using a, (b.cons _).trans (.swap _ _ _), .w c, fun d' => let ⟨x, y, z⟩ := f d'; ⟨_ :: x, .w y, (z.cons _).trans (.swap _ _ _)⟩⟩
/-- what is left without slot i -/
theorem Loc.rest {E : Env3} {σ : L2.St} {es : List Ent} (h : Loc E σ es) : ∀ {i : Nat}, i < E.length → ∃ es', (es = es' ∨ ∃ e, es.Perm (e :: es')) ∧ (∀ s, Loc (E.set i .no) (σ.set i s) es') ∧
    ∀ v d, (∃ es'', Loc (E.set i (.b d)) (σ.set i (some v)) es'' ∧ es''.Perm (⟨false, v, d⟩ :: es')) ∧ ∃ es'', Loc (E.set i (.w d)) (σ.set i (some v)) es'' ∧ es''.Perm (⟨true, v, d⟩ :: es') := by
  induction h with
  | nil => intro i hi; simp at hi
  | no h ih => intro i hi; cases i with
    | zero => exact ⟨_, .inl rfl, fun s => .no h, fun v d => ⟨⟨_, .b h, .refl _⟩, ⟨_, .w h, .refl _⟩⟩⟩
    | succ i =>
      obtain ⟨es', a, b, c⟩ := ih (i := i) (by simpa using hi)
      exact ⟨es', a, fun s => .no (b s), fun v d => let ⟨⟨x, y, z⟩, ⟨x', y', z'⟩⟩ := c v d; ⟨⟨x, .no y, z⟩, ⟨x', .no y', z'⟩⟩⟩
  | b h ih => intro i hi; cases i with
    | zero => exact ⟨_, .inr ⟨_, .refl _⟩, fun s => .no h, fun v d => ⟨⟨_, .b h, .refl _⟩, ⟨_, .w h, .refl _⟩⟩⟩
    | succ i =>
      obtain ⟨es', a, b, c⟩ := ih (i := i) (by simpa using hi)
      exact ⟨_ :: es', a.elim (fun z => .inl (by rw [z])) fun ⟨e, z⟩ => .inr ⟨e, (z.cons _).trans (.swap _ _ _)⟩, fun s => .b (b s), fun v d => let ⟨⟨x, y, z⟩, ⟨x', y', z'⟩⟩ := c v d; ⟨⟨_, .b y, (z.cons _).trans (.swap _ _ _)⟩, ⟨_, .b y', (z'.cons _).trans (.swap _ _ _)⟩⟩⟩
  | w h ih => intro i hi; cases i with
    | zero => exact ⟨_, .inr ⟨_, .refl _⟩, fun s => .no h, fun v d => ⟨⟨_, .b h, .refl _⟩, ⟨_, .w h, .refl _⟩⟩⟩
    | succ i =>
      obtain ⟨es', a, b, c⟩ := ih (i := i) (by simpa using hi)
      exact ⟨_ :: es', a.elim (fun z => .inl (by rw [z])) fun ⟨e, z⟩ => .inr ⟨e, (z.cons _).trans (.swap _ _ _)⟩, fun s => .w (b s), fun v d => let ⟨⟨x, y, z⟩, ⟨x', y', z'⟩⟩ := c v d; ⟨⟨_, .w y, (z.cons _).trans (.swap _ _ _)⟩, ⟨_, .w y', (z'.cons _).trans (.swap _ _ _)⟩⟩⟩

/-- THE STATE: the slots E, temporary values T (the newest first); p0: the object that slot 0 stands for all along (a parameter that is changed) -/
structure St3 (K : PySem.W.Frag) (p0 : Option Addr) (L H : Hp) (E : Env3) (σ : L2.St) (T : List Ent) : Prop where
  ex : ∃ es, Loc E σ es ∧ Holds K L H (es ++ T)
  pin : ∀ a, p0 = some a → σ[0]? = some (some (.ref a)) ∧ ∃ d, E[0]? = some (.w d)

section
variable {K : PySem.W.Frag} {p0 : Option Addr} {L L' H H' : Hp} {E : Env3} {σ : L2.St} {T : List Ent} {d : D} {v : V} {i : Nat}
theorem St3.le (S : St3 K p0 L H E σ T) : Le L H := let ⟨_, _, h⟩ := S.ex; h.le
theorem St3.pop {e : Ent} (S : St3 K p0 L H E σ (e :: T)) : St3 K p0 L H E σ T := by
  obtain ⟨es, l, h⟩ := S.ex
  exact ⟨⟨es, l, (h.perm List.perm_middle).drop⟩, S.pin⟩
theorem St3.perm {T' : List Ent} (S : St3 K p0 L H E σ T) (p : T.Perm T') : St3 K p0 L H E σ T' := by
  obtain ⟨es, l, h⟩ := S.ex
  exact ⟨⟨es, l, h.perm (p.append_left _)⟩, S.pin⟩
theorem St3.temps (S : St3 K p0 L H E σ T) : Holds K L H T := let ⟨_, _, h⟩ := S.ex; h.dropL
theorem St3.own0 (S : St3 K p0 L H E σ (⟨false, v, d⟩ :: T)) : Own K L H v d [] := S.temps.own0
theorem St3.rdb {e : Ent} (S : St3 K p0 L H E σ (e :: T)) : Rdb K H e.v e.d := S.temps.rdb
theorem St3.push (S : St3 K p0 L H E σ T) (o : Own K L H v d []) : St3 K p0 L H E σ (⟨false, v, d⟩ :: T) := by
  obtain ⟨es, l, h⟩ := S.ex
  exact ⟨⟨es, l, (h.push o).perm List.perm_middle.symm⟩, S.pin⟩
theorem St3.grow (S : St3 K p0 L H E σ T) (g : Le H H') : St3 K p0 L H' E σ T := by
  obtain ⟨es, l, h⟩ := S.ex
  exact ⟨⟨es, l, h.grow g⟩, S.pin⟩
/-- a new thing of its own -/
theorem St3.fresh {fp : List Addr} (S : St3 K p0 L H E σ T) (g : Le H H') (o : Own K (fun _ => none) H' v d fp) (nd : fp.Nodup) (fr : ∀ a ∈ fp, H a = none) : St3 K p0 L H' E σ (⟨true, v, d⟩ :: T) := by
  obtain ⟨es, l, h⟩ := S.ex
  exact ⟨⟨es, l, (h.fresh g o nd fr).perm List.perm_middle.symm⟩, S.pin⟩
theorem St3.lookB (S : St3 K p0 L H E σ T) (e : E[i]? = some (.b d)) : ∃ v, σ[i]? = some (some v) ∧ Own K L H v d [] := by
  obtain ⟨es, l, h⟩ := S.ex
  obtain ⟨v, a, b⟩ := l.getB e
  obtain ⟨_, _, q⟩ := h.mem (List.mem_append_left _ b)
  exact ⟨v, a, q.own0⟩
end
end P3
end
section
set_option exponentiation.threshold 256
set_option Elab.async false
set_option linter.all false
set_option maxRecDepth 100000
set_option maxHeartbeats 2000000
set_option autoImplicit false
/-! P3, part b: meanings, judgements, expressions -/
namespace P3
open PySem PySem.Spec PyProof.Rows L2

/-- an exception: its class's name, the field that it bears -/
structure Exn where
  cls : Str
  fld : Option (Str × D)
inductive R (α : Type) where
  | ok (a : α) (E : Env3) | exc (x : Exn) (E : Env3) | bad
abbrev Sm (α : Type) : Type := Env3 → R α
def Sm.b {α β : Type} (f : Sm α) (g : α → Sm β) : Sm β := fun E => match f E with
  | .ok a E' => g a E'
  | .exc x E' => .exc x E'
  | .bad => .bad
def Sm.p {α : Type} (a : α) : Sm α := fun E => .ok a E
def Sm.o {α : Type} (a : Option α) : Sm α := fun E => match a with
  | some a => .ok a E
  | none => .bad

/-- a body's context: p0: the parameter that is changed; W: what is wished of exceptions -/
structure Cy where
  X : Cx
  p0 : Option Addr
  W : WX
  tk : Takes X W
abbrev Cy.K (Y : Cy) : PySem.W.Frag := Y.X.K
/-- an exception in Python and here -/
def ExcOk (K : PySem.W.Frag) (mg : Str → Option Value) (x : Exn) (cls : Value) (od : Option Addr) (H : Hp) : Prop :=
  ∃ C, mg x.cls = some (.ref C) ∧ cls = .ref C ∧ match x.fld with
    | none => od = none
    | some (f, d) => ∃ dx v, od = some dx ∧ H dx = some (.xd [(f, v)]) ∧ Rdb K H v d
def Gd {α : Type} (Y : Cy) (L : Hp) (σ : L2.St) (T : List Ent) (S : α → Env3 → Prop) : R α → Prop
  | .ok a E => S a E
  | .exc x E => ∀ cls od L' H', Le L L' → St3 Y.K Y.p0 L' H' E σ T → ExcOk Y.K Y.X.mg x cls od H' → Y.W cls od σ H'
  | .bad => False
section
variable {α β : Type} {Y : Cy} {L L' : Hp} {σ : L2.St} {T : List Ent} {S S' : α → Env3 → Prop} {r : R α}
theorem Gd.imp (h : Gd Y L σ T S r) (f : ∀ a E, S a E → S' a E) : Gd Y L σ T S' r := by
  cases r with
  | ok a E => exact f a E h
  | exc x E => exact h
  | bad => exact h
theorem Gd.bind {f : Sm α} {g : α → Sm β} {E : Env3} {S : β → Env3 → Prop} (h : Gd Y L σ T S (Sm.b f g E)) : Gd Y L σ T (fun a E' => Gd Y L σ T S (g a E')) (f E) := by
  unfold Sm.b at h
  cases e : f E with
  | ok a E' => rw [e] at h; exact h
  | exc x E' => rw [e] at h; exact h
  | bad => rw [e] at h; exact h
theorem Gd.grow (h : Gd Y L σ T S r) (l : Le L L') (f : ∀ a E, S a E → S' a E) : Gd Y L' σ T S' r := by
  cases r with
  | ok a E => exact f a E h
  | exc x E => exact fun cls od L2 H' l2 => h cls od L2 H' (l.trans l2)
  | bad => exact h
theorem Gd.temp {e : Ent} (h : Gd Y L σ T S r) (l : Le L L') (f : ∀ a E, S a E → S' a E) : Gd Y L' σ (e :: T) S' r := by
  cases r with
  | ok a E => exact f a E h
  | exc x E => exact fun cls od L2 H' l2 s => h cls od L2 H' (l.trans l2) s.pop
  | bad => exact h
theorem Gd.opt {o : Option α} {E : Env3} (h : Gd Y L σ T S (Sm.o o E)) : ∃ a, o = some a ∧ S a E := by
  unfold Sm.o at h
  cases o with
  | none => exact h.elim
  | some a => exact ⟨a, rfl, h⟩
end

/-! ### what a success tells -/
def sE (Y : Cy) (L : Hp) (σ : L2.St) (T : List Ent) (k : Bool) (Q : VK) : D → Env3 → Prop := fun d E => ∀ v L' H', Le L L' → St3 Y.K Y.p0 L' H' E σ (⟨k, v, d⟩ :: T) → Q v H'
def sO (Y : Cy) (L : Hp) (σ : L2.St) (T : List Ent) (Q : VK) : D → Env3 → Prop := fun d E => ∀ v L' H', Le L L' → St3 Y.K Y.p0 L' H' E σ T → Rdb Y.K H' v d → Q v H'
def sT (Y : Cy) (L : Hp) (σ : L2.St) (T : List Ent) (Q : Bool → Hp → Prop) : Bool → Env3 → Prop := fun b E => ∀ L' H', Le L L' → St3 Y.K Y.p0 L' H' E σ T → Q b H'
inductive Arg where
  | val (d : D) | ref (i : Nat)
def rdSlot (E : Env3) (i : Nat) : Option D := match E[i]? with
  | some (.b d) => some d
  | some (.w d) => some d
  | _ => none
def Arg.get (E : Env3) : Arg → Option D
  | .val d => some d
  | .ref i => rdSlot E i
def getAll (E : Env3) : List Arg → Option (List D)
  | [] => some []
  | a :: as => match a.get E with
    | none => none
    | some d => match getAll E as with
      | none => none
      | some ds => some (d :: ds)
def sR (Y : Cy) (L : Hp) (σ : L2.St) (T : List Ent) (Q : VK) : Arg → Env3 → Prop := fun a E => match a with
  | .val d => ∀ k v L' H', Le L L' → St3 Y.K Y.p0 L' H' E σ (⟨k, v, d⟩ :: T) → Q v H'
  | .ref i => ∀ v L' H', Le L L' → St3 Y.K Y.p0 L' H' E σ T → σ[i]? = some (some v) → Q v H'
/-- shared values, for a tuple -/
def sBs (Y : Cy) (L : Hp) (σ : L2.St) (T : List Ent) (Q : List V → Hp → Prop) : List D → Env3 → Prop := fun ds E => ∀ vs L' H', Le L L' → St3 Y.K Y.p0 L' H' E σ T → Owns Y.K L' H' vs ds [] → Q vs H'
/-- readable values, for a call -/
def sD (Y : Cy) (L : Hp) (σ : L2.St) (T : List Ent) (Q : List V → Hp → Prop) : List D → Env3 → Prop := fun ds E => ∀ vs L' H', Le L L' → St3 Y.K Y.p0 L' H' E σ T → Owns Y.K H' H' vs ds [] → Q vs H'

/-! ### the judgements -/
/-- e is worth f; k: what comes is the asker's own -/
def VE (Y : Cy) (k : Bool) (e : Expr) (f : Sm D) : Prop := ∃ t, PE Y.X e t ∧ ∀ L H E σ T Q, St3 Y.K Y.p0 L H E σ T → Gd Y L σ T (sE Y L σ T k Q) (f E) → t σ H Q
def VO (Y : Cy) (e : Expr) (f : Sm D) : Prop := ∃ t, PE Y.X e t ∧ ∀ L H E σ T Q, St3 Y.K Y.p0 L H E σ T → Gd Y L σ T (sO Y L σ T Q) (f E) → t σ H Q
def VR (Y : Cy) (e : Expr) (f : Sm Arg) : Prop := ∃ t, PE Y.X e t ∧ ∀ L H E σ T Q, St3 Y.K Y.p0 L H E σ T → Gd Y L σ T (sR Y L σ T Q) (f E) → t σ H Q
def VT (Y : Cy) (e : Expr) (f : Sm Bool) : Prop := ∃ t, PT Y.X e t ∧ ∀ L H E σ T Q, St3 Y.K Y.p0 L H E σ T → Gd Y L σ T (sT Y L σ T Q) (f E) → t σ H Q
/-- a test within a chain of and, or -/
def VW (Y : Cy) (e : Expr) (f : Sm Bool) : Prop := ∃ t, PW Y.X e t ∧ ∀ L H E σ T Q, St3 Y.K Y.p0 L H E σ T → Gd Y L σ T (sT Y L σ T Q) (f E) → t σ H Q
def VBs (Y : Cy) (es : List Expr) (f : Sm (List D)) : Prop := ∃ t, PA Y.X es t ∧ ∀ L H E σ T Q, St3 Y.K Y.p0 L H E σ T → Gd Y L σ T (sBs Y L σ T Q) (f E) → t σ H Q
def VD (Y : Cy) (es : List Expr) (f : Sm (List D)) : Prop := ∃ t, PA Y.X es t ∧ ∀ L H E σ T Q, St3 Y.K Y.p0 L H E σ T → Gd Y L σ T (sD Y L σ T Q) (f E) → t σ H Q

section
variable {Y : Cy} {e a b c : Expr} {es : List Expr} {f g : Sm D} {pos : Pos}

/-! ### constants, names -/
theorem ve_int {i j} : VE Y false (.Constant (.int i) j pos) (Sm.p (.int i)) := ⟨_, pe_int, fun L H E σ T Q S G => G _ L H (Le.refl _) (S.push (.int i))⟩
theorem ve_bl {i j} : VE Y false (.Constant (.bool i) j pos) (Sm.p (.bl i)) := ⟨_, pe_bl, fun L H E σ T Q S G => G _ L H (Le.refl _) (S.push (.bl i))⟩
theorem ve_non {j} : VE Y false (.Constant .none j pos) (Sm.p .non) := ⟨_, pe_non, fun L H E σ T Q S G => G _ L H (Le.refl _) (S.push .non)⟩
theorem ve_str {x j} : VE Y false (.Constant (.str x) j pos) (Sm.p (.str x)) := ⟨_, pe_str, fun L H E σ T Q S G => G _ L H (Le.refl _) (S.push (.str x))⟩
/-- a name that shares -/
def mVar (i : Nat) : Sm D := fun E => match E[i]? with
  | some (.b d) => .ok d E
  | _ => .bad
theorem ve_var (i : Nat) {x : Str} (hN : Y.X.N[i]? = some x := by rfl) (hv : Vis Y.X.env.scope x := by first | exact Or.inl rfl | exact Or.inr (Or.inl rfl) | exact Or.inr (Or.inr rfl)) (hd : (x == ("__debug__" : Str)) = false := by decide)
    (hcd : (x == ("__classdict__" : Str)) = false := by decide) : VE Y false (.Name x pos) (mVar i) :=
  ⟨_, pe_var hN hv hd hcd, fun L H E σ T Q S G => by
    unfold mVar at G
    split at G
    · rename_i d e
      obtain ⟨v, h1, h2⟩ := S.lookB e
      exact ⟨v, h1, G v L H (Le.refl _) (S.push h2)⟩
    · exact G.elim⟩
/-- the known slots hold readable values -/
theorem St3.look {K : PySem.W.Frag} {p0 : Option Addr} {L H : Hp} {E : Env3} {σ : L2.St} {T : List Ent} {i : Nat} {d : D} (S : St3 K p0 L H E σ T) (e : rdSlot E i = some d) : ∃ v, σ[i]? = some (some v) ∧ Rdb K H v d := by
  unfold rdSlot at e
  obtain ⟨es, l, h⟩ := S.ex
  split at e
  · rename_i d' e'
    cases e
    obtain ⟨v, a, b⟩ := l.getB e'
    exact ⟨v, a, h.rdbOf (List.mem_append_left _ b)⟩
  · rename_i d' e'
    cases e
    obtain ⟨v, es', a, b, _⟩ := l.getW e'
    exact ⟨v, a, h.rdbOf (List.mem_append_left _ (b.mem_iff.mpr List.mem_cons_self))⟩
  · cases e
/-- a name, whatever it holds, read at once -/
def mRd (i : Nat) : Sm D := fun E => Sm.o (rdSlot E i) E
theorem vo_var (i : Nat) {x : Str} (hN : Y.X.N[i]? = some x := by rfl) (hv : Vis Y.X.env.scope x := by first | exact Or.inl rfl | exact Or.inr (Or.inl rfl) | exact Or.inr (Or.inr rfl)) (hd : (x == ("__debug__" : Str)) = false := by decide)
    (hcd : (x == ("__classdict__" : Str)) = false := by decide) : VO Y (.Name x pos) (mRd i) :=
  ⟨_, pe_var hN hv hd hcd, fun L H E σ T Q S G => by
    obtain ⟨d, e, G⟩ := Gd.opt (o := rdSlot E i) (E := E) G
    obtain ⟨v, h1, h2⟩ := S.look e
    exact ⟨v, h1, G v L H (Le.refl _) S h2⟩⟩
def mRef (i : Nat) : Sm Arg := fun E => if (rdSlot E i).isSome = true then .ok (.ref i) E else .bad
theorem vr_var (i : Nat) {x : Str} (hN : Y.X.N[i]? = some x := by rfl) (hv : Vis Y.X.env.scope x := by first | exact Or.inl rfl | exact Or.inr (Or.inl rfl) | exact Or.inr (Or.inr rfl)) (hd : (x == ("__debug__" : Str)) = false := by decide)
    (hcd : (x == ("__classdict__" : Str)) = false := by decide) : VR Y (.Name x pos) (mRef i) :=
  ⟨_, pe_var hN hv hd hcd, fun L H E σ T Q S G => by
    unfold mRef at G
    split at G
    · rename_i h
      obtain ⟨d, e⟩ := Option.isSome_iff_exists.mp h
      obtain ⟨v, h1, h2⟩ := S.look e
      exact ⟨v, h1, G v L H (Le.refl _) S h1⟩
    · exact G.elim⟩
/-- a name that owns gives what it owns away -/
def mMove (i : Nat) : Sm D := fun E => match E[i]? with
  | some (.w d) => .ok d (E.set i .no)
  | _ => .bad
theorem ve_move (i : Nat) {x : Str} (h0 : Y.p0 = none ∨ i ≠ 0) (hN : Y.X.N[i]? = some x := by rfl) (hv : Vis Y.X.env.scope x := by first | exact Or.inl rfl | exact Or.inr (Or.inl rfl) | exact Or.inr (Or.inr rfl)) (hd : (x == ("__debug__" : Str)) = false := by decide)
    (hcd : (x == ("__classdict__" : Str)) = false := by decide) : VE Y true (.Name x pos) (mMove i) :=
  ⟨_, pe_var hN hv hd hcd, fun L H E σ T Q S G => by
    unfold mMove at G
    split at G
    · rename_i d e
      obtain ⟨es, l, h⟩ := S.ex
      obtain ⟨v, es', h1, h2, h3, _⟩ := l.getW e
      refine ⟨v, h1, G v L H (Le.refl _) ⟨⟨es', h3, (h.perm ((h2.append_right T).trans List.perm_middle.symm))⟩, fun a ha => ?_⟩⟩
      obtain ⟨p1, d', p2⟩ := S.pin a ha
      refine ⟨p1, d', ?_⟩
      rcases h0 with h0 | h0
      · rw [h0] at ha; cases ha
      · rw [List.getElem?_set_ne h0]; exact p2
    · exact G.elim⟩

/-! ### from one judgement to another -/
/-- from now on shared -/
theorem VE.frz (h : VE Y true e f) : VE Y false e f := by
  obtain ⟨t, ht, h⟩ := h
  refine ⟨t, ht, fun L H E σ T Q S G => h L H E σ T Q S (G.imp fun d E1 G1 v L1 H1 l1 S1 => ?_)⟩
  obtain ⟨es, l, hh⟩ := S1.ex
  obtain ⟨L2', l2, h2⟩ := (hh.perm List.perm_middle).freeze
  exact G1 v L2' H1 (l1.trans l2) ⟨⟨es, l, h2.perm List.perm_middle.symm⟩, S1.pin⟩
/-- a value without lists is one's own -/
def mLf (f : Sm D) : Sm D := Sm.b f fun d => if d.lf = true then Sm.p d else fun _ => .bad
theorem VE.own (h : VE Y false e f) : VE Y true e (mLf f) := by
  obtain ⟨t, ht, h⟩ := h
  refine ⟨t, ht, fun L H E σ T Q S G => h L H E σ T Q S (G.bind.imp fun d E1 G1 v L1 H1 l1 S1 => ?_)⟩
  split at G1
  · rename_i hf
    obtain ⟨es, l, hh⟩ := S1.ex
    exact G1 v L1 H1 l1 ⟨⟨es, l, ((hh.perm List.perm_middle).toW hf).perm List.perm_middle.symm⟩, S1.pin⟩
  · exact G1.elim
theorem VE.vo {k : Bool} (h : VE Y k e f) : VO Y e f := by
  obtain ⟨t, ht, h⟩ := h
  exact ⟨t, ht, fun L H E σ T Q S G => h L H E σ T Q S (G.imp fun d E1 G1 v L1 H1 l1 S1 => G1 v L1 H1 l1 S1.pop S1.rdb)⟩
def mVal (f : Sm D) : Sm Arg := Sm.b f fun d => Sm.p (.val d)
theorem VE.vr {k : Bool} (h : VE Y k e f) : VR Y e (mVal f) := by
  obtain ⟨t, ht, h⟩ := h
  exact ⟨t, ht, fun L H E σ T Q S G => h L H E σ T Q S (G.bind.imp fun d E1 G1 v L1 H1 l1 S1 => G1 k v L1 H1 l1 S1)⟩

/-! ### two operands -/
def mPair (f g : Sm Arg) : Sm (D × D) := Sm.b f fun x => Sm.b g fun y => fun E => match x.get E, y.get E with
  | some d, some d' => .ok (d, d') E
  | _, _ => .bad
theorem arg_rdb {K : PySem.W.Frag} {p0 : Option Addr} {L H : Hp} {E : Env3} {σ : L2.St} {T : List Ent} {i : Nat} {d : D} {v : V} (S : St3 K p0 L H E σ T) (h : σ[i]? = some (some v)) (e : rdSlot E i = some d) : Rdb K H v d := by
  obtain ⟨v', h1, h2⟩ := S.look e
  rw [h] at h1; cases h1; exact h2
/-- .. both readable at the end -/
theorem pair_ok {fa fb : Sm Arg} {ta tb : TE} (ha : ∀ L H E σ T Q, St3 Y.K Y.p0 L H E σ T → Gd Y L σ T (sR Y L σ T Q) (fa E) → ta σ H Q) (hb : ∀ L H E σ T Q, St3 Y.K Y.p0 L H E σ T → Gd Y L σ T (sR Y L σ T Q) (fb E) → tb σ H Q)
    {L H : Hp} {E : Env3} {σ : L2.St} {T : List Ent} {Rr : V → V → Hp → Prop} (S : St3 Y.K Y.p0 L H E σ T)
    (G : Gd Y L σ T (fun (p : D × D) E' => ∀ v w L' H', Le L L' → St3 Y.K Y.p0 L' H' E' σ T → Rdb Y.K H' v p.1 → Rdb Y.K H' w p.2 → Rr v w H') (mPair fa fb E)) : ta σ H fun v H1 => tb σ H1 fun w H2 => Rr v w H2 := by
  refine ha L H E σ T _ S (G.bind.imp fun x E1 G1 => ?_)
  cases x with
  | val d =>
    intro k v L1 H1 l1 S1
    refine hb L1 H1 E1 σ _ _ S1 (G1.bind.temp l1 fun y E2 G2 => ?_)
    have G3 : Gd Y L σ T _ (match (Arg.val d).get E2, y.get E2 with
      | some d, some d' => R.ok (d, d') E2
      | _, _ => R.bad) := G2
    cases y with
    | val d' =>
      intro k' w L2' H2 l2 S2
      exact G3 v w L2' H2 (l1.trans l2) S2.pop.pop S2.pop.rdb S2.rdb
    | ref j =>
      intro w L2' H2 l2 S2 hw
      cases e : rdSlot E2 j with
      | none => simp only [Arg.get, e] at G3; exact G3.elim
      | some d' =>
        simp only [Arg.get, e] at G3
        exact G3 v w L2' H2 (l1.trans l2) S2.pop S2.rdb (arg_rdb S2 hw e)
  | ref i =>
    intro v L1 H1 l1 S1 hv
    refine hb L1 H1 E1 σ _ _ S1 (G1.bind.grow l1 fun y E2 G2 => ?_)
    have G3 : Gd Y L σ T _ (match (Arg.ref i).get E2, y.get E2 with
      | some d, some d' => R.ok (d, d') E2
      | _, _ => R.bad) := G2
    cases e1 : rdSlot E2 i with
    | none => simp only [Arg.get, e1] at G3; exact G3.elim
    | some d =>
      cases y with
      | val d' =>
        simp only [Arg.get, e1] at G3
        intro k' w L2' H2 l2 S2
        exact G3 v w L2' H2 (l1.trans l2) S2.pop (arg_rdb S2 hv e1) S2.rdb
      | ref j =>
        intro w L2' H2 l2 S2 hw
        cases e : rdSlot E2 j with
        | none => simp only [Arg.get, e1, e] at G3; exact G3.elim
        | some d' =>
          simp only [Arg.get, e1, e] at G3
          exact G3 v w L2' H2 (l1.trans l2) S2 (arg_rdb S2 hv e1) (arg_rdb S2 hw e)

/-! ### operators that give a plain value -/
/-- an operation on data, r on values: a plain value comes, the heap is as it was -/
def Does (K : PySem.W.Frag) (r : R2) (o : D → D → Option D) : Prop := ∀ v w d d' z H Q, Rdb K H v d → Rdb K H w d' → o d d' = some z → (∀ u, (∀ L H', Own K L H' u z []) → Q u H) → r v w H Q
def mOp (o : D → D → Option D) (f g : Sm Arg) : Sm D := Sm.b (mPair f g) fun p => Sm.o (o p.1 p.2)
theorem ve_op {op : Operator} {r : R2} {o : D → D → Option D} {fa fb : Sm Arg} (ho : OpR Y.X (binaryOp op) r) (hd : Does Y.K r o) (ha : VR Y a fa) (hb : VR Y b fb) : VE Y false (.BinOp a op b pos) (mOp o fa fb) := by
  obtain ⟨ta, pa, ha⟩ := ha
  obtain ⟨tb, pb, hb⟩ := hb
  refine ⟨_, pe_op ho pa pb, fun L H E σ T Q S G => pair_ok ha hb S (G.bind.imp fun p E1 G1 v w L1 H1 l1 S1 r1 r2 => ?_)⟩
  obtain ⟨z, e, G2⟩ := G1.opt
  exact hd v w p.1 p.2 z H1 Q r1 r2 e fun u hu => G2 u L1 H1 l1 (S1.push (hu L1 H1))
theorem ve_cmp {op : CmpOp} {r : R2} {o : D → D → Option D} {fa fb : Sm Arg} (ho : OpR Y.X (compareOp op) r) (hd : Does Y.K r o) (ha : VR Y a fa) (hb : VR Y b fb) (hm : behindInMarks op b = false := by first | exact nomark _ | rfl) : VE Y false (.Compare a [op] [b] pos) (mOp o fa fb) := by
  obtain ⟨ta, pa, ha⟩ := ha
  obtain ⟨tb, pb, hb⟩ := hb
  refine ⟨_, pe_cmpR ho pa pb hm, fun L H E σ T Q S G => pair_ok ha hb S (G.bind.imp fun p E1 G1 v w L1 H1 l1 S1 r1 r2 => ?_)⟩
  obtain ⟨z, e, G2⟩ := G1.opt
  exact hd v w p.1 p.2 z H1 Q r1 r2 e fun u hu => G2 u L1 H1 l1 (S1.push (hu L1 H1))
def isBl : D → Option Bool
  | .bl b => some b
  | _ => none
def mT (f : Sm D) : Sm Bool := Sm.b f fun d => Sm.o (isBl d)
theorem isBl_rel {K : PySem.W.Frag} {L H : Hp} {v : V} {d : D} {fp : List Addr} {b : Bool} (o : Own K L H v d fp) (e : isBl d = some b) : d = .bl b ∧ v = .bl b := by
  cases o <;> simp_all [isBl]
theorem vt_cmp {op : CmpOp} {r : R2} {o : D → D → Option D} {fa fb : Sm Arg} (ho : OpR Y.X (compareOp op) r) (hd : Does Y.K r o) (ha : VR Y a fa) (hb : VR Y b fb) (hm : behindInMarks op b = false := by first | exact nomark _ | rfl) : VT Y (.Compare a [op] [b] pos) (mT (mOp o fa fb)) := by
  obtain ⟨ta, pa, ha⟩ := ha
  obtain ⟨tb, pb, hb⟩ := hb
  refine ⟨_, pt_cmpR ho pa pb hm, fun L H E σ T Q S G => pair_ok ha hb S (G.bind.bind.imp fun p E1 G1 v w L1 H1 l1 S1 r1 r2 => ?_)⟩
  obtain ⟨z, e, G2⟩ := G1.opt
  obtain ⟨k, e2, G3⟩ := G2.opt
  refine hd v w p.1 p.2 z H1 _ r1 r2 e fun u hu => ?_
  obtain ⟨rfl, rfl⟩ := isBl_rel (hu L1 H1) e2
  exact ⟨k, rfl, G3 L1 H1 l1 S1⟩
theorem vt_val {k : Bool} (h : VE Y k e f) (he : ∀ whole, isTrue e Y.X.env whole = (do let v ← whole; standAt e.pos; holding [v] (truthy v)) := by intro _; rfl) : VT Y e (mT f) := by
  obtain ⟨t, pt, h⟩ := h
  refine ⟨_, pt_val pt he, fun L H E σ T Q S G => h L H E σ T _ S (G.bind.imp fun d E1 G1 v L1 H1 l1 S1 => ?_)⟩
  obtain ⟨c, e2, G3⟩ := G1.opt
  obtain ⟨rfl, hv⟩ := isBl_rel S1.rdb e2
  exact ⟨c, hv, G3 L1 H1 l1 S1.pop⟩
/-- .. of a test as a value -/
def mV (f : Sm Bool) : Sm D := Sm.b f fun b => Sm.p (.bl b)

/-! ### and, or, not, if -/
variable {ft gt : Sm Bool} {rest : List Expr}
def mAnd (f g : Sm Bool) : Sm Bool := Sm.b f fun c => if c = true then g else Sm.p false
def mOr (f g : Sm Bool) : Sm Bool := Sm.b f fun c => if c = true then Sm.p true else g
def mNot (f : Sm Bool) : Sm Bool := Sm.b f fun c => Sm.p (!c)
theorem VW.vt (h : VW Y e ft) : VT Y e ft := let ⟨t, p, h⟩ := h; ⟨t, p.pt, h⟩
theorem vw_and1 (h : VT Y a ft) : VW Y (.BoolOp .And [a] pos) ft := let ⟨t, p, h⟩ := h; ⟨t, pw_and1 p, h⟩
theorem vw_or1 (h : VT Y a ft) : VW Y (.BoolOp .Or [a] pos) ft := let ⟨t, p, h⟩ := h; ⟨t, pw_or1 p, h⟩
theorem vw_and (ha : VT Y a ft) (hb : VW Y (.BoolOp .And (b :: rest) pos) gt) : VW Y (.BoolOp .And (a :: b :: rest) pos) (mAnd ft gt) := by
  obtain ⟨ta, pa, ha⟩ := ha
  obtain ⟨tb, pb, hb⟩ := hb
  refine ⟨_, pw_and pa pb, fun L H E σ T Q S G => ha L H E σ T _ S (G.bind.imp fun c E1 G1 L1 H1 l1 S1 => ?_)⟩
  cases c with
  | true =>
    show tb σ H1 Q
    exact hb L1 H1 E1 σ T Q S1 (Gd.grow G1 l1 fun x E2 G2 L2 H2 l2 S2 => G2 L2 H2 (l1.trans l2) S2)
  | false =>
    show Q false H1
    exact G1 L1 H1 l1 S1
theorem vw_or (ha : VT Y a ft) (hb : VW Y (.BoolOp .Or (b :: rest) pos) gt) : VW Y (.BoolOp .Or (a :: b :: rest) pos) (mOr ft gt) := by
  obtain ⟨ta, pa, ha⟩ := ha
  obtain ⟨tb, pb, hb⟩ := hb
  refine ⟨_, pw_or pa pb, fun L H E σ T Q S G => ha L H E σ T _ S (G.bind.imp fun c E1 G1 L1 H1 l1 S1 => ?_)⟩
  cases c with
  | true =>
    show Q true H1
    exact G1 L1 H1 l1 S1
  | false =>
    show tb σ H1 Q
    exact hb L1 H1 E1 σ T Q S1 (Gd.grow G1 l1 fun x E2 G2 L2 H2 l2 S2 => G2 L2 H2 (l1.trans l2) S2)
theorem vt_not (ha : VT Y a ft) : VT Y (.UnaryOp .Not a pos) (mNot ft) := by
  obtain ⟨ta, pa, ha⟩ := ha
  exact ⟨_, pt_not pa, fun L H E σ T Q S G => ha L H E σ T _ S (G.bind.imp fun c E1 G1 L1 H1 l1 S1 => G1 L1 H1 l1 S1)⟩
/-- .. as values; the last one may be anything -/
def mAndV (f g : Sm D) : Sm D := Sm.b (mT f) fun c => if c = true then g else Sm.p (.bl false)
def mOrV (f g : Sm D) : Sm D := Sm.b (mT f) fun c => if c = true then Sm.p (.bl true) else g
def mNotV (f : Sm D) : Sm D := Sm.b (mT f) fun c => Sm.p (.bl (!c))
theorem ve_one {op} {k : Bool} (h : VE Y k a f) : VE Y k (.BoolOp op [a] pos) f := let ⟨t, p, h⟩ := h; ⟨t, pe_one p, h⟩
theorem ve_and {k : Bool} (ha : VE Y k a f) (hb : VE Y false (.BoolOp .And (b :: rest) pos) g) : VE Y false (.BoolOp .And (a :: b :: rest) pos) (mAndV f g) := by
  obtain ⟨ta, pa, ha⟩ := ha
  obtain ⟨tb, pb, hb⟩ := hb
  refine ⟨_, pe_and pa pb, fun L H E σ T Q S G => ha L H E σ T _ S (G.bind.bind.imp fun d E1 G1 v L1 H1 l1 S1 => ?_)⟩
  obtain ⟨c, e, G1⟩ := G1.opt
  obtain ⟨rfl, hv⟩ := isBl_rel S1.rdb e
  refine ⟨c, hv, ?_⟩
  cases c with
  | true =>
    show tb σ H1 Q
    exact hb L1 H1 E1 σ T Q S1.pop (Gd.grow G1 l1 fun x E2 G2 v L2 H2 l2 S2 => G2 v L2 H2 (l1.trans l2) S2)
  | false =>
    show Q (.bl false) H1
    exact G1 _ L1 H1 l1 (S1.pop.push (.bl false))
theorem ve_or {k : Bool} (ha : VE Y k a f) (hb : VE Y false (.BoolOp .Or (b :: rest) pos) g) : VE Y false (.BoolOp .Or (a :: b :: rest) pos) (mOrV f g) := by
  obtain ⟨ta, pa, ha⟩ := ha
  obtain ⟨tb, pb, hb⟩ := hb
  refine ⟨_, pe_or pa pb, fun L H E σ T Q S G => ha L H E σ T _ S (G.bind.bind.imp fun d E1 G1 v L1 H1 l1 S1 => ?_)⟩
  obtain ⟨c, e, G1⟩ := G1.opt
  obtain ⟨rfl, hv⟩ := isBl_rel S1.rdb e
  refine ⟨c, hv, ?_⟩
  cases c with
  | true =>
    show Q (.bl true) H1
    exact G1 _ L1 H1 l1 (S1.pop.push (.bl true))
  | false =>
    show tb σ H1 Q
    exact hb L1 H1 E1 σ T Q S1.pop (Gd.grow G1 l1 fun x E2 G2 v L2 H2 l2 S2 => G2 v L2 H2 (l1.trans l2) S2)
theorem ve_not {k : Bool} (ha : VE Y k a f) : VE Y false (.UnaryOp .Not a pos) (mNotV f) := by
  obtain ⟨ta, pa, ha⟩ := ha
  refine ⟨_, pe_not pa, fun L H E σ T Q S G => ha L H E σ T _ S (G.bind.bind.imp fun d E1 G1 v L1 H1 l1 S1 => ?_)⟩
  obtain ⟨c, e, G1⟩ := G1.opt
  obtain ⟨rfl, hv⟩ := isBl_rel S1.rdb e
  exact ⟨c, hv, G1 _ L1 H1 l1 (S1.pop.push (.bl _))⟩
def mIf {α : Type} (c : Sm Bool) (f g : Sm α) : Sm α := Sm.b c fun k => if k = true then f else g
theorem ve_if {k : Bool} (hc : VT Y c ft) (ha : VE Y k a f) (hb : VE Y k b g) : VE Y k (.IfExp c a b pos) (mIf ft f g) := by
  obtain ⟨tc, pc, hc⟩ := hc
  obtain ⟨ta, pa, ha⟩ := ha
  obtain ⟨tb, pb, hb⟩ := hb
  refine ⟨_, pe_ifExp pc pa pb, fun L H E σ T Q S G => hc L H E σ T _ S (G.bind.imp fun c E1 G1 L1 H1 l1 S1 => ?_)⟩
  cases c with
  | true =>
    show ta σ H1 Q
    exact ha L1 H1 E1 σ T Q S1 (Gd.grow G1 l1 fun x E2 G2 v L2 H2 l2 S2 => G2 v L2 H2 (l1.trans l2) S2)
  | false =>
    show tb σ H1 Q
    exact hb L1 H1 E1 σ T Q S1 (Gd.grow G1 l1 fun x E2 G2 v L2 H2 l2 S2 => G2 v L2 H2 (l1.trans l2) S2)
end
end P3
end
section
set_option exponentiation.threshold 256
set_option Elab.async false
set_option linter.all false
set_option maxRecDepth 100000
set_option maxHeartbeats 2000000
set_option autoImplicit false
/-! P3, part c: operators on data -/
namespace P3
open PySem PySem.Spec PyProof.Rows L2

mutual
def D.py : D → PyData
  | .non => .none
  | .bl b => .bool b
  | .int i => .int i
  | .str x => .str x
  | .tup xs => .tuple (pys xs)
  | .ctup xs => .tuple (pys xs)
  | .lst xs => .list (pys xs)
  | .clst xs => .list (pys xs)
  | .flst xs => .list (pys xs)
  | _ => .none
def pys : List D → List PyData
  | [] => []
  | d :: ds => d.py :: pys ds
end
mutual
/-- no dict, no object within -/
def D.pl : D → Bool
  | .tup xs => pls xs
  | .ctup xs => pls xs
  | .lst xs => pls xs
  | .clst xs => pls xs
  | .flst xs => pls xs
  | .dK _ => false
  | .dT _ => false
  | .obj _ _ => false
  | _ => true
def pls : List D → Bool
  | [] => true
  | d :: ds => d.pl && pls ds
end
mutual
theorem py_plain : ∀ d : D, d.py.plain = true
  | .non => rfl
  | .bl _ => rfl
  | .int _ => rfl
  | .str _ => rfl
  | .tup xs => by simp only [D.py, PyData.plain]; exact pys_plain xs
  | .ctup xs => by simp only [D.py, PyData.plain]; exact pys_plain xs
  | .lst xs => by simp only [D.py, PyData.plain]; exact pys_plain xs
  | .clst xs => by simp only [D.py, PyData.plain]; exact pys_plain xs
  | .flst xs => by simp only [D.py, PyData.plain]; exact pys_plain xs
  | .dK _ => rfl
  | .dT _ => rfl
  | .obj _ _ => rfl
theorem pys_plain : ∀ ds : List D, PyData.plainAll (pys ds) = true
  | [] => rfl
  | d :: ds => by simp only [pys, PyData.plainAll, py_plain d, pys_plain ds, Bool.and_self]
end
/-- how deep, as far as it matters -/
def dep (d : D) : Nat := d.py.depth

section
variable {X : Cx} {pins : List (Addr × Obj)} {σ : L2.St} {H : Hp} {s : Shared}
theorem SqT.mono {K : PySem.W.Frag} {H : Hp} {p : Addr} {vs : List V} (h : SqT K (fun _ => none) p vs) : SqT K H p vs := leEmpty.sqT h
mutual
theorem Own.reads (I : Inv X pins σ H s) : ∀ (d : D) (v : V) (u : Value), Own X.K H H v d [] → d.pl = true → RelV v u → ∃ as, Reads s.heap u d.py as
  | .non, _, _, h, _, r => by cases h; cases r; exact ⟨_, Reads.none⟩
  | .bl b, _, _, h, _, r => by cases h; cases r; exact ⟨_, Reads.bool b⟩
  | .int i, _, _, h, _, r => by cases h; obtain ⟨t, rfl⟩ := r; exact ⟨_, Reads.int i t⟩
  | .str x, _, _, h, _, r => by cases h; obtain ⟨t, rfl⟩ := r; exact ⟨_, Reads.str x t⟩
  | .lst ds, _, _, h, p, r => by
    cases h with
    | bor hs ha =>
      cases r
      obtain ⟨its, rv, ⟨o, n, ho, hc, _, hd⟩, _⟩ := I.list (.inl hs)
      obtain ⟨as, hr⟩ := Owns.reads I ds _ its ha (by simpa [D.pl] using p) rv
      exact ⟨_, Reads.list ho hc hd hr⟩
  | .clst ds, _, _, h, p, r => by
    cases h with
    | clst hs ha =>
      cases r
      obtain ⟨its, rv, ⟨o, n, ho, hc, _, hd⟩, _⟩ := I.list (leEmpty.sqL hs)
      obtain ⟨as, hr⟩ := Owns.reads I ds _ its ha (by simpa [D.pl] using p) rv
      exact ⟨_, Reads.list ho hc hd hr⟩
  | .flst ds, _, _, h, p, r => by
    cases h with
    | flst hs ha =>
      cases r
      obtain ⟨its, rv, ⟨o, n, ho, hc, _, hd⟩, _⟩ := I.list (.inl (.inr hs))
      obtain ⟨as, hr⟩ := Owns.reads I ds _ its ha (by simpa [D.pl] using p) rv
      exact ⟨_, Reads.list ho hc hd hr⟩
  | .tup ds, _, _, h, p, r => by
    cases h with
    | tup hs ha =>
      cases r
      obtain ⟨its, rv, ⟨o, ho, hc, n, hd⟩, _⟩ := I.tuple (SqT.of hs)
      obtain ⟨as, hr⟩ := Owns.reads I ds _ its ha (by simpa [D.pl] using p) rv
      exact ⟨_, Reads.tuple ho hc hd hr⟩
  | .ctup ds, _, _, h, p, r => by
    cases h with
    | ctup hs ha =>
      cases r
      obtain ⟨its, rv, ⟨o, ho, hc, n, hd⟩, _⟩ := I.tuple (SqT.mono hs)
      obtain ⟨as, hr⟩ := Owns.reads I ds _ its ha (by simpa [D.pl] using p) rv
      exact ⟨_, Reads.tuple ho hc hd hr⟩
  | .dK _, _, _, _, p, _ => by simp [D.pl] at p
  | .dT _, _, _, _, p, _ => by simp [D.pl] at p
  | .obj _ _, _, _, _, p, _ => by simp [D.pl] at p
theorem Owns.reads (I : Inv X pins σ H s) : ∀ (ds : List D) (vs : List V) (us : List Value), Owns X.K H H vs ds [] → pls ds = true → Vals vs us → ∃ as, ReadsAll s.heap us (pys ds) as
  | [], _, _, h, _, r => by cases h; cases r; exact ⟨_, ReadsAll.nil⟩
  | d :: ds, vs, us, h, p, r => by
    simp only [pls, Bool.and_eq_true] at p
    generalize hfp : ([] : List Addr) = fp at h
    cases h with
    | @cons v _ vs _ f g h1 h2 =>
      have hf : f = [] := by
        have := congrArg List.length hfp
        simp at this; exact List.eq_nil_of_length_eq_zero (by omega)
      have hg : g = [] := by
        have := congrArg List.length hfp
        simp at this; exact List.eq_nil_of_length_eq_zero (by omega)
      subst hf hg
      cases r with
      | cons r1 r2 =>
        obtain ⟨as, q1⟩ := Own.reads I d _ _ h1 p.1 r1
        obtain ⟨bs, q2⟩ := Owns.reads I ds _ _ h2 p.2 r2
        exact ⟨_, ReadsAll.cons q1 q2⟩
end
end

/-- a two-place operation on data -/
def OpD (X : Cx) (f : Value → Value → Sem Value) (o : D → D → Option D) : Prop :=
  ∀ (pins : List (Addr × Obj)) (s : Shared) (σ : L2.St) (H : Hp) (x y : V) (v u : Value) (d e z : D) (Q : VK), Inv X pins σ H s → RelV x v → RelV y u → Rdb X.K H x d → Rdb X.K H y e → o d e = some z →
    (∀ w, (∀ L H', Own X.K L H' w z []) → Q w H) → wpAny (model X.prog X.w) X.A (f v u) (EP X pins σ Q) X.xe s
def rOf (K : PySem.W.Frag) (o : D → D → Option D) : R2 := fun x y H Q => ∃ d e z, Rdb K H x d ∧ Rdb K H y e ∧ o d e = some z ∧ ∀ w, (∀ L H', Own K L H' w z []) → Q w H
theorem OpD.opR {X : Cx} {f : Value → Value → Sem Value} {o : D → D → Option D} (h : OpD X f o) : OpR X f (rOf X.K o) := fun pins s σ H x y v u Q I rx ry ⟨d, e, z, h1, h2, h3, h4⟩ => h pins s σ H x y v u d e z Q I rx ry h1 h2 h3 h4
theorem rOf_does {K : PySem.W.Frag} {o : D → D → Option D} : Does K (rOf K o) o := fun v w d d' z H Q h1 h2 h3 h4 => ⟨d, d', z, h1, h2, h3, h4⟩
section
variable {Y : Cy} {a b : Expr} {pos : Pos} {fa fb : Sm Arg}
theorem ve_bin {op : Operator} {o : D → D → Option D} (ho : OpD Y.X (binaryOp op) o) (ha : VR Y a fa) (hb : VR Y b fb) : VE Y false (.BinOp a op b pos) (mOp o fa fb) := ve_op ho.opR rOf_does ha hb
theorem ve_cp {op : CmpOp} {o : D → D → Option D} (ho : OpD Y.X (compareOp op) o) (ha : VR Y a fa) (hb : VR Y b fb) (hm : behindInMarks op b = false := by first | exact nomark _ | rfl) : VE Y false (.Compare a [op] [b] pos) (mOp o fa fb) := ve_cmp ho.opR rOf_does ha hb hm
theorem vt_cp {op : CmpOp} {o : D → D → Option D} (ho : OpD Y.X (compareOp op) o) (ha : VR Y a fa) (hb : VR Y b fb) (hm : behindInMarks op b = false := by first | exact nomark _ | rfl) : VT Y (.Compare a [op] [b] pos) (mT (mOp o fa fb)) := vt_cmp ho.opR rOf_does ha hb hm
end
theorem own_bl {K : PySem.W.Frag} (b : Bool) : ∀ L H', Own K L H' (.bl b) (.bl b) [] := fun _ _ => .bl b
theorem own_int {K : PySem.W.Frag} (i : Int) : ∀ L H', Own K L H' (.int i) (.int i) [] := fun _ _ => .int i
theorem own_str {K : PySem.W.Frag} (x : Str) : ∀ L H', Own K L H' (.str x) (.str x) [] := fun _ _ => .str x

/-! ### ints -/
def intOf : D → Option Int
  | .int i => some i
  | _ => none
theorem intOf_some {d : D} {i : Int} (e : intOf d = some i) : d = .int i := by
  cases d <;> simp_all [intOf]
theorem own_is_int {K : PySem.W.Frag} {L H : Hp} {v : V} {i : Int} {fp : List Addr} (h : Own K L H v (.int i) fp) : v = .int i := by cases h; rfl
/-- two ints in, under c -/
def dI (c : Int → Int → Bool) (g : Int → Int → D) (d e : D) : Option D := match d, e with
  | .int i, .int j => if c i j = true then some (g i j) else none
  | _, _ => none
theorem OpD.ofI {X : Cx} {f : Value → Value → Sem Value} {C : Int → Int → Prop} {c : Int → Int → Bool} {g : Int → Int → V} {g' : Int → Int → D} (h : OpR X f (rI C g)) (hc : ∀ i j, c i j = true → C i j) (hg : ∀ i j L H', Own X.K L H' (g i j) (g' i j) []) : OpD X f (dI c g') := by
  intro pins s σ H x y v u d e z Q I rx ry rd re hz q
  unfold dI at hz
  split at hz
  · rename_i i j
    split at hz
    · rename_i hcc
      cases hz
      rw [own_is_int rd] at rx
      rw [own_is_int re] at ry
      exact h pins s σ H _ _ v u Q I rx ry ⟨i, j, rfl, rfl, hc i j hcc, q _ (hg i j)⟩
    · cases hz
  · cases hz
theorem OpD.ofI0 {X : Cx} {f : Value → Value → Sem Value} {g : Int → Int → V} {g' : Int → Int → D} (h : OpR X f (rI0 g)) (hg : ∀ i j L H', Own X.K L H' (g i j) (g' i j) []) : OpD X f (dI (fun _ _ => true) g') := by
  intro pins s σ H x y v u d e z Q I rx ry rd re hz q
  unfold dI at hz
  split at hz
  · rename_i i j
    rw [if_pos rfl] at hz
    cases hz
    rw [own_is_int rd] at rx
    rw [own_is_int re] at ry
    exact h pins s σ H _ _ v u Q I rx ry ⟨i, j, rfl, rfl, q _ (hg i j)⟩
  · cases hz
/-- sizes of a product's factors -/
def mulOk (i j : Int) : Bool := decide (i.natAbs.log2 + j.natAbs.log2 < 100000000)
def divOk (_ j : Int) : Bool := decide (j ≠ 0) && decide (j.natAbs.log2 < 9000)
def powOk (i j : Int) : Bool := decide (0 ≤ j) && decide (j ≤ 1000000) && decide (i.natAbs < 2 ^ 64)
abbrev dAdd : D → D → Option D := dI (fun _ _ => true) fun i j => .int (i + j)
abbrev dSub : D → D → Option D := dI (fun _ _ => true) fun i j => .int (i - j)
abbrev dMul : D → D → Option D := dI mulOk fun i j => .int (i * j)
abbrev dDiv : D → D → Option D := dI divOk fun i j => .int (i.fdiv j)
abbrev dMod : D → D → Option D := dI (fun _ j => decide (j ≠ 0)) fun i j => .int (i.fmod j)
abbrev dPow : D → D → Option D := dI powOk fun i j => .int (i ^ j.toNat)
abbrev dShl : D → D → Option D := dI powOk fun i j => .int (i * 2 ^ j.toNat)
abbrev dLtI : D → D → Option D := dI (fun _ _ => true) fun i j => .bl (decide (i < j))
abbrev dLeI : D → D → Option D := dI (fun _ _ => true) fun i j => .bl (decide (i ≤ j))
abbrev dGtI : D → D → Option D := dI (fun _ _ => true) fun i j => .bl (decide (j < i))
abbrev dGeI : D → D → Option D := dI (fun _ _ => true) fun i j => .bl (decide (j ≤ i))
theorem mulOk_ok {i j : Int} (h : mulOk i j = true) : IntMulOk i j := by
  have b : ∀ x : Int, Builtin.Int.intBits x ≤ x.natAbs.log2 + 1 := fun x => by
    unfold Builtin.Int.intBits
    split <;> omega
  have h1 := b i
  have h2 := b j
  have h3 : i.natAbs.log2 + j.natAbs.log2 < 100000000 := of_decide_eq_true h
  have e : bitsLine = 134217728 := by decide
  unfold IntMulOk
  intro z
  rw [Bool.and_eq_true] at z
  have z2 := z.2
  unfold Builtin.Int.intTooBig at z2
  have z3 := of_decide_eq_true z2
  rw [e] at z3
  omega
section
variable {X : Cx}
theorem op_mulX : OpR X (binaryOp .Mult) (rI IntMulOk fun i j => .int (i * j)) := opI fun _ _ _ _ _ _ _ hc q => mul_int q hc
theorem op_divX : OpR X (binaryOp .FloorDiv) (rI (fun _ j => j ≠ 0 ∧ j.natAbs.log2 < 9000) fun i j => .int (i.fdiv j)) := opI fun i j _ _ _ _ _ hc q => floordiv_int hc.1 q (.inl (PyProof.noPylong_of_log2 hc.2))
theorem od_add : OpD X (binaryOp .Add) dAdd := .ofI0 op_add fun _ _ _ _ => .int _
theorem od_sub : OpD X (binaryOp .Sub) dSub := .ofI0 op_sub fun _ _ _ _ => .int _
theorem od_mul : OpD X (binaryOp .Mult) dMul := .ofI op_mulX (fun _ _ h => mulOk_ok h) fun _ _ _ _ => .int _
theorem od_div : OpD X (binaryOp .FloorDiv) dDiv := .ofI op_divX (fun i j h => by
  unfold divOk at h; rw [Bool.and_eq_true] at h; exact ⟨of_decide_eq_true h.1, of_decide_eq_true h.2⟩) fun _ _ _ _ => .int _
theorem od_mod : OpD X (binaryOp .Mod) dMod := .ofI op_modN (fun _ _ h => of_decide_eq_true h) fun _ _ _ _ => .int _
theorem powOk_ok {i j : Int} (h : powOk i j = true) : CPow i j := by
  unfold powOk at h
  rw [Bool.and_eq_true, Bool.and_eq_true] at h
  exact ⟨of_decide_eq_true h.1.1, of_decide_eq_true h.1.2, of_decide_eq_true h.2⟩
theorem od_pow : OpD X (binaryOp .Pow) dPow := .ofI op_pow (fun _ _ h => powOk_ok h) fun _ _ _ _ => .int _
theorem od_shl : OpD X (binaryOp .LShift) dShl := .ofI op_shl (fun _ _ h => powOk_ok h) fun _ _ _ _ => .int _
theorem od_ltI : OpD X (compareOp .Lt) dLtI := .ofI0 op_lt fun _ _ _ _ => .bl _
theorem od_le : OpD X (compareOp .LtE) dLeI := .ofI0 op_le fun _ _ _ _ => .bl _
theorem od_gt : OpD X (compareOp .Gt) dGtI := .ofI0 op_gt fun _ _ _ _ => .bl _
theorem od_ge : OpD X (compareOp .GtE) dGeI := .ofI0 op_ge fun _ _ _ _ => .bl _

/-! ### ==, != of data -/
def eqD (d e : D) : Bool := PyData.eqv d.py e.py
def eqOk (d e : D) : Bool := d.pl && e.pl && decide (min (dep d) (dep e) ≤ 60)
def dEq (d e : D) : Option D := if eqOk d e = true then some (.bl (eqD d e)) else none
def dNe (d e : D) : Option D := if eqOk d e = true then some (.bl (!eqD d e)) else none
theorem eqOk_ok {d e : D} (h : eqOk d e = true) : d.pl = true ∧ e.pl = true ∧ min d.py.depth e.py.depth ≤ 60 := by
  unfold eqOk at h
  rw [Bool.and_eq_true, Bool.and_eq_true] at h
  exact ⟨h.1.1, h.1.2, of_decide_eq_true h.2⟩
theorem od_eq (hu : X.A.units + 64 < cLine) : OpD X (compareOp .Eq) dEq := by
  intro pins s σ H x y v u d e z Q I rx ry rd re hz q
  unfold dEq at hz
  split at hz
  · rename_i h
    obtain ⟨p1, p2, p3⟩ := eqOk_ok h
    cases hz
    obtain ⟨as, r1⟩ := Own.reads I d x v rd p1 rx
    obtain ⟨bs, r2⟩ := Own.reads I e y u re p2 ry
    exact SeqAt.eq_plain r1 r2 (py_plain d) (py_plain e) (by omega) ⟨.bl _, H, I, rfl, q _ (own_bl _)⟩
  · cases hz
theorem od_ne (hu : X.A.units + 64 < cLine) : OpD X (compareOp .NotEq) dNe := by
  intro pins s σ H x y v u d e z Q I rx ry rd re hz q
  unfold dNe at hz
  split at hz
  · rename_i h
    obtain ⟨p1, p2, p3⟩ := eqOk_ok h
    cases hz
    obtain ⟨as, r1⟩ := Own.reads I d x v rd p1 rx
    obtain ⟨bs, r2⟩ := Own.reads I e y u re p2 ry
    exact SeqAt.ne_plain r1 r2 (py_plain d) (py_plain e) (by omega) ⟨.bl _, H, I, rfl, q _ (own_bl _)⟩
  · cases hz

/-! ### is None -/
def isNonD : D → Bool
  | .non => true
  | _ => false
def dIs (d e : D) : Option D := if isNonD e = true then some (.bl (isNonD d)) else none
def dIsNot (d e : D) : Option D := if isNonD e = true then some (.bl (!isNonD d)) else none
theorem own_non {K : PySem.W.Frag} {L H : Hp} {v : V} {d : D} {fp : List Addr} (h : Own K L H v d fp) : decide (v = .non) = isNonD d := by
  cases h <;> simp [isNonD]
theorem isNonD_eq {d : D} (h : isNonD d = true) : d = .non := by cases d <;> simp_all [isNonD]
theorem od_is : OpD X (compareOp .Is) dIs := by
  intro pins s σ H x y v u d e z Q I rx ry rd re hz q
  unfold dIs at hz
  split at hz
  · rename_i h
    cases hz
    have e1 := isNonD_eq h
    subst e1
    cases re
    exact op_isN pins s σ H x .non v u Q I rx ry ⟨rfl, q _ (by rw [own_non rd]; exact own_bl _)⟩
  · cases hz
theorem od_isNot : OpD X (compareOp .IsNot) dIsNot := by
  intro pins s σ H x y v u d e z Q I rx ry rd re hz q
  unfold dIsNot at hz
  split at hz
  · rename_i h
    cases hz
    have e1 := isNonD_eq h
    subst e1
    cases re
    exact op_notN pins s σ H x .non v u Q I rx ry ⟨rfl, q _ (by rw [own_non rd]; exact own_bl _)⟩
  · cases hz

/-! ### in, not in -/
/-- a dict's key -/
def keyOf : D → Option Key
  | .int i => some (.inl i)
  | .str x => some (.inr x)
  | _ => none
def keysOf : List D → Option (List Key)
  | [] => some []
  | d :: ds => match keyOf d, keysOf ds with
    | some k, some ks => some (k :: ks)
    | _, _ => none
def keyT : D → Option (List Key)
  | .tup ds => keysOf ds
  | _ => none
def getK (k : Key) : List (Key × D) → Option D
  | [] => none
  | (j, d) :: r => if j = k then some d else getK k r
def getT (k : List Key) : List (List Key × D) → Option D
  | [] => none
  | (j, d) :: r => if j = k then some d else getT k r
/-- what a dict tells of a key -/
def dGet (d k : D) : Option (Option D) := match d with
  | .dK es => (keyOf k).map fun k => getK k es
  | .dT es => (keyT k).map fun k => getT k es
  | _ => none
def inSeq (x : D) (ys : List D) : Option Bool := if x.pl && pls ys && decide (dep x ≤ 60) then some (ys.any fun y => eqD y x) else none
def inB (x c : D) : Option Bool := match c with
  | .lst ys => inSeq x ys
  | .clst ys => inSeq x ys
  | .flst ys => inSeq x ys
  | .tup ys => inSeq x ys
  | .ctup ys => inSeq x ys
  | .str t => (match x with
    | .str z => some (!(Builtin.Str.occurrences t z 0 t.length 1).isEmpty)
    | _ => none)
  | d => (dGet d x).map Option.isSome
def dIn (x c : D) : Option D := (inB x c).map .bl
def dNotIn (x c : D) : Option D := (inB x c).map fun b => .bl (!b)
theorem own_key {K : PySem.W.Frag} {L H : Hp} {v : V} {d : D} {fp : List Addr} {k : Key} (h : Own K L H v d fp) (e : keyOf d = some k) : v = kV k := by
  cases h <;> simp [keyOf] at e <;> subst e <;> rfl
theorem owns_keys {K : PySem.W.Frag} {L H : Hp} : ∀ {ds : List D} {vs : List V} {fp : List Addr} {ks : List Key}, Owns K L H vs ds fp → keysOf ds = some ks → vs = ks.map kV
  | [], _, _, _, h, e => by cases h; simp [keysOf] at e; subst e; rfl
  | d :: ds, _, _, ks, h, e => by
    cases h with
    | cons h hs =>
      unfold keysOf at e
      split at e
      · rename_i k ks' e1 e2
        cases e
        rw [own_key h e1, owns_keys hs e2]
        rfl
      · cases e
theorem getK_val {K : PySem.W.Frag} {L H : Hp} {k : Key} : ∀ {es : List (Key × D)} {kvs : List (Key × V)} {fp : List Addr}, kvs.map (·.1) = es.map (·.1) → Owns K L H (kvs.map (·.2)) (es.map (·.2)) fp →
    (valV kvs k = none ∧ getK k es = none) ∨ ∃ v d f, valV kvs k = some v ∧ getK k es = some d ∧ Own K L H v d f ∧ ∀ a ∈ f, a ∈ fp
  | [], kvs, fp, hk, h => by
    cases kvs with
    | nil => exact .inl ⟨rfl, rfl⟩
    | cons p r => simp at hk
  | (j, d) :: es, kvs, fp, hk, h => by
    cases kvs with
    | nil => simp at hk
    | cons p r =>
      simp only [List.map_cons, List.cons.injEq] at hk h
      obtain ⟨hk1, hk2⟩ := hk
      cases h with
      | cons h hs =>
        unfold getK
        by_cases ej : j = k
        · rw [if_pos ej]
          exact .inr ⟨p.2, d, _, valV_pos (hk1.trans ej), rfl, h, fun a ha => List.mem_append_left _ ha⟩
        · rw [if_neg ej, valV_neg (p := p) (fun z => ej (hk1.symm.trans z))]
          rcases getK_val hk2 hs with q | ⟨v, d', f, q1, q2, q3, q4⟩
          · exact .inl q
          · exact .inr ⟨v, d', f, q1, q2, q3, fun a ha => List.mem_append_right _ (q4 a ha)⟩
theorem getT_val {K : PySem.W.Frag} {L H : Hp} {k : List Key} : ∀ {es : List (List Key × D)} {kvs : List (List Key × V)} {fp : List Addr}, kvs.map (·.1) = es.map (·.1) → Owns K L H (kvs.map (·.2)) (es.map (·.2)) fp →
    (valV kvs k = none ∧ getT k es = none) ∨ ∃ v d f, valV kvs k = some v ∧ getT k es = some d ∧ Own K L H v d f ∧ ∀ a ∈ f, a ∈ fp
  | [], kvs, fp, hk, h => by
    cases kvs with
    | nil => exact .inl ⟨rfl, rfl⟩
    | cons p r => simp at hk
  | (j, d) :: es, kvs, fp, hk, h => by
    cases kvs with
    | nil => simp at hk
    | cons p r =>
      simp only [List.map_cons, List.cons.injEq] at hk h
      obtain ⟨hk1, hk2⟩ := hk
      cases h with
      | cons h hs =>
        unfold getT
        by_cases ej : j = k
        · rw [if_pos ej]
          exact .inr ⟨p.2, d, _, valV_pos (hk1.trans ej), rfl, h, fun a ha => List.mem_append_left _ ha⟩
        · rw [if_neg ej, valV_neg (p := p) (fun z => ej (hk1.symm.trans z))]
          rcases getT_val hk2 hs with q | ⟨v, d', f, q1, q2, q3, q4⟩
          · exact .inl q
          · exact .inr ⟨v, d', f, q1, q2, q3, fun a ha => List.mem_append_right _ (q4 a ha)⟩
/-- .. at a dict that may be read -/
theorem dGet_ok {K : PySem.W.Frag} {L H H2 : Hp} {x y : V} {d k : D} {fp fq : List Addr} {o : Option D} (hd : Own K L H x d fp) (hL : Le L H) (hk : Own K H2 H y k fq) (e : dGet d k = some o) :
    ∃ a r, x = .ref a ∧ DGet H a y r ∧ ((r = none ∧ o = none) ∨ ∃ v z f, r = some v ∧ o = some z ∧ Own K L H v z f ∧ ∀ b ∈ f, b ∈ fp) := by
  unfold dGet at e
  cases d <;> simp at e
  · rename_i es
    obtain ⟨k', e1, e2⟩ := e
    subst e2
    have ey := own_key hk e1
    subst ey
    cases hd with
    | dKb h hkk hs =>
      rcases getK_val (k := k') hkk hs with ⟨q1, q2⟩ | ⟨v, d', f, q1, q2, q3, q4⟩
      · exact ⟨_, _, rfl, .inl ⟨_, k', hL.rd h, rfl, rfl⟩, .inl ⟨q1, q2⟩⟩
      · exact ⟨_, _, rfl, .inl ⟨_, k', hL.rd h, rfl, rfl⟩, .inr ⟨v, d', f, q1, q2, q3, q4⟩⟩
    | dK h hkk hs =>
      rcases getK_val (k := k') hkk hs with ⟨q1, q2⟩ | ⟨v, d', f, q1, q2, q3, q4⟩
      · exact ⟨_, _, rfl, .inl ⟨_, k', .inl h, rfl, rfl⟩, .inl ⟨q1, q2⟩⟩
      · exact ⟨_, _, rfl, .inl ⟨_, k', .inl h, rfl, rfl⟩, .inr ⟨v, d', f, q1, q2, q3, fun b hb => List.mem_cons_of_mem _ (q4 b hb)⟩⟩
  · rename_i es
    obtain ⟨k', e1, e2⟩ := e
    subst e2
    unfold keyT at e1
    split at e1
    · rename_i ds
      cases hk with
      | tup hp hks =>
        have ev := owns_keys hks e1
        subst ev
        cases hd with
        | dTb h hkk hs =>
          rcases getT_val (k := k') hkk hs with ⟨q1, q2⟩ | ⟨v, d', f, q1, q2, q3, q4⟩
          · exact ⟨_, _, rfl, .inr ⟨_, k', _, hL.rd h, rfl, hp, rfl⟩, .inl ⟨q1, q2⟩⟩
          · exact ⟨_, _, rfl, .inr ⟨_, k', _, hL.rd h, rfl, hp, rfl⟩, .inr ⟨v, d', f, q1, q2, q3, q4⟩⟩
        | dT h hkk hs =>
          rcases getT_val (k := k') hkk hs with ⟨q1, q2⟩ | ⟨v, d', f, q1, q2, q3, q4⟩
          · exact ⟨_, _, rfl, .inr ⟨_, k', _, .inl h, rfl, hp, rfl⟩, .inl ⟨q1, q2⟩⟩
          · exact ⟨_, _, rfl, .inr ⟨_, k', _, .inl h, rfl, hp, rfl⟩, .inr ⟨v, d', f, q1, q2, q3, fun b hb => List.mem_cons_of_mem _ (q4 b hb)⟩⟩
    · cases e1
theorem pys_any (x : D) : ∀ ys : List D, (pys ys).any (fun y => PyData.eqv y x.py) = ys.any fun y => eqD y x
  | [] => rfl
  | y :: ys => by simp only [pys, List.any_cons, pys_any x ys]; rfl
theorem inSeq_ok {x : D} {ys : List D} {b : Bool} (h : inSeq x ys = some b) : x.pl = true ∧ pls ys = true ∧ x.py.depth ≤ 60 ∧ b = ys.any fun y => eqD y x := by
  unfold inSeq at h
  split at h
  · rename_i c
    rw [Bool.and_eq_true, Bool.and_eq_true] at c
    cases h
    exact ⟨c.1.1, c.1.2, of_decide_eq_true c.2, rfl⟩
  · cases h
/-- in, by what it leaves of the bool -/
theorem in_any (hu : X.A.units + 64 < cLine) (neg : Bool) {op : CmpOp} (hop : (op = .In ∧ neg = false) ∨ (op = .NotIn ∧ neg = true)) : OpD X (compareOp op) (fun x c => (inB x c).map fun b => .bl (if neg then !b else b)) := by
  intro pins s σ H x c v u d e z Q I rx rc rd re hz q
  simp only [Option.map_eq_some_iff] at hz
  obtain ⟨b, hb, rfl⟩ := hz
  have fin : ∀ k, k = (if neg then !b else b) → EP X pins σ Q (.bool k) s := fun k hk => ⟨.bl k, H, I, rfl, by rw [hk]; exact q _ (own_bl _)⟩
  have seqL : ∀ ys, (e = .lst ys ∨ e = .clst ys ∨ e = .flst ys) → inSeq d ys = some b → wpAny (model X.prog X.w) X.A (compareOp op v u) (EP X pins σ Q) X.xe s := by
    intro ys he h
    obtain ⟨p1, p2, p3, rfl⟩ := inSeq_ok h
    obtain ⟨as, r1⟩ := Own.reads I d x v rd p1 rx
    obtain ⟨bs, r2⟩ := Own.reads I _ c u re (by rcases he with rfl | rfl | rfl <;> simpa [D.pl] using p2) rc
    have ep : e.py = .list (pys ys) := by rcases he with rfl | rfl | rfl <;> rfl
    rw [ep] at r2
    have hu2 : X.A.units + 1 + min (PyData.depthAll (pys ys)) d.py.depth < cLine := by omega
    rcases hop with ⟨rfl, rfl⟩ | ⟨rfl, rfl⟩
    · exact SeqAt.in_list_data r2 r1 (pys_plain ys) (py_plain d) hu2 (fin _ (pys_any d ys))
    · exact SeqAt.notIn_list_data r2 r1 (pys_plain ys) (py_plain d) hu2 (fin _ (congrArg (fun b => !b) (pys_any d ys)))
  have seqT : ∀ ys, e.py = .tuple (pys ys) → e.pl = pls ys → inSeq d ys = some b → wpAny (model X.prog X.w) X.A (compareOp op v u) (EP X pins σ Q) X.xe s := by
    intro ys he hpl h
    obtain ⟨p1, p2, p3, rfl⟩ := inSeq_ok h
    obtain ⟨as, r1⟩ := Own.reads I d x v rd p1 rx
    obtain ⟨bs, r2⟩ := Own.reads I _ c u re (by rw [hpl]; exact p2) rc
    rw [he] at r2
    have hu2 : X.A.units + 1 + min (PyData.depthAll (pys ys)) d.py.depth < cLine := by omega
    rcases hop with ⟨rfl, rfl⟩ | ⟨rfl, rfl⟩
    · exact SeqAt.in_tuple_data r2 r1 (pys_plain ys) (py_plain d) hu2 (fin _ (pys_any d ys))
    · exact SeqAt.notIn_tuple_data r2 r1 (pys_plain ys) (py_plain d) hu2 (fin _ (congrArg (fun b => !b) (pys_any d ys)))
  have dict : ∀ o, dGet e d = some o → b = o.isSome → wpAny (model X.prog X.w) X.A (compareOp op v u) (EP X pins σ Q) X.xe s := by
    intro o ho hbo
    obtain ⟨a, r, rfl, hg, hr⟩ := dGet_ok re (Le.refl _) rd ho
    have hrs : r.isSome = b := by
      rw [hbo]
      rcases hr with ⟨rfl, rfl⟩ | ⟨_, _, _, rfl, rfl, _⟩ <;> rfl
    cases rc
    rcases hop with ⟨rfl, rfl⟩ | ⟨rfl, rfl⟩
    · exact d_in (by omega) I hg rx fun s' I' => ⟨.bl _, H, I', rfl, by rw [hrs]; exact q _ (own_bl _)⟩
    · exact d_notIn (by omega) I hg rx fun s' I' => ⟨.bl _, H, I', rfl, by rw [hrs]; exact q _ (own_bl _)⟩
  unfold inB at hb
  cases e with
  | lst ys => exact seqL ys (.inl rfl) hb
  | clst ys => exact seqL ys (.inr (.inl rfl)) hb
  | flst ys => exact seqL ys (.inr (.inr rfl)) hb
  | tup ys => exact seqT ys rfl rfl hb
  | ctup ys => exact seqT ys rfl rfl hb
  | str t =>
    simp only at hb
    split at hb
    · rename_i z
      cases hb
      cases rd
      cases re
      rcases hop with ⟨rfl, rfl⟩ | ⟨rfl, rfl⟩
      · exact op_in_str pins s σ H _ _ v u Q I rx rc ⟨_, _, rfl, rfl, q _ (own_bl _)⟩
      · exact op_notIn_str pins s σ H _ _ v u Q I rx rc ⟨_, _, rfl, rfl, q _ (own_bl _)⟩
    · cases hb
  | dK es =>
    simp only [Option.map_eq_some_iff] at hb
    obtain ⟨o, ho, rfl⟩ := hb
    exact dict o ho rfl
  | dT es =>
    simp only [Option.map_eq_some_iff] at hb
    obtain ⟨o, ho, rfl⟩ := hb
    exact dict o ho rfl
  | non => simp [dGet] at hb
  | bl _ => simp [dGet] at hb
  | int _ => simp [dGet] at hb
  | obj _ _ => simp [dGet] at hb
theorem od_in (hu : X.A.units + 64 < cLine) : OpD X (compareOp .In) dIn := in_any hu false (.inl ⟨rfl, rfl⟩)
theorem od_notIn (hu : X.A.units + 64 < cLine) : OpD X (compareOp .NotIn) dNotIn := in_any hu true (.inr ⟨rfl, rfl⟩)

/-! ### < of data -/
mutual
/-- a pair that < may compare -/
def cmpD : D → D → Bool
  | .int _, .int _ => true
  | .str _, .str _ => true
  | .tup xs, .tup ys => cmpDs xs ys
  | .lst xs, .lst ys => cmpDs xs ys
  | _, _ => false
def cmpDs : List D → List D → Bool
  | x :: xs, y :: ys => cmpD x y && cmpDs xs ys
  | _, _ => true
end
mutual
def ltB : D → D → Bool
  | .int i, .int j => decide (i < j)
  | .str x, .str y => decide (x.cps.toList < y.cps.toList)
  | .tup xs, .tup ys => ltBs xs ys
  | .lst xs, .lst ys => ltBs xs ys
  | _, _ => false
def ltBs : List D → List D → Bool
  | [], [] => false
  | [], _ :: _ => true
  | _ :: _, [] => false
  | x :: xs, y :: ys => if eqD x y = true then ltBs xs ys else ltB x y
end
def dLt (d e : D) : Option D := if d.pl && e.pl && cmpD d e && decide (dep d ≤ 60) then some (.bl (ltB d e)) else none
end
end P3
end
section
set_option exponentiation.threshold 256
set_option Elab.async false
set_option linter.all false
set_option maxRecDepth 100000
set_option maxHeartbeats 2000000
set_option autoImplicit false
/-! P3c2: defs whose caller shows nothing just now: room and no guard. -/
namespace P3
open PySem PySem.Spec PyProof.Rows L2
/-- room for k calls, and no text of a thing is being made around -/
structure Rm (k : Nat) (A : Around) : Prop where
  room : Room k A
  gd : A.guards = some []
theorem Rm.mono {j k : Nat} {A : Around} (r : Rm k A) (h : j ≤ k) : Rm j A := ⟨r.room.mono h, r.gd⟩
theorem Rm.units {k : Nat} {A : Around} (r : Rm k A) : A.units + 64 < cLine := r.room.units
theorem Rm.u1 {k : Nat} {A : Around} (r : Rm k A) : A.units + 1 < cLine := by have := r.units; omega
structure FnG (P : Program) (w : World) (K : PySem.W.Frag) (mg : Str → Option Value) (base : Heap) (CX : CXT) (k : Nat) (f : Addr) (fd : FuncData) (ps : List Str) (sp : Sp) : Prop where
  len : ∀ vs H Q E, sp vs H Q E → vs.length = ps.length
  run : ∀ (A : Around) (outer : List PySem.Env) (s : Shared) (H : Hp) (args : Args) (us : List Value) (vs : List V) (Q : VK) (E : XK), Rm k A → Env0 P w K mg base A outer s H →
    BindsTo s fd args (ps.zip us) → Vals vs us → sp vs H Q E → codeAny (model P w) A (.call (.ref f) args) (CR CX outer P w H s Q E) s
section
variable {P : Program} {w : World} {K : PySem.W.Frag} {mg : Str → Option Value} {base : Heap} {x qual : Str} {params : Arguments} {body : List Stmt} {scope : Scope} {dvs : List V} {kws : List (Str × V)} {f : Addr} {fd : FuncData}
theorem FunD.okG {CX : CXT} {N ps : List Str} {k : Nat} {sp : Sp} (F : FunD K x qual params body scope dvs kws f fd) (S : FnScope N ps scope) (len : ∀ vs H Q E, sp vs H Q E → vs.length = ps.length)
    (B : ∀ (cdv : Value) (A : Around) (outer : List PySem.Env) (s : Shared) (H : Hp) (vs : List V) (Q : VK) (E : XK), Rm k (A.deeper (envOfC qual scope s.heap.objs.size f cdv)) → sp vs H Q E →
      ∃ t, PSs (cxOf CX P w K mg base N qual scope f cdv A outer s H E) body t ∧ t { nx := fun _ H' => Q .non H', rt := Q } (L2.start N vs) H) : FnG P w K mg base CX (k + 1) f fd ps sp := by
  obtain ⟨_, _, _, _, _, _, _, cdv, _, _, rfl, lk, hcd, _, _⟩ := F.ex
  constructor
  · exact len
  intro A outer s H args us vs Q E hr env0 hbind rv hsp
  have kept : ∀ b o, base.get? b = some o → s.heap.get? b = some o := fun b o e => (env0.bs b o e).1
  have KS := env0.mod.kin.keeps kept
  have kinds : ∀ y ∈ ps.zip us, scope.names.lookup y.1 = some .local ∨ (scope.names.lookup y.1 = some .cell ∧ ((cellsFrom (s.heap.objs.size + 1) scope.names []).lookup y.1).isSome = true) := by
    rintro ⟨n, u⟩ hy
    have := S.par n (List.of_mem_zip hy).1
    exact this.imp id fun q => ⟨q, PySem.W.cellsFrom_some _ _ _ (.inl q)⟩
  refine codeAny_call_function hr.room.depth (KS _ _ lk) rfl S.co S.gen rfl (PySem.W.codeRec_of KS hcd) (hbind _ _ _ _ (wpAny_newFunctionEnv_cells S.kind kinds fun env he s1 x => ?_))
  cases he
  refine ⟨(env0.mod.nolimit.keeps kept).keeps x.toInCall.keep, codeAny_func ?_⟩
  obtain ⟨t, pt, ht⟩ := B cdv A outer s H vs Q E ⟨hr.room.deeper _, hr.gd⟩ hsp
  have J := inv_start (CX := CX) (E := E) S hr.room.hd env0 (len _ _ _ _ hsp) rv x
  refine wpAny_mono (pt.run [] s1 _ H _ J ht) ?_ fun _ _ z => z
  rintro fl s' hs
  cases fl with
  | ret u =>
    obtain ⟨v, σ', H', J', r', q⟩ := hs
    exact ⟨v, H', J'.os, J'.bare, J'.base, J'.hok, r', q⟩
  | next =>
    obtain ⟨σ', H', J', q⟩ := hs
    exact ⟨.non, H', J'.os, J'.bare, J'.base, J'.hok, rfl, q⟩
  | brk => exact hs.elim fun _ h => h.elim fun _ h => h.2.elim
  | cont => exact hs.elim fun _ h => h.elim fun _ h => h.2.elim
end
section
variable {X : Cx} {CX : CXT} {k : Nat} {f : Addr} {fd : FuncData} {ps : List Str} {sp : Sp} {E : L2.St → XK} {x : Str} {p pos : Pos} {e : Expr} {es : List Expr} {t : TA}
theorem pe_callGd (F : FnG X.prog X.w X.K X.mg X.base CX k f fd ps sp) (hr : Rm k X.A) (hg : Gl X x) (hm : X.mg x = some (.ref f)) (hk : PySem.W.keepIn X.K (.ref f) = true) (hb : Binds X.K fd ps []) (hx : ∀ σ, PassesAt CX X σ (E σ)) (ha : PA X (e :: es) t)
    (hdb : (x == ("__debug__" : Str)) = false := by decide) (he : starEach (e :: es) X.env = (false, eval e X.env) :: starEach es X.env := by rfl) (hpl : (backTo pos (starEach es X.env)).any (·.1) = false := by rfl) :
    PE X (.Call (.Name x p) (e :: es) [] pos) (tCallS sp E t) := by
  constructor
  intro pins s σ H Q I h
  refine wpAny_Call_Name_kw (ld_glob I hg hm (PySem.W.callWith_K (h₀ := X.base) I.ok.mod.kin hk (thn (ha.run pos pins s σ H _ I h) ?_) he hpl) hdb)
  rintro us s1 ⟨vs, H1, I1, r, q⟩
  refine ⟨I1.kIn, wpAny_call (codeAny_mono (R := CR CX X.stack X.prog X.w H1 s1 Q (E σ)) ?_ ?_)⟩
  · have hl : (us ++ []).length = ps.length := by rw [List.append_nil, ← r.length]; exact F.len _ _ _ _ q
    have b := hb s1 us I1.kIn hl
    rw [List.append_nil] at b
    exact F.run X.A X.stack s1 H1 ⟨us, []⟩ us vs Q (E σ) hr I1.env0 b r q
  · intro r' s' hq
    cases r' with
    | error u => exact hx σ pins H1 s1 u s' I1 hq
    | ok fl => cases fl with
      | ret u => exact I1.after hq
      | next => cases hq
      | brk => cases hq
      | cont => cases hq
end
/-! ### the law's def, from the caller -/
section
variable {P : Program} {w : World} {K : PySem.W.Frag} {mg mb : Str → Option Value} {CX : CXT} {k : Nat} {fa a : Addr} {fd : FuncData} {x : Str} {sp : Sp} {s1 : Shared} {us : List Value} {ns : List Int}
/-- the script as a thing of old -/
abbrev scriptO (us : List Value) : Obj := { cls := .type "list", data := .seq us.toArray }
theorem call_from (KX : K.In s1.heap) (hns : s1.heap.Ns mainGlobals mg) (hb : s1.heap.Ns builtinsNs mb) (hbb : ∀ x : Str, x ≠ "__name__" → mb x = bootBuiltins x) (hlim : s1.heap.NoLimit) (hg : s1.gens = #[]) (ha : s1.heap.get? a = some (scriptO us)) (hr : Rm k callerA)
    (F : ∀ base : Heap, K.In base → base.Ns mainGlobals mg → FnG P w K mg base CX k fa fd [x] sp) (hbind : ∀ (s : Shared) (u : Value), BindsTo s fd ⟨[u], []⟩ [(x, u)]) (nocx : ∀ H e s', CX [] H s1 (fun _ _ _ => False) e s' → False)
    (H : Hp) (known : ∀ b u, H b = some u → b = a ∧ K.lookup a = none ∧ u = .frz (scriptO us) (.lst (ns.map V.int))) (ok : HOk P w H s1.heap) (hsp : sp [.ref a] H (fun v _ => v = .bl true) fun _ _ _ => False) :
    codeAny (model P w) callerA (.call (.ref fa) ⟨[.ref a], []⟩) (fun r s' => r = .ok (.ret (.bool true)) ∧ OldK s1.heap s'.heap ∧ s'.os = s1.os ∧ AllBare s'.gens) s1 := by
  -- what is not the script stays in the base
  have free : ∀ b o, s1.heap.get? b = some o → (b = a → K.lookup a ≠ none ∨ o ≠ scriptO us) → H b = none := by
    intro b o e n
    match hb : H b with
    | none => rfl
    | some u =>
      obtain ⟨e1, e2, _⟩ := known b u hb
      cases e1
      rw [ha] at e
      rcases n rfl with z | z
      · exact absurd e2 z
      · exact absurd (Option.some.inj e).symm z
  have inB : ∀ b o, s1.heap.get? b = some o → (b = a → K.lookup a ≠ none ∨ o ≠ scriptO us) → (hidT s1.heap H).get? b = some o := fun b o e n => hidT_get e (free b o e n)
  have tab : ∀ (b : Addr) (m : Str → Option Value), s1.heap.Ns b m → (hidT s1.heap H).Ns b m := by
    rintro b m ⟨o, es, ep, e, d, r⟩
    refine ⟨o, es, ep, inB b o e fun _ => .inr ?_, d, r⟩
    rintro rfl
    cases d
  have KB : K.In (hidT s1.heap H) := fun b o e => inB b o (KX b o e) fun z => .inl (by subst z; rw [e]; simp)
  obtain ⟨mc, l1, l2⟩ := hlim
  have M : Mod K mg (hidT s1.heap H) := ⟨KB, tab _ _ hns, ⟨mb, tab _ _ hb, hbb⟩, mc, tab _ _ l1, l2⟩
  have E0 : Env0 P w K mg (hidT s1.heap H) callerA [] s1 H := { frames := rfl, mod := M, bs := fun _ _ z => of_hidT z, bsz := Nat.le_of_eq (hidT_size _ _), funs := trivial, frf := (by intro b z; exact absurd (show b ∈ ([] : List Addr) from z) (by simp)), hok := ok, bare := AllBare.of_eq hg }
  refine codeAny_mono ((F _ KB (tab _ _ hns)).run callerA [] s1 H ⟨[.ref a], []⟩ [.ref a] [.ref a] _ _ hr E0 (hbind s1 _) (.cons rfl .nil) hsp) ?_
  intro r s' h
  match r, h with
  | .error e, h => exact (nocx H e s' h).elim
  | .ok (.ret u), h =>
    obtain ⟨v, H', os, bare, un, ok', rv, q⟩ := h
    have : v = .bl true := q
    cases this
    have : u = Value.bool true := rv
    cases this
    refine ⟨rfl, OldK.of_keep fun b o e => ?_, os, bare⟩
    match hb : H b with
    | none => exact un.keep b o e hb (by intro z; exact absurd (show b ∈ ([] : List Addr) from z) (by simp)) (by simp)
    | some u =>
      obtain ⟨_, _, e3⟩ := known b u hb
      rw [e3] at hb
      have i1 := (ok b _ hb).1
      have i2 := (ok' b _ (un.frzs b _ _ hb)).1
      rw [i1] at e
      rw [i2, ← e]
/-- the same, the script told as data of old or of the module -/
theorem call_script (KX : K.In s1.heap) (hns : s1.heap.Ns mainGlobals mg) (hb : s1.heap.Ns builtinsNs mb) (hbb : ∀ x : Str, x ≠ "__name__" → mb x = bootBuiltins x) (hlim : s1.heap.NoLimit) (hg : s1.gens = #[]) (ha : s1.heap.get? a = some (scriptO us)) (hi : IntsAre us ns) (hl : ns.length ≤ sizeLine) (hr : Rm k callerA)
    (F : ∀ base : Heap, K.In base → base.Ns mainGlobals mg → FnG P w K mg base CX k fa fd [x] sp) (hbind : ∀ (s : Shared) (u : Value), BindsTo s fd ⟨[u], []⟩ [(x, u)]) (nocx : ∀ H e s', CX [] H s1 (fun _ _ _ => False) e s' → False)
    (hsp : ∀ H : Hp, SqL K H a (ns.map V.int) → sp [.ref a] H (fun v _ => v = .bl true) fun _ _ _ => False) :
    codeAny (model P w) callerA (.call (.ref fa) ⟨[.ref a], []⟩) (fun r s' => r = .ok (.ret (.bool true)) ∧ OldK s1.heap s'.heap ∧ s'.os = s1.os ∧ AllBare s'.gens) s1 := by
  have rv := vals_ints hi
  by_cases hk : K.lookup a = none
  · have at_a : (fun b => if b = a then some (HO.frz (scriptO us) (.lst (ns.map V.int))) else none : Hp) a = some (.frz (scriptO us) (.lst (ns.map V.int))) := by simp
    refine call_from (ns := ns) KX hns hb hbb hlim hg ha hr F hbind nocx (fun b => if b = a then some (.frz (scriptO us) (.lst (ns.map V.int))) else none) (fun b u e => ?_) (fun b u e => ?_) (hsp _ (.inl (.inr ⟨_, at_a⟩)))
    · skip
      split at e
      · rename_i z; exact ⟨z, hk, (Option.some.inj e).symm⟩
      · cases e
    · dsimp only at e
      split at e
      · rename_i z
        cases e
        subst z
        exact ⟨ha, by rw [List.length_map]; exact hl, us, _, rv, ha⟩
      · cases e
  · obtain ⟨o, ho⟩ := Option.ne_none_iff_exists'.mp hk
    have e := KX a o ho
    rw [ha] at e
    cases e
    exact call_from (ns := ns) KX hns hb hbb hlim hg ha hr F hbind nocx (fun _ => none) (fun b u e => nomatch e) (fun b u e => nomatch e) (hsp _ (.inr ⟨_, us.toArray, _, ho, rfl, rfl, rfl, by rw [List.size_toArray, hi.length]; exact hl, by simpa using rv⟩))
end
end P3
end
section
set_option exponentiation.threshold 256
set_option Elab.async false
set_option linter.all false
set_option maxRecDepth 100000
set_option maxHeartbeats 2000000
set_option autoImplicit false
/-! P3, part d: displays, subscripts, slices, calls -/
namespace P3
open PySem PySem.Spec PyProof.Rows L2

section
variable {K : PySem.W.Frag} {p0 : Option Addr} {L L' H H' : Hp} {E : Env3} {σ : L2.St} {T : List Ent}
/-- own values, the newest first -/
def wtemps : List V → List D → List Ent
  | v :: vs, d :: ds => wtemps vs ds ++ [⟨true, v, d⟩]
  | _, _ => []
theorem HoldsL.split : ∀ {es es' : List Ent} {fp : List Addr}, HoldsL K L H (es ++ es') fp → ∃ f g, fp = f ++ g ∧ HoldsL K L H es f ∧ HoldsL K L H es' g
  | [], es', fp, h => ⟨[], fp, rfl, .nil, h⟩
  | e :: es, es', fp, h => by
    cases h with
    | cons h hs =>
      obtain ⟨f, g, r, h1, h2⟩ := HoldsL.split hs
      exact ⟨_, g, by rw [r, ← List.append_assoc], .cons h h1, h2⟩
theorem HoldsL.owns : ∀ {ds : List D} {vs : List V} {fp : List Addr}, vs.length = ds.length → HoldsL K L H (wtemps vs ds) fp → ∃ g, fp.Perm g ∧ Owns K (fun _ => none) H vs ds g
  | [], [], fp, _, h => by cases h; exact ⟨[], .refl _, .nil⟩
  | d :: ds, v :: vs, fp, hl, h => by
    unfold wtemps at h
    obtain ⟨f, g, r, h1, h2⟩ := h.split
    obtain ⟨f', q, o⟩ := HoldsL.owns (by simpa using hl) h1
    cases h2 with
    | cons h2 hn =>
      cases hn
      unfold EntOk at h2
      rw [if_pos rfl] at h2
      refine ⟨_, ?_, .cons h2 o⟩
      rw [r, List.append_nil]
      exact List.perm_append_comm.trans (q.append_left _)
  | [], _ :: _, _, hl, _ => by simp at hl
  | _ :: _, [], _, hl, _ => by simp at hl
/-- the own temporaries, taken out -/
theorem St3.outW {vs : List V} {ds : List D} (S : St3 K p0 L H E σ (wtemps vs ds ++ T)) (hl : vs.length = ds.length) :
    ∃ g, Owns K (fun _ => none) H vs ds g ∧ g.Nodup ∧ (∀ a ∈ g, L a = none) ∧ ∀ H' v d f, Le L H' → LeT H H' → (∀ a u, a ∉ g → H a = some u → H' a = some u) → Own K (fun _ => none) H' v d f → f.Nodup → (∀ a ∈ f, L a = none ∧ (a ∈ g ∨ H a = none)) → St3 K p0 L H' E σ (⟨true, v, d⟩ :: T) := by
  obtain ⟨es, l, le, fp, hh, nd, fr⟩ := S.ex
  obtain ⟨f1, f2, r, h1, h2⟩ := hh.split
  obtain ⟨f3, f4, r2, h3, h4⟩ := h2.split
  obtain ⟨g, q, o⟩ := h3.owns hl
  subst r r2
  have nd2 := List.nodup_append.mp nd
  have nd3 := List.nodup_append.mp nd2.2.1
  refine ⟨g, o, q.nodup nd3.1, fun a ha => fr a (List.mem_append_right _ (List.mem_append_left _ (q.mem_iff.mpr ha))), fun H' v d f le' lt keep ow ndf hf => ⟨⟨es, l, ?_⟩, S.pin⟩⟩
  have out : ∀ a, a ∈ f1 ++ f4 → a ∉ g := fun a ha hg => by
    have hg' := q.mem_iff.mpr hg
    rcases List.mem_append.mp ha with ha | ha
    · exact nd2.2.2 a ha a (List.mem_append_left _ hg') rfl
    · exact nd3.2.2 a hg' a ha rfl
  have h14 : HoldsL K L H (es ++ T) (f1 ++ f4) := h1.append h4
  have up := h14.up (L' := L) (H' := H') (Le.refl _) (fun a ha => by
    obtain ⟨u, e, _⟩ := h14.there a ha
    rw [e]
    exact keep a u (out a ha) e) lt
  refine Holds.perm (Holds.pushW le' up (List.nodup_append.mpr ⟨ndf, ?_, fun a ha b hb e => ?_⟩) (fun a ha => ?_) ow) List.perm_middle.symm
  · refine List.nodup_append.mpr ⟨nd2.1, nd3.2.1, fun a ha b hb => nd2.2.2 a ha b (List.mem_append_right _ hb)⟩
  · subst e
    rcases (hf a ha).2 with z | z
    · exact out a hb z
    · obtain ⟨u, e, _⟩ := h14.there a hb
      rw [z] at e; cases e
  · rcases List.mem_append.mp ha with ha | ha
    · exact (hf a ha).1
    · rcases List.mem_append.mp ha with ha | ha
      · exact fr a (List.mem_append_left _ ha)
      · exact fr a (List.mem_append_right _ (List.mem_append_right _ ha))
/-- a new list of own things -/
theorem St3.newL {vs : List V} {ds : List D} {p : Addr} (S : St3 K p0 L H E σ (wtemps vs ds ++ T)) (hl : vs.length = ds.length) (hp : H p = none) : St3 K p0 L (upd H p (.lst vs)) E σ (⟨true, .ref p, .lst ds⟩ :: T) := by
  obtain ⟨g, o, nd, fr, k⟩ := S.outW hl
  have ng : p ∉ g := fun h => by obtain ⟨u, e, _⟩ := o.there p h; rw [hp] at e; cases e
  have hm := o.mono (L' := fun _ => none) (H' := upd H p (.lst vs)) (Le.refl _) (Le.new hp).leT fun a ha => upd_ne fun e => ng (e ▸ ha)
  refine k _ _ _ (p :: g) (S.le.trans (Le.new hp)) (Le.new hp).leT (fun a u _ e => Le.new hp a u e) (.lst upd_same hm) (List.nodup_cons.mpr ⟨ng, nd⟩) fun a ha => ?_
  rcases List.mem_cons.mp ha with rfl | ha
  · exact ⟨S.le.none hp, .inr hp⟩
  · exact ⟨fr a ha, .inl ha⟩
/-- a new tuple of own things -/
theorem St3.newTw {vs : List V} {ds : List D} {p : Addr} (S : St3 K p0 L H E σ (wtemps vs ds ++ T)) (hl : vs.length = ds.length) (hp : H p = none) : St3 K p0 L (upd H p (.tup vs)) E σ (⟨true, .ref p, .tup ds⟩ :: T) := by
  obtain ⟨g, o, nd, fr, k⟩ := S.outW hl
  have ng : p ∉ g := fun h => by obtain ⟨u, e, _⟩ := o.there p h; rw [hp] at e; cases e
  have hm := o.mono (L' := fun _ => none) (H' := upd H p (.tup vs)) (Le.refl _) (Le.new hp).leT fun a ha => upd_ne fun e => ng (e ▸ ha)
  exact k _ _ _ g (S.le.trans (Le.new hp)) (Le.new hp).leT (fun a u _ e => Le.new hp a u e) (.tup upd_same hm) nd fun a ha => ⟨fr a ha, .inl ha⟩
/-- a new tuple of shared things -/
theorem St3.newT {vs : List V} {ds : List D} {p : Addr} (S : St3 K p0 L H E σ T) (o : Owns K L H vs ds []) (hp : H p = none) : St3 K p0 L (upd H p (.tup vs)) E σ (⟨false, .ref p, .tup ds⟩ :: T) :=
  (S.grow (Le.new hp)).push (.tup upd_same (o.mono (Le.refl _) (Le.new hp).leT (by simp)))
/-- a new list of things without lists -/
theorem St3.newLf {vs : List V} {ds : List D} {p : Addr} (S : St3 K p0 L H E σ T) (o : Owns K H H vs ds []) (hf : lfs ds = true) (hp : H p = none) : St3 K p0 L (upd H p (.lst vs)) E σ (⟨true, .ref p, .lst ds⟩ :: T) :=
  S.fresh (Le.new hp) (.lst upd_same ((o.free hf).2.mono (Le.refl _) (Le.new hp).leT (by simp))) (by simp) (by simpa using hp)
theorem St3.newTf {vs : List V} {ds : List D} {p : Addr} (S : St3 K p0 L H E σ T) (o : Owns K H H vs ds []) (hf : lfs ds = true) (hp : H p = none) : St3 K p0 L (upd H p (.tup vs)) E σ (⟨false, .ref p, .tup ds⟩ :: T) :=
  S.newT ((o.free hf).2) hp
end

/-! ### lists of expressions -/
/-- own values, for a list -/
def sWs (Y : Cy) (L : Hp) (σ : L2.St) (T : List Ent) (Q : List V → Hp → Prop) : List D → Env3 → Prop := fun ds E => ∀ vs L' H', Le L L' → vs.length = ds.length → St3 Y.K Y.p0 L' H' E σ (wtemps vs ds ++ T) → Q vs H'
def VWs (Y : Cy) (es : List Expr) (f : Sm (List D)) : Prop := ∃ t, PA Y.X es t ∧ ∀ L H E σ T Q, St3 Y.K Y.p0 L H E σ T → Gd Y L σ T (sWs Y L σ T Q) (f E) → t σ H Q
/-- arguments: values and references -/
inductive ARel (σ : L2.St) : List Arg → List V → List Ent → Prop
  | nil : ARel σ [] [] []
  | val {k : Bool} {v : V} {d : D} {as : List Arg} {vs : List V} {Ts : List Ent} (h : ARel σ as vs Ts) : ARel σ (.val d :: as) (v :: vs) (Ts ++ [⟨k, v, d⟩])
  | ref {i : Nat} {v : V} {as : List Arg} {vs : List V} {Ts : List Ent} (e : σ[i]? = some (some v)) (h : ARel σ as vs Ts) : ARel σ (.ref i :: as) (v :: vs) Ts
def sA (Y : Cy) (L : Hp) (σ : L2.St) (T : List Ent) (Q : List V → Hp → Prop) : List Arg → Env3 → Prop := fun as E => ∀ vs Ts L' H', Le L L' → St3 Y.K Y.p0 L' H' E σ (Ts ++ T) → ARel σ as vs Ts → Q vs H'
def VA (Y : Cy) (es : List Expr) (f : Sm (List Arg)) : Prop := ∃ t, PA Y.X es t ∧ ∀ L H E σ T Q, St3 Y.K Y.p0 L H E σ T → Gd Y L σ T (sA Y L σ T Q) (f E) → t σ H Q
def mCons {α : Type} (f : Sm α) (g : Sm (List α)) : Sm (List α) := Sm.b f fun x => Sm.b g fun xs => Sm.p (x :: xs)
def mNil {α : Type} : Sm (List α) := Sm.p []

section
variable {Y : Cy} {e a b c : Expr} {es : List Expr} {f g : Sm D} {fs : Sm (List D)} {fr : Sm Arg} {fa : Sm (List Arg)} {pos : Pos}
theorem vb_nil : VBs Y [] mNil := ⟨_, pa_nil, fun L H E σ T Q S G => G [] L H (Le.refl _) S .nil⟩
theorem vb_cons (h : VE Y false e f) (hr : VBs Y es fs) (hs : starEach (e :: es) Y.X.env = (false, eval e Y.X.env) :: starEach es Y.X.env := by rfl) : VBs Y (e :: es) (mCons f fs) := by
  obtain ⟨t, p, h⟩ := h
  obtain ⟨tr, pr, hr⟩ := hr
  refine ⟨_, pa_cons p pr hs, fun L H E σ T Q S G => h L H E σ T _ S (G.bind.imp fun d E1 G1 v L1 H1 l1 S1 => ?_)⟩
  refine hr L1 H1 E1 σ _ _ S1 (G1.bind.temp l1 fun ds E2 G2 vs L2 H2 l2 S2 o => G2 (v :: vs) L2 H2 (l1.trans l2) S2.pop (.cons (f := []) (g := []) S2.own0 o))
theorem vw_nil : VWs Y [] mNil := ⟨_, pa_nil, fun L H E σ T Q S G => G [] L H (Le.refl _) rfl S⟩
theorem vw_cons (h : VE Y true e f) (hr : VWs Y es fs) (hs : starEach (e :: es) Y.X.env = (false, eval e Y.X.env) :: starEach es Y.X.env := by rfl) : VWs Y (e :: es) (mCons f fs) := by
  obtain ⟨t, p, h⟩ := h
  obtain ⟨tr, pr, hr⟩ := hr
  refine ⟨_, pa_cons p pr hs, fun L H E σ T Q S G => h L H E σ T _ S (G.bind.imp fun d E1 G1 v L1 H1 l1 S1 => ?_)⟩
  refine hr L1 H1 E1 σ _ _ S1 (G1.bind.temp l1 fun ds E2 G2 vs L2 H2 l2 hl S2 => G2 (v :: vs) L2 H2 (l1.trans l2) (by simp [hl]) ?_)
  show St3 Y.K Y.p0 L2 H2 E2 σ ((wtemps vs ds ++ [⟨true, v, d⟩]) ++ T)
  rw [List.append_assoc]
  exact S2
theorem va_nil : VA Y [] mNil := ⟨_, pa_nil, fun L H E σ T Q S G => G [] [] L H (Le.refl _) S .nil⟩
theorem va_cons (h : VR Y e fr) (hr : VA Y es fa) (hs : starEach (e :: es) Y.X.env = (false, eval e Y.X.env) :: starEach es Y.X.env := by rfl) : VA Y (e :: es) (mCons fr fa) := by
  obtain ⟨t, p, h⟩ := h
  obtain ⟨tr, pr, hr⟩ := hr
  refine ⟨_, pa_cons p pr hs, fun L H E σ T Q S G => h L H E σ T _ S (G.bind.imp fun x E1 G1 => ?_)⟩
  cases x with
  | val d =>
    intro k v L1 H1 l1 S1
    refine hr L1 H1 E1 σ _ _ S1 (G1.bind.temp l1 fun as E2 G2 vs Ts L2 H2 l2 S2 o => G2 (v :: vs) (Ts ++ [⟨k, v, d⟩]) L2 H2 (l1.trans l2) ?_ (.val o))
    rw [List.append_assoc]
    exact S2
  | ref i =>
    intro v L1 H1 l1 S1 hv
    exact hr L1 H1 E1 σ _ _ S1 (G1.bind.grow l1 fun as E2 G2 vs Ts L2 H2 l2 S2 o => G2 (v :: vs) Ts L2 H2 (l1.trans l2) S2 (.ref hv o))
theorem St3.popL {K : PySem.W.Frag} {p0 : Option Addr} {L H : Hp} {E : Env3} {σ : L2.St} {Ts T : List Ent} (S : St3 K p0 L H E σ (Ts ++ T)) : St3 K p0 L H E σ T := by
  induction Ts with
  | nil => exact S
  | cons e Ts ih => exact ih S.pop
theorem arel_owns {K : PySem.W.Frag} {p0 : Option Addr} {L H : Hp} {E : Env3} {σ : L2.St} : ∀ {as : List Arg} {vs : List V} {Ts T : List Ent} {ds : List D}, ARel σ as vs Ts → St3 K p0 L H E σ (Ts ++ T) → getAll E as = some ds → Owns K H H vs ds []
  | [], _, _, _, _, h, S, e => by cases h; simp [getAll] at e; subst e; exact .nil
  | x :: as, _, _, T, ds, h, S, e => by
    unfold getAll at e
    split at e
    · cases e
    · rename_i d hd
      split at e
      · cases e
      · rename_i ds' hds
        cases e
        cases h with
        | val h =>
          simp only [Arg.get, Option.some.injEq] at hd
          subst hd
          rw [List.append_assoc] at S
          exact .cons (f := []) (g := []) (S.popL).rdb (arel_owns (T := _ :: T) h S hds)
        | ref hv h => exact .cons (f := []) (g := []) (arg_rdb S hv hd) (arel_owns h S hds)
/-- the arguments' data, at the end -/
def mArgs (f : Sm (List Arg)) : Sm (List D) := Sm.b f fun as E => Sm.o (getAll E as) E
theorem VA.vd (h : VA Y es fa) : VD Y es (mArgs fa) := by
  obtain ⟨t, p, h⟩ := h
  refine ⟨_, p, fun L H E σ T Q S G => h L H E σ T _ S (G.bind.imp fun as E1 G1 vs Ts L1 H1 l1 S1 o => ?_)⟩
  obtain ⟨ds, e, G2⟩ := Gd.opt (o := getAll E1 as) (E := E1) G1
  exact G2 vs L1 H1 l1 S1.popL (arel_owns (T := T) o S1 e)

/-! ### displays -/
def mTup (f : Sm (List D)) : Sm D := Sm.b f fun ds => if ds.length ≤ 1000 then Sm.p (.tup ds) else fun _ => .bad
def mLst (f : Sm (List D)) : Sm D := Sm.b f fun ds => if ds.length ≤ 1000 then Sm.p (.lst ds) else fun _ => .bad
theorem sz1000 {n : Nat} (h : n ≤ 1000) : n ≤ sizeLine := Nat.le_trans h (by decide)
theorem ve_tup {x1} (h : VBs Y es fs) : VE Y false (.Tuple es x1 pos) (mTup fs) := by
  obtain ⟨t, p, h⟩ := h
  refine ⟨_, pe_tup p, fun L H E σ T Q S G => h L H E σ T _ S (G.bind.imp fun ds E1 G1 vs L1 H1 l1 S1 o => ?_)⟩
  split at G1
  · rename_i hn
    exact ⟨sz1000 (by rw [o.len]; exact hn), fun q hq => G1 _ L1 _ l1 (S1.newT o hq)⟩
  · exact G1.elim
theorem ve_tupW {x1} (h : VWs Y es fs) : VE Y true (.Tuple es x1 pos) (mTup fs) := by
  obtain ⟨t, p, h⟩ := h
  refine ⟨_, pe_tup p, fun L H E σ T Q S G => h L H E σ T _ S (G.bind.imp fun ds E1 G1 vs L1 H1 l1 hl S1 => ?_)⟩
  split at G1
  · rename_i hn
    exact ⟨sz1000 (by rw [hl]; exact hn), fun q hq => G1 _ L1 _ l1 (S1.newTw hl hq)⟩
  · exact G1.elim
theorem ve_lst (h : VWs Y es fs) : VE Y true (.List es pos) (mLst fs) := by
  obtain ⟨t, p, h⟩ := h
  refine ⟨_, pe_lst p, fun L H E σ T Q S G => h L H E σ T _ S (G.bind.imp fun ds E1 G1 vs L1 H1 l1 hl S1 => ?_)⟩
  split at G1
  · rename_i hn
    exact ⟨sz1000 (by rw [hl]; exact hn), fun q hq => G1 _ L1 _ l1 (S1.newL hl hq)⟩
  · exact G1.elim

/-! ### subscripts -/
/-- an item: of a list, a tuple, a text, a dict -/
def dIx (d i : D) : Option D := match d, i with
  | .lst ds, .int j => atI ds j
  | .clst ds, .int j => atI ds j
  | .flst ds, .int j => atI ds j
  | .tup ds, .int j => atI ds j
  | .ctup ds, .int j => atI ds j
  | .str x, .int j => if x.length ≤ 1000000 then (atI x.cps.toList j).map fun c => .str ⟨#[c]⟩ else none
  | d, k => (dGet d k).bind id
theorem atI_owns {K : PySem.W.Frag} {L H : Hp} {vs : List V} {ds : List D} {fp : List Addr} {j : Int} {d : D} (o : Owns K L H vs ds fp) (e : atI ds j = some d) : ∃ v f, atI vs j = some v ∧ Own K L H v d f ∧ ∀ a ∈ f, a ∈ fp := by
  unfold atI at e ⊢
  rw [o.len]
  cases q : ixN ds.length j with
  | none => rw [q] at e; cases e
  | some k =>
    rw [q] at e
    obtain ⟨v, f, g1, g2, e1, o1, r⟩ := o.get (show ds[k]? = some d from e)
    exact ⟨v, f, e1, o1, fun a ha => by rw [r]; simp [ha]⟩
/-- .. as the asker may go on with it: what is shared is shared, what is owned has no lists -/
theorem ix_ok {K : PySem.W.Frag} {L H : Hp} {x y : V} {d i z : D} {fp fq : List Addr} (hd : Own K L H x d fp) (hL : Le L H) (hi : Own K H H y i fq) (e : dIx d i = some z) :
    ∀ Q : VK, (∀ v f, Own K L H v z f → (∀ a ∈ f, a ∈ fp) → Q v H) → (rIx K x y H Q ∨ ∃ a v, x = .ref a ∧ DGet H a y (some v) ∧ Q v H) := by
  intro Q k
  have dict : ∀ {d}, d = d → Own K L H x d fp → (dGet d i).bind id = some z → rIx K x y H Q ∨ ∃ a v, x = .ref a ∧ DGet H a y (some v) ∧ Q v H := by
    intro d _ hd e
    cases q : dGet d i with
    | none => rw [q] at e; cases e
    | some o =>
      rw [q] at e
      have e' : o = some z := e
      subst e'
      obtain ⟨a, r, rfl, hg, hr⟩ := dGet_ok hd hL hi q
      rcases hr with ⟨_, z⟩ | ⟨v, z', f, rfl, e2, o1, hf⟩
      · cases z
      · cases e2
        exact .inr ⟨a, v, rfl, hg, k v f o1 hf⟩
  have seq : ∀ {ds : List D} {vs : List V} {p : Addr} {j : Int} {fs : List Addr}, Owns K L H vs ds fs → (∀ a ∈ fs, a ∈ fp) → atI ds j = some z → x = .ref p → i = .int j → (SqL K H p vs ∨ SqT K H p vs) → rIx K x y H Q ∨ ∃ a v, x = .ref a ∧ DGet H a y (some v) ∧ Q v H := by
    intro ds vs p j fs o hfs ea ex ei hs
    obtain ⟨v, f, e1, o1, hf⟩ := atI_owns o ea
    subst ei
    rw [own_is_int hi]
    rcases hs with hs | hs
    · exact .inl (.inl ⟨p, vs, j, v, ex, rfl, hs, e1, k v f o1 fun a ha => hfs a (hf a ha)⟩)
    · exact .inl (.inr (.inl ⟨p, vs, j, v, ex, rfl, hs, e1, k v f o1 fun a ha => hfs a (hf a ha)⟩))
  cases hd with
  | non => simp [dIx, dGet] at e
  | bl b => simp [dIx, dGet] at e
  | int b => simp [dIx, dGet] at e
  | str s => cases i with
    | int j =>
      simp only [dIx] at e
      split at e
      · rename_i hz
        cases q : atI s.cps.toList j with
        | none => rw [q] at e; cases e
        | some c =>
          rw [q] at e
          cases e
          rw [own_is_int hi]
          exact .inl (.inr (.inr ⟨s, j, c, rfl, rfl, Nat.le_trans hz (by decide), q, k _ [] (.str _) (by simp)⟩))
      · cases e
    | _ => simp [dIx, dGet] at e
  | tup h hs => cases i with
    | int j => exact seq hs (fun a ha => ha) e rfl rfl (.inr (SqT.of h))
    | _ => simp [dIx, dGet] at e
  | ctup h hs => cases i with
    | int j => exact seq hs (by simp) e rfl rfl (.inr (SqT.mono h))
    | _ => simp [dIx, dGet] at e
  | clst h hs => cases i with
    | int j => exact seq hs (by simp) e rfl rfl (.inl (leEmpty.sqL h))
    | _ => simp [dIx, dGet] at e
  | flst h hs => cases i with
    | int j => exact seq hs (by simp) e rfl rfl (.inl (.inl (.inr h)))
    | _ => simp [dIx, dGet] at e
  | bor h hs => cases i with
    | int j => exact seq hs (fun a ha => ha) e rfl rfl (.inl (.inl (hL.rd h)))
    | _ => simp [dIx, dGet] at e
  | lst h hs => cases i with
    | int j => exact seq hs (fun a ha => List.mem_cons_of_mem _ ha) e rfl rfl (.inl (SqL.of h))
    | _ => simp [dIx, dGet] at e
  | dKb h hk hs => exact dict rfl (.dKb h hk hs) (by unfold dIx at e; exact e)
  | dK h hk hs => exact dict rfl (.dK h hk hs) (by unfold dIx at e; exact e)
  | dTb h hk hs => exact dict rfl (.dTb h hk hs) (by unfold dIx at e; exact e)
  | dT h hk hs => exact dict rfl (.dT h hk hs) (by unfold dIx at e; exact e)
  | objb h hx hk hs => simp [dIx, dGet] at e
  | obj h hx hk hs => simp [dIx, dGet] at e
def rIxD : R2 := fun x y H Q => ∃ a v, x = .ref a ∧ DGet H a y (some v) ∧ Q v H
theorem ix_dict {X : Cx} (hu : X.A.units + 1 < cLine) : IxR X rIxD := by
  intro value slice pins s σ H x y v u Q I rx ry h hs
  obtain ⟨a, z, rfl, g, q⟩ := h
  obtain rfl : v = Value.ref a := rx
  have hT := dict_typeIs I g
  unfold subscriptTail
  refine wpAny_bind ?_
  rw [getitemInPython_of_ne hT.not_modules]
  refine wpAny_bind (wpAny_specialOf hT PySem.F.slot_dict_getitem.lookup ?_)
  have h₂ : wpAny (model X.prog X.w) X.A (getItem (.ref a) u) (EP X pins σ Q) X.xe s := d_getItem hu I g ry fun w' s3 I3 rw' => ⟨z, H, I3, rw', q⟩
  have fin : wpAny (model X.prog X.w) X.A (subscripted slice false (.ref a) u) (fun r s₃ => wpAny (model X.prog X.w) X.A (letTemporaryGo value (.ref a) r >>= fun _ => pure r) (EP X pins σ Q) X.xe s₃) X.xe s := by
    rw [hs]
    exact wpAny_operating (wpAny_mono h₂ (fun r s₃ h₃ => wpAny_bind (wpAny_letTemporaryGo (wpAny_pure h₃))) fun _ _ x => x)
  first
    | exact wpAny_pure (wpAny_bind fin)
    | exact wpAny_bind (wpAny_pure (wpAny_bind fin))
    | exact wpAny_bind fin
def rIx3 (K : PySem.W.Frag) : R2 := fun x y H Q => rIx K x y H Q ∨ rIxD x y H Q
theorem ix_any {X : Cx} (hu : X.A.units + 1 < cLine) : IxR X (rIx3 X.K) := ix_seq.or (ix_dict hu)
theorem nil_of_sub {f : List Addr} (h : ∀ a ∈ f, a ∈ ([] : List Addr)) : f = [] := by
  cases f with
  | nil => rfl
  | cons a r => exact nomatch h a List.mem_cons_self
def mIx (f g : Sm D) : Sm D := Sm.b f fun d => Sm.b g fun i => Sm.o (dIx d i)
/-- a[b], a shared: what comes is shared -/
theorem ve_ix {k : Bool} (hu : Y.X.A.units + 1 < cLine) (ha : VE Y false a f) (hb : VE Y k b g) (hs : PlainIx b := by intro _ _; rfl) : VE Y false (.Subscript a b pos) (mIx f g) := by
  obtain ⟨ta, pa, ha⟩ := ha
  obtain ⟨tb, pb, hb⟩ := hb
  refine ⟨_, pe_ix (ix_any hu) pa pb hs, fun L H E σ T Q S G => ha L H E σ T _ S (G.bind.imp fun d E1 G1 v L1 H1 l1 S1 => ?_)⟩
  refine hb L1 H1 E1 σ _ _ S1 (G1.bind.temp l1 fun i E2 G2 w L2 H2 l2 S2 => ?_)
  obtain ⟨z, e, G3⟩ := G2.opt
  exact ix_ok S2.pop.own0 S2.le S2.rdb e Q fun u f o hf => by
    have := nil_of_sub hf
    subst this
    exact G3 u L2 H2 (l1.trans l2) (S2.pop.pop.push o)
/-- x[b], x a name that may own: what comes has no lists -/
def mIxW (i : Nat) (g : Sm D) : Sm D := Sm.b (mRef i) fun _ => Sm.b g fun j => fun E => match rdSlot E i with
  | some d => (match dIx d j with
    | some z => if z.lf = true then .ok z E else .bad
    | none => .bad)
  | none => .bad
theorem ve_ixW {k : Bool} (i : Nat) (hu : Y.X.A.units + 1 < cLine) {x : Str} {pos' : Pos} (hb : VE Y k b g) (hN : Y.X.N[i]? = some x := by rfl) (hv : Vis Y.X.env.scope x := by first | exact Or.inl rfl | exact Or.inr (Or.inl rfl) | exact Or.inr (Or.inr rfl))
    (hs : PlainIx b := by intro _ _; rfl) (hd : (x == ("__debug__" : Str)) = false := by decide) (hcd : (x == ("__classdict__" : Str)) = false := by decide) : VE Y false (.Subscript (.Name x pos') b pos) (mIxW i g) := by
  obtain ⟨tb, pb, hb⟩ := hb
  refine ⟨_, pe_ix (ix_any hu) (pe_var (i := i) hN hv hd hcd) pb hs, fun L H E σ T Q S G => ?_⟩
  have G0 := G.bind
  unfold mRef at G0
  split at G0
  · rename_i hk
    obtain ⟨d0, e0⟩ := Option.isSome_iff_exists.mp hk
    obtain ⟨v, h1, h2⟩ := S.look e0
    refine ⟨v, h1, hb L H E σ T _ S (Gd.imp (Gd.bind G0) fun j E2 G2 w L2 H2 l2 S2 => ?_)⟩
    split at G2
    · rename_i d e2
      split at G2
      · rename_i z e3
        split at G2
        · rename_i hf
          have hv := arg_rdb S2 h1 e2
          exact ix_ok hv (Le.refl _) S2.rdb e3 Q fun u f o _ => G2 u L2 H2 l2 (S2.pop.push (o.free hf).2)
        · exact G2.elim
      · exact G2.elim
    · exact G2.elim
  · exact G0.elim
/-- a name's value without lists, shared -/
def mRdL (i : Nat) : Sm D := fun E => match rdSlot E i with
  | some d => if d.lf = true then .ok d E else .bad
  | none => .bad
theorem ve_rdL (i : Nat) {x : Str} (hN : Y.X.N[i]? = some x := by rfl) (hv : Vis Y.X.env.scope x := by first | exact Or.inl rfl | exact Or.inr (Or.inl rfl) | exact Or.inr (Or.inr rfl)) (hd : (x == ("__debug__" : Str)) = false := by decide)
    (hcd : (x == ("__classdict__" : Str)) = false := by decide) : VE Y false (.Name x pos) (mRdL i) :=
  ⟨_, pe_var hN hv hd hcd, fun L H E σ T Q S G => by
    unfold mRdL at G
    split at G
    · rename_i d e
      split at G
      · rename_i hf
        obtain ⟨v, h1, h2⟩ := S.look e
        exact ⟨v, h1, G v L H (Le.refl _) (S.push (h2.free hf).2)⟩
      · exact G.elim
    · exact G.elim⟩

/-! ### what is handed back: all of it new, or without lists -/
def Ret3 (K : PySem.W.Frag) (H : Hp) (z : D) (Q : VK) : Prop := ∀ v H' fp, Le H H' → Own K (fun _ => none) H' v z fp → fp.Nodup → (∀ a ∈ fp, H a = none) → Q v H'
theorem Ret3.plain {K : PySem.W.Frag} {H : Hp} {z : D} {Q : VK} {v : V} (r : Ret3 K H z Q) (o : ∀ L H', Own K L H' v z []) : Q v H := r v H [] (Le.refl _) (o _ _) List.nodup_nil (by simp)
theorem Ret3.lfree {K : PySem.W.Frag} {L H : Hp} {z : D} {Q : VK} {v : V} {fp : List Addr} (r : Ret3 K H z Q) (o : Own K L H v z fp) (hf : z.lf = true) : Q v H := r v H [] (Le.refl _) (o.free hf).2 List.nodup_nil (by simp)
theorem Ret3.newL {K : PySem.W.Frag} {L H : Hp} {zs : List D} {Q : VK} {vs : List V} {p : Addr} {fp : List Addr} (r : Ret3 K H (.lst zs) Q) (o : Owns K L H vs zs fp) (hf : lfs zs = true) (hp : H p = none) : Q (.ref p) (upd H p (.lst vs)) :=
  r _ _ [p] (Le.new hp) (.lst upd_same (((o.free hf).2).mono (Le.refl _) (Le.new hp).leT (by simp))) (by simp) (by simpa using hp)
theorem Ret3.newT {K : PySem.W.Frag} {L H : Hp} {zs : List D} {Q : VK} {vs : List V} {p : Addr} {fp : List Addr} (r : Ret3 K H (.tup zs) Q) (o : Owns K L H vs zs fp) (hf : lfs zs = true) (hp : H p = none) : Q (.ref p) (upd H p (.tup vs)) :=
  r _ _ [] (Le.new hp) (.tup upd_same (((o.free hf).2).mono (Le.refl _) (Le.new hp).leT (by simp))) (by simp) (by simp)
/-- a call of a builtin, on data -/
def CallG (X : Cx) (f : Value) (o : List D → Option D) : Prop :=
  ∀ (pins : List (Addr × Obj)) (s : Shared) (σ : L2.St) (H : Hp) (xs : List V) (us : List Value) (ds : List D) (z : D) (Q : VK), Inv X pins σ H s → Vals xs us → Owns X.K H H xs ds [] → o ds = some z → Ret3 X.K H z Q →
    wpAny (model X.prog X.w) X.A (call f us) (EP X pins σ Q) X.xe s
def rCallG (K : PySem.W.Frag) (o : List D → Option D) : List V → Hp → VK → Prop := fun vs H Q => ∃ ds z, Owns K H H vs ds [] ∧ o ds = some z ∧ Ret3 K H z Q
theorem CallG.callR {X : Cx} {f : Value} {o : List D → Option D} (h : CallG X f o) : CallR X f (rCallG X.K o) := fun pins s σ H xs us Q I r ⟨ds, z, h1, h2, h3⟩ => h pins s σ H xs us ds z Q I r h1 h2 h3
def mCallG (o : List D → Option D) (fs : Sm (List D)) : Sm D := Sm.b fs fun ds => Sm.o (o ds)
theorem St3.ret {p0 : Option Addr} {K : PySem.W.Frag} {L' H : Hp} {E : Env3} {σ : L2.St} {T : List Ent} {z : D} {Q : VK} (S : St3 K p0 L' H E σ T) (k : ∀ v L2 H2, Le L' L2 → St3 K p0 L2 H2 E σ (⟨true, v, z⟩ :: T) → Q v H2) : Ret3 K H z Q :=
  fun v H' fp l o nd fr => k v L' H' (Le.refl _) (S.fresh l o nd fr)
section
variable {id Ty : String} {x : Str} {p : Pos} {o : List D → Option D}
theorem ve_callB (hc : CallG Y.X (.builtin id) o) (hg : Gl Y.X x) (hm : Y.X.mg x = none) (hv : bootBuiltins x = some (.builtin id)) (ha : VD Y (e :: es) fs) (hn : x ≠ "__name__" := by decide) (hdb : (x == ("__debug__" : Str)) = false := by decide)
    (he : starEach (e :: es) Y.X.env = (false, eval e Y.X.env) :: starEach es Y.X.env := by rfl) (hpl : (backTo pos (starEach es Y.X.env)).any (·.1) = false := by rfl) : VE Y true (.Call (.Name x p) (e :: es) [] pos) (mCallG o fs) := by
  obtain ⟨t, pt, h⟩ := ha
  refine ⟨_, pe_callB hc.callR hg hm hv pt hn hdb he hpl, fun L H E σ T Q S G => h L H E σ T _ S (G.bind.imp fun ds E1 G1 vs L1 H1 l1 S1 ow => ?_)⟩
  obtain ⟨z, e1, G2⟩ := G1.opt
  exact ⟨ds, z, ow, e1, S1.ret fun v L2 H2 l2 S2 => G2 v L2 H2 (l1.trans l2) S2⟩
theorem ve_callTy (hc : CallG Y.X (.type Ty) o) (hg : Gl Y.X x) (hm : Y.X.mg x = none) (hv : bootBuiltins x = some (.type Ty)) (ha : VD Y (e :: es) fs) (hn : x ≠ "__name__" := by decide) (hdb : (x == ("__debug__" : Str)) = false := by decide)
    (he : starEach (e :: es) Y.X.env = (false, eval e Y.X.env) :: starEach es Y.X.env := by rfl) (hpl : (backTo pos (starEach es Y.X.env)).any (·.1) = false := by rfl) : VE Y true (.Call (.Name x p) (e :: es) [] pos) (mCallG o fs) := by
  obtain ⟨t, pt, h⟩ := ha
  refine ⟨_, pe_callTy hc.callR hg hm hv pt hn hdb he hpl, fun L H E σ T Q S G => h L H E σ T _ S (G.bind.imp fun ds E1 G1 vs L1 H1 l1 S1 ow => ?_)⟩
  obtain ⟨z, e1, G2⟩ := G1.opt
  exact ⟨ds, z, ow, e1, S1.ret fun v L2 H2 l2 S2 => G2 v L2 H2 (l1.trans l2) S2⟩
end

/-! ### a def's call -/
inductive Res where
  | ok (d : D) | exc (x : Exn) | bad
/-- the promise of a def that changes nothing: fn tells what comes -/
def spV (K : PySem.W.Frag) (mg : Str → Option Value) (n : Nat) (fn : List D → Res) : Sp := fun vs H Q Ex => vs.length = n ∧ ∃ ds, Owns K H H vs ds [] ∧ match fn ds with
  | .ok z => Ret3 K H z Q
  | .exc x => ∀ cls od H', Le H H' → ExcOk K mg x cls od H' → Ex cls od H'
  | .bad => False
/-- a def that stands at x, by its promise -/
structure Def3 (X : Cx) (x : Str) (k : Nat) (ps : List Str) (sp : Sp) : Prop where
  ex : ∃ (f : Addr) (fd : FuncData), FnG X.prog X.w X.K X.mg X.base (L2.CX X.prog X.w) k f fd ps sp ∧ X.mg x = some (.ref f) ∧ PySem.W.keepIn X.K (.ref f) = true ∧ Binds X.K fd ps []
def mCall (n : Nat) (fn : List D → Res) (fs : Sm (List D)) : Sm D := Sm.b fs fun ds => fun E => if ds.length = n then (match fn ds with
  | .ok z => .ok z E
  | .exc x => .exc x E
  | .bad => .bad) else .bad
theorem ve_call {x : Str} {p : Pos} {k n : Nat} {ps : List Str} {fn : List D → Res} (F : Def3 Y.X x k ps (spV Y.X.K Y.X.mg n fn)) (hr : Rm k Y.X.A) (ha : VD Y (e :: es) fs) (hg : Gl Y.X x := by rfl) (hdb : (x == ("__debug__" : Str)) = false := by decide)
    (he : starEach (e :: es) Y.X.env = (false, eval e Y.X.env) :: starEach es Y.X.env := by rfl) (hpl : (backTo pos (starEach es Y.X.env)).any (·.1) = false := by rfl) : VE Y true (.Call (.Name x p) (e :: es) [] pos) (mCall n fn fs) := by
  obtain ⟨f, fd, F, hm, hk, hb⟩ := F.ex
  obtain ⟨t, pt, h⟩ := ha
  refine ⟨_, pe_callGd F hr hg hm hk hb (fun σ => passAt Y.tk σ) pt hdb he hpl, fun L H E σ T Q S G => h L H E σ T _ S (G.bind.imp fun ds E1 G1 vs L1 H1 l1 S1 ow => ?_)⟩
  split at G1
  · rename_i hl
    refine ⟨ow.len.trans hl, ds, ow, ?_⟩
    split at G1
    · rename_i z e1
      exact S1.ret fun v L2 H2 l2 S2 => G1 v L2 H2 (l1.trans l2) S2
    · rename_i x e1
      exact fun cls od H' l x => G1 cls od L1 H' l1 (S1.grow l) x
    · exact G1.elim
  · exact G1.elim

/-! ### a def that changes its first argument -/
inductive ResR where
  | ok (d b : D) | exc (x : Exn) (b : D) | bad
/-- H without what stands at fp -/
def less (H : Hp) (fp : List Addr) : Hp := fun a => if a ∈ fp then none else H a
theorem less_le {H : Hp} {fp : List Addr} : Le (less H fp) H := fun a o e => by
  unfold less at e
  split at e
  · cases e
  · exact e
/-- the root is its own -/
def rooted : D → Bool
  | .lst _ => true
  | .dK _ => true
  | .dT _ => true
  | .obj _ _ => true
  | _ => false
def RetR (K : PySem.W.Frag) (H : Hp) (fp : List Addr) (p : Addr) (z b : D) (Q : VK) : Prop := ∀ v H' fb fr, Le (less H fp) H' → Own K (fun _ => none) H' (.ref p) b fb → Own K (fun _ => none) H' v z fr → (fb ++ fr).Nodup → (∀ a ∈ fb ++ fr, less H fp a = none) → Q v H'
def spR (K : PySem.W.Frag) (mg : Str → Option Value) (n : Nat) (fn : D → List D → ResR) : Sp := fun vs H Q Ex => vs.length = n ∧ ∃ p vs' b ds fp, vs = .ref p :: vs' ∧ Own K (fun _ => none) H (.ref p) b fp ∧ rooted b = true ∧ fp.Nodup ∧ Owns K (less H fp) H vs' ds [] ∧ match fn b ds with
  | .ok z b' => RetR K H fp p z b' Q
  | .exc x b' => ∀ cls od H' fb, Le (less H fp) H' → Own K (fun _ => none) H' (.ref p) b' fb → fb.Nodup → (∀ a ∈ fb, less H fp a = none) → ExcOk K mg x cls od H' → Ex cls od H'
  | .bad => False
theorem HoldsL.at {K : PySem.W.Frag} {L H : Hp} {es : List Ent} {fp : List Addr} (h : HoldsL K L H es fp) : ∀ {e : Ent}, e ∈ es → ∃ f, EntOk K L H e f ∧ ∀ a ∈ f, a ∈ fp := by
  induction h with
  | nil => intro e he; cases he
  | cons h hs ih =>
    intro e he
    rcases List.mem_cons.mp he with rfl | he
    · exact ⟨_, h, fun a ha => List.mem_append_left _ ha⟩
    · obtain ⟨f, q, r⟩ := ih he
      exact ⟨f, q, fun a ha => List.mem_append_right _ (r a ha)⟩
theorem rooted_ref {K : PySem.W.Frag} {L H : Hp} {v : V} {b : D} {fp : List Addr} (o : Own K L H v b fp) (r : rooted b = true) : ∃ p, v = .ref p := by
  cases o <;> first | exact ⟨_, rfl⟩ | simp [rooted] at r
/-- a name that owns, taken apart from all else -/
theorem St3.borrow {K : PySem.W.Frag} {p0 : Option Addr} {L H : Hp} {E : Env3} {σ : L2.St} {T : List Ent} {i : Nat} {b : D} (S : St3 K p0 L H E σ T) (e : E[i]? = some (.w b)) :
    ∃ v fp, σ[i]? = some (some v) ∧ Own K (fun _ => none) H v b fp ∧ fp.Nodup ∧ (∀ a ∈ fp, L a = none) ∧ (∀ j d u, j ≠ i → rdSlot E j = some d → σ[j]? = some (some u) → Own K (less H fp) H u d []) ∧ (∀ x ∈ T, Own K (less H fp) H x.v x.d []) ∧
      ∀ H' b' fb w z fr, Le (less H fp) H' → Own K (fun _ => none) H' v b' fb → Own K (fun _ => none) H' w z fr → (fb ++ fr).Nodup → (∀ a ∈ fb ++ fr, less H fp a = none) → St3 K p0 L H' (E.set i (.w b')) σ (⟨true, w, z⟩ :: T) := by
  obtain ⟨es, l, h⟩ := S.ex
  obtain ⟨v, es', h1, h2, h3, h4⟩ := l.getW e
  have hh : Holds K L H (⟨true, v, b⟩ :: (es' ++ T)) := h.perm (h2.append_right T)
  obtain ⟨f, g, o, hs, nd, fr⟩ := hh.ownW
  have nds := List.nodup_append.mp nd
  have lL : Le L (less H f) := fun a u ha => by
    unfold less
    rw [if_neg fun hf => by rw [fr a (List.mem_append_left _ hf)] at ha; cases ha]
    exact S.le a u ha
  have oth : ∀ x ∈ es' ++ T, Own K (less H f) H x.v x.d [] := fun x hx => by
    obtain ⟨f', q, r⟩ := hs.at hx
    unfold EntOk at q
    split at q
    · refine q.share leEmpty fun a ha => ?_
      unfold less
      rw [if_neg fun hf => nds.2.2 a hf a (r a ha) rfl]
    · exact q.2.mono lL (LeT.refl _) (by simp)
  refine ⟨v, f, h1, o, nds.1, fun a ha => fr a (List.mem_append_left _ ha), fun j d u hj hd hu => ?_, fun x hx => oth x (List.mem_append_right _ hx), fun H' b' fb w z fz le ob oz ndb frb => ?_⟩
  · have hd' : rdSlot (E.set i .no) j = some d := by
      unfold rdSlot at hd ⊢
      rw [List.getElem?_set_ne (Ne.symm hj)]
      exact hd
    unfold rdSlot at hd'
    split at hd'
    · rename_i d' e'
      cases hd'
      obtain ⟨w, a, m⟩ := h3.getB e'
      rw [hu] at a; cases a
      exact oth _ (List.mem_append_left _ m)
    · rename_i d' e'
      cases hd'
      obtain ⟨w, es2, a, m, _⟩ := h3.getW e'
      rw [hu] at a; cases a
      exact oth _ (List.mem_append_left _ (m.mem_iff.mpr List.mem_cons_self))
    · cases hd'
  · obtain ⟨es2, q1, q2⟩ := h4 b'
    refine ⟨⟨es2, q1, ?_⟩, fun a ha => ?_⟩
    · have up : HoldsL K L H' (es' ++ T) g := hs.up (Le.refl _) (fun a ha => by
        obtain ⟨u, eu, _⟩ := hs.there a ha
        rw [eu]
        refine le a u ?_
        unfold less
        rw [if_neg fun hf => nds.2.2 a hf a ha rfl]
        exact eu) ⟨fun a xs ha => by
        refine le a _ ?_
        unfold less
        rw [if_neg fun hf => ?_]
        · exact ha
        · obtain ⟨u, eu, nt, _⟩ := o.there a hf
          rw [ha] at eu
          exact nt xs (Option.some.inj eu).symm, fun a ob' u' ha => by
        refine le a _ ?_
        unfold less
        rw [if_neg fun hf => ?_]
        · exact ha
        · obtain ⟨u, eu, _, nf⟩ := o.there a hf
          rw [ha] at eu
          exact nf ob' u' (Option.some.inj eu).symm⟩
      have dis : ∀ a ∈ fb ++ fz, a ∉ g := fun a ha hg => by
        obtain ⟨u, eu, _⟩ := hs.there a hg
        have := frb a ha
        unfold less at this
        split at this
        · rename_i hf; exact nds.2.2 a hf a hg rfl
        · rw [eu] at this; cases this
      have out : ∀ a ∈ fb ++ fz, L a = none := fun a ha => by
        have := frb a ha
        unfold less at this
        split at this
        · rename_i hf; exact fr a (List.mem_append_left _ hf)
        · exact S.le.none this
      have nbz := List.nodup_append.mp ndb
      have hl2 : HoldsL K L H' (⟨true, w, z⟩ :: ⟨true, v, b'⟩ :: (es' ++ T)) (fz ++ (fb ++ g)) := .cons (by unfold EntOk; rw [if_pos rfl]; exact oz) (.cons (by unfold EntOk; rw [if_pos rfl]; exact ob) up)
      have hh2 : Holds K L H' (⟨true, w, z⟩ :: ⟨true, v, b'⟩ :: (es' ++ T)) := by
        refine ⟨lL.trans le, _, hl2, List.nodup_append.mpr ⟨nbz.2.1, List.nodup_append.mpr ⟨nbz.1, nds.2.1, fun a ha c hc z => ?_⟩, fun a ha c hc z => ?_⟩, fun a ha => ?_⟩
        · subst z; exact dis a (List.mem_append_left _ ha) hc
        · subst z
          rcases List.mem_append.mp hc with hc | hc
          · exact nbz.2.2 a hc a ha rfl
          · exact dis a (List.mem_append_right _ ha) hc
        · rcases List.mem_append.mp ha with ha | ha
          · exact out a (List.mem_append_right _ ha)
          · rcases List.mem_append.mp ha with ha | ha
            · exact out a (List.mem_append_left _ ha)
            · exact fr a (List.mem_append_right _ ha)
      refine hh2.perm ?_
      refine List.Perm.trans ?_ (List.perm_middle).symm
      exact ((q2.append_right T).symm).cons _
    · obtain ⟨x1, d', x2⟩ := S.pin a ha
      refine ⟨x1, ?_⟩
      by_cases h0 : i = 0
      · subst h0
        exact ⟨b', by rw [List.getElem?_set_self (List.getElem?_eq_some_iff.mp x2).1]⟩
      · exact ⟨d', by rw [List.getElem?_set_ne h0]; exact x2⟩
def noRef (i : Nat) : List Arg → Bool
  | [] => true
  | .ref j :: as => decide (j ≠ i) && noRef i as
  | _ :: as => noRef i as
/-- a call that changes what the name i owns -/
def mCallR (n : Nat) (fn : D → List D → ResR) (i : Nat) (fa : Sm (List Arg)) : Sm D := Sm.b (mRef i) fun _ => Sm.b fa fun as => fun E => match E[i]? with
  | some (.w b) => if (rooted b && noRef i as) = true then (match getAll E as with
    | some ds => if ds.length + 1 = n then (match fn b ds with
      | .ok z b' => .ok z (E.set i (.w b'))
      | .exc x b' => .exc x (E.set i (.w b'))
      | .bad => .bad) else .bad
    | none => .bad) else .bad
  | _ => .bad
theorem arel_less {K : PySem.W.Frag} {H : Hp} {E : Env3} {σ : L2.St} {i : Nat} {fp : List Addr} (hj : ∀ j d u, j ≠ i → rdSlot E j = some d → σ[j]? = some (some u) → Own K (less H fp) H u d []) :
    ∀ {as : List Arg} {vs : List V} {Ts : List Ent} {ds : List D}, ARel σ as vs Ts → (∀ x ∈ Ts, Own K (less H fp) H x.v x.d []) → noRef i as = true → getAll E as = some ds → Owns K (less H fp) H vs ds []
  | [], _, _, _, h, _, _, e => by cases h; simp [getAll] at e; subst e; exact .nil
  | x :: as, _, _, ds, h, ht, nr, e => by
    unfold getAll at e
    split at e
    · cases e
    · rename_i d hd
      split at e
      · cases e
      · rename_i ds' hds
        cases e
        cases h with
        | @val k v d0 _ vs Ts h =>
          simp only [Arg.get, Option.some.injEq] at hd
          subst hd
          exact .cons (f := []) (g := []) (ht ⟨k, v, d0⟩ (List.mem_append_right _ List.mem_cons_self)) (arel_less hj h (fun x hx => ht x (List.mem_append_left _ hx)) (by simpa [noRef] using nr) hds)
        | ref hv h =>
          simp only [noRef, Bool.and_eq_true, decide_eq_true_eq] at nr
          exact .cons (f := []) (g := []) (hj _ _ _ nr.1 hd hv) (arel_less hj h ht nr.2 hds)
theorem ve_callR {x y : Str} {p p' : Pos} {k n : Nat} {ps : List Str} {fn : D → List D → ResR} (i : Nat) (F : Def3 Y.X x k ps (spR Y.X.K Y.X.mg n fn)) (hr : Rm k Y.X.A) (ha : VA Y es fa) (hN : Y.X.N[i]? = some y := by rfl)
    (hv : Vis Y.X.env.scope y := by first | exact Or.inl rfl | exact Or.inr (Or.inl rfl) | exact Or.inr (Or.inr rfl)) (hg : Gl Y.X x := by rfl) (hdb : (x == ("__debug__" : Str)) = false := by decide)
    (hd : (y == ("__debug__" : Str)) = false := by decide) (hcd : (y == ("__classdict__" : Str)) = false := by decide) (he : starEach (.Name y p' :: es) Y.X.env = (false, eval (.Name y p') Y.X.env) :: starEach es Y.X.env := by rfl)
    (hpl : (backTo pos (starEach es Y.X.env)).any (·.1) = false := by rfl) : VE Y true (.Call (.Name x p) (.Name y p' :: es) [] pos) (mCallR n fn i fa) := by
  obtain ⟨f, fd, F, hm, hk, hb⟩ := F.ex
  obtain ⟨t, pt, h⟩ := ha
  refine ⟨_, pe_callGd F hr hg hm hk hb (fun σ => passAt Y.tk σ) (pa_cons (pe_var (i := i) hN hv hd hcd) pt he) hdb he hpl, fun L H E σ T Q S G => ?_⟩
  have G0 := G.bind
  unfold mRef at G0
  split at G0
  · rename_i hkn
    obtain ⟨d0, e0⟩ := Option.isSome_iff_exists.mp hkn
    obtain ⟨v, h1, h2⟩ := S.look e0
    refine ⟨v, h1, h L H E σ T _ S (Gd.imp (Gd.bind G0) fun as E1 G1 vs Ts L1 H1 l1 S1 ow => ?_)⟩
    split at G1
    · rename_i b e1
      split at G1
      · rename_i hc
        rw [Bool.and_eq_true] at hc
        split at G1
        · rename_i ds e2
          split at G1
          · rename_i hl
            obtain ⟨v', fp, a1, ob, nd, fr, oth, tmp, back⟩ := S1.borrow e1
            rw [h1] at a1; cases a1
            obtain ⟨q, rfl⟩ := rooted_ref ob hc.1
            have ods := arel_less oth ow (fun x hx => tmp x (List.mem_append_left _ hx)) hc.2 e2
            refine ⟨by simp [ods.len, hl], q, vs, b, ds, fp, rfl, ob, hc.1, nd, ods, ?_⟩
            split at G1
            · rename_i z b' e3
              intro w H' fb fr' le ob' oz ndz frz
              have S2 := back H' b' fb w z fr' le ob' oz ndz frz
              exact G1 w L1 H' l1 ((S2.perm List.perm_middle.symm).popL)
            · rename_i x b' e3
              intro cls od H' fb le ob' ndb frb x
              exact G1 cls od L1 H' l1 (back H' b' fb .non .non [] le ob' .non (by simpa using ndb) (by simpa using frb)).pop.popL x
            · exact G1.elim
          · exact G1.elim
        · exact G1.elim
      · exact G1.elim
    · exact G1.elim
  · exact G0.elim
end
end P3
end
section
set_option exponentiation.threshold 256
set_option Elab.async false
set_option linter.all false
set_option maxRecDepth 100000
set_option maxHeartbeats 2000000
set_option autoImplicit false
/-! P3, part e: targets, statements -/
namespace P3
open PySem PySem.Spec PyProof.Rows L2

inductive Fl where
  | next | brk | cont | ret (d : D)
def GdS {α : Type} (Y : Cy) (L : Hp) (T : List Ent) (S : α → Env3 → Prop) : R α → Prop
  | .ok a E => S a E
  | .exc x E => ∀ cls od σ' L' H', Le L L' → St3 Y.K Y.p0 L' H' E σ' T → ExcOk Y.K Y.X.mg x cls od H' → Y.W cls od σ' H'
  | .bad => False
section
variable {α β : Type} {Y : Cy} {L L' : Hp} {T : List Ent} {S S' : α → Env3 → Prop} {r : R α}
theorem GdS.imp (h : GdS Y L T S r) (f : ∀ a E, S a E → S' a E) : GdS Y L T S' r := by
  cases r with
  | ok a E => exact f a E h
  | exc x E => exact h
  | bad => exact h
theorem GdS.grow (h : GdS Y L T S r) (l : Le L L') (f : ∀ a E, S a E → S' a E) : GdS Y L' T S' r := by
  cases r with
  | ok a E => exact f a E h
  | exc x E => exact fun cls od σ L2 H' l2 => h cls od σ L2 H' (l.trans l2)
  | bad => exact h
theorem GdS.temp {T2 : List Ent} (h : GdS Y L T S r) (l : Le L L') (f : ∀ a E, S a E → S' a E) : GdS Y L' (T2 ++ T) S' r := by
  cases r with
  | ok a E => exact f a E h
  | exc x E => exact fun cls od σ L2 H' l2 s => h cls od σ L2 H' (l.trans l2) s.popL
  | bad => exact h
theorem GdS.bind {f : Sm α} {g : α → Sm β} {E : Env3} {S : β → Env3 → Prop} (h : GdS Y L T S (Sm.b f g E)) : GdS Y L T (fun a E' => GdS Y L T S (g a E')) (f E) := by
  unfold Sm.b at h
  cases e : f E with
  | ok a E' => rw [e] at h; exact h
  | exc x E' => rw [e] at h; exact h
  | bad => rw [e] at h; exact h
/-- an expression within a statement -/
theorem GdS.ex (h : GdS Y L T S r) (σ : L2.St) (f : ∀ a E, S a E → S' a E) : Gd Y L σ T S' r := by
  cases r with
  | ok a E => exact f a E h
  | exc x E => exact fun cls od L2 H' l2 => h cls od σ L2 H' l2
  | bad => exact h
end
/-- what a statement's end tells -/
def sS (Y : Cy) (L : Hp) (T : List Ent) (D : Ends) : Fl → Env3 → Prop := fun fl E => match fl with
  | .next => ∀ σ L' H', Le L L' → St3 Y.K Y.p0 L' H' E σ T → D.nx σ H'
  | .brk => ∀ σ L' H', Le L L' → St3 Y.K Y.p0 L' H' E σ T → D.bk σ H'
  | .cont => ∀ σ L' H', Le L L' → St3 Y.K Y.p0 L' H' E σ T → D.ct σ H'
  | .ret d => ∀ v σ L' H', Le L L' → St3 Y.K Y.p0 L' H' E σ (⟨true, v, d⟩ :: T) → D.rt v H'
theorem sS.grow {Y : Cy} {L L' : Hp} {T : List Ent} {D : Ends} (l : Le L L') {fl : Fl} {E : Env3} (h : sS Y L T D fl E) : sS Y L' T D fl E := by
  cases fl with
  | next => exact fun σ L2 H l2 => h σ L2 H (l.trans l2)
  | brk => exact fun σ L2 H l2 => h σ L2 H (l.trans l2)
  | cont => exact fun σ L2 H l2 => h σ L2 H (l.trans l2)
  | ret d => exact fun v σ L2 H l2 => h v σ L2 H (l.trans l2)
def VS (Y : Cy) (st : Stmt) (g : Sm Fl) : Prop := ∃ t, PS Y.X st t ∧ ∀ L H E σ T D, St3 Y.K Y.p0 L H E σ T → GdS Y L T (sS Y L T D) (g E) → t D σ H
def VSs (Y : Cy) (sts : List Stmt) (g : Sm Fl) : Prop := ∃ t, PSs Y.X sts t ∧ ∀ L H E σ T D, St3 Y.K Y.p0 L H E σ T → GdS Y L T (sS Y L T D) (g E) → t D σ H

section
variable {Y : Cy} {e a b c : Expr} {es : List Expr} {f g : Sm D} {fs : Sm (List D)} {ft : Sm Bool} {pos : Pos} {st : Stmt} {sts : List Stmt} {g1 g2 : Sm Fl}
def mSeq (f g : Sm Fl) : Sm Fl := Sm.b f fun fl => match fl with
  | .next => g
  | fl => Sm.p fl
theorem vss_nil : VSs Y [] (Sm.p .next) := ⟨_, pss_nil, fun L H E σ T D S G => G σ L H (Le.refl _) S⟩
theorem vss_one (h : VS Y st g1) : VSs Y [st] g1 := let ⟨t, p, h⟩ := h; ⟨t, pss_one p, h⟩
theorem vss_cons (h1 : VS Y st g1) (h2 : VSs Y sts g2) : VSs Y (st :: sts) (mSeq g1 g2) := by
  obtain ⟨t, p, h1⟩ := h1
  obtain ⟨u, q, h2⟩ := h2
  refine ⟨_, pss_cons p q, fun L H E σ T D S G => h1 L H E σ T _ S (G.bind.imp fun fl E1 G1 => ?_)⟩
  cases fl with
  | next => exact fun σ' L' H' l S' => h2 L' H' E1 σ' T D S' (GdS.grow G1 l fun fl E2 h => sS.grow l h)
  | brk => exact G1
  | cont => exact G1
  | ret d => exact G1

/-! ### simple statements -/
theorem vs_pass : VS Y (.Pass pos) (Sm.p .next) := ⟨_, ps_pass, fun L H E σ T D S G => G σ L H (Le.refl _) S⟩
theorem vs_break : VS Y (.Break pos) (Sm.p .brk) := ⟨_, ps_break, fun L H E σ T D S G => G σ L H (Le.refl _) S⟩
theorem vs_cont : VS Y (.Continue pos) (Sm.p .cont) := ⟨_, ps_continue, fun L H E σ T D S G => G σ L H (Le.refl _) S⟩
def mDrop (f : Sm D) : Sm Fl := Sm.b f fun _ => Sm.p .next
theorem vs_expr {k : Bool} (h : VE Y k e f) (hs : swapsWith e none pos.line Y.X.env = pure false := by rfl) : VS Y (.Expr e pos) (mDrop f) := by
  obtain ⟨t, p, h⟩ := h
  exact ⟨_, ps_expr p hs, fun L H E σ T D S G => h L H E σ T _ S (G.bind.ex σ fun d E1 G1 v L1 H1 l1 S1 => G1 σ L1 H1 l1 S1.pop)⟩
def mRet (f : Sm D) : Sm Fl := Sm.b f fun d => Sm.p (.ret d)
theorem vs_ret (h : VE Y true e f) : VS Y (.Return (some e) pos) (mRet f) := by
  obtain ⟨t, p, h⟩ := h
  exact ⟨_, ps_ret p, fun L H E σ T D S G => h L H E σ T _ S (G.bind.ex σ fun d E1 G1 v L1 H1 l1 S1 => G1 v σ L1 H1 l1 S1)⟩
theorem vs_ret0 : VS Y (.Return none pos) (Sm.p (.ret .non)) := ⟨_, ps_retN, fun L H E σ T D S G => G .non σ L H (Le.refl _) (S.fresh (Le.refl _) .non List.nodup_nil (by simp))⟩
theorem vs_if {ha hb : List Stmt} (hc : VT Y c ft) (h1 : VSs Y ha g1) (h2 : VSs Y hb g2) : VS Y (.If c ha hb pos) (mIf ft g1 g2) := by
  obtain ⟨tc, pc, hc⟩ := hc
  obtain ⟨ta, pa, h1⟩ := h1
  obtain ⟨tb, pb, h2⟩ := h2
  refine ⟨_, ps_if pc pa pb, fun L H E σ T D S G => hc L H E σ T _ S (G.bind.ex σ fun k E1 G1 L1 H1 l1 S1 => ?_)⟩
  cases k with
  | true =>
    show ta D σ H1
    exact h1 L1 H1 E1 σ T D S1 (GdS.grow G1 l1 fun _ _ => sS.grow l1)
  | false =>
    show tb D σ H1
    exact h2 L1 H1 E1 σ T D S1 (GdS.grow G1 l1 fun _ _ => sS.grow l1)
/-- a statement that is never reached -/
theorem vs_never : VS Y st (fun _ => .bad) := ⟨_, ps_never, fun L H E σ T D S G => G.elim⟩
theorem vss_never : VSs Y sts (fun _ => .bad) := ⟨_, pss_never, fun L H E σ T D S G => G.elim⟩

/-! ### targets -/
def slot (k : Bool) (d : D) : Slot := if k = true then .w d else .b d
theorem St3.put {K : PySem.W.Frag} {p0 : Option Addr} {L H : Hp} {E : Env3} {σ : L2.St} {T : List Ent} {k : Bool} {v : V} {d : D} {i : Nat} (S : St3 K p0 L H E σ (⟨k, v, d⟩ :: T)) (h0 : p0 = none ∨ i ≠ 0) : St3 K p0 L H (E.set i (slot k d)) (σ.set i (some v)) T := by
  obtain ⟨es, l, h⟩ := S.ex
  have pin : ∀ a, p0 = some a → (σ.set i (some v))[0]? = some (some (.ref a)) ∧ ∃ d', (E.set i (slot k d))[0]? = some (.w d') := fun a ha => by
    obtain ⟨p1, d', p2⟩ := S.pin a ha
    rcases h0 with h0 | h0
    · rw [h0] at ha; cases ha
    · exact ⟨by rw [List.getElem?_set_ne h0]; exact p1, d', by rw [List.getElem?_set_ne h0]; exact p2⟩
  by_cases hi : i < E.length
  · obtain ⟨es', a, b, c⟩ := l.rest hi
    obtain ⟨⟨e1, c1, c2⟩, ⟨e2, c3, c4⟩⟩ := c v d
    have hh := h.perm List.perm_middle
    have h3 : Holds K L H (⟨k, v, d⟩ :: (es' ++ T)) := by
      rcases a with rfl | ⟨x, q⟩
      · exact hh
      · refine Holds.drop (e := x) (hh.perm ?_)
        refine List.Perm.trans ((q.append_right T).cons _) ?_
        exact .swap _ _ _
    cases k with
    | true => exact ⟨⟨e2, c3, h3.perm (c4.append_right T).symm⟩, pin⟩
    | false => exact ⟨⟨e1, c1, h3.perm (c2.append_right T).symm⟩, pin⟩
  · have z : i ≥ E.length := Nat.le_of_not_lt hi
    have e1 : E.set i (slot k d) = E := List.set_eq_of_length_le z
    have e2 : σ.set i (some v) = σ := List.set_eq_of_length_le (by rw [← l.len]; exact z)
    rw [e1, e2] at pin ⊢
    exact ⟨⟨es, l, (h.perm List.perm_middle).drop⟩, pin⟩
/-- σ and σ' differ at gs alone -/
def Off (gs : List Nat) (σ σ' : L2.St) : Prop := σ'.length = σ.length ∧ ∀ j, j ∉ gs → σ'[j]? = σ[j]?
/-- a target: gf stores d; k: what is stored is own; gs: the slots -/
def VG (Y : Cy) (k : Bool) (tg : Expr) (gs : List Nat) (gf : D → Sm Unit) : Prop := ∃ t, PG Y.X tg t ∧ ∀ L H E σ T v d (Q : L2.St → Hp → Prop), St3 Y.K Y.p0 L H E σ (⟨k, v, d⟩ :: T) →
  (match gf d E with
    | .ok _ E' => ∀ σ' L' , Le L L' → Off gs σ σ' → St3 Y.K Y.p0 L' H E' σ' T → Q σ' H
    | _ => False) → t v σ H Q
/-- entries of kinds ks, the newest first -/
def xtemps : List Bool → List V → List D → List Ent
  | k :: ks, v :: vs, d :: ds => xtemps ks vs ds ++ [⟨k, v, d⟩]
  | _, _, _ => []
def VGs (Y : Cy) (k : Bool) (ts : List Expr) (gs : List Nat) (gf : List D → Sm Unit) : Prop := ∃ t, PGs Y.X ts t ∧ ∀ L H E σ T vs ds (Q : L2.St → Hp → Prop), vs.length = ds.length → St3 Y.K Y.p0 L H E σ (xtemps (ds.map fun _ => k) vs ds ++ T) →
  (match gf ds E with
    | .ok _ E' => ∀ σ' L', Le L L' → Off gs σ σ' → St3 Y.K Y.p0 L' H E' σ' T → Q σ' H
    | _ => False) → t vs σ H Q
def gN (k : Bool) (i : Nat) : D → Sm Unit := fun d E => .ok () (E.set i (slot k d))
theorem Off.set {σ : L2.St} {i : Nat} {o : Option V} : Off [i] σ (σ.set i o) := ⟨by simp, fun j h => by rw [List.getElem?_set_ne]; exact fun z => h (by simp [z])⟩
theorem Off.refl {gs : List Nat} {σ : L2.St} : Off gs σ σ := ⟨rfl, fun _ _ => rfl⟩
theorem Off.trans {gs hs : List Nat} {σ σ1 σ2 : L2.St} (a : Off gs σ σ1) (b : Off hs σ1 σ2) : Off (gs ++ hs) σ σ2 := ⟨b.1.trans a.1, fun j h => (b.2 j fun z => h (List.mem_append_right _ z)).trans (a.2 j fun z => h (List.mem_append_left _ z))⟩
section
variable {x : Str} {i : Nat} {k : Bool}
theorem vg_name (i : Nat) (h0 : Y.p0 = none ∨ i ≠ 0) (hN : Y.X.N.Nodup) (hi : Y.X.N[i]? = some x := by rfl) (hx : L2.Loc Y.X.env.scope x := by first | exact Or.inl rfl | exact Or.inr rfl) (hf : Y.X.fn x = true ∨ Y.X.env.scope.names.lookup x = some .local := by first | exact .inl rfl | exact .inr rfl) : VG Y k (.Name x pos) [i] (gN k i) :=
  ⟨_, pg_name hN hi hx hf, fun L H E σ T v d Q S G => G _ L (Le.refl _) Off.set (S.put h0)⟩
/-- an own thing is stored as a shared one -/
theorem vg_nameF (i : Nat) (h0 : Y.p0 = none ∨ i ≠ 0) (hN : Y.X.N.Nodup) (hi : Y.X.N[i]? = some x := by rfl) (hx : L2.Loc Y.X.env.scope x := by first | exact Or.inl rfl | exact Or.inr rfl) (hf : Y.X.fn x = true ∨ Y.X.env.scope.names.lookup x = some .local := by first | exact .inl rfl | exact .inr rfl) : VG Y true (.Name x pos) [i] (gN false i) :=
  ⟨_, pg_name hN hi hx hf, fun L H E σ T v d Q S G => by
    obtain ⟨es, l, hh⟩ := S.ex
    obtain ⟨L2', l2, h2⟩ := (hh.perm List.perm_middle).freeze
    have S2 : St3 Y.K Y.p0 L2' H E σ ((⟨false, v, d⟩ : Ent) :: T) := St3.mk (Exists.intro es (And.intro l (h2.perm List.perm_middle.symm))) S.pin
    exact G _ L2' l2 Off.set (S2.put h0)⟩
end
def gNil3 : List D → Sm Unit := fun ds => match ds with
  | [] => Sm.p ()
  | _ => fun _ => .bad
def gCons3 (f : D → Sm Unit) (g : List D → Sm Unit) : List D → Sm Unit := fun ds => match ds with
  | [] => fun _ => .bad
  | d :: ds => Sm.b (f d) fun _ => g ds
theorem vgs_nil {k : Bool} : VGs Y k [] [] gNil3 := ⟨_, pgs_nil, fun L H E σ T vs ds Q hl S G => by
  cases ds with
  | nil =>
    cases vs with
    | nil => exact ⟨rfl, G σ L (Le.refl _) Off.refl S⟩
    | cons _ _ => simp at hl
  | cons _ _ => exact G.elim⟩
theorem vgs_cons {k : Bool} {gs hs : List Nat} {gf : D → Sm Unit} {gr : List D → Sm Unit} (h : VG Y k e gs gf) (hr : VGs Y k es hs gr) (hst : (assignEach (e :: es) Y.X.env).map (·.2) = assign e Y.X.env :: (assignEach es Y.X.env).map (·.2) := by rfl) : VGs Y k (e :: es) (gs ++ hs) (gCons3 gf gr) := by
  obtain ⟨t, p, h⟩ := h
  obtain ⟨u, q, hr⟩ := hr
  refine ⟨_, pgs_cons p q hst, fun L H E σ T vs ds Q hl S G => ?_⟩
  cases ds with
  | nil => exact G.elim
  | cons d ds =>
    cases vs with
    | nil => simp at hl
    | cons v vs =>
      refine ⟨v, vs, rfl, h L H E σ (xtemps (ds.map fun _ => k) vs ds ++ T) v d _ (S.perm ?_) ?_⟩
      · show ((xtemps (ds.map fun _ => k) vs ds ++ [(⟨k, v, d⟩ : Ent)]) ++ T).Perm _
        rw [List.append_assoc]
        exact List.perm_middle
      · have G' : (match Sm.b (gf d) (fun _ => gr ds) E with
          | .ok _ E' => ∀ σ' L', Le L L' → Off (gs ++ hs) σ σ' → St3 Y.K Y.p0 L' H E' σ' T → Q σ' H
          | _ => False) := G
        unfold Sm.b at G'
        cases e1 : gf d E with
        | ok a E1 =>
          rw [e1] at G'
          intro σ1 L1 l1 o1 S1
          refine hr L1 H E1 σ1 T vs ds Q (by simpa using hl) S1 ?_
          cases e2 : gr ds E1 with
          | ok a' E2 =>
            simp only [e2] at G'
            exact fun σ2 L2 l2 o2 S2 => G' σ2 L2 (l1.trans l2) (o1.trans o2) S2
          | exc x E2 => simp only [e2] at G'
          | bad => simp only [e2] at G'
        | exc x E1 => rw [e1] at G'; exact G'.elim
        | bad => rw [e1] at G'; exact G'.elim
/-- shared things, as temporaries -/
theorem St3.pushB {K : PySem.W.Frag} {p0 : Option Addr} {L H : Hp} {E : Env3} {σ : L2.St} : ∀ {vs : List V} {ds : List D} {T : List Ent}, St3 K p0 L H E σ T → Owns K L H vs ds [] → St3 K p0 L H E σ (xtemps (ds.map fun _ => false) vs ds ++ T)
  | vs, [], T, S, o => by cases o; exact S
  | _, d :: ds, T, S, o => by
    generalize hfp : ([] : List Addr) = fp at o
    cases o with
    | @cons v _ vs _ f g h1 h2 =>
      have hf : f = [] := by
        have := congrArg List.length hfp
        simp at this; exact List.eq_nil_of_length_eq_zero (by omega)
      have hg : g = [] := by
        have := congrArg List.length hfp
        simp at this; exact List.eq_nil_of_length_eq_zero (by omega)
      subst hf hg
      show St3 K p0 L H E σ ((xtemps (ds.map fun _ => false) vs ds ++ [⟨false, v, d⟩]) ++ T)
      rw [List.append_assoc]
      exact St3.pushB (T := ⟨false, v, d⟩ :: T) (S.push h1) h2
theorem HoldsL.ofOwns {K : PySem.W.Frag} {L H : Hp} : ∀ {ds : List D} {vs : List V} {fp : List Addr}, Owns K (fun _ => none) H vs ds fp → ∃ g, fp.Perm g ∧ HoldsL K L H (xtemps (ds.map fun _ => true) vs ds) g
  | [], _, _, o => by cases o; exact ⟨[], .refl _, .nil⟩
  | d :: ds, _, _, o => by
    cases o with
    | @cons v _ vs _ f g h1 h2 =>
      obtain ⟨g', q, hl⟩ := HoldsL.ofOwns (L := L) h2
      refine ⟨g' ++ f, (List.perm_append_comm.trans (q.append_right _)), ?_⟩
      show HoldsL K L H (xtemps (ds.map fun _ => true) vs ds ++ [⟨true, v, d⟩]) (g' ++ f)
      refine hl.append ?_
      have := HoldsL.cons (K := K) (L := L) (H := H) (e := ⟨true, v, d⟩) (f := f) (by unfold EntOk; rw [if_pos rfl]; exact h1) .nil
      rw [List.append_nil] at this
      exact this
/-- an own sequence, taken apart -/
theorem St3.apartW {K : PySem.W.Frag} {p0 : Option Addr} {L H : Hp} {E : Env3} {σ : L2.St} {v : V} {d : D} {ds : List D} {T : List Ent} (S : St3 K p0 L H E σ (⟨true, v, d⟩ :: T)) (hd : d = .tup ds ∨ d = .lst ds ∨ d = .flst ds) :
    ∃ p vs, v = .ref p ∧ ((d = .tup ds ∧ SqT K H p vs) ∨ ((d = .lst ds ∨ d = .flst ds) ∧ SqL K H p vs)) ∧ vs.length = ds.length ∧ St3 K p0 L H E σ (xtemps (ds.map fun _ => true) vs ds ++ T) := by
  obtain ⟨es, l, h⟩ := S.ex
  obtain ⟨f, g, o, hs, nd, fr⟩ := (h.perm List.perm_middle).ownW
  have fin : ∀ vs f2, Owns K (fun _ => none) H vs ds f2 → f2.Sublist f → St3 K p0 L H E σ (xtemps (ds.map fun _ => true) vs ds ++ T) := fun vs f2 o2 sub => by
    obtain ⟨g2, q, hl⟩ := HoldsL.ofOwns (L := L) o2
    have ndf := List.nodup_append.mp nd
    have mem : ∀ a ∈ g2, a ∈ f := fun a ha => sub.subset (q.mem_iff.mpr ha)
    have hh : Holds K L H (xtemps (ds.map fun _ => true) vs ds ++ (es ++ T)) := ⟨h.le, _, hl.append hs, List.nodup_append.mpr ⟨q.nodup (ndf.1.sublist sub), ndf.2.1, fun a ha c hc => ndf.2.2 a (mem a ha) c hc⟩, fun a ha => by
      rcases List.mem_append.mp ha with ha | ha
      · exact fr a (List.mem_append_left _ (mem a ha))
      · exact fr a (List.mem_append_right _ ha)⟩
    refine ⟨⟨es, l, hh.perm ?_⟩, S.pin⟩
    rw [← List.append_assoc, ← List.append_assoc]
    exact List.perm_append_comm.append_right T
  rcases hd with rfl | rfl | rfl
  · cases o with
    | tup hp ho => exact ⟨_, _, rfl, .inl ⟨rfl, SqT.of hp⟩, ho.len, fin _ _ ho (List.Sublist.refl _)⟩
  · cases o with
    | bor hp ho => exact (hp.elim (fun z => nomatch z) fun ⟨_, z⟩ => nomatch z)
    | lst hp ho => exact ⟨_, _, rfl, .inr ⟨.inl rfl, SqL.of hp⟩, ho.len, fin _ _ ho (List.sublist_cons_self _ _)⟩
  · cases o with
    | flst hp ho => exact ⟨_, _, rfl, .inr ⟨.inr rfl, .inl (.inr hp)⟩, ho.len, fin _ _ ho (List.Sublist.refl _)⟩
theorem St3.apartB {K : PySem.W.Frag} {p0 : Option Addr} {L H : Hp} {E : Env3} {σ : L2.St} {v : V} {d : D} {ds : List D} {T : List Ent} (S : St3 K p0 L H E σ (⟨false, v, d⟩ :: T)) (hd : d = .tup ds ∨ d = .lst ds ∨ d = .flst ds) :
    ∃ p vs, v = .ref p ∧ ((d = .tup ds ∧ SqT K H p vs) ∨ ((d = .lst ds ∨ d = .flst ds) ∧ SqL K H p vs)) ∧ vs.length = ds.length ∧ St3 K p0 L H E σ (xtemps (ds.map fun _ => false) vs ds ++ T) := by
  have o := S.own0
  rcases hd with rfl | rfl | rfl
  · cases o with
    | tup hp ho => exact ⟨_, _, rfl, .inl ⟨rfl, SqT.of hp⟩, ho.len, S.pop.pushB ho⟩
  · cases o with
    | bor hp ho => exact ⟨_, _, rfl, .inr ⟨.inl rfl, .inl (S.le.rd hp)⟩, ho.len, S.pop.pushB ho⟩
  · cases o with
    | flst hp ho => exact ⟨_, _, rfl, .inr ⟨.inr rfl, .inl (.inr hp)⟩, ho.len, S.pop.pushB ho⟩
def seqOf : D → Option (List D)
  | .tup ds => some ds
  | .lst ds => some ds
  | .flst ds => some ds
  | _ => none
theorem PG.or {X : Cx} {tg : Expr} {t t' : TG} (h : PG X tg t) (h' : PG X tg t') : PG X tg (fun v σ H Q => t v σ H Q ∨ t' v σ H Q) :=
  ⟨fun pins s σ H v u Q I r q => q.elim (fun q => h.run pins s σ H v u Q I r q) fun q => h'.run pins s σ H v u Q I r q⟩
def gSeq3 (n : Nat) (g : List D → Sm Unit) : D → Sm Unit := fun d => match seqOf d with
  | some ds => if ds.length = n then g ds else fun _ => .bad
  | none => fun _ => .bad
theorem seqOf_some {d : D} {ds : List D} (h : seqOf d = some ds) : d = .tup ds ∨ d = .lst ds ∨ d = .flst ds := by cases d <;> simp_all [seqOf]
theorem vg_tup {k : Bool} {gs : List Nat} {gr : List D → Sm Unit} {kk n : Nat} (hc : Y.X.calm = true) (h : VGs Y k es gs gr) (hn : (assignEach es Y.X.env).length = n := by rfl) (hst : (assignEach es Y.X.env).findIdx? (·.1) = none := by rfl) : VG Y k (.Tuple es kk pos) gs (gSeq3 n gr) := by
  obtain ⟨t, p, h⟩ := h
  refine ⟨_, PG.or (pg_tup hc p hn hst) (pg_lst hc p hn hst), fun L H E σ T v d Q S G => ?_⟩
  unfold gSeq3 at G
  cases e1 : seqOf d with
  | none => rw [e1] at G; exact G.elim
  | some ds =>
    rw [e1] at G
    by_cases hl : ds.length = n
    · simp only [if_pos hl] at G
      have ap : ∃ q vs, v = .ref q ∧ ((d = .tup ds ∧ SqT Y.K H q vs) ∨ ((d = .lst ds ∨ d = .flst ds) ∧ SqL Y.K H q vs)) ∧ vs.length = ds.length ∧ St3 Y.K Y.p0 L H E σ (xtemps (ds.map fun _ => k) vs ds ++ T) := by
        cases k with
        | true => exact S.apartW (seqOf_some e1)
        | false => exact S.apartB (seqOf_some e1)
      obtain ⟨q, vs, rfl, sq, hlen, S'⟩ := ap
      have r := h L H E σ T vs ds Q hlen S' G
      rcases sq with ⟨_, sq⟩ | ⟨_, sq⟩
      · exact .inl ⟨q, vs, rfl, sq, hlen.trans hl, r⟩
      · exact .inr ⟨q, vs, rfl, sq, hlen.trans hl, r⟩
    · simp only [if_neg hl] at G

/-! ### assignments -/
def mAsg (f : Sm D) (gf : D → Sm Unit) : Sm Fl := Sm.b f fun d => Sm.b (gf d) fun _ => Sm.p .next
theorem asg_ok {k : Bool} {L L1 H1 : Hp} {E1 : Env3} {σ : L2.St} {T : List Ent} {D : Ends} {v : V} {d : P3.D} {gs : List Nat} {gf : P3.D → Sm Unit} {t : TG} (h : ∀ L H E σ T v d (Q : L2.St → Hp → Prop), St3 Y.K Y.p0 L H E σ (⟨k, v, d⟩ :: T) →
    (match gf d E with
      | .ok _ E' => ∀ σ' L' , Le L L' → Off gs σ σ' → St3 Y.K Y.p0 L' H E' σ' T → Q σ' H
      | _ => False) → t v σ H Q) (l1 : Le L L1) (S1 : St3 Y.K Y.p0 L1 H1 E1 σ (⟨k, v, d⟩ :: T)) (ne : ∀ x E', gf d E1 ≠ .exc x E') (G : GdS Y L T (sS Y L T D) (Sm.b (gf d) (fun _ => Sm.p .next) E1)) : t v σ H1 D.nx := by
  refine h L1 H1 E1 σ T v d D.nx S1 ?_
  unfold Sm.b at G
  cases e : gf d E1 with
  | ok a E2 => rw [e] at G; exact fun σ' L' l' _ S' => G σ' L' H1 (l1.trans l') S'
  | exc x E2 => exact ne x E2 e
  | bad => rw [e] at G; exact G
/-- a target that raises nothing -/
def NoX (gf : D → Sm Unit) : Prop := ∀ d E x E', gf d E ≠ .exc x E'
def NoXs (gf : List D → Sm Unit) : Prop := ∀ d E x E', gf d E ≠ .exc x E'
theorem nox_name {k : Bool} {i : Nat} : NoX (gN k i) := fun d E x E' h => by unfold gN at h; cases h
theorem nox_nil : NoXs gNil3 := fun d E x E' h => by unfold gNil3 at h; split at h <;> cases h
theorem nox_cons {f : D → Sm Unit} {g : List D → Sm Unit} (h1 : NoX f) (h2 : NoXs g) : NoXs (gCons3 f g) := fun ds E x E' h => by
  cases ds with
  | nil => cases h
  | cons d ds =>
    have h : Sm.b (f d) (fun _ => g ds) E = .exc x E' := h
    unfold Sm.b at h
    cases q : f d E with
    | ok a E1 => rw [q] at h; exact h2 _ _ _ _ h
    | exc y E1 => exact h1 _ _ _ _ q
    | bad => rw [q] at h; cases h
theorem nox_seq {n : Nat} {g : List D → Sm Unit} (h : NoXs g) : NoX (gSeq3 n g) := fun d E x E' q => by
  unfold gSeq3 at q
  cases e : seqOf d with
  | none => rw [e] at q; cases q
  | some ds =>
    rw [e] at q
    by_cases hl : ds.length = n
    · simp only [if_pos hl] at q; exact h _ _ _ _ q
    · simp only [if_neg hl] at q; cases q
theorem vs_asg {tg : Expr} {k : Bool} {gs : List Nat} {gf : D → Sm Unit} (h : VE Y k e f) (hg : VG Y k tg gs gf) (hx : NoX gf) (hs : swapsWithSole [tg] e pos.line Y.X.env = pure false := by rfl) (hw : swappedStores [tg] e Y.X.env = pure none := by rfl)
    (h1 : (assignEach [tg] Y.X.env).map (·.2) = [assign tg Y.X.env] := by rfl) : VS Y (.Assign [tg] e pos) (mAsg f gf) := by
  obtain ⟨t, p, h⟩ := h
  obtain ⟨u, q, hg⟩ := hg
  exact ⟨_, ps_asg p q hs hw h1, fun L H E σ T D S G => h L H E σ T _ S (G.bind.ex σ fun d E1 G1 v L1 H1 l1 S1 => asg_ok hg l1 S1 (fun x E' => hx d E1 x E') G1)⟩
/-- x = e -/
theorem vs_set {x : Str} {k : Bool} (i : Nat) {pos' : Pos} (h0 : Y.p0 = none ∨ i ≠ 0) (hN : Y.X.N.Nodup) (h : VE Y k e f) (hi : Y.X.N[i]? = some x := by rfl) (hx : L2.Loc Y.X.env.scope x := by first | exact Or.inl rfl | exact Or.inr rfl) (hs : swapsWith e (some (.Name x pos')) pos.line Y.X.env = pure false := by rfl)
    (hf : Y.X.fn x = true ∨ Y.X.env.scope.names.lookup x = some .local := by first | exact .inl rfl | exact .inr rfl) : VS Y (.Assign [.Name x pos'] e pos) (mAsg f (gN k i)) := by
  obtain ⟨t, p, h⟩ := h
  refine ⟨_, ps_set (i := i) hN hi hx p hs hf, fun L H E σ T D S G => h L H E σ T _ S (G.bind.ex σ fun d E1 G1 v L1 H1 l1 S1 => ?_)⟩
  exact G1 _ L1 H1 l1 (S1.put h0)
end
end P3
end
section
set_option exponentiation.threshold 256
set_option Elab.async false
set_option linter.all false
set_option maxRecDepth 100000
set_option maxHeartbeats 2000000
set_option autoImplicit false
/-! P3, part f: what is walked, loops, comprehensions, defs -/
namespace P3
open PySem PySem.Spec PyProof.Rows L2

/-- J gives the items ds, as long as the temporaries Ts hold -/
def Items (K : PySem.W.Frag) (p0 : Option Addr) (J : It) (Ts : List Ent) (ds : List D) : Prop := ∀ L H E σ T i, St3 K p0 L H E σ (Ts ++ T) →
  (∀ d, ds[i]? = some d → J.go i H ∧ ∀ x H', J.yld i H x H' → St3 K p0 L H' E σ (⟨false, x, d⟩ :: (Ts ++ T))) ∧ (ds.length ≤ i → J.stop i H)
def sI (Y : Cy) (L : Hp) (σ : L2.St) (T : List Ent) (R : It → Hp → Prop) : List D → Env3 → Prop := fun ds E => ∀ J Ts L' H', Le L L' → St3 Y.K Y.p0 L' H' E σ (Ts ++ T) → Items Y.K Y.p0 J Ts ds → R J H'
def VI (Y : Cy) (tg iter : Expr) (f : Sm (List D)) : Prop := ∃ wi, PI Y.X tg iter wi ∧ ∀ L H E σ T R, St3 Y.K Y.p0 L H E σ T → Gd Y L σ T (sI Y L σ T R) (f E) → wi σ H R

/-! ### a list, a tuple -/
def iSeq (K : PySem.W.Frag) (tl : TE) : TI := fun σ H R => tl σ H fun x H1 => ∃ a, x = .ref a ∧ (((∃ xs, SqL K H1 a xs) ∧ R (Itl K a) H1) ∨ ((∃ xs, SqT K H1 a xs) ∧ R (Itt K a) H1))
theorem pi_seq {X : Cx} {tg l : Expr} {tl : TE} (hl : PE X l tl) : PI X tg l (iSeq X.K tl) := by
  refine ⟨fun pins s σ H R I h => ?_⟩
  refine thn (hl.run pins s σ H _ I h) fun v s1 ⟨x, H1, I1, r1, q1⟩ => ?_
  obtain ⟨a, e, q1⟩ := q1
  subst e
  cases r1
  rcases q1 with ⟨⟨xs, hq⟩, q⟩ | ⟨⟨xs, hq⟩, q⟩
  · obtain ⟨its, rv, p, hz⟩ := I1.list hq
    refine wpAny_pyIter_list p.isList ?_
    refine ⟨s1.heap.objs.size, [s1.heap.objs.size], _, _, H1, rfl, I1.kept (t' := s1.toks) fun b o e => Heap.get?_push_of_some _ e, turn_list a _, ⟨_, Heap.get?_push_size _ rfl, rfl, rfl⟩, fun b hb => ?_, q⟩
    have e : b = s1.heap.objs.size := by simpa using hb
    subst e
    exact I1.fpOk (Nat.le_refl _) (I1.hok.fresh (Nat.le_refl _))
  · obtain ⟨its, rv, p, hz⟩ := I1.tuple hq
    refine wpAny_pyIter_tuple (show s1.heap.IsTuple a its.toArray from p) ?_
    refine ⟨s1.heap.objs.size, [s1.heap.objs.size], _, _, H1, rfl, I1.kept (t' := s1.toks) fun b o e => Heap.get?_push_of_some _ e, turn_tuple a _, ⟨_, Heap.get?_push_size _ rfl, rfl, rfl⟩, fun b hb => ?_, q⟩
    have e : b = s1.heap.objs.size := by simpa using hb
    subst e
    exact I1.fpOk (Nat.le_refl _) (I1.hok.fresh (Nat.le_refl _))
section
variable {K : PySem.W.Frag} {p0 : Option Addr}
theorem Owns.none {L H : Hp} {vs : List V} {ds : List D} {fp : List Addr} (o : Owns K L H vs ds fp) {i : Nat} (h : ds.length ≤ i) : vs.length ≤ i := by rw [o.len]; exact h
theorem own_lst0 {L H : Hp} {a : Addr} {ds : List D} (o : Own K L H (.ref a) (.lst ds) []) : ∃ vs, SqL K L a vs ∧ Owns K L H vs ds [] := by cases o with | bor h hs => exact ⟨_, .inl h, hs⟩
theorem own_tup0 {L H : Hp} {a : Addr} {ds : List D} (o : Own K L H (.ref a) (.tup ds) []) : ∃ vs, H a = some (.tup vs) ∧ Owns K L H vs ds [] := by cases o with | tup h hs => exact ⟨_, h, hs⟩
theorem own_lq {L H : Hp} {a : Addr} {d : D} {ds : List D} (hd : d = .lst ds ∨ d = .flst ds) (hl : Le L H) (o : Own K L H (.ref a) d []) : ∃ vs, SqL K H a vs ∧ Owns K L H vs ds [] := by
  rcases hd with rfl | rfl
  · cases o with | bor h hs => exact ⟨_, .inl (hl.rd h), hs⟩
  · cases o with | flst h hs => exact ⟨_, .inl (.inr h), hs⟩
theorem own_lr {L H : Hp} {v : V} {d : D} {ds : List D} (hd : d = .lst ds ∨ d = .flst ds) (o : Own K L H v d []) : ∃ a, v = .ref a := by
  rcases hd with rfl | rfl
  · cases o with | bor h hs => exact ⟨_, rfl⟩
  · cases o with | flst h hs => exact ⟨_, rfl⟩
theorem items_lst {a : Addr} {ds : List D} : Items K p0 (Itl K a) [⟨false, .ref a, .lst ds⟩] ds := fun L H E σ T i S => by
  obtain ⟨vs, h, o⟩ := own_lst0 S.own0
  have hL := S.le.sqL h
  refine ⟨fun d e => ?_, fun hi => ⟨vs, hL, by rw [o.len]; exact hi⟩⟩
  obtain ⟨v, e1, o1⟩ := o.get0 e
  refine ⟨⟨vs, v, hL, e1⟩, fun x H' y => ?_⟩
  obtain ⟨rfl, y⟩ := y
  have := y vs hL
  rw [e1] at this; cases this
  exact S.push o1
theorem items_flst {a : Addr} {ds : List D} : Items K p0 (Itl K a) [⟨false, .ref a, .flst ds⟩] ds := fun L H E σ T i S => by
  obtain ⟨vs, hL, o⟩ : ∃ vs, SqL K H a vs ∧ Owns K L H vs ds [] := by
    have o := S.own0
    cases o with | flst h hs => exact ⟨_, .inl (.inr h), hs⟩
  refine ⟨fun d e => ?_, fun hi => ⟨vs, hL, by rw [o.len]; exact hi⟩⟩
  obtain ⟨v, e1, o1⟩ := o.get0 e
  refine ⟨⟨vs, v, hL, e1⟩, fun x H' y => ?_⟩
  obtain ⟨rfl, y⟩ := y
  have := y vs hL
  rw [e1] at this; cases this
  exact S.push o1
theorem items_tup {a : Addr} {ds : List D} : Items K p0 (Itt K a) [⟨false, .ref a, .tup ds⟩] ds := fun L H E σ T i S => by
  obtain ⟨vs, h, o⟩ := own_tup0 S.own0
  have hL := SqT.of (K := K) h
  refine ⟨fun d e => ?_, fun hi => ⟨vs, hL, by rw [o.len]; exact hi⟩⟩
  obtain ⟨v, e1, o1⟩ := o.get0 e
  refine ⟨⟨vs, v, hL, e1⟩, fun x H' y => ?_⟩
  obtain ⟨rfl, y⟩ := y
  have := y vs hL
  rw [e1] at this; cases this
  exact S.push o1
end
def mSeqD (f : Sm D) : Sm (List D) := Sm.b f fun d => Sm.o (seqOf d)
section
variable {Y : Cy} {tg e e2 : Expr} {es : List Expr} {f : Sm D} {fs : Sm (List D)} {pos p : Pos}
theorem vi_seq (h : VE Y false e f) : VI Y tg e (mSeqD f) := by
  obtain ⟨t, pt, h⟩ := h
  refine ⟨_, pi_seq pt, fun L H E σ T R S G => h L H E σ T _ S (G.bind.imp fun d E1 G1 v L1 H1 l1 S1 => ?_)⟩
  obtain ⟨ds, e1, G2⟩ := G1.opt
  rcases seqOf_some e1 with rfl | rfl | rfl
  · have o := S1.own0
    cases o with
    | tup h hs => exact ⟨_, rfl, .inr ⟨⟨_, SqT.of h⟩, G2 _ [_] L1 H1 l1 S1 items_tup⟩⟩
  · have o := S1.own0
    cases o with
    | bor h hs => exact ⟨_, rfl, .inl ⟨⟨_, .inl (S1.le.rd h)⟩, G2 _ [_] L1 H1 l1 S1 items_lst⟩⟩
  · have o := S1.own0
    cases o with
    | flst h hs => exact ⟨_, rfl, .inl ⟨⟨_, .inl (.inr h)⟩, G2 _ [_] L1 H1 l1 S1 items_flst⟩⟩

/-! ### range, enumerate, zip -/
def intsD (lo : Int) (n : Nat) : List D := (List.range n).map fun (k : Nat) => .int (lo + (k : Int))
theorem items_range {K : PySem.W.Frag} {p0 : Option Addr} {lo : Int} {n : Nat} : Items K p0 (Itr lo n) [] (intsD lo n) := fun L H E σ T i S => by
  refine ⟨fun d e => ?_, fun hi => by simpa [intsD, Itr] using hi⟩
  unfold intsD at e
  rw [List.getElem?_map] at e
  have hi : i < n := by
    rcases Nat.lt_or_ge i n with h | h
    · exact h
    · rw [List.getElem?_eq_none (by simpa using h)] at e; cases e
  rw [List.getElem?_range hi] at e
  cases e
  refine ⟨hi, fun x H' y => ?_⟩
  obtain ⟨rfl, rfl⟩ := y
  exact S.push (.int _)
def rngOk (i : Int) : Bool := decide (-(2 ^ 62) ≤ i) && decide (i < 2 ^ 62)
def dRange1 : List D → Option (List D)
  | [.int j] => if rngOk j = true then some (intsD 0 j.toNat) else none
  | _ => none
def dRange2 : List D → Option (List D)
  | [.int i, .int j] => if (rngOk i && rngOk j) = true then some (intsD i (j - i).toNat) else none
  | _ => none
def mRange1 (fs : Sm (List D)) : Sm (List D) := Sm.b fs fun ds => Sm.o (dRange1 ds)
def mRange2 (fs : Sm (List D)) : Sm (List D) := Sm.b fs fun ds => Sm.o (dRange2 ds)
theorem rngOk_ok {i : Int} (h : rngOk i = true) : -(2 ^ 62) ≤ i ∧ i < 2 ^ 62 := by
  unfold rngOk at h
  rw [Bool.and_eq_true] at h
  exact ⟨of_decide_eq_true h.1, of_decide_eq_true h.2⟩
theorem owns_int1 {K : PySem.W.Frag} {L H : Hp} {vs : List V} {i : Int} {fp : List Addr} (o : Owns K L H vs [.int i] fp) : vs = [.int i] := by
  cases o with | cons h hs => cases hs; rw [own_is_int h]
theorem owns_int2 {K : PySem.W.Frag} {L H : Hp} {vs : List V} {i j : Int} {fp : List Addr} (o : Owns K L H vs [.int i, .int j] fp) : vs = [.int i, .int j] := by
  cases o with | cons h hs => rw [own_is_int h, owns_int1 hs]
theorem vi_range1 (hm : Y.X.mg "range" = none) (h : VD Y [e] fs) (hg : Gl Y.X "range" := by rfl) (hs : starEach [e] Y.X.env = [(false, eval e Y.X.env)] := by rfl) : VI Y tg (.Call (.Name "range" p) [e] [] pos) (mRange1 fs) := by
  obtain ⟨t, pt, h⟩ := h
  refine ⟨_, pi_range1 hg hm pt hs, fun L H E σ T R S G => h L H E σ T _ S (G.bind.imp fun ds E1 G1 vs L1 H1 l1 S1 o => ?_)⟩
  obtain ⟨zs, e1, G2⟩ := G1.opt
  unfold dRange1 at e1
  split at e1
  · rename_i j
    split at e1
    · rename_i hr
      cases e1
      obtain ⟨r1, r2⟩ := rngOk_ok hr
      exact ⟨j, owns_int1 o, r1, r2, G2 _ [] L1 H1 l1 S1 items_range⟩
    · cases e1
  · cases e1
theorem vi_range2 (hm : Y.X.mg "range" = none) (h : VD Y [e, e2] fs) (hg : Gl Y.X "range" := by rfl) (hs : starEach [e, e2] Y.X.env = [(false, eval e Y.X.env), (false, eval e2 Y.X.env)] := by rfl) (hs2 : starEach [e2] Y.X.env = [(false, eval e2 Y.X.env)] := by rfl) : VI Y tg (.Call (.Name "range" p) [e, e2] [] pos) (mRange2 fs) := by
  obtain ⟨t, pt, h⟩ := h
  refine ⟨_, pi_range2 hg hm pt hs hs2, fun L H E σ T R S G => h L H E σ T _ S (G.bind.imp fun ds E1 G1 vs L1 H1 l1 S1 o => ?_)⟩
  obtain ⟨zs, e1, G2⟩ := G1.opt
  unfold dRange2 at e1
  split at e1
  · rename_i i j
    split at e1
    · rename_i hr
      rw [Bool.and_eq_true] at hr
      cases e1
      obtain ⟨r1, r2⟩ := rngOk_ok hr.1
      obtain ⟨r3, r4⟩ := rngOk_ok hr.2
      exact ⟨i, j, owns_int2 o, ⟨r1, r2, r3, r4⟩, G2 _ [] L1 H1 l1 S1 items_range⟩
    · cases e1
  · cases e1
def enumD (ds : List D) : List D := ds.mapIdx fun i d => .tup [.int (i : Int), d]
theorem items_enum {K : PySem.W.Frag} {p0 : Option Addr} {a : Addr} {d0 : D} {ds : List D} (hd : d0 = .lst ds ∨ d0 = .flst ds) : Items K p0 (Ite K a) [⟨false, .ref a, d0⟩] (enumD ds) := fun L H E σ T i S => by
  obtain ⟨vs, hL, o⟩ := own_lq hd S.le S.own0
  refine ⟨fun d e => ?_, fun hi => ⟨vs, hL, by rw [o.len]; simpa [enumD] using hi⟩⟩
  unfold enumD at e
  rw [List.getElem?_mapIdx] at e
  cases q : ds[i]? with
  | none => rw [q] at e; cases e
  | some z =>
    rw [q] at e
    cases e
    obtain ⟨v, e1, o1⟩ := o.get0 q
    refine ⟨⟨vs, v, hL, e1⟩, fun x H' y => ?_⟩
    obtain ⟨U, w, rfl, hU, rfl, y⟩ := y
    have := y vs hL
    rw [e1] at this; cases this
    exact S.newT (.cons (f := []) (g := []) (.int _) (.one o1)) hU
def lstOf : D → Option (List D)
  | .lst ds => some ds
  | .flst ds => some ds
  | _ => none
def mEnum (f : Sm D) : Sm (List D) := Sm.b f fun d => Sm.o ((lstOf d).map enumD)
theorem lstOf_some {d : D} {ds : List D} (h : lstOf d = some ds) : d = .lst ds ∨ d = .flst ds := by cases d <;> simp_all [lstOf]
theorem vi_enum {elts : List Expr} {kk : Nat} {tpos : Pos} (hm : Y.X.mg "enumerate" = none) (h : VE Y false e f) (hg : Gl Y.X "enumerate" := by rfl) (hs : starEach [e] Y.X.env = [(false, eval e Y.X.env)] := by rfl) : VI Y (.Tuple elts kk tpos) (.Call (.Name "enumerate" p) [e] [] pos) (mEnum f) := by
  obtain ⟨t, pt, h⟩ := h
  refine ⟨_, pi_enum hg hm (pa_cons pt pa_nil hs) hs, fun L H E σ T R S G => h L H E σ T _ S (G.bind.imp fun d E1 G1 v L1 H1 l1 S1 => ?_)⟩
  obtain ⟨zs, e1, G2⟩ := G1.opt
  rw [Option.map_eq_some_iff] at e1
  obtain ⟨ds, e1, rfl⟩ := e1
  have hd := lstOf_some e1
  obtain ⟨a, rfl⟩ := own_lr hd S1.own0
  obtain ⟨vs, hL, _⟩ := own_lq hd S1.le S1.own0
  exact ⟨_, _, rfl, hL, G2 _ [_] L1 H1 l1 S1 (items_enum hd)⟩
def zipD : List D → List D → List D
  | x :: xs, y :: ys => .tup [x, y] :: zipD xs ys
  | _, _ => []
theorem zipD_len : ∀ xs ys : List D, (zipD xs ys).length = min xs.length ys.length
  | [], ys => by simp [zipD]
  | x :: xs, [] => by simp [zipD]
  | x :: xs, y :: ys => by simp [zipD, zipD_len xs ys]
theorem zipD_get : ∀ {xs ys : List D} {i : Nat} {d : D}, (zipD xs ys)[i]? = some d → ∃ x y, xs[i]? = some x ∧ ys[i]? = some y ∧ d = .tup [x, y]
  | [], _, _, _, h => by simp [zipD] at h
  | _ :: _, [], _, _, h => by simp [zipD] at h
  | x :: xs, y :: ys, 0, d, h => by simp [zipD] at h; exact ⟨x, y, rfl, rfl, h.symm⟩
  | x :: xs, y :: ys, i + 1, d, h => by
    obtain ⟨a, b, h1, h2, h3⟩ := zipD_get (xs := xs) (ys := ys) (i := i) (by simpa [zipD] using h)
    exact ⟨a, b, by simpa using h1, by simpa using h2, h3⟩
theorem items_zipL {K : PySem.W.Frag} {p0 : Option Addr} {a b : Addr} {d0 e0 : D} {xs ys : List D} (hd : d0 = .lst xs ∨ d0 = .flst xs) (he : e0 = .lst ys ∨ e0 = .flst ys) : Items K p0 (Itz K a b) [⟨false, .ref b, e0⟩, ⟨false, .ref a, d0⟩] (zipD xs ys) := fun L H E σ T i S => by
  obtain ⟨ws, hL2, o2⟩ := own_lq he S.le S.own0
  obtain ⟨vs, hL1, o1⟩ := own_lq hd S.le S.pop.own0
  refine ⟨fun d e => ?_, fun hi => ⟨vs, ws, hL1, hL2, by rw [o1.len, o2.len]; rw [zipD_len] at hi; omega⟩⟩
  obtain ⟨x, y, e1, e2, rfl⟩ := zipD_get e
  obtain ⟨v, q1, r1⟩ := o1.get0 e1
  obtain ⟨w, q2, r2⟩ := o2.get0 e2
  refine ⟨⟨vs, ws, v, w, hL1, hL2, q1, q2⟩, fun x' H' yl => ?_⟩
  obtain ⟨U, x1, y1, rfl, hU, rfl, k1, k2⟩ := yl
  have := k1 vs hL1
  rw [q1] at this; cases this
  have := k2 ws hL2
  rw [q2] at this; cases this
  exact S.newT (.cons (f := []) (g := []) r1 (.one r2)) hU
theorem items_zipT {K : PySem.W.Frag} {p0 : Option Addr} {a b : Addr} {xs ys : List D} : Items K p0 (RZ.ItzT K a b) [⟨false, .ref b, .tup ys⟩, ⟨false, .ref a, .tup xs⟩] (zipD xs ys) := fun L H E σ T i S => by
  obtain ⟨ws, h2, o2⟩ := own_tup0 S.own0
  obtain ⟨vs, h1, o1⟩ := own_tup0 S.pop.own0
  have hL1 := SqT.of (K := K) h1
  have hL2 := SqT.of (K := K) h2
  refine ⟨fun d e => ?_, fun hi => ⟨vs, ws, hL1, hL2, by rw [o1.len, o2.len]; rw [zipD_len] at hi; omega⟩⟩
  obtain ⟨x, y, e1, e2, rfl⟩ := zipD_get e
  obtain ⟨v, q1, r1⟩ := o1.get0 e1
  obtain ⟨w, q2, r2⟩ := o2.get0 e2
  refine ⟨⟨vs, ws, v, w, hL1, hL2, q1, q2⟩, fun x' H' yl => ?_⟩
  obtain ⟨U, x1, y1, rfl, hU, rfl, k1, k2⟩ := yl
  have := k1 vs hL1
  rw [q1] at this; cases this
  have := k2 ws hL2
  rw [q2] at this; cases this
  exact S.newT (.cons (f := []) (g := []) r1 (.one r2)) hU
def dZip (d e : D) : Option (List D) := match d, e with
  | .lst xs, .lst ys => some (zipD xs ys)
  | .lst xs, .flst ys => some (zipD xs ys)
  | .flst xs, .lst ys => some (zipD xs ys)
  | .flst xs, .flst ys => some (zipD xs ys)
  | .tup xs, .tup ys => some (zipD xs ys)
  | _, _ => none
def mZip (f g : Sm D) : Sm (List D) := Sm.b f fun d => Sm.b g fun e => Sm.o (dZip d e)
theorem vi_zip {g : Sm D} {elts : List Expr} {kk : Nat} {tpos : Pos} (hm : Y.X.mg "zip" = none) (h : VE Y false e f) (h2 : VE Y false e2 g) (hg : Gl Y.X "zip" := by rfl) (hs : starEach [e, e2] Y.X.env = (false, eval e Y.X.env) :: starEach [e2] Y.X.env := by rfl)
    (hs2 : starEach [e2] Y.X.env = (false, eval e2 Y.X.env) :: starEach [] Y.X.env := by rfl) (hpl : (backTo pos (starEach [e2] Y.X.env)).any (·.1) = false := by rfl) : VI Y (.Tuple elts kk tpos) (.Call (.Name "zip" p) [e, e2] [] pos) (mZip f g) := by
  obtain ⟨t, pt, h⟩ := h
  obtain ⟨u, pu, h2⟩ := h2
  refine ⟨_, RZ.pi_zipA hg hm (pa_cons pt (pa_cons pu pa_nil hs2) hs) hs hpl, fun L H E σ T R S G => h L H E σ T _ S (G.bind.imp fun d E1 G1 v L1 H1 l1 S1 => ?_)⟩
  refine h2 L1 H1 E1 σ _ _ S1 (G1.bind.temp l1 fun d2 E2 G2 w L2 H2 l2 S2 => ?_)
  obtain ⟨zs, e1, G3⟩ := G2.opt
  have hsplit : (∃ xs ys, (d = .lst xs ∨ d = .flst xs) ∧ (d2 = .lst ys ∨ d2 = .flst ys) ∧ zs = zipD xs ys) ∨ ∃ xs ys, d = .tup xs ∧ d2 = .tup ys ∧ zs = zipD xs ys := by
    unfold dZip at e1
    split at e1
    · cases e1; exact .inl ⟨_, _, .inl rfl, .inl rfl, rfl⟩
    · cases e1; exact .inl ⟨_, _, .inl rfl, .inr rfl, rfl⟩
    · cases e1; exact .inl ⟨_, _, .inr rfl, .inl rfl, rfl⟩
    · cases e1; exact .inl ⟨_, _, .inr rfl, .inr rfl, rfl⟩
    · cases e1; exact .inr ⟨_, _, rfl, rfl, rfl⟩
    · cases e1
  rcases hsplit with ⟨xs, ys, hd, he, rfl⟩ | ⟨xs, ys, rfl, rfl, rfl⟩
  · obtain ⟨a, rfl⟩ := own_lr hd S2.pop.own0
    obtain ⟨b, rfl⟩ := own_lr he S2.own0
    obtain ⟨vs, hL1, _⟩ := own_lq hd S2.le S2.pop.own0
    obtain ⟨ws, hL2, _⟩ := own_lq he S2.le S2.own0
    exact ⟨_, _, _, _, rfl, .inl ⟨hL1, hL2, G3 _ [_, _] L2 H2 (l1.trans l2) S2 (items_zipL hd he)⟩⟩
  · have o2 := S2.own0
    have o1 := S2.pop.own0
    cases o1 with
    | tup hb1 hs1 => cases o2 with
      | tup hb2 hs2 => exact ⟨_, _, _, _, rfl, .inr ⟨SqT.of hb1, SqT.of hb2, G3 _ [_, _] L2 H2 (l1.trans l2) S2 items_zipT⟩⟩

/-! ### for -/
/-- the turns of a loop; keep: the slots that are known at a turn's start -/
def mFor (gf : D → Sm Unit) (keep : Env3 → Env3) (body : Sm Fl) : List D → Sm Fl
  | [] => fun E => .ok .next (keep E)
  | d :: ds => fun E => match gf d (keep E) with
    | .ok _ E1 => (match body E1 with
      | .ok .next E2 => mFor gf keep body ds E2
      | .ok .cont E2 => mFor gf keep body ds E2
      | .ok .brk E2 => .ok .next E2
      | .ok (.ret z) E2 => .ok (.ret z) E2
      | .exc x E2 => .exc x E2
      | .bad => .bad)
    | _ => .bad
/-- slots are forgotten -/
def forget : List Nat → Env3 → Env3
  | [], E => E
  | i :: is, E => (forget is E).set i .no
theorem St3.forget1 {K : PySem.W.Frag} {p0 : Option Addr} {L H : Hp} {E : Env3} {σ : L2.St} {T : List Ent} {i : Nat} (S : St3 K p0 L H E σ T) (h0 : p0 = none ∨ i ≠ 0) : St3 K p0 L H (E.set i .no) σ T := by
  obtain ⟨es, l, h⟩ := S.ex
  have pin : ∀ a, p0 = some a → σ[0]? = some (some (.ref a)) ∧ ∃ d', (E.set i .no)[0]? = some (.w d') := fun a ha => by
    obtain ⟨p1, d', p2⟩ := S.pin a ha
    rcases h0 with h0 | h0
    · rw [h0] at ha; cases ha
    · exact ⟨p1, d', by rw [List.getElem?_set_ne h0]; exact p2⟩
  by_cases hi : i < E.length
  · obtain ⟨es', a, b, _⟩ := l.rest hi
    have b' : Loc (E.set i .no) σ es' := by
      have hi' : i < σ.length := by rw [← l.len]; exact hi
      have e1 : σ.set i (σ[i]) = σ := List.set_getElem_self hi'
      have := b (σ[i])
      rw [e1] at this
      exact this
    refine ⟨⟨es', b', ?_⟩, pin⟩
    rcases a with rfl | ⟨x, q⟩
    · exact h
    · exact Holds.drop (e := x) (h.perm (q.append_right T))
  · have z : i ≥ E.length := Nat.le_of_not_lt hi
    rw [List.set_eq_of_length_le z] at pin ⊢
    exact ⟨⟨es, l, h⟩, pin⟩
def no0 (p0 : Option Addr) (is : List Nat) : Prop := p0 = none ∨ ∀ i ∈ is, i ≠ 0
theorem St3.forget {K : PySem.W.Frag} {p0 : Option Addr} {L H : Hp} {E : Env3} {σ : L2.St} {T : List Ent} : ∀ {is : List Nat}, St3 K p0 L H E σ T → no0 p0 is → St3 K p0 L H (P3.forget is E) σ T
  | [], S, _ => S
  | i :: is, S, h => (S.forget (is := is) (h.imp id fun h j hj => h j (List.mem_cons_of_mem _ hj))).forget1 (h.imp id fun h => h i List.mem_cons_self)
theorem vs_for {iter : Expr} {body : List Stmt} {gs : List Nat} {gf : D → Sm Unit} {fi : Sm (List D)} {g : Sm Fl} (is : List Nat) (h0 : no0 Y.p0 is) (hp : PassesOwn (model Y.X.prog Y.X.w) Y.X.A Y.X.env Y.X.xe) (hc : Y.X.calm = true) (hi : VI Y tg iter fi) (hg : VG Y false tg gs gf) (hb : VSs Y body g)
    (hs : ∀ x, foldedSetIterable iter Y.X.env x = pure x := by intro _; rfl) : VS Y (.For tg iter body [] pos) (Sm.b fi (mFor gf (forget is) g)) := by
  obtain ⟨wi, pw, hi⟩ := hi
  obtain ⟨t, pt, hg⟩ := hg
  obtain ⟨tb, pb, hb⟩ := hb
  refine ⟨_, ps_for hp hc pw pt pb hs, fun L H E σ T D S G => hi L H E σ T _ S (G.bind.ex σ fun ds E1 G1 J Ts L1 H1 l1 S1 it => ?_)⟩
  -- the word: what is left of the loop is good
  let W : Nat → Nat → L2.St → Hp → Prop := fun i m σ' H' => m = ds.length - i ∧ i ≤ ds.length ∧ ∃ L' E', Le L L' ∧ St3 Y.K Y.p0 L' H' E' σ' (Ts ++ T) ∧ GdS Y L T (sS Y L T D) (mFor gf (forget is) g (ds.drop i) E')
  refine ⟨W, ⟨ds.length, rfl, Nat.zero_le _, L1, E1, l1, S1, G1⟩, fun i m σ' H' hw => ?_⟩
  obtain ⟨rfl, hle, L', E', l', S', G'⟩ := hw
  have S0 := S'.forget h0
  obtain ⟨go, stop⟩ := it L' H' _ σ' T i S0
  rcases Nat.lt_or_ge i ds.length with hlt | hge
  · refine .inr ⟨(go _ (List.getElem?_eq_getElem hlt)).1, ?_⟩
    obtain ⟨_, yld⟩ := go _ (List.getElem?_eq_getElem hlt)
    rw [List.drop_eq_getElem_cons hlt] at G'
    unfold mFor at G'
    let N : L2.St → Hp → Prop := fun σ2 H2 => ∃ L2' E2, Le L L2' ∧ St3 Y.K Y.p0 L2' H2 E2 σ2 (Ts ++ T) ∧ GdS Y L T (sS Y L T D) (mFor gf (forget is) g (ds.drop (i + 1)) E2)
    refine ⟨N, fun σ2 H2 ⟨L2', E2, a1, a2, a3⟩ => ⟨ds.length - (i + 1), by omega, rfl, by omega, L2', E2, a1, a2, a3⟩, fun x H2 y => ?_⟩
    have S2 := yld x H2 y
    refine hg L' H2 _ σ' (Ts ++ T) x _ _ S2 ?_
    cases e1 : gf ds[i] (forget is E') with
    | bad => rw [e1] at G'; exact G'
    | exc z E2 => rw [e1] at G'; exact G'
    | ok a E2 =>
      rw [e1] at G'
      intro σ2 L2' l2 _ S3
      refine hb L2' H2 E2 σ2 (Ts ++ T) _ S3 ?_
      have ll := l'.trans l2
      cases e2 : g E2 with
      | bad => simp only [e2] at G'; exact G'
      | exc z E3 =>
        simp only [e2] at G'
        exact fun cls od σ3 L3 H3 l3 s3 => G' cls od σ3 L3 H3 (ll.trans l3) s3.popL
      | ok fl E3 =>
        cases fl with
        | next =>
          simp only [e2] at G'
          exact fun σ3 L3 H3 l3 s3 => ⟨L3, E3, ll.trans l3, s3, G'⟩
        | cont =>
          simp only [e2] at G'
          exact fun σ3 L3 H3 l3 s3 => ⟨L3, E3, ll.trans l3, s3, G'⟩
        | brk =>
          simp only [e2] at G'
          exact fun σ3 L3 H3 l3 s3 => G' σ3 L3 H3 (ll.trans l3) s3.popL
        | ret z =>
          simp only [e2] at G'
          exact fun v σ3 L3 H3 l3 s3 => G' v σ3 L3 H3 (ll.trans l3) ((s3.perm List.perm_middle.symm).popL)
  · refine .inl ⟨stop hge, ?_⟩
    rw [List.drop_eq_nil_of_le hge] at G'
    unfold mFor at G'
    exact G' σ' L' H' l' S0.popL
end
end P3
end
section
set_option exponentiation.threshold 256
set_option Elab.async false
set_option linter.all false
set_option maxRecDepth 100000
set_option maxHeartbeats 2000000
set_option autoImplicit false
/-! P3, part g: while, comprehensions, stores, defs -/
namespace P3
open PySem PySem.Spec PyProof.Rows L2

section
variable {K : PySem.W.Frag} {p0 : Option Addr} {L H : Hp} {E : Env3} {σ σ' : L2.St} {T : List Ent}
/-- slots of which nothing is said may differ -/
theorem Loc.off {es : List Ent} (l : Loc E σ es) : ∀ {σ' : L2.St}, σ'.length = σ.length → (∀ (j : Nat), E[j]? = some Slot.no ∨ σ'[j]? = σ[j]?) → Loc E σ' es := by
  induction l with
  | nil => intro σ' hl _; cases σ' with
    | nil => exact .nil
    | cons _ _ => simp at hl
  | no l ih => intro σ' hl h; cases σ' with
    | nil => simp at hl
    | cons s r => exact .no (ih (by simpa using hl) fun j => by simpa using h (j + 1))
  | b l ih => intro σ' hl h; cases σ' with
    | nil => simp at hl
    | cons s r =>
      have h0 := h 0
      simp at h0
      subst h0
      exact .b (ih (by simpa using hl) fun j => by simpa using h (j + 1))
  | w l ih => intro σ' hl h; cases σ' with
    | nil => simp at hl
    | cons s r =>
      have h0 := h 0
      simp at h0
      subst h0
      exact .w (ih (by simpa using hl) fun j => by simpa using h (j + 1))
theorem forget_at : ∀ {vs : List Nat} {E : Env3} {j : Nat}, j ∈ vs → (forget vs E)[j]? = some Slot.no ∨ (forget vs E)[j]? = none
  | v :: vs, E, j, h => by
    show ((forget vs E).set v Slot.no)[j]? = some Slot.no ∨ ((forget vs E).set v Slot.no)[j]? = none
    by_cases e : v = j
    · subst e
      by_cases hv : v < (forget vs E).length
      · exact .inl (List.getElem?_set_self hv)
      · exact .inr (by rw [List.getElem?_eq_none]; simpa using hv)
    · rw [List.getElem?_set_ne e]
      rcases List.mem_cons.mp h with z | z
      · exact absurd z.symm e
      · exact forget_at z
theorem forget_len : ∀ {vs : List Nat} {E : Env3}, (forget vs E).length = E.length
  | [], _ => rfl
  | v :: vs, E => by show ((forget vs E).set v .no).length = _; rw [List.length_set, forget_len]
theorem St3.off {vs : List Nat} (S : St3 K p0 L H (P3.forget vs E) σ T) (hl : σ'.length = σ.length) (h : ∀ (j : Nat), j ∉ vs → σ'[j]? = σ[j]?) (h0 : no0 p0 vs) : St3 K p0 L H (P3.forget vs E) σ' T := by
  obtain ⟨es, l, hh⟩ := S.ex
  refine ⟨⟨es, l.off hl fun j => ?_, hh⟩, fun a ha => ?_⟩
  · by_cases hj : j ∈ vs
    · rcases forget_at (E := E) hj with z | z
      · exact .inl z
      · right
        have : (P3.forget vs E).length ≤ j := List.getElem?_eq_none_iff.mp z
        rw [l.len] at this
        rw [List.getElem?_eq_none this, List.getElem?_eq_none (by rw [hl]; exact this)]
    · exact .inr (h j hj)
  · obtain ⟨p1, p2⟩ := S.pin a ha
    refine ⟨?_, p2⟩
    rcases h0 with h0 | h0
    · rw [h0] at ha; cases ha
    · rw [h 0 fun z => h0 0 z rfl]; exact p1
theorem wipe_off : ∀ {vs : List Nat} {σ : L2.St} {j : Nat}, j ∉ vs → (wipe σ vs)[j]? = σ[j]?
  | [], _, _, _ => rfl
  | v :: vs, σ, j, h => by
    show ((wipe σ vs).set v none)[j]? = _
    rw [List.getElem?_set_ne fun z => h (by simp [z])]
    exact wipe_off fun z => h (List.mem_cons_of_mem _ z)
theorem wipe_at : ∀ {vs : List Nat} {σ : L2.St} {j : Nat}, j ∈ vs → j < σ.length → (wipe σ vs)[j]? = some none
  | v :: vs, σ, j, h, hj => by
    show ((wipe σ vs).set v none)[j]? = _
    by_cases e : v = j
    · subst e; rw [List.getElem?_set_self (by rw [wipe_length]; exact hj)]
    · rw [List.getElem?_set_ne e]
      rcases List.mem_cons.mp h with z | z
      · exact absurd z.symm e
      · exact wipe_at z hj
theorem wipe_eq {vs gs : List Nat} {σ σ' : L2.St} (h : Off gs (wipe σ vs) σ') (hg : ∀ j ∈ gs, j ∈ vs) : wipe σ' vs = wipe σ vs := by
  have hl : σ'.length = σ.length := by rw [h.1, wipe_length]
  apply List.ext_getElem?
  intro j
  by_cases hj : j ∈ vs
  · by_cases hlt : j < σ.length
    · rw [wipe_at hj hlt, wipe_at hj (by rw [hl]; exact hlt)]
    · rw [List.getElem?_eq_none (by rw [wipe_length, hl]; omega), List.getElem?_eq_none (by rw [wipe_length]; omega)]
  · rw [wipe_off hj]
    exact h.2 j fun z => hj (hg j z)
/-- the owner's list grows by an own thing -/
theorem St3.snoc {D : Addr} {vs : List V} {zs : List P3.D} {y : V} {z : P3.D} (S : St3 K p0 L H E σ (⟨true, y, z⟩ :: ⟨true, .ref D, .lst zs⟩ :: T)) (hD : H D = some (.lst vs)) : St3 K p0 L (upd H D (.lst (vs ++ [y]))) E σ (⟨true, .ref D, .lst (zs ++ [z])⟩ :: T) := by
  have S' : St3 K p0 L H E σ (wtemps [.ref D, y] [.lst zs, z] ++ T) := S
  obtain ⟨g, o, nd, fr, k⟩ := S'.outW rfl
  cases o with
  | @cons _ _ _ _ f1 f2 o1 o2 =>
    cases o2 with
    | @cons _ _ _ _ f3 f4 o3 o4 =>
      cases o4
      rw [List.append_nil] at nd fr k
      cases o1 with
      | bor h hs => exact (h.elim (fun z => nomatch z) fun ⟨_, z⟩ => nomatch z)
      | @lst _ ws _ f5 h hs =>
        rw [hD] at h
        cases h
        have ndl := List.nodup_append.mp nd
        have nD := List.nodup_cons.mp ndl.1
        have ne : ∀ a ∈ f5 ++ f3, a ≠ D := fun a ha z => by
          subst z
          rcases List.mem_append.mp ha with ha | ha
          · exact nD.1 ha
          · exact ndl.2.2 a List.mem_cons_self a ha rfl
        have hm : LeT H (upd H D (.lst (vs ++ [y]))) := LeT.mut hD (fun xs z => by cases z)
        have os : Owns K (fun _ => none) H (vs ++ [y]) (zs ++ [z]) (f5 ++ f3) := hs.append (.one o3)
        refine k _ _ _ (D :: (f5 ++ f3)) (S.le.mut (fr D (by simp))) hm (fun a u ha e => ?_) (.lst upd_same (os.mono (Le.refl _) hm fun a ha => upd_ne (ne a ha))) ?_ fun a ha => ?_
        · rw [upd_ne fun z => ha (by simp [z])]; exact e
        · exact nd
        · exact ⟨fr a (by simpa using ha), .inl (by simpa using ha)⟩
theorem own_lstW {v : V} {ds : List D} {fp : List Addr} (o : Own K (fun _ => none) H v (.lst ds) fp) : ∃ p vs f, v = .ref p ∧ H p = some (.lst vs) ∧ fp = p :: f ∧ Owns K (fun _ => none) H vs ds f := by
  cases o with
  | bor h hs => exact (h.elim (fun z => nomatch z) fun ⟨_, z⟩ => nomatch z)
  | lst h hs => exact ⟨_, _, _, rfl, h, rfl, hs⟩
end

/-! ### while -/
def mWhile (ft : Sm Bool) (keep : Env3 → Env3) (body : Sm Fl) : Nat → Sm Fl
  | 0 => fun _ => .bad
  | n + 1 => fun E => match ft (keep E) with
    | .ok true E1 => (match body E1 with
      | .ok .next E2 => mWhile ft keep body n E2
      | .ok .cont E2 => mWhile ft keep body n E2
      | .ok .brk E2 => .ok .next E2
      | .ok (.ret z) E2 => .ok (.ret z) E2
      | .exc x E2 => .exc x E2
      | .bad => .bad)
    | .ok false E1 => .ok .next E1
    | .exc x E1 => .exc x E1
    | .bad => .bad
section
variable {Y : Cy} {tg iter elt c e a b : Expr} {es : List Expr} {pos : Pos} {ft : Sm Bool} {g : Sm Fl} {f : Sm D}
theorem vs_while {body : List Stmt} (fuel : Env3 → Nat) (is : List Nat) (h0 : no0 Y.p0 is) (hp : PassesOwn (model Y.X.prog Y.X.w) Y.X.A Y.X.env Y.X.xe) (hc : VT Y c ft) (hb : VSs Y body g) : VS Y (.While c body [] pos) (fun E => mWhile ft (forget is) g (fuel E) E) := by
  obtain ⟨tc, pc, hc⟩ := hc
  obtain ⟨tb, pb, hb⟩ := hb
  refine ⟨_, ps_while hp pc pb, fun L H E σ T D S G => ?_⟩
  refine ⟨fun m σ' H' => ∃ L' E', Le L L' ∧ St3 Y.K Y.p0 L' H' E' σ' T ∧ GdS Y L T (sS Y L T D) (mWhile ft (forget is) g m E'), ⟨fuel E, L, E, Le.refl _, S, G⟩, fun m σ' H' hw => ?_⟩
  obtain ⟨L', E', l', S', G'⟩ := hw
  cases m with
  | zero => exact G'.elim
  | succ n =>
    unfold mWhile at G'
    have S0 := S'.forget h0
    refine hc L' H' _ σ' T _ S0 ?_
    cases e1 : ft (forget is E') with
    | bad => rw [e1] at G'; exact G'
    | exc x E1 =>
      rw [e1] at G'
      exact fun cls od L1 H1 l1 => G' cls od σ' L1 H1 (l'.trans l1)
    | ok k E1 =>
      rw [e1] at G'
      intro L1 H1 l1 S1
      have ll := l'.trans l1
      cases k with
      | false =>
        show D.nx σ' H1
        exact G' σ' L1 H1 ll S1
      | true =>
        refine ⟨fun σ2 H2 => ∃ L' E', Le L L' ∧ St3 Y.K Y.p0 L' H2 E' σ2 T ∧ GdS Y L T (sS Y L T D) (mWhile ft (forget is) g n E'), fun σ2 H2 h => ⟨n, by omega, h⟩, ?_⟩
        refine hb L1 H1 E1 σ' T _ S1 ?_
        cases e2 : g E1 with
        | bad => simp only [e2] at G'; exact G'
        | exc z E3 =>
          simp only [e2] at G'
          exact fun cls od σ3 L3 H3 l3 s3 => G' cls od σ3 L3 H3 (ll.trans l3) s3
        | ok fl E3 =>
          cases fl with
          | next =>
            simp only [e2] at G'
            exact fun σ3 L3 H3 l3 s3 => ⟨L3, E3, ll.trans l3, s3, G'⟩
          | cont =>
            simp only [e2] at G'
            exact fun σ3 L3 H3 l3 s3 => ⟨L3, E3, ll.trans l3, s3, G'⟩
          | brk =>
            simp only [e2] at G'
            exact fun σ3 L3 H3 l3 s3 => G' σ3 L3 H3 (ll.trans l3) s3
          | ret z =>
            simp only [e2] at G'
            exact fun v σ3 L3 H3 l3 s3 => G' v σ3 L3 H3 (ll.trans l3) s3

/-! ### comprehensions -/
def mComp (gf : D → Sm Unit) (vs : List Nat) (ft : Sm Bool) (fe : Sm D) : List D → Sm (List D)
  | [] => fun E => .ok [] (forget vs E)
  | d :: ds => fun E => match gf d (forget vs E) with
    | .ok _ E1 => (match ft E1 with
      | .ok true E2 => (match fe E2 with
        | .ok z E3 => (match mComp gf vs ft fe ds E3 with
          | .ok zs E4 => .ok (z :: zs) E4
          | _ => .bad)
        | _ => .bad)
      | .ok false E2 => mComp gf vs ft fe ds E2
      | _ => .bad)
    | _ => .bad
/-- the tests of a comprehension -/
def VIfs (Y : Cy) (ifs : List Expr) (f : Sm Bool) : Prop := ∃ t, PTs Y.X ifs t ∧ ∀ L H E σ T Q, St3 Y.K Y.p0 L H E σ T → Gd Y L σ T (sT Y L σ T Q) (f E) → t σ H Q
theorem vi_none : VIfs Y [] (Sm.p true) := ⟨_, pts_nil, fun L H E σ T Q S G => G L H (Le.refl _) S⟩
theorem vi_one (h : VT Y c ft) : VIfs Y [c] ft := let ⟨t, p, h⟩ := h; ⟨t, pts_one p, h⟩
/-- the context of a comprehension's block -/
def Cy.blk (Y : Cy) (s : Shared) (H : Hp) (scope : Scope) (cenv : PySem.Env) (fp : List Addr) : Cy := ⟨Y.X.blk s H scope cenv fp, Y.p0, fun _ _ _ _ => False, fun u s' x => by
  obtain ⟨_, _, _, _, _, _, _, _, _, _, _, _, _, _, _, _, w⟩ := x
  exact w⟩
theorem lt_sizeLine_of {K : PySem.W.Frag} {n : Nat} (h : n < 16777216) : n < sizeLine := by rw [sizeLine_eq]; exact h
/-- what a comprehension makes of its items -/
def mLc (fi : Sm (List D)) (gf : D → Sm Unit) (vs : List Nat) (ft : Sm Bool) (fe : Sm D) : Sm D := Sm.b fi fun ds => Sm.b (if ds.length < 16777216 then mComp gf vs ft fe ds else fun _ => .bad) fun zs => Sm.p (.lst zs)
/-- the block's readings, whatever the block's state is: one for all -/
theorem comp_ok {L H1 : Hp} {E1 : Env3} {σ : L2.St} {T Ts : List Ent} {J : It} {ds : List D} {gf : D → Sm Unit} {vs gs : List Nat} {fe : Sm D} {tG : TG} {tT : TT} {tE : TE} {Q : VK} {L1 : Hp}
    (hg : ∀ L H E σ T v d (Q : L2.St → Hp → Prop), St3 Y.K Y.p0 L H E σ (⟨false, v, d⟩ :: T) → (match gf d E with
      | .ok _ E' => ∀ σ' L' , Le L L' → Off gs σ σ' → St3 Y.K Y.p0 L' H E' σ' T → Q σ' H
      | _ => False) → tG v σ H Q)
    (ht : ∀ L H E σ T (Q : Bool → Hp → Prop), St3 Y.K Y.p0 L H E σ T → (match ft E with
      | .ok b E' => ∀ L' H', Le L L' → St3 Y.K Y.p0 L' H' E' σ T → Q b H'
      | _ => False) → tT σ H Q)
    (he : ∀ L H E σ T (Q : VK), St3 Y.K Y.p0 L H E σ T → (match fe E with
      | .ok z E' => ∀ v L' H', Le L L' → St3 Y.K Y.p0 L' H' E' σ (⟨true, v, z⟩ :: T) → Q v H'
      | _ => False) → tE σ H Q)
    (hgs : ∀ j ∈ gs, j ∈ vs) (h0 : no0 Y.p0 vs) (l1 : Le L L1) (S1 : St3 Y.K Y.p0 L1 H1 E1 σ (Ts ++ T)) (it : Items Y.K Y.p0 J Ts ds) (hn : ds.length < 16777216)
    (G : match mComp gf vs ft fe ds E1 with
      | .ok zs E2 => ∀ v L' H', Le L L' → St3 Y.K Y.p0 L' H' E2 σ (⟨true, v, .lst zs⟩ :: T) → Q v H'
      | _ => False) :
    ∀ D, H1 D = none → ∃ W : Nat → Nat → Hp → Prop, (∃ m, W 0 m (upd H1 D (.lst []))) ∧ ∀ i m H, W i m H →
      (J.stop i H ∧ Q (.ref D) H) ∨ (J.go i H ∧ ∃ Nx : Hp → Prop, (∀ H', Nx H' → ∃ m', m' < m ∧ W (i + 1) m' H') ∧ ∀ x H', J.yld i H x H' → tG x (wipe σ vs) H' fun σ2 H2 => wipe σ2 vs = wipe σ vs ∧ tT σ2 H2 fun b H3 =>
        if b = true then tE σ2 H3 fun y H4 => ∃ acc, H4 D = some (.lst acc) ∧ acc.length < sizeLine ∧ Nx (upd H4 D (.lst (acc ++ [y]))) else Nx H3) := by
  intro D hD
  let W : Nat → Nat → Hp → Prop := fun i m H' => m = ds.length - i ∧ i ≤ ds.length ∧ ∃ L' E' zs, Le L L' ∧ St3 Y.K Y.p0 L' H' (forget vs E') (wipe σ vs) (⟨true, .ref D, .lst zs⟩ :: (Ts ++ T)) ∧ zs.length ≤ i ∧
    match mComp gf vs ft fe (ds.drop i) E' with
      | .ok ws E2 => ∀ v L' H', Le L L' → St3 Y.K Y.p0 L' H' E2 σ (⟨true, v, .lst (zs ++ ws)⟩ :: T) → Q v H'
      | _ => False
  have idem : forget vs (forget vs E1) = forget vs (forget vs E1) := rfl
  refine ⟨W, ⟨ds.length, rfl, Nat.zero_le _, L1, E1, [], l1, ?_, Nat.le_refl _, ?_⟩, fun i m H' hw => ?_⟩
  · have S2 := (S1.forget h0).off (σ' := wipe σ vs) (wipe_length _ _) (fun j hj => wipe_off hj) h0
    exact St3.newL (vs := []) (ds := []) S2 rfl hD
  · exact G
  obtain ⟨rfl, hle, L', E', zs, l', S', hz, G'⟩ := hw
  have S0 : St3 Y.K Y.p0 L' H' (forget vs E') (wipe σ vs) (Ts ++ (⟨true, .ref D, .lst zs⟩ :: T)) := S'.perm List.perm_middle.symm
  obtain ⟨go, stop⟩ := it L' H' _ _ _ i S0
  rcases Nat.lt_or_ge i ds.length with hlt | hge
  · obtain ⟨g1, yld⟩ := go _ (List.getElem?_eq_getElem hlt)
    refine .inr ⟨g1, ?_⟩
    rw [List.drop_eq_getElem_cons hlt] at G'
    unfold mComp at G'
    refine ⟨fun H2 => ∃ L' E' zs, Le L L' ∧ St3 Y.K Y.p0 L' H2 (forget vs E') (wipe σ vs) (⟨true, .ref D, .lst zs⟩ :: (Ts ++ T)) ∧ zs.length ≤ i + 1 ∧
      match mComp gf vs ft fe (ds.drop (i + 1)) E' with
        | .ok ws E2 => ∀ v L' H', Le L L' → St3 Y.K Y.p0 L' H' E2 σ (⟨true, v, .lst (zs ++ ws)⟩ :: T) → Q v H'
        | _ => False, fun H2 h => ⟨ds.length - (i + 1), by omega, rfl, by omega, h⟩, fun x H2 y => ?_⟩
    have S2 := yld x H2 y
    refine hg L' H2 _ _ _ x _ _ S2 ?_
    cases e1 : gf ds[i] (forget vs E') with
    | bad => rw [e1] at G'; exact G'
    | exc z E2 => rw [e1] at G'; exact G'
    | ok a E2 =>
      rw [e1] at G'
      intro σ2 L2' l2 off S3
      have hw := wipe_eq off hgs
      refine ⟨hw, ht L2' H2 E2 σ2 _ _ S3 ?_⟩
      have ll := l'.trans l2
      cases e2 : ft E2 with
      | bad => simp only [e2] at G'
      | exc z E3 => simp only [e2] at G'
      | ok k E3 =>
        intro L3 H3 l3 S4
        cases k with
        | false =>
          simp only [e2] at G'
          show ∃ L' E' zs, _
          refine ⟨L3, E3, zs, ll.trans l3, ?_, by omega, G'⟩
          have S5 := (S4.forget h0).off (σ' := wipe σ vs) (by rw [← hw, wipe_length]) (fun j hj => by rw [← hw]; exact wipe_off hj) h0
          exact S5.perm List.perm_middle
        | true =>
          simp only [e2] at G'
          show tE σ2 H3 _
          refine he L3 H3 E3 σ2 _ _ S4 ?_
          cases e3 : fe E3 with
          | bad => simp only [e3] at G'
          | exc z E4 => simp only [e3] at G'
          | ok z E4 =>
            simp only [e3] at G'
            intro v L4 H4 l4 S5
            have S6 := (S5.forget h0).off (σ' := wipe σ vs) (by rw [← hw, wipe_length]) (fun j hj => by rw [← hw]; exact wipe_off hj) h0
            have S7 : St3 Y.K Y.p0 L4 H4 (forget vs E4) (wipe σ vs) (⟨true, v, z⟩ :: ⟨true, .ref D, .lst zs⟩ :: (Ts ++ T)) := S6.perm (List.perm_middle.cons _)
            obtain ⟨es, l5, hh⟩ := S7.pop.ex
            obtain ⟨f, g2, o, _⟩ := (hh.perm List.perm_middle).ownW
            obtain ⟨p, vs2, f2, ev, hp, _, ho⟩ := own_lstW o
            cases ev
            refine ⟨vs2, hp, lt_sizeLine_of (K := Y.K) (by rw [ho.len]; omega), L4, E4, zs ++ [z], ((ll.trans l3).trans l4), S7.snoc hp, by simp; omega, ?_⟩
            cases e4 : mComp gf vs ft fe (ds.drop (i + 1)) E4 with
            | bad => rw [e4] at G'; exact G'
            | exc z E5 => rw [e4] at G'; exact G'
            | ok ws E5 =>
              rw [e4] at G'
              intro v L5 H5 l5 S8
              rw [List.append_assoc] at S8
              exact G' v L5 H5 l5 S8
  · refine .inl ⟨stop hge, ?_⟩
    rw [List.drop_eq_nil_of_le hge] at G'
    unfold mComp at G'
    refine G' _ L' H' l' ?_
    rw [List.append_nil]
    have S5 := S0.off (σ' := σ) (by rw [wipe_length]) (fun j hj => (wipe_off hj).symm) h0
    exact (S5.perm (List.perm_middle)).perm (by exact .refl _) |>.perm (.refl _) |> fun q => (q.perm ((List.perm_middle (l₁ := []) ).symm.trans (.refl _))) |> fun q => by
      have q2 : St3 Y.K Y.p0 L' H' (forget vs E') σ (Ts ++ (⟨true, .ref D, .lst zs⟩ :: T)) := S5
      exact q2.popL
end
end P3
end
section
set_option exponentiation.threshold 256
set_option Elab.async false
set_option linter.all false
set_option maxRecDepth 100000
set_option maxHeartbeats 2000000
set_option autoImplicit false
/-! P3, part h: comprehensions as expressions, parallel stores, a[i] = v, append, defs -/
namespace P3
open PySem PySem.Spec PyProof.Rows L2

theorem PG.imp {X : Cx} {tg : Expr} {t t' : TG} (h : PG X tg t) (f : ∀ v σ H Q, t' v σ H Q → t v σ H Q) : PG X tg t' := ⟨fun pins s σ H v u Q I r q => h.run pins s σ H v u Q I r (f _ _ _ _ q)⟩
theorem PTs.imp {X : Cx} {es : List Expr} {t t' : TT} (h : PTs X es t) (f : ∀ σ H Q, t' σ H Q → t σ H Q) : PTs X es t' := ⟨fun pins s σ H Q I q => h.run pins s σ H Q I (f _ _ _ q)⟩
theorem PE.imp {X : Cx} {e : Expr} {t t' : TE} (h : PE X e t) (f : ∀ σ H Q, t' σ H Q → t σ H Q) : PE X e t' := ⟨fun pins s σ H Q I q => h.run pins s σ H Q I (f _ _ _ q)⟩
section
variable {Y : Cy} {tg iter elt e a b : Expr} {es ifs : List Expr} {pos spos : Pos} {scope : Scope} {own : List (Str × Nat)} {gs : List Nat} {gf : D → Sm Unit} {ft : Sm Bool} {fe f : Sm D} {fi : Sm (List D)}
/-- the readings of a block, whatever the block's state -/
def cG (Y : Cy) (gs : List Nat) (gf : D → Sm Unit) : TG := fun v σ H Q => ∃ L E T d, St3 Y.K Y.p0 L H E σ (⟨false, v, d⟩ :: T) ∧ match gf d E with
  | .ok _ E' => ∀ σ' L' , Le L L' → Off gs σ σ' → St3 Y.K Y.p0 L' H E' σ' T → Q σ' H
  | _ => False
def cT (Y : Cy) (ft : Sm Bool) : TT := fun σ H Q => ∃ L E T, St3 Y.K Y.p0 L H E σ T ∧ match ft E with
  | .ok b E' => ∀ L' H', Le L L' → St3 Y.K Y.p0 L' H' E' σ T → Q b H'
  | _ => False
def cE (Y : Cy) (fe : Sm D) : TE := fun σ H Q => ∃ L E T, St3 Y.K Y.p0 L H E σ T ∧ match fe E with
  | .ok z E' => ∀ v L' H', Le L L' → St3 Y.K Y.p0 L' H' E' σ (⟨true, v, z⟩ :: T) → Q v H'
  | _ => False
/-- where a comprehension's block stands -/
structure Blk (Y : Cy) (scope : Scope) (own : List (Str × Nat)) (tg elt : Expr) (ifs : List Expr) (gs : List Nat) (gf : D → Sm Unit) (ft : Sm Bool) (fe : Sm D) : Prop where
  hg : ∀ (s : Shared) (H : Hp) (C : Addr) (cl : List (Str × Addr)) (fp : List Addr), VG (Y.blk s H scope (compEnvC scope cl C Y.X.env) fp) false tg gs gf
  ht : ∀ (s : Shared) (H : Hp) (C : Addr) (cl : List (Str × Addr)) (fp : List Addr), VIfs (Y.blk s H scope (compEnvC scope cl C Y.X.env) fp) ifs ft
  he : ∀ (s : Shared) (H : Hp) (C : Addr) (cl : List (Str × Addr)) (fp : List Addr), VE (Y.blk s H scope (compEnvC scope cl C Y.X.env) fp) true elt fe
  gv : ∀ j ∈ gs, j ∈ own.map (·.2)
  h0 : no0 Y.p0 (own.map (·.2))
theorem Blk.pg (B : Blk Y scope own tg elt ifs gs gf ft fe) (s : Shared) (H : Hp) (C : Addr) (cl : List (Str × Addr)) (fp : List Addr) : PG (Y.X.blk s H scope (compEnvC scope cl C Y.X.env) fp) tg (cG Y gs gf) := by
  obtain ⟨t, p, h⟩ := B.hg s H C cl fp
  exact PG.imp p fun v σ H Q ⟨L, E, T, d, S, G⟩ => h L H E σ T v d Q S G
theorem Blk.pt (B : Blk Y scope own tg elt ifs gs gf ft fe) (s : Shared) (H : Hp) (C : Addr) (cl : List (Str × Addr)) (fp : List Addr) : PTs (Y.X.blk s H scope (compEnvC scope cl C Y.X.env) fp) ifs (cT Y ft) := by
  obtain ⟨t, p, h⟩ := B.ht s H C cl fp
  refine PTs.imp p fun σ H2 Q ⟨L, E, T, S, G⟩ => h L H2 E σ T Q S ?_
  cases e1 : ft E with
  | ok k E1 => rw [e1] at G; exact G
  | exc x E1 => rw [e1] at G; exact G.elim
  | bad => rw [e1] at G; exact G.elim
theorem Blk.pe (B : Blk Y scope own tg elt ifs gs gf ft fe) (s : Shared) (H : Hp) (C : Addr) (cl : List (Str × Addr)) (fp : List Addr) : PE (Y.X.blk s H scope (compEnvC scope cl C Y.X.env) fp) elt (cE Y fe) := by
  obtain ⟨t, p, h⟩ := B.he s H C cl fp
  refine PE.imp p fun σ H2 Q ⟨L, E, T, S, G⟩ => h L H2 E σ T Q S ?_
  cases e1 : fe E with
  | ok k E1 => rw [e1] at G; exact G
  | exc x E1 => rw [e1] at G; exact G.elim
  | bad => rw [e1] at G; exact G.elim
theorem Blk.lc (B : Blk Y scope own tg elt ifs gs gf ft fe) {wi : TI} (hi : ∀ L H E σ T R, St3 Y.K Y.p0 L H E σ T → Gd Y L σ T (sI Y L σ T R) (fi E) → wi σ H R) {L H : Hp} {E : Env3} {σ : L2.St} {T : List Ent} {Q : VK} (S : St3 Y.K Y.p0 L H E σ T)
    (G : Gd Y L σ T (sE Y L σ T true Q) (mLc fi gf (own.map (·.2)) ft fe E)) : tLc wi (cG Y gs gf) (cT Y ft) (cE Y fe) (own.map (·.2)) σ H Q := by
  refine hi L H E σ T _ S (G.bind.imp fun ds E1 G1 J Ts L1 H1 l1 S1 it => ?_)
  have G2 := G1.bind
  by_cases hn : ds.length < 16777216
  · rw [if_pos hn] at G2
    refine comp_ok (Y := Y) (gf := gf) (ft := ft) (fe := fe) (gs := gs) (L := L) (T := T) (fun L H E σ T v d Q S G => ⟨L, E, T, d, S, G⟩) (fun L H E σ T Q S G => ⟨L, E, T, S, G⟩) (fun L H E σ T Q S G => ⟨L, E, T, S, G⟩) B.gv B.h0 l1 S1 it hn ?_
    have noexc : ∀ (ds : List D) E x E', mComp gf (own.map (·.2)) ft fe ds E ≠ .exc x E' := by
      intro ds
      induction ds with
      | nil => intro E x E' h; cases h
      | cons d ds ih =>
        intro E x E' h
        unfold mComp at h
        split at h
        · split at h
          · split at h
            · split at h <;> cases h
            · cases h
          · exact ih _ _ _ h
          · cases h
        · cases h
    cases e1 : mComp gf (own.map (·.2)) ft fe ds E1 with
    | ok zs E2 => rw [e1] at G2; exact fun v L' H' l' S' => G2 v L' H' l' S'
    | exc x E2 => exact absurd e1 (noexc _ _ _ _)
    | bad => rw [e1] at G2; exact G2
  · rw [if_neg hn] at G2
    exact G2.elim
theorem ve_lc (hc : Y.X.calm = true) (hN : Y.X.N.Nodup) (hi : VI Y tg iter fi) (ok : BlkOk Y.X.N Y.X.env.scope scope own) (B : Blk Y scope own tg elt ifs gs gf ft fe) (hs : ∀ x, foldedSetIterable iter Y.X.env x = pure x := by intro _; rfl) :
    VE Y true (.ListComp elt [⟨tg, iter, ifs, 0⟩] scope pos) (mLc fi gf (own.map (·.2)) ft fe) := by
  obtain ⟨wi, pw, hi⟩ := hi
  exact ⟨_, pe_lc hc hN pw ok B.pg B.pt B.pe hs, fun L H E σ T Q S G => B.lc hi S G⟩
/-- y = [..]; k: y owns it -/
theorem vs_setLc (k : Bool) (i : Nat) {y : Str} {py : Pos} (h0 : Y.p0 = none ∨ i ≠ 0) (hc : Y.X.calm = true) (hN : Y.X.N.Nodup) (hi : VI Y tg iter fi) (ok : BlkOk Y.X.N Y.X.env.scope scope own) (B : Blk Y scope own tg elt ifs gs gf ft fe) (hy : Y.X.N[i]? = some y := by rfl) (hyl : Y.X.env.scope.names.lookup y = some .local := by rfl)
    (hsw : swapsWith (.ListComp elt [⟨tg, iter, ifs, 0⟩] scope pos) (some (.Name y py)) spos.line Y.X.env = pure true := by exact sw_true rfl rfl rfl (by decide +kernel)) (hs : ∀ x, foldedSetIterable iter Y.X.env x = pure x := by intro _; rfl) :
    VS Y (.Assign [.Name y py] (.ListComp elt [⟨tg, iter, ifs, 0⟩] scope pos) spos) (mAsg (mLc fi gf (own.map (·.2)) ft fe) (gN k i)) := by
  obtain ⟨wi, pw, hi⟩ := hi
  refine ⟨_, ps_setLc (i := i) hc hN hy hyl hsw pw ok B.pg B.pt B.pe hs, fun L H E σ T D S G => B.lc hi S (G.bind.ex σ fun d E1 G1 v L1 H1 l1 S1 => ?_)⟩
  cases k with
  | true => exact G1 _ L1 H1 l1 (S1.put h0)
  | false =>
    obtain ⟨es, l, hh⟩ := S1.ex
    obtain ⟨L2', l2, h2⟩ := (hh.perm List.perm_middle).freeze
    have S2 : St3 Y.K Y.p0 L2' H1 E1 σ ((⟨false, v, d⟩ : Ent) :: T) := St3.mk (Exists.intro es (And.intro l (h2.perm List.perm_middle.symm))) S1.pin
    exact G1 _ L2' H1 (l1.trans l2) (S2.put h0)

/-! ### a, b = x, y -/
def sXs (Y : Cy) (L : Hp) (σ : L2.St) (T : List Ent) (ks : List Bool) (Q : List V → Hp → Prop) : List D → Env3 → Prop := fun ds E => ∀ vs L' H', Le L L' → vs.length = ks.length → ds.length = ks.length → St3 Y.K Y.p0 L' H' E σ (xtemps ks vs ds ++ T) → Q vs H'
def VXs (Y : Cy) (ks : List Bool) (es : List Expr) (f : Sm (List D)) : Prop := ∃ t, PA Y.X es t ∧ ∀ L H E σ T Q, St3 Y.K Y.p0 L H E σ T → Gd Y L σ T (sXs Y L σ T ks Q) (f E) → t σ H Q
theorem vx_nil : VXs Y [] [] mNil := ⟨_, pa_nil, fun L H E σ T Q S G => G [] L H (Le.refl _) rfl rfl S⟩
theorem vx_cons {k : Bool} {ks : List Bool} {fs : Sm (List D)} (h : VE Y k e f) (hr : VXs Y ks es fs) (hs : starEach (e :: es) Y.X.env = (false, eval e Y.X.env) :: starEach es Y.X.env := by rfl) : VXs Y (k :: ks) (e :: es) (mCons f fs) := by
  obtain ⟨t, p, h⟩ := h
  obtain ⟨tr, pr, hr⟩ := hr
  refine ⟨_, pa_cons p pr hs, fun L H E σ T Q S G => h L H E σ T _ S (G.bind.imp fun d E1 G1 v L1 H1 l1 S1 => ?_)⟩
  refine hr L1 H1 E1 σ _ _ S1 (G1.bind.temp l1 fun ds E2 G2 vs L2 H2 l2 h1 h2 S2 => G2 (v :: vs) L2 H2 (l1.trans l2) (by simp [h1]) (by simp [h2]) ?_)
  show St3 Y.K Y.p0 L2 H2 E2 σ ((xtemps ks vs ds ++ [⟨k, v, d⟩]) ++ T)
  rw [List.append_assoc]
  exact S2
def mPar2 (fs : Sm (List D)) (k1 k2 : Bool) (i j : Nat) : Sm Fl := Sm.b fs fun ds => fun E => match ds with
  | [d1, d2] => .ok .next ((E.set j (slot k2 d2)).set i (slot k1 d1))
  | _ => .bad
theorem vs_par2 {i j : Nat} {x y : Str} {fs : Sm (List D)} {k1 k2 : Bool} {px py pt : Pos} {kt kk pt2} (hi0 : Y.p0 = none ∨ i ≠ 0) (hj0 : Y.p0 = none ∨ j ≠ 0) (hc : Y.X.calm = true) (hN : Y.X.N.Nodup) (ha : VXs Y [k1, k2] [a, b] fs) (hij : i ≠ j := by decide) (hi : Y.X.N[i]? = some x := by rfl) (hj : Y.X.N[j]? = some y := by rfl)
    (hx : Y.X.env.scope.names.lookup x = some .local := by rfl) (hy : Y.X.env.scope.names.lookup y = some .local := by rfl)
    (hw : swappedStores [.Tuple [.Name x px, .Name y py] kt pt] (.Tuple [a, b] kk pt2) Y.X.env = pure (some [x, y]) := by rfl)
    (hs : swapsWithSole [.Tuple [.Name x px, .Name y py] kt pt] (.Tuple [a, b] kk pt2) pos.line Y.X.env = pure false := by rfl) :
    VS Y (.Assign [.Tuple [.Name x px, .Name y py] kt pt] (.Tuple [a, b] kk pt2) pos) (mPar2 fs k1 k2 i j) := by
  obtain ⟨t, p, h⟩ := ha
  refine ⟨_, ps_par hc hN hi hj hij hx hy p hw hs, fun L H E σ T D S G => h L H E σ T _ S (G.bind.ex σ fun ds E1 G1 vs L1 H1 l1 h1 h2 S1 => ?_)⟩
  match vs, ds, h1, h2, S1, G1 with
  | [v1, v2], [d1, d2], _, _, S1, G1 =>
    refine ⟨v1, v2, rfl, ?_⟩
    have S2 : St3 Y.K Y.p0 L1 H1 E1 σ ((⟨k2, v2, d2⟩ : Ent) :: ⟨k1, v1, d1⟩ :: T) := S1
    rw [List.set_comm _ _ hij]
    exact G1 _ L1 H1 l1 ((S2.put hj0).put hi0)
end
end P3
end
section
set_option exponentiation.threshold 256
set_option Elab.async false
set_option linter.all false
set_option maxRecDepth 100000
set_option maxHeartbeats 2000000
set_option autoImplicit false
/-! P3, part i: what an owner's thing suffers; defs -/
namespace P3
open PySem PySem.Spec PyProof.Rows L2

section
variable {K : PySem.W.Frag} {p0 : Option Addr} {L H : Hp} {E : Env3} {σ : L2.St} {T : List Ent} {i : Nat} {d : D}
theorem St3.unpin (S : St3 K p0 L H E σ T) : St3 K none L H E σ T := ⟨S.ex, fun _ h => nomatch h⟩
theorem St3.take (S : St3 K p0 L H E σ T) (e : E[i]? = some (.w d)) : ∃ v, σ[i]? = some (some v) ∧ St3 K none L H (E.set i .no) σ (⟨true, v, d⟩ :: T) := by
  obtain ⟨es, l, h⟩ := S.ex
  obtain ⟨v, es', h1, h2, h3, _⟩ := l.getW e
  exact ⟨v, h1, ⟨es', h3, (h.perm ((h2.append_right T).trans List.perm_middle.symm))⟩, fun _ h => nomatch h⟩
theorem St3.back {v : V} {d' : D} {H' L' : Hp} (S0 : St3 K p0 L H E σ T) (e : E[i]? = some (.w d)) (hv : σ[i]? = some (some v)) (S : St3 K none L' H' (E.set i .no) σ (⟨true, v, d'⟩ :: T)) : St3 K p0 L' H' (E.set i (.w d')) σ T := by
  have S2 := S.put (i := i) (.inl rfl)
  have e1 : (E.set i .no).set i (slot true d') = E.set i (.w d') := List.set_set ..
  have e2 : σ.set i (some v) = σ := by
    obtain ⟨hi, hv'⟩ := List.getElem?_eq_some_iff.mp hv
    rw [← hv']
    exact List.set_getElem_self hi
  rw [e1, e2] at S2
  refine ⟨S2.ex, fun a ha => ?_⟩
  obtain ⟨x1, d2, x2⟩ := S0.pin a ha
  refine ⟨x1, ?_⟩
  by_cases h0 : i = 0
  · subst h0
    exact ⟨d', by rw [List.getElem?_set_self (List.getElem?_eq_some_iff.mp x2).1]⟩
  · exact ⟨d2, by rw [List.getElem?_set_ne h0]; exact x2⟩
/-- an own list, an own thing: what may become of both -/
theorem St3.two {p : Addr} {vs : List V} {zs : List D} {y : V} {z : D} (S : St3 K p0 L H E σ (⟨true, y, z⟩ :: ⟨true, .ref p, .lst zs⟩ :: T)) (hp : H p = some (.lst vs)) :
    ∃ f g, Owns K (fun _ => none) H vs zs f ∧ Own K (fun _ => none) H y z g ∧ (p :: (f ++ g)).Nodup ∧ ∀ vs' zs' f', (∀ H', LeT H H' → (∀ a ∈ f ++ g, H' a = H a) → Owns K (fun _ => none) H' vs' zs' f') → f'.Nodup → (∀ a ∈ f', a ∈ f ++ g) → St3 K p0 L (upd H p (.lst vs')) E σ (⟨true, .ref p, .lst zs'⟩ :: T) := by
  have S' : St3 K p0 L H E σ (wtemps [.ref p, y] [.lst zs, z] ++ T) := S
  obtain ⟨g, o, nd, fr, k⟩ := S'.outW rfl
  cases o with
  | @cons _ _ _ _ f1 f2 o1 o2 =>
    cases o2 with
    | @cons _ _ _ _ f3 f4 o3 o4 =>
      cases o4
      rw [List.append_nil] at nd fr k
      obtain ⟨q, ws, f5, e1, hq, e2, hs⟩ := own_lstW o1
      cases e1
      subst e2
      rw [hp] at hq
      cases hq
      refine ⟨f5, f3, hs, o3, nd, fun vs' zs' f' ho ndf sub => ?_⟩
      have nd1 := List.nodup_cons.mp nd
      have hm : LeT H (upd H p (.lst vs')) := LeT.mut hp (fun xs z => by cases z)
      have ne : ∀ a ∈ f5 ++ f3, a ≠ p := fun a ha z => by subst z; exact nd1.1 ha
      refine k _ _ _ (p :: f') (S.le.mut (fr p (by simp))) hm (fun a u ha e => ?_) (.lst upd_same (ho _ hm fun a ha => upd_ne (ne a ha))) (List.nodup_cons.mpr ⟨fun h => nd1.1 (sub p h), ndf⟩) fun a ha => ?_
      · rw [upd_ne fun z => ha (by simp [z])]; exact e
      · rcases List.mem_cons.mp ha with rfl | ha
        · exact ⟨fr a (by simp), .inl (by simp)⟩
        · have := sub a ha
          exact ⟨fr a (by simp; exact .inr (List.mem_append.mp this)), .inl (by simp; exact .inr (List.mem_append.mp this))⟩
theorem Owns.up {vs : List V} {ds : List D} {fp : List Addr} (o : Owns K L H vs ds fp) {H' : Hp} (lt : LeT H H') (h : ∀ a ∈ fp, H' a = H a) : Owns K L H' vs ds fp := o.mono (Le.refl _) lt h
/-- one item of a list is another one -/
theorem Owns.set {vs : List V} {ds : List D} {fp g : List Addr} {y : V} {z : D} (o : Owns K L H vs ds fp) (oz : Own K L H y z g) : ∀ {j : Nat}, j < ds.length → ∃ g1 f g2, fp = g1 ++ f ++ g2 ∧ Owns K L H (vs.set j y) (ds.set j z) (g1 ++ g ++ g2) := by
  induction ds generalizing vs fp with
  | nil => intro j hj; simp at hj
  | cons d ds ih =>
    intro j hj
    cases o with
    | @cons v _ vs _ f1 f2 h hs =>
      cases j with
      | zero => exact ⟨[], f1, f2, rfl, .cons oz hs⟩
      | succ j =>
        obtain ⟨g1, f, g2, e, q⟩ := ih hs (j := j) (by simpa using hj)
        exact ⟨f1 ++ g1, f, g2, by rw [e]; simp [List.append_assoc], by simpa [List.append_assoc] using Owns.cons h q⟩
theorem St3.setL {p : Addr} {vs : List V} {zs : List D} {y : V} {z : D} {j : Nat} (S : St3 K p0 L H E σ (⟨true, y, z⟩ :: ⟨true, .ref p, .lst zs⟩ :: T)) (hp : H p = some (.lst vs)) (hj : j < zs.length) : St3 K p0 L (upd H p (.lst (vs.set j y))) E σ (⟨true, .ref p, .lst (zs.set j z)⟩ :: T) := by
  obtain ⟨f, g, o, oz, nd, k⟩ := S.two hp
  obtain ⟨g1, f1, g2, e, r⟩ := o.set oz hj
  have nd1 := (List.nodup_cons.mp nd).2
  have sub : ∀ a ∈ g1 ++ g ++ g2, a ∈ f ++ g := fun a ha => by
    subst e
    simp only [List.mem_append] at ha ⊢
    rcases ha with (ha | ha) | ha
    · exact .inl (.inl (.inl ha))
    · exact .inr ha
    · exact .inl (.inr ha)
  refine k _ _ (g1 ++ g ++ g2) (fun H' lt h => r.up lt fun a ha => h a (sub a ha)) ?_ sub
  subst e
  have pm : (g1 ++ f1 ++ g2 ++ g).Perm (f1 ++ (g1 ++ g ++ g2)) := List.perm_iff_count.mpr fun a => by simp only [List.count_append]; omega
  exact (List.nodup_append.mp (pm.nodup nd1)).2.1
end

/-! ### x[j] = v, x a name that owns -/
def putKD {κ : Type} [DecidableEq κ] (es : List (κ × D)) (k : κ) (z : D) : List (κ × D) :=
  if (es.any fun kv => decide (kv.1 = k)) = true then es.map (fun kv => if kv.1 = k then (kv.1, z) else kv) else es ++ [(k, z)]
section
variable {K : PySem.W.Frag} {p0 : Option Addr} {L H : Hp} {E : Env3} {σ : L2.St} {T : List Ent} {κ : Type} [DecidableEq κ]
theorem any_key {k : κ} : ∀ {kvs : List (κ × V)} {es : List (κ × D)}, kvs.map (·.1) = es.map (·.1) → (kvs.any fun kv => decide (kv.1 = k)) = es.any fun kv => decide (kv.1 = k)
  | [], [], _ => rfl
  | p :: r, q :: s, h => by
    simp only [List.map_cons, List.cons.injEq] at h
    rw [List.any_cons, List.any_cons, h.1, any_key h.2]
  | [], _ :: _, h => by simp at h
  | _ :: _, [], h => by simp at h
theorem mapK_own {k : κ} {y : V} {z : D} (hz : ∀ H', LeT H H' → Own K (fun _ => none) H' y z []) : ∀ {kvs : List (κ × V)} {es : List (κ × D)} {fp : List Addr}, kvs.map (·.1) = es.map (·.1) → Owns K (fun _ => none) H (kvs.map (·.2)) (es.map (·.2)) fp →
    (kvs.map fun kv => if kv.1 = k then (kv.1, y) else kv).map (·.1) = (es.map fun kv => if kv.1 = k then (kv.1, z) else kv).map (·.1) ∧
      ∃ f', (∀ H', LeT H H' → (∀ a ∈ fp, H' a = H a) → Owns K (fun _ => none) H' ((kvs.map fun kv => if kv.1 = k then (kv.1, y) else kv).map (·.2)) ((es.map fun kv => if kv.1 = k then (kv.1, z) else kv).map (·.2)) f') ∧ f'.Sublist fp
  | [], [], _, _, o => by cases o; exact ⟨rfl, [], fun _ _ _ => .nil, List.Sublist.refl _⟩
  | p :: r, q :: s, _, hk, o => by
    simp only [List.map_cons, List.cons.injEq] at hk o
    cases o with
    | @cons _ _ _ _ f g h hs =>
      obtain ⟨ek, f', a1, a2⟩ := mapK_own hz hk.2 hs
      refine ⟨?_, ?_⟩
      · simp only [List.map_cons, List.cons.injEq]
        refine ⟨?_, ek⟩
        rw [hk.1]
        split
        · rfl
        · exact hk.1
      · by_cases e : q.1 = k
        · refine ⟨f', fun H' lt hh => ?_, a2.trans (List.sublist_append_right _ _)⟩
          simp only [List.map_cons, hk.1, if_pos e]
          exact .cons (f := []) (hz H' lt) (a1 H' lt fun a ha => hh a (List.mem_append_right _ ha))
        · refine ⟨f ++ f', fun H' lt hh => ?_, (List.Sublist.refl _).append a2⟩
          simp only [List.map_cons, hk.1, if_neg e]
          exact .cons (h.mono (Le.refl _) lt fun a ha => hh a (List.mem_append_left _ ha)) (a1 H' lt fun a ha => hh a (List.mem_append_right _ ha))
  | [], _ :: _, _, hk, _ => by simp at hk
  | _ :: _, [], _, hk, _ => by simp at hk
/-- a dict's things behind d[k] = z, z without lists -/
theorem putK_own {k : κ} {y : V} {z : D} (hz : ∀ H', LeT H H' → Own K (fun _ => none) H' y z []) {kvs : List (κ × V)} {es : List (κ × D)} {fp : List Addr} (hk : kvs.map (·.1) = es.map (·.1)) (o : Owns K (fun _ => none) H (kvs.map (·.2)) (es.map (·.2)) fp) :
    (putK kvs k y).map (·.1) = (putKD es k z).map (·.1) ∧ ∃ f', (∀ H', LeT H H' → (∀ a ∈ fp, H' a = H a) → Owns K (fun _ => none) H' ((putK kvs k y).map (·.2)) ((putKD es k z).map (·.2)) f') ∧ f'.Sublist fp := by
  unfold putK putKD
  rw [any_key hk]
  split
  · exact mapK_own hz hk o
  · constructor
    · simp [hk]
    · refine ⟨fp, fun H' lt hh => ?_, List.Sublist.refl _⟩
      simp only [List.map_append, List.map_cons, List.map_nil]
      have := (o.up lt hh).append (.one (hz H' lt))
      rw [List.append_nil] at this
      exact this
/-- an own dict takes another content -/
theorem St3.dict {p : Addr} {d d' : D} {o' : HO} {u : HO} (S : St3 K p0 L H E σ (⟨true, .ref p, d⟩ :: T)) (hp : H p = some u) (hu : ∀ xs, u ≠ .tup xs) (hd : ∀ f, Own K (fun _ => none) H (.ref p) d f → ∃ f0, f = p :: f0 ∧ ∃ f', (∀ H', LeT H H' → (∀ a ∈ f0, H' a = H a) → H' p = some o' → Own K (fun _ => none) H' (.ref p) d' (p :: f')) ∧ f'.Sublist f0) :
    St3 K p0 L (upd H p o') E σ (⟨true, .ref p, d'⟩ :: T) := by
  have S' : St3 K p0 L H E σ (wtemps [.ref p] [d] ++ T) := S
  obtain ⟨g, o, nd, fr, k⟩ := S'.outW rfl
  cases o with
  | @cons _ _ _ _ f1 f2 o1 o2 =>
    cases o2
    rw [List.append_nil] at nd fr k
    obtain ⟨f0, rfl, f', a1, a2⟩ := hd _ o1
    have nd1 := List.nodup_cons.mp nd
    have hm : LeT H (upd H p o') := LeT.mut hp hu fun ob v z => by
      obtain ⟨w, ew, _, nf⟩ := o1.there p List.mem_cons_self
      rw [hp] at ew
      cases ew
      exact nf ob v z
    refine k _ _ _ (p :: f') (S.le.mut (fr p List.mem_cons_self)) hm (fun a w ha e => ?_) (a1 _ hm (fun a ha => upd_ne fun z => by subst z; exact nd1.1 ha) upd_same) (List.nodup_cons.mpr ⟨fun h => nd1.1 (a2.subset h), nd1.2.sublist a2⟩) fun a ha => ?_
    · rw [upd_ne fun z => ha (by simp [z])]; exact e
    · rcases List.mem_cons.mp ha with rfl | ha
      · exact ⟨fr a List.mem_cons_self, .inl List.mem_cons_self⟩
      · exact ⟨fr a (List.mem_cons_of_mem _ (a2.subset ha)), .inl (List.mem_cons_of_mem _ (a2.subset ha))⟩
end
/-- d[j] = z -/
def dSet (d j z : D) : Option D := match d with
  | .lst ds => (match j with
    | .int i => (ixN ds.length i).map fun n => .lst (ds.set n z)
    | _ => none)
  | .dK es => if z.lf && decide (es.length < 10000000) then (keyOf j).map fun k => .dK (putKD es k z) else none
  | .dT es => if z.lf && decide (es.length < 10000000) then (keyT j).map fun k => .dT (putKD es k z) else none
  | _ => none
theorem ixN_lt {n : Nat} {i : Int} {j : Nat} (h : ixN n i = some j) : j < n := (ixN_seq h).2.1
theorem PSet.or {X : Cx} {t t' : TSet} (h : PSet X t) (h' : PSet X t') : PSet X (fun o i v H Q => t o i v H Q ∨ t' o i v H Q) := fun pins s σ H o i v ov iv u Q I r1 r2 r3 q => q.elim (fun q => h pins s σ H o i v ov iv u Q I r1 r2 r3 q) fun q => h' pins s σ H o i v ov iv u Q I r1 r2 r3 q
theorem set_dict {X : Cx} (hu : X.A.units + 1 < cLine) : PSet X (fun o i v H Q => ∃ a H', o = .ref a ∧ DPut H a i v H' ∧ Q H') := fun pins s σ H o i v ov iv u Q I r1 r2 r3 q => by
  obtain ⟨a, H', rfl, g, q⟩ := q
  obtain rfl : ov = Value.ref a := r1
  exact d_setItem hu I g r2 r3 fun s' I' => ⟨H', I', q⟩
theorem lt_line {n : Nat} (h : n < 10000000) : n < sizeLine := by rw [sizeLine_eq]; omega
/-- what the store does -/
theorem set_ok {K : PySem.W.Frag} {L H : Hp} {E : Env3} {σ : L2.St} {T : List Ent} {x w y : V} {d j z d' : D} (S : St3 K none L H E σ (⟨true, y, z⟩ :: ⟨true, x, d⟩ :: T)) (hj : Rdb K H w j) (e : dSet d j z = some d') (Q : Hp → Prop) (k : ∀ H', St3 K none L H' E σ (⟨true, x, d'⟩ :: T) → Q H') :
    rSetL x w y H Q ∨ ∃ a H', x = .ref a ∧ DPut H a w y H' ∧ Q H' := by
  have S1 : St3 K none L H E σ (⟨true, x, d⟩ :: ⟨true, y, z⟩ :: T) := S.perm (.swap _ _ _)
  obtain ⟨f, g, o, _⟩ := S1.temps.ownW
  obtain ⟨f2, g2, oz, _⟩ := S.temps.ownW
  unfold dSet at e
  cases d <;> simp only [reduceCtorEq] at e
  · rename_i ds
    split at e
    · rename_i i
      rw [Option.map_eq_some_iff] at e
      obtain ⟨n, e1, rfl⟩ := e
      obtain ⟨p, vs, f3, rfl, hp, _, ho⟩ := own_lstW o
      rw [own_is_int hj]
      refine .inl ⟨p, vs, i, n, rfl, rfl, hp, by rw [ho.len]; exact e1, k _ (S.setL hp (ixN_lt e1))⟩
    · cases e
  · rename_i es
    split at e
    · rename_i hc
      rw [Bool.and_eq_true] at hc
      rw [Option.map_eq_some_iff] at e
      obtain ⟨key, e1, rfl⟩ := e
      cases o with
      | dKb h _ _ => exact (h.elim (fun z => nomatch z) fun ⟨_, z⟩ => nomatch z)
      | @dK p kvs _ fp h hk hs =>
        rw [own_key hj e1]
        have hlen : kvs.length < sizeLine := by
          have := congrArg List.length hk
          simp at this
          rw [this]; exact lt_line (of_decide_eq_true hc.2)
        refine .inr ⟨p, _, rfl, .inl ⟨kvs, key, h, rfl, hlen, rfl⟩, k _ ?_⟩
        refine (S1.perm (.swap _ _ _)).pop.dict h (fun xs z => by cases z) fun f1 o1 => ?_
        cases o1 with
        | dKb h _ _ => exact (h.elim (fun z => nomatch z) fun ⟨_, z⟩ => nomatch z)
        | @dK _ kvs' _ fp' h' hk' hs' =>
          rw [h] at h'
          cases h'
          obtain ⟨q1, f', q2, q3⟩ := putK_own (k := key) (y := y) (fun H' lt => (oz.free (M := fun _ => none) hc.1).2.mono (Le.refl _) lt (by simp)) hk' hs'
          exact ⟨fp', rfl, f', fun H' lt hh hp => .dK hp q1 (q2 H' lt hh), q3⟩
    · cases e
  · rename_i es
    split at e
    · rename_i hc
      rw [Bool.and_eq_true] at hc
      rw [Option.map_eq_some_iff] at e
      obtain ⟨key, e1, rfl⟩ := e
      unfold keyT at e1
      split at e1
      · rename_i ks
        cases hj with
        | tup hb hbs =>
          have ev := owns_keys hbs e1
          subst ev
          cases o with
          | dTb h _ _ => exact (h.elim (fun z => nomatch z) fun ⟨_, z⟩ => nomatch z)
          | @dT p kvs _ fp h hk hs =>
            have hlen : kvs.length < sizeLine := by
              have := congrArg List.length hk
              simp at this
              rw [this]; exact lt_line (of_decide_eq_true hc.2)
            refine .inr ⟨p, _, rfl, .inr ⟨kvs, key, _, h, rfl, hb, hlen, rfl⟩, k _ ?_⟩
            refine (S1.perm (.swap _ _ _)).pop.dict h (fun xs z => by cases z) fun f1 o1 => ?_
            cases o1 with
            | dTb h _ _ => exact (h.elim (fun z => nomatch z) fun ⟨_, z⟩ => nomatch z)
            | @dT _ kvs' _ fp' h' hk' hs' =>
              rw [h] at h'
              cases h'
              obtain ⟨q1, f', q2, q3⟩ := putK_own (k := key) (y := y) (fun H' lt => (oz.free (M := fun _ => none) hc.1).2.mono (Le.refl _) lt (by simp)) hk' hs'
              exact ⟨fp', rfl, f', fun H' lt hh hp => .dT hp q1 (q2 H' lt hh), q3⟩
      · cases e1
    · cases e
section
variable {Y : Cy} {e a b : Expr} {es : List Expr} {f g : Sm D} {pos : Pos}
def mSetIt (f : Sm D) (i : Nat) (g : Sm D) : Sm Fl := Sm.b f fun z => Sm.b (mRef i) fun _ => Sm.b g fun j => fun E => match E[i]? with
  | some (.w d) => (match dSet d j z with
    | some d' => .ok .next (E.set i (.w d'))
    | none => .bad)
  | _ => .bad
theorem vs_setIt {x : Str} {k : Bool} (i : Nat) {p1 p2 : Pos} (hu : Y.X.A.units + 1 < cLine) (h : VE Y true e f) (hj : VE Y k b g) (hN : Y.X.N[i]? = some x := by rfl) (hv : Vis Y.X.env.scope x := by first | exact Or.inl rfl | exact Or.inr (Or.inl rfl) | exact Or.inr (Or.inr rfl))
    (hd : (x == ("__debug__" : Str)) = false := by decide) (hcd : (x == ("__classdict__" : Str)) = false := by decide)
    (ha : ∀ v, assign (.Subscript (.Name x p1) b p2) Y.X.env v = (do
      let ov ← holding [v] (eval (.Name x p1) Y.X.env)
      let iv ← holding [v, ov] (eval b Y.X.env)
      standAt p2
      holding [v, ov, iv] (setItem ov iv v)
      release [v, ov, iv] []) := by intro _; rfl)
    (hs : swapsWithSole [.Subscript (.Name x p1) b p2] e pos.line Y.X.env = pure false := by rfl) (hw : swappedStores [.Subscript (.Name x p1) b p2] e Y.X.env = pure none := by rfl)
    (h1 : (assignEach [.Subscript (.Name x p1) b p2] Y.X.env).map (·.2) = [assign (.Subscript (.Name x p1) b p2) Y.X.env] := by rfl) : VS Y (.Assign [.Subscript (.Name x p1) b p2] e pos) (mSetIt f i g) := by
  obtain ⟨t, pt, h⟩ := h
  obtain ⟨u, pu, hj⟩ := hj
  refine ⟨_, ps_asg pt (pg_sub (pe_var (i := i) hN hv hd hcd) pu (PSet.or set_list (set_dict hu)) ha) hs hw h1, fun L H E σ T D S G => h L H E σ T _ S (G.bind.ex σ fun z E1 G1 y L1 H1 l1 S1 => ?_)⟩
  have G0 := GdS.bind G1
  unfold mRef at G0
  split at G0
  · rename_i hk
    obtain ⟨d0, e0⟩ := Option.isSome_iff_exists.mp hk
    obtain ⟨v, v1, v2⟩ := S1.look e0
    refine ⟨v, v1, hj L1 H1 E1 σ _ _ S1 (((GdS.bind (S := sS Y L T D) G0).ex σ fun j E2 G2 => G2).temp l1 fun j E2 G2 w L2 H2 l2 S2 => ?_)⟩
    split at G2
    · rename_i d e2
      split at G2
      · rename_i d' e3
        obtain ⟨v', w1, S3⟩ := S2.take e2
        rw [v1] at w1; cases w1
        have hr : Rdb Y.K H2 w j := S2.rdb
        have S4 : St3 Y.K none L2 H2 (E2.set i .no) σ (⟨true, y, z⟩ :: ⟨true, v, d⟩ :: T) := (S3.perm (.swap _ _ _)).pop.perm (.swap _ _ _)
        refine set_ok S4 hr e3 _ fun H3 S5 => ?_
        exact G2 σ L2 H3 (l1.trans l2) (S2.pop.pop.back e2 v1 S5)
      · exact G2.elim
    · exact G2.elim
  · exact G0.elim
end
end P3
end
section
set_option exponentiation.threshold 256
set_option Elab.async false
set_option linter.all false
set_option maxRecDepth 100000
set_option maxHeartbeats 2000000
set_option autoImplicit false
/-! P3, part j: builtins, slices, defs -/
namespace P3
open PySem PySem.Spec PyProof.Rows L2

section
variable {X : Cx}
theorem owns1 {K : PySem.W.Frag} {L H : Hp} {vs : List V} {d : D} (o : Owns K L H vs [d] []) : ∃ v, vs = [v] ∧ Own K L H v d [] := by
  obtain ⟨v, e, q⟩ := o.get0 (i := 0) rfl
  have hl := o.len
  match vs, hl with
  | [w], _ => simp at e; subst e; exact ⟨w, rfl, q⟩
theorem owns2 {K : PySem.W.Frag} {L H : Hp} {vs : List V} {d e : D} (o : Owns K L H vs [d, e] []) : ∃ v w, vs = [v, w] ∧ Own K L H v d [] ∧ Own K L H w e [] := by
  obtain ⟨v, e1, q⟩ := o.get0 (i := 0) rfl
  obtain ⟨w, e2, r⟩ := o.get0 (i := 1) rfl
  have hl := o.len
  match vs, hl with
  | [a, b], _ => simp at e1 e2; subst e1 e2; exact ⟨a, b, rfl, q, r⟩
/-- a sequence's items -/
def itemsOf : D → Option (List D)
  | .lst ds => some ds
  | .clst ds => some ds
  | .flst ds => some ds
  | .tup ds => some ds
  | .ctup ds => some ds
  | _ => none
theorem own_seq {K : PySem.W.Frag} {L H : Hp} {v : V} {d : D} {ds : List D} (o : Own K L H v d []) (hL : Le L H) (e : itemsOf d = some ds) : ∃ p vs, v = .ref p ∧ Owns K L H vs ds [] ∧ ((SqL K H p vs ∧ (d = .lst ds ∨ d = .clst ds ∨ d = .flst ds)) ∨ (SqT K H p vs ∧ (d = .tup ds ∨ d = .ctup ds))) := by
  cases d <;> simp only [itemsOf, Option.some.injEq, reduceCtorEq] at e
  · subst e; cases o with | tup h hs => exact ⟨_, _, rfl, hs, .inr ⟨SqT.of h, .inl rfl⟩⟩
  · subst e; cases o with | bor h hs => exact ⟨_, _, rfl, hs, .inl ⟨.inl (hL.rd h), .inl rfl⟩⟩
  · subst e; cases o with | ctup h hs => exact ⟨_, _, rfl, hs, .inr ⟨SqT.mono h, .inr rfl⟩⟩
  · subst e; cases o with | clst h hs => exact ⟨_, _, rfl, hs, .inl ⟨leEmpty.sqL h, .inr (.inl rfl)⟩⟩
  · subst e; cases o with | flst h hs => exact ⟨_, _, rfl, hs, .inl ⟨.inl (.inr h), .inr (.inr rfl)⟩⟩
def dLen : List D → Option D
  | [.str x] => if x.length ≤ 1000000 then some (.int x.length) else none
  | [d] => (itemsOf d).map fun ds => .int ds.length
  | _ => none
theorem cg_len : CallG X (.builtin "len") dLen := by
  intro pins s σ H xs us ds z Q I r o e k
  unfold dLen at e
  split at e
  · split at e
    · rename_i hz
      cases e
      obtain ⟨v, rfl, o1⟩ := owns1 o
      cases o1
      exact call_len pins s σ H _ us Q I r ⟨_, _, rfl, ⟨Nat.le_trans hz (by decide), rfl⟩, k.plain (own_int _)⟩
    · cases e
  · rw [Option.map_eq_some_iff] at e
    obtain ⟨ys, e1, rfl⟩ := e
    obtain ⟨v, rfl, o1⟩ := owns1 o
    obtain ⟨p, vs, rfl, os, h⟩ := own_seq o1 (Le.refl _) e1
    refine call_len pins s σ H _ us Q I r ⟨_, ys.length, rfl, ?_, k.plain (own_int _)⟩
    rcases h with ⟨h, _⟩ | ⟨h, _⟩
    · exact .inl ⟨vs, h, os.len.symm⟩
    · exact .inr ⟨vs, h, os.len.symm⟩
  · cases e
def dAbs : List D → Option D
  | [.int i] => some (.int (if i < 0 then -i else i))
  | _ => none
theorem cg_abs : CallG X (.builtin "abs") dAbs := by
  intro pins s σ H xs us ds z Q I r o e k
  unfold dAbs at e
  split at e
  · cases e
    obtain rfl := owns_int1 o
    exact call_abs pins s σ H _ us Q I r ⟨_, rfl, k.plain (own_int _)⟩
  · cases e
def dInt1 : List D → Option D
  | [.int i] => some (.int i)
  | [.bl b] => some (.int (if b then 1 else 0))
  | _ => none
theorem cg_int : CallG X (.type "int") dInt1 := by
  intro pins s σ H xs us ds z Q I r o e k
  unfold dInt1 at e
  split at e
  · cases e
    obtain rfl := owns_int1 o
    exact call_int1 pins s σ H _ us Q I r (.inl ⟨_, rfl, k.plain (own_int _)⟩)
  · cases e
    obtain ⟨v, rfl, o1⟩ := owns1 o
    cases o1
    exact call_int1 pins s σ H _ us Q I r (.inr ⟨_, rfl, k.plain (own_int _)⟩)
  · cases e
def dMax2 : List D → Option D
  | [.int i, .int j] => some (.int (if j > i then j else i))
  | _ => none
def dMin2 : List D → Option D
  | [.int i, .int j] => some (.int (if j < i then j else i))
  | _ => none
theorem cg_max2 (hc : X.calm = true) : CallG X (.builtin "max") dMax2 := by
  intro pins s σ H xs us ds z Q I r o e k
  unfold dMax2 at e
  split at e
  · cases e
    obtain rfl := owns_int2 o
    exact call_max2 hc pins s σ H _ us Q I r ⟨_, _, rfl, k.plain (own_int _)⟩
  · cases e
theorem cg_min2 (hc : X.calm = true) : CallG X (.builtin "min") dMin2 := by
  intro pins s σ H xs us ds z Q I r o e k
  unfold dMin2 at e
  split at e
  · cases e
    obtain rfl := owns_int2 o
    exact call_min2 hc pins s σ H _ us Q I r ⟨_, _, rfl, k.plain (own_int _)⟩
  · cases e
/-- all ints, all bools -/
def allInt : List D → Option (List Int)
  | [] => some []
  | .int i :: ds => (allInt ds).map (i :: ·)
  | _ => none
def allBl : List D → Option (List Bool)
  | [] => some []
  | .bl b :: ds => (allBl ds).map (b :: ·)
  | _ => none
theorem allInt_eq : ∀ {ds : List D} {ns : List Int}, allInt ds = some ns → ds = ns.map .int
  | [], _, e => by simp [allInt] at e; subst e; rfl
  | d :: ds, _, e => by
    cases d <;> simp only [allInt, reduceCtorEq] at e
    rw [Option.map_eq_some_iff] at e
    obtain ⟨ns, e1, rfl⟩ := e
    rw [allInt_eq e1]; rfl
theorem allBl_eq : ∀ {ds : List D} {ns : List Bool}, allBl ds = some ns → ds = ns.map .bl
  | [], _, e => by simp [allBl] at e; subst e; rfl
  | d :: ds, _, e => by
    cases d <;> simp only [allBl, reduceCtorEq] at e
    rw [Option.map_eq_some_iff] at e
    obtain ⟨ns, e1, rfl⟩ := e
    rw [allBl_eq e1]; rfl
theorem owns_ints {K : PySem.W.Frag} {L H : Hp} : ∀ {ns : List Int} {vs : List V} {fp : List Addr}, Owns K L H vs (ns.map .int) fp → vs = ns.map V.int
  | [], _, _, o => by cases o; rfl
  | n :: ns, _, _, o => by cases o with | cons h hs => cases h; rw [owns_ints hs]; rfl
theorem owns_bls {K : PySem.W.Frag} {L H : Hp} : ∀ {ns : List Bool} {vs : List V} {fp : List Addr}, Owns K L H vs (ns.map .bl) fp → vs = ns.map V.bl
  | [], _, _, o => by cases o; rfl
  | n :: ns, _, _, o => by cases o with | cons h hs => cases h; rw [owns_bls hs]; rfl
def lstIts : D → Option (List D)
  | .lst ds => some ds
  | .clst ds => some ds
  | .flst ds => some ds
  | _ => none
theorem own_lsts {K : PySem.W.Frag} {H : Hp} {v : V} {d : D} {ds : List D} (o : Own K H H v d []) (e : lstIts d = some ds) : ∃ p vs, v = .ref p ∧ Owns K H H vs ds [] ∧ SqL K H p vs := by
  cases d <;> simp only [lstIts, Option.some.injEq, reduceCtorEq] at e
  · subst e; cases o with | bor h hs => exact ⟨_, _, rfl, hs, .inl h⟩
  · subst e; cases o with | clst h hs => exact ⟨_, _, rfl, hs, leEmpty.sqL h⟩
  · subst e; cases o with | flst h hs => exact ⟨_, _, rfl, hs, .inl (.inr h)⟩
def one {α β : Type} (f : α → Option β) : List α → Option β
  | [x] => f x
  | _ => none
theorem one_some {α β : Type} {f : α → Option β} {l : List α} {z : β} (h : one f l = some z) : ∃ x, l = [x] ∧ f x = some z := by
  unfold one at h
  split at h
  · exact ⟨_, rfl, h⟩
  · cases h
def dSum : List D → Option D := one fun d => (lstIts d).bind fun ds => (allInt ds).map fun ns => .int ns.sum
def dAll : List D → Option D := one fun d => (lstIts d).bind fun ds => (allBl ds).map fun ns => .bl (ns.all id)
def dAny : List D → Option D := one fun d => (lstIts d).bind fun ds => (allBl ds).map fun ns => .bl (ns.any id)
theorem cg_sum (hc : X.calm = true) : CallG X (.builtin "sum") dSum := by
  intro pins s σ H xs us ds z Q I r o e k
  obtain ⟨d, rfl, e⟩ := one_some e
  obtain ⟨ys, e1, e⟩ := Option.bind_eq_some_iff.mp e
  obtain ⟨ns, e2, rfl⟩ := Option.map_eq_some_iff.mp e
  obtain ⟨v, rfl, o1⟩ := owns1 o
  obtain ⟨p, vs, rfl, os, h⟩ := own_lsts o1 e1
  rw [allInt_eq e2] at os
  exact cr_sum hc pins s σ H _ us Q I r ⟨p, ns, rfl, by rw [← owns_ints os]; exact h, k.plain (own_int _)⟩
theorem cg_all (hc : X.calm = true) : CallG X (.builtin "all") dAll := by
  intro pins s σ H xs us ds z Q I r o e k
  obtain ⟨d, rfl, e⟩ := one_some e
  obtain ⟨ys, e1, e⟩ := Option.bind_eq_some_iff.mp e
  obtain ⟨ns, e2, rfl⟩ := Option.map_eq_some_iff.mp e
  obtain ⟨v, rfl, o1⟩ := owns1 o
  obtain ⟨p, vs, rfl, os, h⟩ := own_lsts o1 e1
  rw [allBl_eq e2] at os
  exact cr_all hc pins s σ H _ us Q I r ⟨p, ns, rfl, by rw [← owns_bls os]; exact h, k.plain (own_bl _)⟩
theorem cg_any (hc : X.calm = true) : CallG X (.builtin "any") dAny := by
  intro pins s σ H xs us ds z Q I r o e k
  obtain ⟨d, rfl, e⟩ := one_some e
  obtain ⟨ys, e1, e⟩ := Option.bind_eq_some_iff.mp e
  obtain ⟨ns, e2, rfl⟩ := Option.map_eq_some_iff.mp e
  obtain ⟨v, rfl, o1⟩ := owns1 o
  obtain ⟨p, vs, rfl, os, h⟩ := own_lsts o1 e1
  rw [allBl_eq e2] at os
  exact cr_any hc pins s σ H _ us Q I r ⟨p, ns, rfl, by rw [← owns_bls os]; exact h, k.plain (own_bl _)⟩
def dTuple : List D → Option D := one fun d => match d with
  | .lst ds => if lfs ds then some (.tup ds) else none
  | .clst ds => if lfs ds then some (.tup ds) else none
  | .flst ds => if lfs ds then some (.tup ds) else none
  | .tup ds => if lfs ds then some (.tup ds) else none
  | _ => none
theorem cg_tuple : CallG X (.type "tuple") dTuple := by
  intro pins s σ H xs us ds z Q I r o e0 k
  obtain ⟨d, rfl, e⟩ := one_some e0
  clear e0
  obtain ⟨v, rfl, o1⟩ := owns1 o
  split at e
  · split at e
    · rename_i ys hf
      cases e
      obtain ⟨p, vs, rfl, os, h⟩ := own_lsts o1 rfl
      exact call_tuple_of pins s σ H _ us Q I r ⟨p, vs, rfl, .inl ⟨h, fun l hl => k.newT os hf hl⟩⟩
    · cases e
  · split at e
    · rename_i ys hf
      cases e
      obtain ⟨p, vs, rfl, os, h⟩ := own_lsts o1 rfl
      exact call_tuple_of pins s σ H _ us Q I r ⟨p, vs, rfl, .inl ⟨h, fun l hl => k.newT os hf hl⟩⟩
    · cases e
  · split at e
    · rename_i ys hf
      cases e
      obtain ⟨p, vs, rfl, os, h⟩ := own_lsts o1 rfl
      exact call_tuple_of pins s σ H _ us Q I r ⟨p, vs, rfl, .inl ⟨h, fun l hl => k.newT os hf hl⟩⟩
    · cases e
  · split at e
    · rename_i ys hf
      cases e
      obtain ⟨p, vs, rfl, os, h⟩ := own_seq o1 (Le.refl _) rfl
      rcases h with ⟨h, h2⟩ | ⟨h, _⟩
      · rcases h2 with h2 | h2 | h2 <;> cases h2
      · exact call_tuple_of pins s σ H _ us Q I r ⟨p, vs, rfl, .inr ⟨h, k.lfree o1 (by simpa [D.lf] using hf)⟩⟩
    · cases e
  · cases e
def dList : List D → Option D := one fun d => (itemsOf d).bind fun ds => if lfs ds then some (.lst ds) else none
theorem cg_list : CallG X (.type "list") dList := by
  intro pins s σ H xs us ds z Q I r o e k
  obtain ⟨d, rfl, e⟩ := one_some e
  obtain ⟨ys, e1, e⟩ := Option.bind_eq_some_iff.mp e
  obtain ⟨v, rfl, o1⟩ := owns1 o
  split at e
  · rename_i hf
    cases e
    obtain ⟨p, vs, rfl, os, h⟩ := own_seq o1 (Le.refl _) e1
    refine call_list_of pins s σ H _ us Q I r ⟨p, vs, rfl, ?_, fun l hl => k.newL os hf hl⟩
    rcases h with ⟨h, _⟩ | ⟨h, _⟩
    · exact .inl h
    · exact .inr h
  · cases e
end

/-! ### isinstance -/
def tyD : D → Option String
  | .non => some "NoneType"
  | .bl _ => some "bool"
  | .int _ => some "int"
  | .str _ => some "str"
  | .tup _ => some "tuple"
  | .ctup _ => some "tuple"
  | .lst _ => some "list"
  | .clst _ => some "list"
  | .flst _ => some "list"
  | _ => none
theorem own_ty {K : PySem.W.Frag} {H : Hp} {v : V} {d : D} {T : String} (o : Own K H H v d []) (e : tyD d = some T) : TyX K H v (.type T) := by
  cases d <;> simp only [tyD, Option.some.injEq, reduceCtorEq] at e <;> subst e
  · cases o; exact .base .non
  · cases o; exact .base (.bl _)
  · cases o; exact .base (.int _)
  · cases o; exact .base (.str _)
  · cases o with | tup h hs => exact .base (.tup h)
  · cases o with
    | bor h hs => rcases h with h | ⟨ob, h⟩
                  · exact .base (.lst h)
                  · exact .base (.frz h)
  · cases o with | ctup h hs => rcases h with h | ⟨ob, its, n, h1, h2, _⟩
                                · rcases h with h | ⟨_, h⟩ <;> cases h
                                · exact .kTuple h1 h2
  · cases o with | clst h hs => rcases h with h | ⟨ob, its, n, h1, h2, _⟩
                                · rcases h with h | ⟨_, h⟩ <;> cases h
                                · exact .kList h1 h2
  · cases o with | flst h hs => obtain ⟨ob, h⟩ := h; exact .base (.frz h)
/-- whether a thing of type a is one of type b -/
def isTy (a b : String) : Bool := decide (a = b) || (decide (a = "bool") && decide (b = "int"))
def dIsi (T : String) (d : D) : Option D := (tyD d).map fun a => .bl (isTy a T)
section
variable {Y : Cy} {e : Expr} {f : Sm D} {fa : Sm Arg} {pos p q : Pos}
def kitAll (b : String) : Bool := ["NoneType", "bool", "int", "str", "tuple", "list"].all fun a => decide (kitB a b = some (isTy a b))
theorem kitAll_at {a b : String} (h : kitAll b = true) {d : D} (e : tyD d = some a) : kitB a b = some (isTy a b) := by
  have m : a ∈ ["NoneType", "bool", "int", "str", "tuple", "list"] := by
    cases d <;> simp only [tyD, Option.some.injEq, reduceCtorEq] at e <;> subst e <;> decide
  exact of_decide_eq_true (List.all_eq_true.mp h a m)
/-- one operand, read at once -/
theorem VR.one {L H : Hp} {E : Env3} {σ : L2.St} {T : List Ent} {ta : TE} (ha : ∀ L H E σ T Q, St3 Y.K Y.p0 L H E σ T → Gd Y L σ T (sR Y L σ T Q) (fa E) → ta σ H Q) {Q : VK} (S : St3 Y.K Y.p0 L H E σ T)
    (G : Gd Y L σ T (fun x E' => ∀ d, x.get E' = some d → ∀ v L' H', Le L L' → St3 Y.K Y.p0 L' H' E' σ T → Rdb Y.K H' v d → Q v H') (fa E)) (hg : ∀ x E', fa E = .ok x E' → (x.get E').isSome = true) : ta σ H Q := by
  refine ha L H E σ T Q S ?_
  cases e : fa E with
  | bad => rw [e] at G; exact G
  | exc x E1 => rw [e] at G; exact G
  | ok x E1 =>
    rw [e] at G
    cases x with
    | val d => exact fun k v L' H' l S' => G d rfl v L' H' l S'.pop S'.rdb
    | ref i =>
      intro v L' H' l S' hv
      obtain ⟨d, ed⟩ := Option.isSome_iff_exists.mp (hg _ _ e)
      exact G d ed v L' H' l S' (arg_rdb S' hv ed)
def mIsi (T : String) (f : Sm D) : Sm D := Sm.b f fun d => Sm.o (dIsi T d)
/-- isinstance(e, T) -/
theorem ve_isi {x T : Str} {Ty : String} (hm : Y.X.mg "isinstance" = none) (h : VO Y e f) (hmT : Y.X.mg T = none) (hvT : bootBuiltins T = some (.type Ty)) (hk : kitAll Ty = true := by decide +kernel) (hg : Gl Y.X "isinstance" := by rfl) (hgT : Gl Y.X T := by rfl) (hn : T ≠ "__name__" := by decide) (hd : (T == ("__debug__" : Str)) = false := by decide)
    (hs : starEach [e, .Name T q] Y.X.env = (false, eval e Y.X.env) :: starEach [.Name T q] Y.X.env := by rfl) (hs2 : starEach [.Name T q] Y.X.env = (false, eval (.Name T q) Y.X.env) :: starEach [] Y.X.env := by rfl)
    (hpl : (backTo pos (starEach [.Name T q] Y.X.env)).any (·.1) = false := by rfl) : VE Y false (.Call (.Name "isinstance" p) [e, .Name T q] [] pos) (mIsi Ty f) := by
  obtain ⟨t, pt, h⟩ := h
  refine ⟨_, pe_callB call_isi hg hm (by decide +kernel) (pa_cons pt (pa_cons (pe_bltn (v := .ty Ty) hgT hmT hvT rfl hn hd) pa_nil hs2) hs) (by decide) (by decide) hs hpl, fun L H E σ T' Q S G => h L H E σ T' _ S (G.bind.imp fun d E1 G1 v L1 H1 l1 S1 ow => ?_)⟩
  obtain ⟨z, e1, G2⟩ := G1.opt
  unfold dIsi at e1
  obtain ⟨a, e2, rfl⟩ := Option.map_eq_some_iff.mp e1
  exact ⟨v, .ty Ty, _, _, _, rfl, .ty Ty, own_ty ow e2, kit_ty (kitAll_at hk e2), G2 _ L1 H1 l1 (S1.push (.bl _))⟩
def dIsi2 (T U : String) (d : D) : Option D := (tyD d).map fun a => .bl (isTy a T || isTy a U)
def mIsi2 (T U : String) (f : Sm D) : Sm D := Sm.b f fun d => Sm.o (dIsi2 T U d)
/-- isinstance(e, (T, U)) -/
theorem ve_isi2 {T U : Str} {Ty Uy : String} {q2 q3 : Pos} {kk} (hm : Y.X.mg "isinstance" = none) (h : VE Y false e f) (hmT : Y.X.mg T = none) (hvT : bootBuiltins T = some (.type Ty)) (hmU : Y.X.mg U = none) (hvU : bootBuiltins U = some (.type Uy)) (hk : kitAll Ty = true := by decide +kernel) (hk2 : kitAll Uy = true := by decide +kernel)
    (hg : Gl Y.X "isinstance" := by rfl) (hgT : Gl Y.X T := by rfl) (hgU : Gl Y.X U := by rfl) (hn : T ≠ "__name__" := by decide) (hd : (T == ("__debug__" : Str)) = false := by decide) (hn2 : U ≠ "__name__" := by decide) (hd2 : (U == ("__debug__" : Str)) = false := by decide)
    (hs : starEach [e, .Tuple [.Name T q, .Name U q2] kk q3] Y.X.env = (false, eval e Y.X.env) :: starEach [.Tuple [.Name T q, .Name U q2] kk q3] Y.X.env := by rfl)
    (hs2 : starEach [.Tuple [.Name T q, .Name U q2] kk q3] Y.X.env = (false, eval (.Tuple [.Name T q, .Name U q2] kk q3) Y.X.env) :: starEach [] Y.X.env := by rfl)
    (hs3 : starEach [.Name T q, .Name U q2] Y.X.env = (false, eval (.Name T q) Y.X.env) :: starEach [.Name U q2] Y.X.env := by rfl) (hs4 : starEach [.Name U q2] Y.X.env = (false, eval (.Name U q2) Y.X.env) :: starEach [] Y.X.env := by rfl)
    (hpl : (backTo pos (starEach [.Tuple [.Name T q, .Name U q2] kk q3] Y.X.env)).any (·.1) = false := by rfl) : VE Y false (.Call (.Name "isinstance" p) [e, .Tuple [.Name T q, .Name U q2] kk q3] [] pos) (mIsi2 Ty Uy f) := by
  obtain ⟨t, pt, h⟩ := h
  refine ⟨_, pe_callB call_isiT hg hm (by decide +kernel) (pa_cons pt (pa_cons (pe_tup (pa_cons (pe_bltn (v := .ty Ty) hgT hmT hvT rfl hn hd) (pa_cons (pe_bltn (v := .ty Uy) hgU hmU hvU rfl hn2 hd2) pa_nil hs4) hs3)) pa_nil hs2) hs) (by decide) (by decide) hs hpl,
    fun L H E σ T' Q S G => h L H E σ T' _ S (G.bind.imp fun d E1 G1 v L1 H1 l1 S1 => ?_)⟩
  obtain ⟨z, e1, G2⟩ := G1.opt
  unfold dIsi2 at e1
  obtain ⟨a, e2, rfl⟩ := Option.map_eq_some_iff.mp e1
  refine ⟨sz1000 (by simp), fun tp htp => ?_⟩
  have S2 := S1.grow (Le.new (o := .tup [.ty Ty, .ty Uy]) htp)
  refine ⟨v, tp, [.ty Ty, .ty Uy], .type a, [.type Ty, .type Uy], isTy a Ty || isTy a Uy, rfl, upd_same, .cons (.ty _) (.cons (.ty _) .nil), own_ty S2.rdb e2, ?_, G2 _ L1 _ l1 (S2.pop.push (.bl _))⟩
  refine kitAny_cons (kit_ty (kitAll_at hk e2)) (fun hb => ?_) (fun hb => by rw [hb]; rfl)
  rw [hb, Bool.false_or]
  exact kitAny_cons (kit_ty (kitAll_at hk2 e2)) (fun hb => by rw [hb]; exact kitAny_nil) (fun hb => hb)
end
end P3
end
section
set_option exponentiation.threshold 256
set_option Elab.async false
set_option linter.all false
set_option maxRecDepth 100000
set_option maxHeartbeats 2000000
set_option autoImplicit false
/-! P3, part k: slices, +, append and its like, defs -/
namespace P3
open PySem PySem.Spec PyProof.Rows L2

/-! ### slices -/
def cutL (ds : List D) (lo hi : Option Int) : List D := (ds.drop (HT.sIx ds.length 0 lo)).take (HT.sIx ds.length ds.length hi - HT.sIx ds.length 0 lo)
def dSl (d : D) (lo hi : Option Int) : Option D := match d with
  | .lst ds => if lfs (cutL ds lo hi) then some (.lst (cutL ds lo hi)) else none
  | .clst ds => if lfs (cutL ds lo hi) then some (.lst (cutL ds lo hi)) else none
  | .flst ds => if lfs (cutL ds lo hi) then some (.lst (cutL ds lo hi)) else none
  | .tup ds => if lfs ds then some (.tup (cutL ds lo hi)) else none
  | .str x => if x.length ≤ 1000000 then some (.str (cutS x lo hi)) else none
  | _ => none
theorem lfs_take : ∀ {ds : List D} {n : Nat}, lfs ds = true → lfs (ds.take n) = true
  | [], _, _ => by simp [lfs]
  | _ :: _, 0, _ => by simp [lfs]
  | d :: ds, n + 1, h => by
    simp only [lfs, Bool.and_eq_true] at h
    simp only [List.take_succ_cons, lfs, Bool.and_eq_true]
    exact ⟨h.1, lfs_take h.2⟩
theorem lfs_drop : ∀ {ds : List D} {n : Nat}, lfs ds = true → lfs (ds.drop n) = true
  | [], _, _ => by simp [lfs]
  | _ :: _, 0, h => h
  | d :: ds, n + 1, h => by
    simp only [lfs, Bool.and_eq_true] at h
    simp only [List.drop_succ_cons]
    exact lfs_drop h.2
theorem owns_cut {K : PySem.W.Frag} {L H : Hp} {vs : List V} {ds : List D} (o : Owns K L H vs ds []) (lo hi : Option Int) : Owns K L H (cutV vs lo hi) (cutL ds lo hi) [] := by
  have key : ∀ {vs : List V} {ds : List D}, Owns K L H vs ds [] → ∀ n, Owns K L H (vs.take n) (ds.take n) [] ∧ Owns K L H (vs.drop n) (ds.drop n) [] := fun o n => by
    obtain ⟨g1, g2, e, a, b⟩ := o.take n
    obtain ⟨rfl, rfl⟩ := List.append_eq_nil_iff.mp e.symm
    exact ⟨a, b⟩
  unfold cutV cutL
  rw [o.len]
  exact (key (key o _).2 _).1
def rSl3 (K : PySem.W.Frag) : V → Option Int → Option Int → Hp → VK → Prop := fun x lo hi H Q => rSlL K x lo hi H Q ∨ rSlA K x lo hi H Q ∨ rSlS x lo hi H Q
theorem sl_any {X : Cx} : SlR X (rSl3 X.K) := sl_list.or (sl_tupA.or sl_str)
theorem sl_ok {K : PySem.W.Frag} {H : Hp} {x : V} {d z : D} {lo hi : Option Int} {Q : VK} (o : Rdb K H x d) (e : dSl d lo hi = some z) (k : Ret3 K H z Q) : rSl3 K x lo hi H Q := by
  have lists : ∀ ds, lstIts d = some ds → lfs (cutL ds lo hi) = true → z = .lst (cutL ds lo hi) → rSl3 K x lo hi H Q := fun ds e1 hf e2 => by
    obtain ⟨p, vs, rfl, os, h⟩ := own_lsts o e1
    subst e2
    exact .inl ⟨p, vs, rfl, h, fun q hq => k.newL (owns_cut os lo hi) hf hq⟩
  unfold dSl at e
  split at e
  · split at e
    · rename_i ds hf; cases e; exact lists ds rfl hf rfl
    · cases e
  · split at e
    · rename_i ds hf; cases e; exact lists ds rfl hf rfl
    · cases e
  · split at e
    · rename_i ds hf; cases e; exact lists ds rfl hf rfl
    · cases e
  · split at e
    · rename_i ds hf
      cases e
      cases o with
      | @tup p vs _ _ h hs =>
        refine .inr (.inl ⟨p, vs, rfl, SqT.of h, fun hw => ?_, fun _ q hq => k.newT (owns_cut hs lo hi) (lfs_take (lfs_drop hf)) hq⟩)
        have e1 : cutL ds lo hi = ds := by
          unfold cutL
          rw [← hs.len, hw.1, hw.2]
          simp [hs.len]
        rw [e1] at k
        exact k.lfree (L := H) (.tup h hs) (by simpa [D.lf] using hf)
    · cases e
  · split at e
    · rename_i x hz
      cases e
      cases o
      exact .inr (.inr ⟨_, rfl, Nat.le_trans hz (by decide), k.plain (own_str _)⟩)
    · cases e
  · cases e
def VP (Y : Cy) (e : Option Expr) (f : Sm (Option Int)) : Prop := ∃ t, PO Y.X e t ∧ ∀ L H E σ T (Q : Option Int → Hp → Prop), St3 Y.K Y.p0 L H E σ T → Gd Y L σ T (fun o E' => ∀ L' H', Le L L' → St3 Y.K Y.p0 L' H' E' σ T → Q o H') (f E) → t σ H Q
section
variable {Y : Cy} {e a b c : Expr} {es : List Expr} {f g h' : Sm D} {fa fb : Sm Arg} {pos p2 : Pos} {lo hi : Option Expr} {fl fh : Sm (Option Int)}
theorem vp_none : VP Y none (Sm.p none) := ⟨_, po_none, fun L H E σ T Q S G => G L H (Le.refl _) S⟩
def mPart (f : Sm D) : Sm (Option Int) := Sm.b f fun d => Sm.b (Sm.o (intOf d)) fun i => Sm.p (some i)
theorem vp_some {k : Bool} (h : VE Y k e f) : VP Y (some e) (mPart f) := by
  obtain ⟨t, p, h⟩ := h
  refine ⟨_, po_some p, fun L H E σ T Q S G => h L H E σ T _ S (G.bind.imp fun d E1 G1 v L1 H1 l1 S1 => ?_)⟩
  obtain ⟨i, e1, G2⟩ := Gd.opt (Gd.bind G1)
  have := intOf_some e1
  subst this
  exact ⟨i, own_is_int S1.rdb, G2 L1 H1 l1 S1.pop⟩
def mSl (fa : Sm Arg) (fl fh : Sm (Option Int)) : Sm D := Sm.b fa fun x => Sm.b fl fun l => Sm.b fh fun h => fun E => match x.get E with
  | some d => Sm.o (dSl d l h) E
  | none => .bad
theorem ve_sl (ha : VR Y a fa) (hl : VP Y lo fl) (hh : VP Y hi fh) : VE Y true (.Subscript a (.Slice lo hi none p2) pos) (mSl fa fl fh) := by
  obtain ⟨ta, pa, ha⟩ := ha
  obtain ⟨tl, pl, hl⟩ := hl
  obtain ⟨th, ph, hh⟩ := hh
  refine ⟨_, pe_slice sl_any pa pl ph, fun L H E σ T Q S G => ha L H E σ T _ S (G.bind.imp fun x E1 G1 => ?_)⟩
  cases x with
  | val d =>
    intro k v L1 H1 l1 S1
    refine hl L1 H1 E1 σ _ _ S1 (Gd.temp (Gd.bind G1) l1 fun l E2 G2 L2 H2 l2 S2 => ?_)
    refine hh L2 H2 E2 σ _ _ S2 (Gd.temp (Gd.bind G2) (l1.trans l2) fun h E3 G3 L3 H3 l3 S3 => ?_)
    obtain ⟨z, e1, G4⟩ := Gd.opt (o := dSl d l h) (E := E3) G3
    exact sl_ok S3.rdb e1 (S3.pop.ret fun w L4 H4 l4 S4 => G4 w L4 H4 (((l1.trans l2).trans l3).trans l4) S4)
  | ref i =>
    intro v L1 H1 l1 S1 hv
    refine hl L1 H1 E1 σ _ _ S1 (Gd.grow (Gd.bind G1) l1 fun l E2 G2 L2 H2 l2 S2 => ?_)
    refine hh L2 H2 E2 σ _ _ S2 (Gd.grow (Gd.bind G2) (l1.trans l2) fun h E3 G3 L3 H3 l3 S3 => ?_)
    cases e0 : rdSlot E3 i with
    | none => simp only [Arg.get, e0] at G3; exact G3.elim
    | some d =>
      simp only [Arg.get, e0] at G3
      obtain ⟨z, e1, G4⟩ := Gd.opt (o := dSl d l h) (E := E3) G3
      exact sl_ok (arg_rdb S3 hv e0) e1 (S3.ret fun w L4 H4 l4 S4 => G4 w L4 H4 (((l1.trans l2).trans l3).trans l4) S4)

/-! ### operators that give something new -/
/-- as OpD, what comes may be new -/
def OpG (X : Cx) (f : Value → Value → Sem Value) (o : D → D → Option D) : Prop :=
  ∀ (pins : List (Addr × Obj)) (s : Shared) (σ : L2.St) (H : Hp) (x y : V) (v u : Value) (d e z : D) (Q : VK), Inv X pins σ H s → RelV x v → RelV y u → Rdb X.K H x d → Rdb X.K H y e → o d e = some z → Ret3 X.K H z Q → wpAny (model X.prog X.w) X.A (f v u) (EP X pins σ Q) X.xe s
def rOG (K : PySem.W.Frag) (o : D → D → Option D) : R2 := fun x y H Q => ∃ d e z, Rdb K H x d ∧ Rdb K H y e ∧ o d e = some z ∧ Ret3 K H z Q
theorem ve_binG {op : Operator} {o : D → D → Option D} (ho : OpG Y.X (binaryOp op) o) (ha : VR Y a fa) (hb : VR Y b fb) : VE Y true (.BinOp a op b pos) (mOp o fa fb) := by
  obtain ⟨ta, pa, ha⟩ := ha
  obtain ⟨tb, pb, hb⟩ := hb
  refine ⟨_, pe_op (r := rOG Y.X.K o) (fun pins s σ H x y v u Q I rx ry ⟨d, e, z, h1, h2, h3, h4⟩ => ho pins s σ H x y v u d e z Q I rx ry h1 h2 h3 h4) pa pb, fun L H E σ T Q S G => pair_ok ha hb S (G.bind.imp fun p E1 G1 v w L1 H1 l1 S1 r1 r2 => ?_)⟩
  obtain ⟨z, e, G2⟩ := G1.opt
  exact ⟨p.1, p.2, z, r1, r2, e, S1.ret fun u L2 H2 l2 S2 => G2 u L2 H2 (l1.trans l2) S2⟩
theorem op_catR {X : Cx} : OpR X (binaryOp .Add) (fun x y H Q => ∃ l b xs zs, x = .ref l ∧ y = .ref b ∧ Rd H l (.lst xs) ∧ Rd H b (.lst zs) ∧ xs.length + zs.length ≤ sizeLine ∧ ∀ p, H p = none → Q (.ref p) (upd H p (.lst (xs ++ zs)))) := by
  intro pins s σ H x y v u Q I rx ry h
  obtain ⟨l, b, xs, zs, rfl, rfl, hH, hB, hz, q⟩ := h
  cases rx
  cases ry
  obtain ⟨z, its, n, r, e⟩ := hH.ok I.hok
  obtain ⟨z2, its2, n2, r2, e2⟩ := hB.ok I.hok
  have hl := r.length
  have hl2 := r2.length
  refine PySem.P.add_list e e2 ?_ (by rw [List.size_toArray, List.size_toArray]; omega)
  have ea : its.toArray ++ its2.toArray = (its ++ its2).toArray := by simp
  rw [ea]
  exact ⟨.ref _, _, I.lnew (t' := s.toks) (r.append r2) (by rw [List.length_append]; omega), rfl, q _ I.fresh⟩
/-- + of two of a kind -/
def dAddX (d e : D) : Option D := match d, e with
  | .int i, .int j => some (.int (i + j))
  | .str x, .str y => if x.length + y.length ≤ 1000000 then some (.str (x ++ y)) else none
  | .lst xs, .lst ys => if lfs xs && lfs ys && decide (xs.length + ys.length ≤ 10000000) then some (.lst (xs ++ ys)) else none
  | .lst xs, .flst ys => if lfs xs && lfs ys && decide (xs.length + ys.length ≤ 10000000) then some (.lst (xs ++ ys)) else none
  | .flst xs, .lst ys => if lfs xs && lfs ys && decide (xs.length + ys.length ≤ 10000000) then some (.lst (xs ++ ys)) else none
  | .flst xs, .flst ys => if lfs xs && lfs ys && decide (xs.length + ys.length ≤ 10000000) then some (.lst (xs ++ ys)) else none
  | .tup xs, .tup ys => if lfs xs && lfs ys && decide (xs.length + ys.length ≤ 10000000) then some (.tup (xs ++ ys)) else none
  | _, _ => none
theorem le_line {n : Nat} (h : n ≤ 10000000) : n ≤ sizeLine := by rw [sizeLine_eq]; omega
theorem lfs_append : ∀ {xs ys : List D}, lfs xs = true → lfs ys = true → lfs (xs ++ ys) = true
  | [], _, _, h => h
  | x :: xs, ys, h, h' => by
    simp only [lfs, Bool.and_eq_true] at h
    simp only [List.cons_append, lfs, Bool.and_eq_true]
    exact ⟨h.1, lfs_append h.2 h'⟩
theorem og_add {X : Cx} : OpG X (binaryOp .Add) dAddX := by
  intro pins s σ H x y v u d e z Q I rx ry rd re hz k
  unfold dAddX at hz
  split at hz
  · cases hz
    rw [own_is_int rd] at rx
    rw [own_is_int re] at ry
    exact op_add pins s σ H _ _ v u Q I rx ry ⟨_, _, rfl, rfl, k.plain (own_int _)⟩
  · split at hz
    · rename_i hl
      cases hz
      cases rd
      cases re
      exact op_add_str pins s σ H _ _ v u Q I rx ry ⟨_, _, rfl, rfl, Nat.le_trans hl (by decide), k.plain (own_str _)⟩
    · cases hz
  · split at hz
    · rename_i hc
      rw [Bool.and_eq_true, Bool.and_eq_true] at hc
      cases hz
      cases rd with
      | bor h hs => cases re with
        | bor h2 hs2 => exact op_catR pins s σ H _ _ v u Q I rx ry ⟨_, _, _, _, rfl, rfl, h, h2, by rw [hs.len, hs2.len]; exact le_line (of_decide_eq_true hc.2), fun p hp => k.newL (hs.append hs2) (lfs_append hc.1.1 hc.1.2) hp⟩
    · cases hz
  · split at hz
    · rename_i hc
      rw [Bool.and_eq_true, Bool.and_eq_true] at hc
      cases hz
      cases rd with
      | bor h hs => cases re with
        | flst h2 hs2 => exact op_catR pins s σ H _ _ v u Q I rx ry ⟨_, _, _, _, rfl, rfl, h, .inr h2, by rw [hs.len, hs2.len]; exact le_line (of_decide_eq_true hc.2), fun p hp => k.newL (hs.append hs2) (lfs_append hc.1.1 hc.1.2) hp⟩
    · cases hz
  · split at hz
    · rename_i hc
      rw [Bool.and_eq_true, Bool.and_eq_true] at hc
      cases hz
      cases rd with
      | flst h hs => cases re with
        | bor h2 hs2 => exact op_catR pins s σ H _ _ v u Q I rx ry ⟨_, _, _, _, rfl, rfl, .inr h, h2, by rw [hs.len, hs2.len]; exact le_line (of_decide_eq_true hc.2), fun p hp => k.newL (hs.append hs2) (lfs_append hc.1.1 hc.1.2) hp⟩
    · cases hz
  · split at hz
    · rename_i hc
      rw [Bool.and_eq_true, Bool.and_eq_true] at hc
      cases hz
      cases rd with
      | flst h hs => cases re with
        | flst h2 hs2 => exact op_catR pins s σ H _ _ v u Q I rx ry ⟨_, _, _, _, rfl, rfl, .inr h, .inr h2, by rw [hs.len, hs2.len]; exact le_line (of_decide_eq_true hc.2), fun p hp => k.newL (hs.append hs2) (lfs_append hc.1.1 hc.1.2) hp⟩
    · cases hz
  · split at hz
    · rename_i xs ys hc
      rw [Bool.and_eq_true, Bool.and_eq_true] at hc
      cases hz
      cases rd with
      | @tup p vs _ _ h hs => cases re with
        | @tup q ws _ _ h2 hs2 =>
          refine op_catA pins s σ H _ _ v u Q I rx ry ⟨p, q, vs, ws, rfl, rfl, SqT.of h, SqT.of h2, by rw [hs.len, hs2.len]; exact le_line (of_decide_eq_true hc.2), fun e => ?_, fun _ e => ?_, fun _ _ p hp => k.newT (hs.append hs2) (lfs_append hc.1.1 hc.1.2) hp⟩
          · subst e
            cases hs
            exact k.lfree (L := H) (.tup h2 hs2) (by simpa [D.lf] using hc.1.2)
          · subst e
            cases hs2
            rw [List.append_nil] at k
            exact k.lfree (L := H) (.tup h hs) (by simpa [D.lf] using hc.1.1)
    · cases hz
  · cases hz
/-- -a -/
def mNeg (f : Sm D) : Sm D := Sm.b f fun d => Sm.b (Sm.o (intOf d)) fun i => Sm.p (.int (-i))
theorem ve_neg {k : Bool} (h : VE Y k e f) : VE Y false (.UnaryOp .USub e pos) (mNeg f) := by
  obtain ⟨t, p, h⟩ := h
  refine ⟨_, pe_un un_neg p, fun L H E σ T Q S G => h L H E σ T _ S (G.bind.imp fun d E1 G1 v L1 H1 l1 S1 => ?_)⟩
  obtain ⟨i, e1, G2⟩ := Gd.opt (Gd.bind G1)
  have := intOf_some e1
  subst this
  exact ⟨i, own_is_int S1.rdb, G2 _ L1 H1 l1 (S1.pop.push (.int _))⟩
/-- a < b < c -/
def mChain (o o' : D → D → Option D) (f g h : Sm D) : Sm D := Sm.b f fun x => Sm.b g fun y => Sm.b (Sm.o ((o x y).bind isBl)) fun k => if k = true then Sm.b h fun z => Sm.o (o' y z) else Sm.p (.bl false)
theorem own_blOf {K : PySem.W.Frag} {L H : Hp} {u : V} {z : D} {k : Bool} {fp : List Addr} (h : Own K L H u z fp) (e : isBl z = some k) : u = .bl k := (isBl_rel h e).2
theorem chain_ok {op op' : CmpOp} {o o' : D → D → Option D} {ta tb tc : TE} (ha : ∀ L H E σ T Q, St3 Y.K Y.p0 L H E σ T → Gd Y L σ T (sE Y L σ T false Q) (f E) → ta σ H Q) (hb : ∀ L H E σ T Q, St3 Y.K Y.p0 L H E σ T → Gd Y L σ T (sE Y L σ T false Q) (g E) → tb σ H Q)
    (hc : ∀ L H E σ T Q, St3 Y.K Y.p0 L H E σ T → Gd Y L σ T (sE Y L σ T false Q) (h' E) → tc σ H Q) {L H : Hp} {E : Env3} {σ : L2.St} {T : List Ent} {Q : VK} (S : St3 Y.K Y.p0 L H E σ T) (G : Gd Y L σ T (sE Y L σ T false Q) (mChain o o' f g h' E)) :
    tChain (rOf Y.K o) (rOf Y.K o') ta tb tc σ H Q := by
  refine ha L H E σ T _ S (G.bind.imp fun x E1 G1 v L1 H1 l1 S1 => ?_)
  refine hb L1 H1 E1 σ _ _ S1 (Gd.temp (Gd.bind G1) l1 fun y E2 G2 w L2 H2 l2 S2 => ?_)
  obtain ⟨k, e1, G3⟩ := Gd.opt (Gd.bind G2)
  obtain ⟨z, e2, e3⟩ := Option.bind_eq_some_iff.mp e1
  refine ⟨x, y, z, S2.pop.rdb, S2.rdb, e2, fun u hu => ?_⟩
  refine ⟨k, own_blOf (hu L2 H2) e3, ?_⟩
  cases k with
  | false =>
    show Q (.bl false) H2
    exact G3 _ L2 H2 (l1.trans l2) (S2.pop.pop.push (.bl false))
  | true =>
    show tc σ H2 _
    refine hc L2 H2 E2 σ _ _ S2 (Gd.temp (e := ⟨false, w, y⟩) (Gd.temp (e := ⟨false, v, x⟩) (Gd.bind G3) (l1.trans l2) fun q E3 G4 => G4) (Le.refl _) fun q E3 G4 u3 L3 H3 l3 S3 => ?_)
    obtain ⟨r, e4, G5⟩ := Gd.opt G4
    exact ⟨y, q, r, S3.pop.rdb, S3.rdb, e4, fun u4 hu4 => G5 u4 L3 H3 ((l1.trans l2).trans l3) (S3.pop.pop.pop.push (hu4 L3 H3))⟩
theorem ve_chain {op op' : CmpOp} {o o' : D → D → Option D} (ho : OpD Y.X (compareOp op) o) (ho' : OpD Y.X (compareOp op') o') (ha : VE Y false a f) (hb : VE Y false b g) (hc : VE Y false c h') (hm : lastMarks [op, op'] [b, c] = false := by with_unfolding_all rfl) :
    VE Y false (.Compare a [op, op'] [b, c] pos) (mChain o o' f g h') := by
  obtain ⟨ta, pa, ha⟩ := ha
  obtain ⟨tb, pb, hb⟩ := hb
  obtain ⟨tc, pc, hc⟩ := hc
  exact ⟨_, pe_chain ho.opR ho'.opR pa pb pc hm, fun L H E σ T Q S G => chain_ok (op := op) (op' := op') ha hb hc S G⟩
theorem vt_chain {op op' : CmpOp} {o o' : D → D → Option D} (ho : OpD Y.X (compareOp op) o) (ho' : OpD Y.X (compareOp op') o') (ha : VE Y false a f) (hb : VE Y false b g) (hc : VE Y false c h') (hm : lastMarks [op, op'] [b, c] = false := by with_unfolding_all rfl) :
    VT Y (.Compare a [op, op'] [b, c] pos) (mT (mChain o o' f g h')) := by
  obtain ⟨ta, pa, ha⟩ := ha
  obtain ⟨tb, pb, hb⟩ := hb
  obtain ⟨tc, pc, hc⟩ := hc
  refine ⟨_, pt_chain ho.opR ho'.opR pa pb pc hm, fun L H E σ T Q S G => chain_ok (op := op) (op' := op') ha hb hc S (G.bind.imp fun d E1 G1 v L1 H1 l1 S1 => ?_)⟩
  obtain ⟨k, e, G2⟩ := Gd.opt G1
  obtain ⟨rfl, hv⟩ := isBl_rel S1.rdb e
  exact ⟨k, hv, G2 L1 H1 l1 S1.pop⟩
end
end P3
end
section
set_option exponentiation.threshold 256
set_option Elab.async false
set_option linter.all false
set_option maxRecDepth 100000
set_option maxHeartbeats 2000000
set_option autoImplicit false
/-! P3, part l: methods of an owner's list, defs -/
namespace P3
open PySem PySem.Spec PyProof.Rows L2

section
variable {K : PySem.W.Frag} {p0 : Option Addr} {L H : Hp} {E : Env3} {σ : L2.St} {T : List Ent}
theorem tyV_lst {K : PySem.W.Frag} {H : Hp} {p : Addr} {vs : List V} (h : H p = some (.lst vs)) : tyV K "list" (.ref p) H := .inl ⟨rfl, vs, SqL.of h⟩
/-- an own list alone: what may become of it -/
theorem St3.alone {p : Addr} {vs : List V} {zs : List D} (S : St3 K p0 L H E σ (⟨true, .ref p, .lst zs⟩ :: T)) (hp : H p = some (.lst vs)) :
    ∃ f, Owns K (fun _ => none) H vs zs f ∧ f.Nodup ∧ ∀ vs' zs' f', (∀ H', LeT H H' → (∀ a ∈ f, H' a = H a) → Owns K (fun _ => none) H' vs' zs' f') → f'.Nodup → (∀ a ∈ f', a ∈ f) → St3 K p0 L (upd H p (.lst vs')) E σ (⟨true, .ref p, .lst zs'⟩ :: T) := by
  have S2 : St3 K p0 L H E σ (⟨true, .non, .non⟩ :: ⟨true, .ref p, .lst zs⟩ :: T) := S.fresh (Le.refl _) .non List.nodup_nil (by simp)
  obtain ⟨f, g, o, oz, nd, k⟩ := S2.two hp
  cases oz
  rw [List.append_nil] at nd k
  exact ⟨f, o, (List.nodup_cons.mp nd).2, k⟩
theorem Owns.reverse {vs : List V} {ds : List D} {fp : List Addr} (o : Owns K L H vs ds fp) : ∃ g, g.Perm fp ∧ Owns K L H vs.reverse ds.reverse g := by
  induction ds generalizing vs fp with
  | nil => cases o; exact ⟨[], .refl _, .nil⟩
  | cons d ds ih =>
    cases o with
    | @cons v _ vs _ f g h hs =>
      obtain ⟨g', q, o'⟩ := ih hs
      refine ⟨g' ++ f, List.perm_append_comm.trans (q.append_left _), ?_⟩
      simp only [List.reverse_cons]
      exact o'.append (.one h)
theorem St3.rev {p : Addr} {vs : List V} {zs : List D} (S : St3 K p0 L H E σ (⟨true, .ref p, .lst zs⟩ :: T)) (hp : H p = some (.lst vs)) : St3 K p0 L (upd H p (.lst vs.reverse)) E σ (⟨true, .ref p, .lst zs.reverse⟩ :: T) := by
  obtain ⟨f, o, nd, k⟩ := S.alone hp
  obtain ⟨g, q, o'⟩ := o.reverse
  exact k _ _ g (fun H' lt h => o'.up lt fun a ha => h a (q.mem_iff.mp ha)) (q.symm.nodup nd) fun a ha => q.mem_iff.mp ha
end
section
variable {Y : Cy} {e a b c : Expr} {es : List Expr} {f g : Sm D} {pos apos : Pos} {x : Str} {p1 : Pos}
/-- what the name i owns, through a step that may use a new own thing -/
def mOn (i : Nat) (f : Sm D) (o : D → D → Option (D × D)) : Sm D := Sm.b (mRef i) fun _ => Sm.b f fun z => fun E => match E[i]? with
  | some (.w d) => (match o d z with
    | some (d', r) => .ok r (E.set i (.w d'))
    | none => .bad)
  | _ => .bad
def oApp (d z : D) : Option (D × D) := match d with
  | .lst ds => if ds.length < 10000000 then some (.lst (ds ++ [z]), .non) else none
  | _ => none
/-- the type that a method is looked up at -/
theorem rdb_lst {K : PySem.W.Frag} {H : Hp} {v : V} {ds : List D} (o : Rdb K H v (.lst ds)) : tyV K "list" v H := by
  cases o with | bor h hs => exact .inl ⟨rfl, _, .inl h⟩
def isLst : D → Bool
  | .lst _ => true
  | _ => false
def mRefL (i : Nat) : Sm Unit := fun E => match rdSlot E i with
  | some d => if isLst d = true then .ok () E else .bad
  | none => .bad
theorem isLst_eq {d : D} (h : isLst d = true) : ∃ ds, d = .lst ds := by cases d <;> simp_all [isLst]
def mApp (i : Nat) (f : Sm D) : Sm D := Sm.b (mRefL i) fun _ => Sm.b f fun z => fun E => match E[i]? with
  | some (.w (.lst ds)) => if ds.length < 10000000 then .ok .non (E.set i (.w (.lst (ds ++ [z])))) else .bad
  | _ => .bad
theorem Gd.refL {L : Hp} {σ : L2.St} {T : List Ent} {α : Type} {S : α → Env3 → Prop} {i : Nat} {E : Env3} {g : Unit → Sm α} (G : Gd Y L σ T S (Sm.b (mRefL i) g E)) : ∃ ds, rdSlot E i = some (.lst ds) ∧ Gd Y L σ T S (g () E) := by
  have G0 := G.bind
  unfold mRefL at G0
  cases e : rdSlot E i with
  | none => rw [e] at G0; exact G0.elim
  | some d =>
    rw [e] at G0
    by_cases h : isLst d = true
    · obtain ⟨ds, rfl⟩ := isLst_eq h
      exact ⟨ds, rfl, G0⟩
    · simp only [if_neg h] at G0; exact G0.elim
section
variable (i : Nat) (hN : Y.X.N[i]? = some x := by rfl) (hv : Vis Y.X.env.scope x := by first | exact Or.inl rfl | exact Or.inr (Or.inl rfl) | exact Or.inr (Or.inr rfl)) (hd : (x == ("__debug__" : Str)) = false := by decide)
    (hcd : (x == ("__classdict__" : Str)) = false := by decide)
include hN hv hd hcd
/-- x.append(e) -/
theorem ve_app (h : VE Y true e f) (hbase : attributeBase (.Name x p1) "append" Y.X.env (eval (.Name x p1) Y.X.env) = eval (.Name x p1) Y.X.env := by rfl)
    (hfew : ((backTo pos (starEach (e :: []) Y.X.env)).all (fun x => !x.1) && (backToKw pos (keywordEach [] Y.X.env)).all (fun x => x.1.isSome) && decide ((e :: []).length + ([] : List Keyword).length + (if ([] : List Keyword).isEmpty then 0 else 1) < 30)) = true := by rfl)
    (hline : (apos.endLine == pos.line) = true := by rfl) (hs : starEach (e :: []) Y.X.env = (false, eval e Y.X.env) :: starEach [] Y.X.env := by rfl) (hplain : (backTo pos (starEach [] Y.X.env)).any (·.1) = false := by rfl) :
    VE Y true (.Call (.Attribute (.Name x p1) "append" apos) [e] [] pos) (mApp i f) := by
  obtain ⟨t, pt, h⟩ := h
  refine ⟨_, pe_bm PySem.F.plainAttrs_list PySem.F.slot_list_append PySem.F.type_list_append mt_append (pe_var (i := i) hN hv hd hcd) (pa_cons pt pa_nil hs) hbase hfew hline hs hplain, fun L H E σ T Q S G => ?_⟩
  obtain ⟨ds0, e0, G0⟩ := Gd.refL G
  obtain ⟨v, v1, v2⟩ := S.look e0
  refine ⟨v, v1, rdb_lst v2, h L H E σ T _ S (Gd.imp (Gd.bind G0) fun z E1 G1 y L1 H1 l1 S1 => ?_)⟩
  split at G1
  · rename_i ds e1
    split at G1
    · rename_i hl
      obtain ⟨v', w1, S2⟩ := S1.take e1
      rw [v1] at w1; cases w1
      obtain ⟨fo, go, o, _⟩ := S2.temps.ownW
      obtain ⟨p, vs, f3, rfl, hp, _, ho⟩ := own_lstW o
      refine ⟨p, vs, y, rfl, rfl, hp, by rw [ho.len]; exact lt_line hl, ?_⟩
      have S3 := (S2.perm (.swap _ _ _)).snoc hp
      have S4 := S1.pop.back e1 v1 S3
      exact G1 .non L1 _ l1 (S4.fresh (Le.refl _) .non List.nodup_nil (by simp))
    · exact G1.elim
  · exact G1.elim
/-- x.reverse() -/
def mRev (i : Nat) : Sm D := Sm.b (mRefL i) fun _ => fun E => match E[i]? with
  | some (.w (.lst ds)) => .ok .non (E.set i (.w (.lst ds.reverse)))
  | _ => .bad
theorem ve_rev (hbase : attributeBase (.Name x p1) "reverse" Y.X.env (eval (.Name x p1) Y.X.env) = eval (.Name x p1) Y.X.env := by rfl) (hline : (apos.endLine == pos.line) = true := by rfl) :
    VE Y true (.Call (.Attribute (.Name x p1) "reverse" apos) [] [] pos) (mRev i) := by
  refine ⟨_, pe_bm0 PySem.F.plainAttrs_list PySem.F.slot_list_reverse PySem.F.type_list_reverse mt_reverse (pe_var (i := i) hN hv hd hcd) hbase hline, fun L H E σ T Q S G => ?_⟩
  obtain ⟨ds0, e0, G1⟩ := Gd.refL G
  obtain ⟨v, v1, v2⟩ := S.look e0
  refine ⟨v, v1, rdb_lst v2, ?_⟩
  split at G1
  · rename_i ds e1
    obtain ⟨v', w1, S2⟩ := S.take e1
    rw [v1] at w1; cases w1
    obtain ⟨fo, go, o, _⟩ := S2.temps.ownW
    obtain ⟨p, vs, f3, rfl, hp, _, ho⟩ := own_lstW o
    refine ⟨p, vs, rfl, rfl, hp, ?_⟩
    have S4 := S.back e1 v1 (S2.rev hp)
    exact G1 .non L _ (Le.refl _) (S4.fresh (Le.refl _) .non List.nodup_nil (by simp))
  · exact G1.elim
end
end

/-! ### defs -/
section
variable {P : Program} {w : World} {K : PySem.W.Frag} {mg : Str → Option Value} {base : Heap} {x qual : Str} {params : Arguments} {body : List Stmt} {scope : Scope} {f : Addr} {fd : FuncData} {N ps : List Str} {k : Nat}
/-- where a body runs -/
abbrev cyOf (P : Program) (w : World) (K : PySem.W.Frag) (mg : Str → Option Value) (base : Heap) (N : List Str) (qual : Str) (scope : Scope) (f : Addr) (p0 : Option Addr) (cdv : Value) (A : Around) (outer : List PySem.Env) (s : Shared) (H : Hp) (E : XK) : Cy :=
  ⟨cxOf (L2.CX P w) P w K mg base N qual scope f cdv A outer s H E, p0, fun cls d _ H => E cls d H, takes_of rfl rfl rfl rfl⟩
/-- the slots at the entry -/
def startE (n : Nat) (ds : List D) : Env3 := ds.map Slot.b ++ List.replicate (n - ds.length) Slot.no
def fnOf (n : Nat) (g : Sm Fl) (ds : List D) : Res := match g (startE n ds) with
  | .ok (.ret d) _ => .ok d
  | .ok .next _ => .ok .non
  | .exc x _ => .exc x
  | _ => .bad
theorem loc_start {L H : Hp} : ∀ {ds : List D} {vs : List V} {n : Nat}, Owns K L H vs ds [] → ∃ es, Loc (ds.map Slot.b ++ List.replicate n Slot.no) (vs.map some ++ List.replicate n none) es ∧ ∀ {T : List Ent}, Holds K L H T → Holds K L H (es ++ T)
  | [], vs, n, o => by
    cases o
    refine ⟨[], ?_, fun h => h⟩
    induction n with
    | zero => exact .nil
    | succ n ih => exact .no ih
  | d :: ds, vs, n, o => by
    generalize hfp : ([] : List Addr) = fp at o
    cases o with
    | @cons v _ vs _ f g h1 h2 =>
      have hf : f = [] := by
        have := congrArg List.length hfp
        simp at this; exact List.eq_nil_of_length_eq_zero (by omega)
      have hg : g = [] := by
        have := congrArg List.length hfp
        simp at this; exact List.eq_nil_of_length_eq_zero (by omega)
      subst hf hg
      obtain ⟨es, l, q⟩ := loc_start (n := n) h2
      exact ⟨⟨false, v, d⟩ :: es, .b l, fun hT => (q hT).push h1⟩
theorem holds_nil {L H : Hp} (h : Le L H) : Holds K L H [] := ⟨h, [], .nil, List.nodup_nil, by simp⟩
theorem st_start {L H : Hp} {vs : List V} {ds : List D} (h : Le L H) (o : Owns K L H vs ds []) : St3 K none L H (startE N.length ds) (L2.start N vs) [] := by
  obtain ⟨es, l, q⟩ := loc_start (n := N.length - ds.length) o
  unfold startE L2.start
  rw [o.len]
  exact ⟨⟨es, l, q (holds_nil h)⟩, fun _ z => nomatch z⟩
/-- THE RULE for a def that changes nothing -/
theorem def_ok {g : Sm Fl} (F : FunD K x qual params body scope [] [] f fd) (S : FnScope N ps scope) (hb : ∀ cdv A outer s H E, Rm k (A.deeper (envOfC qual scope s.heap.objs.size f cdv)) → VSs (cyOf P w K mg base N qual scope f none cdv A outer s H E) body g) :
    FnG P w K mg base (L2.CX P w) (k + 1) f fd ps (spV K mg ps.length (fnOf N.length g)) := by
  refine FunD.okG F S (fun vs H Q E h => h.1) fun cdv A outer s H vs Q E hr h => ?_
  obtain ⟨hl, ds, o, h⟩ := h
  obtain ⟨t, pt, ht⟩ := hb cdv A outer s H E hr
  refine ⟨t, pt, ht H H (startE N.length ds) (L2.start N vs) [] _ (st_start (Le.refl _) o) ?_⟩
  unfold fnOf at h
  cases e : g (startE N.length ds) with
  | bad => rw [e] at h; exact h
  | exc z E1 =>
    rw [e] at h
    exact fun cls od σ' L' H' l S' x => h cls od H' (l.trans S'.le) x
  | ok fl E1 =>
    rw [e] at h
    cases fl with
    | next => exact fun σ' L' H' l S' => h .non H' [] (l.trans S'.le) .non List.nodup_nil (by simp)
    | brk => exact h.elim
    | cont => exact h.elim
    | ret z =>
      intro v σ' L' H' l S'
      obtain ⟨fp, gp, ow, _, nd, fr⟩ := S'.temps.ownW
      exact h v H' fp (l.trans S'.le) ow (List.nodup_append.mp nd).1 fun a ha => l.none (fr a (List.mem_append_left _ ha))
def startR (n : Nat) (b : D) (ds : List D) : Env3 := .w b :: (ds.map Slot.b ++ List.replicate (n - 1 - ds.length) Slot.no)
/-- what slot 0 owns -/
def w0 : Env3 → Option D
  | .w b :: _ => some b
  | _ => none
def fnOfR (n : Nat) (g : Sm Fl) (b : D) (ds : List D) : ResR := match g (startR n b ds) with
  | .ok (.ret d) E => (match w0 E with
    | some b' => .ok d b'
    | none => .bad)
  | .ok .next E => (match w0 E with
    | some b' => .ok .non b'
    | none => .bad)
  | .exc x E => (match w0 E with
    | some b' => .exc x b'
    | none => .bad)
  | _ => .bad
theorem w0_at {E : Env3} {b : D} (h : w0 E = some b) : E[0]? = some (.w b) := by
  unfold w0 at h
  split at h
  · cases h; rfl
  · cases h
/-- THE RULE for a def that changes its first argument -/
theorem defR_ok {g : Sm Fl} (F : FunD K x qual params body scope [] [] f fd) (S : FnScope N ps scope) (hb : ∀ p0 cdv A outer s H E, Rm k (A.deeper (envOfC qual scope s.heap.objs.size f cdv)) → VSs (cyOf P w K mg base N qual scope f (some p0) cdv A outer s H E) body g) :
    FnG P w K mg base (L2.CX P w) (k + 1) f fd ps (spR K mg ps.length (fnOfR N.length g)) := by
  refine FunD.okG F S (fun vs H Q E h => h.1) fun cdv A outer s H vs Q E hr h => ?_
  obtain ⟨hl, p, vs', b, ds, fp, rfl, ob, hroot, nd, o, h⟩ := h
  obtain ⟨t, pt, ht⟩ := hb p cdv A outer s H E hr
  have hle : Le (less H fp) H := less_le
  obtain ⟨es, l, q⟩ := loc_start (n := N.length - 1 - ds.length) o
  have hN : ∃ n, N.length = n + 1 := by
    have h1 := S.pre
    have : ps.length ≤ N.length := by
      have := congrArg List.length h1
      rw [List.length_take] at this
      omega
    have h2 : 0 < ps.length := by rw [← hl]; simp
    exact ⟨N.length - 1, by omega⟩
  obtain ⟨n, hn⟩ := hN
  have base0 : Holds K (less H fp) H [⟨true, .ref p, b⟩] := Holds.pushW (es := []) (fq := []) hle .nil (by simpa using nd) (fun a ha => by unfold less; rw [if_pos (by simpa using ha)]) ob
  have e1 : L2.start N (.ref p :: vs') = some (.ref p) :: (vs'.map some ++ List.replicate (N.length - 1 - ds.length) none) := by
    unfold L2.start
    have : N.length - (V.ref p :: vs').length = N.length - 1 - ds.length := by simp [o.len]; omega
    rw [this]
    rfl
  have S0 : St3 K (some p) (less H fp) H (startR N.length b ds) (L2.start N (.ref p :: vs')) [] := by
    refine ⟨⟨⟨true, .ref p, b⟩ :: es, ?_, ?_⟩, fun a ha => ?_⟩
    · rw [e1]; exact .w l
    · rw [List.append_nil]
      exact (q base0).perm (by simpa using (List.perm_middle (l₁ := es) (l₂ := []) (a := (⟨true, .ref p, b⟩ : Ent))))
    · cases ha
      exact ⟨by rw [e1]; rfl, b, rfl⟩
  refine ⟨t, pt, ht (less H fp) H _ _ [] _ S0 ?_⟩
  -- the end: slot 0 and what comes
  have fin : ∀ (E1 : Env3) (b' : D) (v : V) (z : D) (σ' : L2.St) (L' H' : Hp), w0 E1 = some b' → Le (less H fp) L' → St3 K (some p) L' H' E1 σ' [⟨true, v, z⟩] →
      ∃ fb fr, Le (less H fp) H' ∧ Own K (fun _ => none) H' (.ref p) b' fb ∧ Own K (fun _ => none) H' v z fr ∧ (fb ++ fr).Nodup ∧ ∀ a ∈ fb ++ fr, less H fp a = none := by
    intro E1 b' v z σ' L' H' e l S'
    obtain ⟨v0, q1, S2⟩ := S'.take (w0_at e)
    obtain ⟨q2, _⟩ := S'.pin p rfl
    rw [q1] at q2
    cases q2
    obtain ⟨f1, g1, o1, hs1, nd1, fr1⟩ := S2.temps.ownW
    cases hs1 with
    | @cons _ _ f2 g2 h2 hs2 =>
      unfold EntOk at h2
      rw [if_pos rfl] at h2
      cases hs2
      rw [List.append_nil] at nd1 fr1
      exact ⟨f1, f2, l.trans S'.le, o1, h2, nd1, fun a ha => l.none (fr1 a ha)⟩
  unfold fnOfR at h
  cases e : g (startR N.length b ds) with
  | bad => rw [e] at h; exact h
  | exc z E1 =>
    rw [e] at h
    intro cls od σ' L' H' l S' xo
    cases e0 : w0 E1 with
    | none => simp only [e0] at h
    | some b' =>
      simp only [e0] at h
      obtain ⟨fb, fr, a1, a2, a3, a4, a5⟩ := fin E1 b' .non .non σ' L' H' e0 l (S'.fresh (Le.refl _) .non List.nodup_nil (by simp))
      exact h cls od H' fb a1 a2 (List.nodup_append.mp a4).1 (fun a ha => a5 a (List.mem_append_left _ ha)) xo
  | ok fl E1 =>
    rw [e] at h
    cases fl with
    | brk => exact h.elim
    | cont => exact h.elim
    | next =>
      intro σ' L' H' l S'
      cases e0 : w0 E1 with
      | none => simp only [e0] at h
      | some b' =>
        simp only [e0] at h
        obtain ⟨fb, fr, a1, a2, a3, a4, a5⟩ := fin E1 b' .non .non σ' L' H' e0 l (S'.fresh (Le.refl _) .non List.nodup_nil (by simp))
        exact h .non H' fb fr a1 a2 a3 a4 a5
    | ret z =>
      intro v σ' L' H' l S'
      cases e0 : w0 E1 with
      | none => simp only [e0] at h
      | some b' =>
        simp only [e0] at h
        obtain ⟨fb, fr, a1, a2, a3, a4, a5⟩ := fin E1 b' v z σ' L' H' e0 l S'
        exact h v H' fb fr a1 a2 a3 a4 a5
end
end P3
end
section
set_option exponentiation.threshold 256
set_option Elab.async false
set_option linter.all false
set_option maxRecDepth 100000
set_option maxHeartbeats 2000000
set_option autoImplicit false
/-! P3m: a call that is handed a fresh thing; the law's end. -/
namespace P3
open PySem PySem.Spec PyProof.Rows L2
section
variable {Y : Cy} {e a b c : Expr} {es : List Expr} {f g : Sm D} {fs : Sm (List D)} {pos apos : Pos}
/-- a call that changes a fresh thing, which nobody sees again -/
def mCallRT (n : Nat) (fn : D → List D → ResR) (f : Sm D) (fs : Sm (List D)) : Sm D := Sm.b f fun b => Sm.b fs fun ds => fun E => if rooted b = true then (if ds.length + 1 = n then (match fn b ds with
      | .ok z _ => .ok z E
      | .exc x _ => .exc x E
      | .bad => .bad) else .bad) else .bad
theorem ve_callRT {x : Str} {p : Pos} {k n : Nat} {ps : List Str} {fn : D → List D → ResR} (F : Def3 Y.X x k ps (spR Y.X.K Y.X.mg n fn)) (hr : Rm k Y.X.A) (h1 : VE Y true e f) (ha : VBs Y es fs) (hg : Gl Y.X x := by rfl) (hdb : (x == ("__debug__" : Str)) = false := by decide)
    (he : starEach (e :: es) Y.X.env = (false, eval e Y.X.env) :: starEach es Y.X.env := by rfl) (hpl : (backTo pos (starEach es Y.X.env)).any (·.1) = false := by rfl) : VE Y true (.Call (.Name x p) (e :: es) [] pos) (mCallRT n fn f fs) := by
  obtain ⟨fa, fd, F, hm, hk, hb⟩ := F.ex
  obtain ⟨t1, pt1, h1⟩ := h1
  obtain ⟨t, pt, h⟩ := ha
  refine ⟨_, pe_callGd F hr hg hm hk hb (fun σ => passAt Y.tk σ) (pa_cons pt1 pt he) hdb he hpl, fun L H E σ T Q S G => ?_⟩
  refine h1 L H E σ T _ S (Gd.imp (Gd.bind G) fun b E0 G0 v L0 H0 l0 S0 => ?_)
  refine h L0 H0 E0 σ _ _ S0 (Gd.temp (Gd.bind G0) l0 fun ds E1 G1 vs L1 H1 l1 S1 ods => ?_)
  split at G1
  · rename_i hroot
    split at G1
    · rename_i hl
      obtain ⟨g, o, nd, fr, back⟩ := St3.outW (vs := [v]) (ds := [b]) S1 rfl
      cases o with
      | @cons _ _ _ _ fp g2 ob hs =>
        cases hs
        rw [List.append_nil] at nd fr back
        obtain ⟨q, rfl⟩ := rooted_ref ob hroot
        have hL : Le L1 (less H1 fp) := fun a u ha => by
          unfold less
          rw [if_neg fun hf => by rw [fr a hf] at ha; cases ha]
          exact S1.le a u ha
        have keep : ∀ H', Le (less H1 fp) H' → Le L1 H' ∧ LeT H1 H' ∧ (∀ a u, a ∉ fp → H1 a = some u → H' a = some u) := fun H' le => by
          refine ⟨hL.trans le, ⟨fun a xs ha => ?_, fun a ob' v ha => ?_⟩, fun a u na ha => ?_⟩
          · refine le a _ ?_
            unfold less
            rw [if_neg fun hf => ?_]
            · exact ha
            · obtain ⟨u, eu, nt, _⟩ := ob.there a hf
              rw [ha] at eu
              exact nt xs (Option.some.inj eu).symm
          · refine le a _ ?_
            unfold less
            rw [if_neg fun hf => ?_]
            · exact ha
            · obtain ⟨u, eu, _, nf⟩ := ob.there a hf
              rw [ha] at eu
              exact nf ob' v (Option.some.inj eu).symm
          · refine le a u ?_
            unfold less
            rw [if_neg na]
            exact ha
        have free : ∀ fz : List Addr, (∀ a ∈ fz, less H1 fp a = none) → ∀ a ∈ fz, L1 a = none ∧ (a ∈ fp ∨ H1 a = none) := fun fz hz a ha => by
          have hn := hz a ha
          refine ⟨hL.none hn, ?_⟩
          unfold less at hn
          split at hn
          · rename_i hf; exact .inl hf
          · exact .inr hn
        have ods' : Owns Y.K (less H1 fp) H1 vs ds [] := ods.mono hL (LeT.refl _) (by simp)
        refine ⟨by simp [ods.len, hl], q, vs, b, ds, fp, rfl, ob, hroot, nd, ods', ?_⟩
        cases e3 : fn b ds with
        | ok z b' =>
          rw [e3] at G1
          intro w H' fb fr' le ob' oz ndz frz
          obtain ⟨k1, k2, k3⟩ := keep H' le
          exact G1 w L1 H' (l0.trans l1) (back H' w z fr' k1 k2 k3 oz (List.nodup_append.mp ndz).2.1 (free fr' fun a ha => frz a (List.mem_append_right _ ha)))
        | exc x b' =>
          rw [e3] at G1
          intro cls od H' fb le ob' ndb frb x
          obtain ⟨k1, k2, k3⟩ := keep H' le
          exact G1 cls od L1 H' (l0.trans l1) (back H' .non .non [] k1 k2 k3 .non List.nodup_nil (by simp)).pop x
        | bad => rw [e3] at G1; exact G1.elim
    · exact G1.elim
  · exact G1.elim
end
/-! ### the law's end -/
theorem cx_false {P : Program} {w : World} {H : Hp} {s s' : Shared} {e : Value} (h : L2.CX P w [] H s (fun _ _ _ => False) e s') : False := by
  obtain ⟨_, _, _, _, _, _, _, _, _, _, _, _, z⟩ := h
  exact z
/-- a law: fn tells true of every script -/
theorem law_walk {l : PySem.W.OpenLaw} {n k : Nat} {q : Program} {loose : List Str} {XP : (Str → Option Value) → Heap → Prop} {YP : World → Heap → Prop} {d : DefRec} {x : Str}
    (hn : l.most = some n) (hn2 : n ≤ sizeLine) (hdf : d.params.defaults = []) (hr : Rm k callerA)
    (F : ∀ (w : World) (mg : Str → Option Value) (fa : Addr) (h : Heap), YP w h → h.Ns mainGlobals mg → mg d.name = some (.ref fa) →
      ∃ (K : PySem.W.Frag) (fd : FuncData) (fn : List D → Res), K.In h ∧ (∀ (s : Shared) (u : Value), BindsTo s fd ⟨[u], []⟩ [(x, u)]) ∧
        (∀ ns : List Int, ns.length ≤ n → (∀ z ∈ ns, Builtin.Int.intBits z ≤ 1048576) → fn [.lst (ns.map .int)] = .ok (.bl true) ∧ fn [.clst (ns.map .int)] = .ok (.bl true)) ∧
        ∀ base : Heap, K.In base → base.Ns mainGlobals mg → FnG l.prog w K mg base (L2.CX l.prog w) k fa fd [x] (spV K mg 1 fn)) :
    PySem.W.WalkO q loose XP YP l.row.toRowW d [] (fun f vs => PySem.call f vs) := by
  refine Att.attach_callB hn hdf fun w s₀ s₁ mg mb fa o pm cd doc a vs ns G Y ho hd hcd hmg hobj hints hlen hbits hg => ?_
  obtain ⟨K, fd, fn, KX, hb, hsp, hF⟩ := F w mg fa _ Y G.T.g hmg
  refine call_script KX G.T.g G.T.b G.T.builtins G.T.nolimit hg hobj hints (Nat.le_trans hlen hn2) hr hF hb (fun H e s' => cx_false) (fun H hS => ?_)
  obtain ⟨h1, h2⟩ := hsp ns hlen hbits
  have oi : ∀ L H' : Hp, Owns K L H' (ns.map V.int) (ns.map D.int) [] := fun L H' => by
    clear hints hlen hbits h1 h2 hS
    induction ns with
    | nil => exact .nil
    | cons n ns ih => exact .cons (f := []) (g := []) (.int n) ih
  have fin : ∀ z v H' (fp : List Addr), z = D.bl true → Own K (fun _ => none) H' v z fp → v = V.bl true := by
    rintro z v H' fp rfl o
    cases o
    rfl
  rcases hS with hS | hS
  · refine ⟨rfl, [.lst (ns.map .int)], .cons (f := []) (g := []) (.bor hS (oi _ _)) .nil, ?_⟩
    rw [h1]
    exact fun v H' fp _ o _ _ => fin _ v H' fp rfl o
  · refine ⟨rfl, [.clst (ns.map .int)], .cons (f := []) (g := []) (.clst (.inr hS) (oi _ _)) .nil, ?_⟩
    rw [h2]
    exact fun v H' fp _ o _ _ => fin _ v H' fp rfl o
/-- nothing is promised -/
theorem fn_none {P : Program} {w : World} {K : PySem.W.Frag} {mg : Str → Option Value} {base : Heap} {CX : CXT} {k : Nat} {f : Addr} {fd : FuncData} {ps : List Str} {n : Nat} : FnG P w K mg base CX k f fd ps (spV K mg n fun _ => .bad) :=
  ⟨fun _ _ _ _ h => by obtain ⟨_, _, _, h⟩ := h; exact h.elim, fun _ _ _ _ _ _ _ _ _ _ _ _ _ h => by obtain ⟨_, _, _, h⟩ := h; exact h.elim⟩
/-- a def that stands at x -/
structure Callee (P : Program) (w : World) (K : PySem.W.Frag) (mg : Str → Option Value) (base : Heap) (x : Str) (k : Nat) (ps : List Str) (sp : Sp) : Prop where
  ex : ∃ (f : Addr) (fd : FuncData), FnG P w K mg base (L2.CX P w) k f fd ps sp ∧ mg x = some (.ref f) ∧ PySem.W.keepIn K (.ref f) = true ∧ Binds K fd ps []
theorem Callee.d {X : Cx} {x : Str} {k : Nat} {ps : List Str} {sp : Sp} (c : Callee X.prog X.w X.K X.mg X.base x k ps sp) : Def3 X x k ps sp := ⟨c.ex⟩
/-- how often a loop may turn that lowers the name i -/
def fuel (i : Nat) (E : Env3) : Nat := match rdSlot E i with
  | some (.int n) => n.natAbs + 1
  | _ => 0
end P3
end
section
set_option exponentiation.threshold 256
set_option Elab.async false
set_option linter.all false
set_option maxRecDepth 100000
set_option maxHeartbeats 2000000
set_option autoImplicit false
/-! P3n: how meanings are worked out: every row tells what an applied meaning is. -/
namespace P3
open PySem PySem.Spec PyProof.Rows L2
def R.bd {α β : Type} (r : R α) (g : α → Sm β) : R β := match r with
  | .ok a E => g a E
  | .exc x E => .exc x E
  | .bad => .bad
section
variable {α β : Type} {E E' : Env3} {f g h : Sm D} {o : D → D → Option D} {fa fb : Sm Arg} {i j : Nat} {fs : Sm (List D)} {fas : Sm (List Arg)} {ft gt : Sm Bool} {g1 g2 g3 : Sm Fl}
theorem e_b {f : Sm α} {g : α → Sm β} : Sm.b f g E = R.bd (f E) g := by unfold Sm.b R.bd; rfl
theorem e_ok {a : α} {g : α → Sm β} : R.bd (.ok a E) g = g a E := rfl
theorem e_exc {x : Exn} {g : α → Sm β} : R.bd (.exc x E) g = .exc x E := rfl
theorem e_bad {g : α → Sm β} : R.bd .bad g = .bad := rfl
theorem e_p {a : α} : Sm.p a E = .ok a E := rfl
theorem e_os {a : α} : Sm.o (some a) E = .ok a E := rfl
theorem e_on : (Sm.o (none : Option α)) E = .bad := rfl
theorem e_oif {c : Prop} [Decidable c] {a b : Option α} : Sm.o (if c then a else b) E = if c then Sm.o a E else Sm.o b E := by split <;> rfl
def slB : Option Slot → Env3 → R D
  | some (.b d), E => .ok d E
  | _, _ => .bad
theorem slB_b {d : D} : slB (some (.b d)) E = .ok d E := rfl
theorem e_var : mVar i E = slB E[i]? E := by
  unfold mVar slB
  rcases E[i]? with _ | s
  · rfl
  · cases s <;> rfl
def slD : Option Slot → Option D
  | some (.b d) => some d
  | some (.w d) => some d
  | _ => none
theorem slD_b {d : D} : slD (some (.b d)) = some d := rfl
theorem slD_w {d : D} : slD (some (.w d)) = some d := rfl
theorem e_rdS : rdSlot E i = slD E[i]? := by
  unfold rdSlot slD
  rcases E[i]? with _ | s
  · rfl
  · cases s <;> rfl
theorem e_rd : mRd i E = Sm.o (rdSlot E i) E := rfl
def okR (o : Option D) (i : Nat) (E : Env3) : R Arg := match o with
  | some _ => .ok (.ref i) E
  | none => .bad
theorem okR_s {d : D} : okR (some d) i E = .ok (.ref i) E := rfl
theorem e_ref : mRef i E = okR (rdSlot E i) i E := by unfold mRef okR; cases rdSlot E i <;> rfl
def slW : Option Slot → (D → R α) → R α
  | some (.w d), k => k d
  | _, _ => .bad
theorem slW_w {d : D} {k : D → R α} : slW (some (.w d)) k = k d := rfl
theorem e_move : mMove i E = slW E[i]? fun d => .ok d (E.set i .no) := by
  unfold mMove slW
  rcases E[i]? with _ | s
  · rfl
  · cases s <;> rfl
def opt (o : Option α) (k : α → R β) : R β := match o with
  | some a => k a
  | none => .bad
theorem opt_s {a : α} {k : α → R β} : opt (some a) k = k a := rfl
theorem opt_n {k : α → R β} : opt none k = .bad := rfl
theorem opt_if {c : Prop} [Decidable c] {a b : Option α} {k : α → R β} : opt (if c then a else b) k = if c then opt a k else opt b k := by split <;> rfl
theorem e_rdL : mRdL i E = opt (rdSlot E i) fun d => if d.lf = true then .ok d E else .bad := by
  unfold mRdL opt
  cases rdSlot E i <;> rfl
theorem e_lf : mLf f E = R.bd (f E) fun d => if d.lf = true then Sm.p d else fun _ => .bad := e_b
theorem e_val : mVal f E = R.bd (f E) fun d => Sm.p (.val d) := e_b
theorem e_get_v {d : D} : Arg.get E (.val d) = some d := rfl
theorem e_get_r : Arg.get E (.ref i) = rdSlot E i := rfl
theorem e_pair : mPair fa fb E = R.bd (fa E) fun x => Sm.b fb fun y => fun E => opt (x.get E) fun d => opt (y.get E) fun d' => .ok (d, d') E := by
  unfold mPair
  rw [e_b]
  congr 1; funext x; congr 1; funext y E
  unfold opt
  cases x.get E <;> cases y.get E <;> rfl
theorem e_op : mOp o fa fb E = R.bd (mPair fa fb E) fun p => Sm.o (o p.1 p.2) := e_b
theorem e_T : mT f E = R.bd (f E) fun d => Sm.o (isBl d) := e_b
theorem e_isBl {b : Bool} : isBl (.bl b) = some b := rfl
theorem e_and : mAnd ft gt E = R.bd (ft E) fun c => if c = true then gt else Sm.p false := e_b
theorem e_or : mOr ft gt E = R.bd (ft E) fun c => if c = true then Sm.p true else gt := e_b
theorem e_not : mNot ft E = R.bd (ft E) fun c => Sm.p (!c) := e_b
theorem e_andV : mAndV f g E = R.bd (mT f E) fun c => if c = true then g else Sm.p (.bl false) := e_b
theorem e_orV : mOrV f g E = R.bd (mT f E) fun c => if c = true then Sm.p (.bl true) else g := e_b
theorem e_notV : mNotV f E = R.bd (mT f E) fun c => Sm.p (.bl (!c)) := e_b
theorem e_if {c : Sm Bool} {f g : Sm α} : mIf c f g E = R.bd (c E) fun k => if k = true then f else g := e_b
theorem e_ap {c : Prop} [Decidable c] {f g : Sm α} : (if c then f else g) E = if c then f E else g E := by split <;> rfl
theorem e_bdif {c : Prop} [Decidable c] {a b : R α} {g : α → Sm β} : R.bd (if c then a else b) g = if c then R.bd a g else R.bd b g := by split <;> rfl
theorem e_seq : mSeq g1 g2 E = R.bd (g1 E) fun fl => match fl with
  | .next => g2
  | fl => Sm.p fl := e_b
theorem e_asg {gf : D → Sm Unit} : mAsg f gf E = R.bd (f E) fun d => Sm.b (gf d) fun _ => Sm.p .next := e_b
theorem e_gN {k : Bool} {d : D} : gN k i d E = .ok () (E.set i (slot k d)) := rfl
theorem e_slt {d : D} : slot true d = .w d := rfl
theorem e_slf {d : D} : slot false d = .b d := rfl
theorem e_gnil : gNil3 [] E = .ok () E := rfl
theorem e_gcons {k : D → Sm Unit} {l : List D → Sm Unit} {d : D} {ds : List D} : gCons3 k l (d :: ds) E = R.bd (k d E) fun _ => l ds := by unfold gCons3; exact e_b
theorem e_gseq {n : Nat} {l : List D → Sm Unit} {d : D} : gSeq3 n l d E = opt (seqOf d) fun ds => if ds.length = n then l ds E else .bad := by
  unfold gSeq3 opt
  cases seqOf d with
  | none => rfl
  | some ds => simp only []; split <;> rfl
theorem e_seqt {ds : List D} : seqOf (.tup ds) = some ds := rfl
theorem e_seql {ds : List D} : seqOf (.lst ds) = some ds := rfl
theorem e_seqf {ds : List D} : seqOf (.flst ds) = some ds := rfl
theorem e_ret : mRet f E = R.bd (f E) fun d => Sm.p (.ret d) := e_b
theorem e_drop : mDrop f E = R.bd (f E) fun _ => Sm.p .next := e_b
theorem e_ix : mIx f g E = R.bd (f E) fun d => Sm.b g fun i => Sm.o (dIx d i) := e_b
theorem e_ixW : mIxW i g E = R.bd (mRef i E) fun _ => Sm.b g fun j => fun E => opt (rdSlot E i) fun d => opt (dIx d j) fun z => if z.lf = true then .ok z E else .bad := by
  unfold mIxW
  rw [e_b]
  congr 1; funext _; congr 1; funext j E
  unfold opt
  cases rdSlot E i with
  | none => rfl
  | some d => simp only []; cases dIx d j <;> rfl
theorem e_dix1 {ds : List D} {j : Int} : dIx (.lst ds) (.int j) = atI ds j := rfl
theorem e_dix2 {ds : List D} {j : Int} : dIx (.tup ds) (.int j) = atI ds j := rfl
theorem e_dix3 {ds : List D} {j : Int} : dIx (.clst ds) (.int j) = atI ds j := rfl
theorem e_dix5 {ds : List D} {j : Int} : dIx (.flst ds) (.int j) = atI ds j := rfl
theorem e_dix4 {ds : List D} {j : Int} : dIx (.ctup ds) (.int j) = atI ds j := rfl
theorem atI_nat {ds : List D} {j : Int} (h0 : 0 ≤ j) (h : j < ds.length) : atI ds j = ds[j.toNat]? := by
  unfold atI ixN
  rw [if_pos h0, if_pos h]; rfl
theorem at0 {a : D} {r : List D} : atI (a :: r) 0 = some a := by rw [atI_nat (by omega) (by simp only [List.length_cons]; omega)]; rfl
theorem at1 {a b : D} {r : List D} : atI (a :: b :: r) 1 = some b := by rw [atI_nat (by omega) (by simp only [List.length_cons]; omega)]; rfl
theorem at2 {a b c : D} {r : List D} : atI (a :: b :: c :: r) 2 = some c := by rw [atI_nat (by omega) (by simp only [List.length_cons]; omega)]; rfl
theorem at3 {a b c d : D} {r : List D} : atI (a :: b :: c :: d :: r) 3 = some d := by rw [atI_nat (by omega) (by simp only [List.length_cons]; omega)]; rfl
theorem at4 {a b c d e : D} {r : List D} : atI (a :: b :: c :: d :: e :: r) 4 = some e := by rw [atI_nat (by omega) (by simp only [List.length_cons]; omega)]; rfl
theorem at5 {a b c d e k : D} {r : List D} : atI (a :: b :: c :: d :: e :: k :: r) 5 = some k := by rw [atI_nat (by omega) (by simp only [List.length_cons]; omega)]; rfl
theorem e_setIt : mSetIt f i g E = R.bd (f E) fun z => Sm.b (mRef i) fun _ => Sm.b g fun j => fun E => slW E[i]? fun d => opt (dSet d j z) fun d' => .ok .next (E.set i (.w d')) := by
  unfold mSetIt
  rw [e_b]
  congr 1; funext z; congr 1; funext _; congr 1; funext j E
  unfold slW opt
  rcases E[i]? with _ | s
  · rfl
  · cases s with
    | no => rfl
    | b d => rfl
    | w d => simp only []; cases dSet d j z <;> rfl
theorem e_set {ds : List D} {j : Int} {z : D} : dSet (.lst ds) (.int j) z = (ixN ds.length j).map fun n => .lst (ds.set n z) := rfl
theorem ixN_nat {n : Nat} {j : Int} (h0 : 0 ≤ j) (h : j < n) : ixN n j = some j.toNat := by unfold ixN; rw [if_pos h0, if_pos h]
theorem set0 {a z : D} {r : List D} : dSet (.lst (a :: r)) (.int 0) z = some (.lst (z :: r)) := by rw [e_set, ixN_nat (by omega) (by simp only [List.length_cons]; omega)]; rfl
theorem set1 {a b z : D} {r : List D} : dSet (.lst (a :: b :: r)) (.int 1) z = some (.lst (a :: z :: r)) := by rw [e_set, ixN_nat (by omega) (by simp only [List.length_cons]; omega)]; rfl
theorem set2 {a b c z : D} {r : List D} : dSet (.lst (a :: b :: c :: r)) (.int 2) z = some (.lst (a :: b :: z :: r)) := by rw [e_set, ixN_nat (by omega) (by simp only [List.length_cons]; omega)]; rfl
theorem e_cons {f : Sm α} {g : Sm (List α)} : mCons f g E = R.bd (f E) fun x => Sm.b g fun xs => Sm.p (x :: xs) := e_b
theorem e_nil : (mNil : Sm (List α)) E = .ok [] E := rfl
theorem e_args : mArgs fas E = R.bd (fas E) fun as E => Sm.o (getAll E as) E := e_b
theorem e_ga0 : getAll E [] = some [] := rfl
theorem e_ga1 {a : Arg} {as : List Arg} : getAll E (a :: as) = (a.get E).bind fun d => (getAll E as).map (d :: ·) := by
  simp only [getAll]
  cases a.get E with
  | none => rfl
  | some d => cases getAll E as <;> rfl
theorem e_tup : mTup fs E = R.bd (fs E) fun ds => if ds.length ≤ 1000 then Sm.p (.tup ds) else fun _ => .bad := e_b
theorem e_lst : mLst fs E = R.bd (fs E) fun ds => if ds.length ≤ 1000 then Sm.p (.lst ds) else fun _ => .bad := e_b
theorem e_callG {o : List D → Option D} : mCallG o fs E = R.bd (fs E) fun ds => Sm.o (o ds) := e_b
theorem e_neg : mNeg f E = R.bd (f E) fun d => Sm.b (Sm.o (intOf d)) fun i => Sm.p (.int (-i)) := e_b
theorem e_intOf {i : Int} : intOf (.int i) = some i := rfl
def res (r : Res) (E : Env3) : R D := match r with
  | .ok z => .ok z E
  | .exc x => .exc x E
  | .bad => .bad
theorem res_ok {z : D} : res (.ok z) E = .ok z E := rfl
theorem res_exc {x : Exn} : res (.exc x) E = .exc x E := rfl
theorem e_call {n : Nat} {fn : List D → Res} : mCall n fn fs E = R.bd (fs E) fun ds => fun E => if ds.length = n then res (fn ds) E else .bad := by
  unfold mCall
  rw [e_b]; rfl
def resR (r : ResR) (i : Nat) (E : Env3) : R D := match r with
  | .ok z b => .ok z (E.set i (.w b))
  | .exc x b => .exc x (E.set i (.w b))
  | .bad => .bad
theorem resR_ok {z b : D} : resR (.ok z b) i E = .ok z (E.set i (.w b)) := rfl
theorem resR_exc {x : Exn} {b : D} : resR (.exc x b) i E = .exc x (E.set i (.w b)) := rfl
theorem e_callR {n : Nat} {fn : D → List D → ResR} : mCallR n fn i fas E = R.bd (mRef i E) fun _ => Sm.b fas fun as => fun E => slW E[i]? fun b => if (rooted b && noRef i as) = true then opt (getAll E as) fun ds => if ds.length + 1 = n then resR (fn b ds) i E else .bad else .bad := by
  unfold mCallR
  rw [e_b]
  congr 1; funext _; congr 1; funext as E
  unfold slW opt
  rcases E[i]? with _ | s
  · rfl
  · cases s with
    | no => rfl
    | b d => rfl
    | w d =>
      simp only []
      split
      · cases getAll E as with
        | none => rfl
        | some ds =>
          simp only []
          split
          · unfold resR; rfl
          · rfl
      · rfl
def resT (r : ResR) (E : Env3) : R D := match r with
  | .ok z _ => .ok z E
  | .exc x _ => .exc x E
  | .bad => .bad
theorem resT_ok {z b : D} : resT (.ok z b) E = .ok z E := rfl
theorem e_callRT {n : Nat} {fn : D → List D → ResR} : mCallRT n fn f fs E = R.bd (f E) fun b => Sm.b fs fun ds => fun E => if rooted b = true then (if ds.length + 1 = n then resT (fn b ds) E else .bad) else .bad := by
  unfold mCallRT
  rw [e_b]; rfl
def two (ds : List D) (k : D → D → R Fl) : R Fl := match ds with
  | [d1, d2] => k d1 d2
  | _ => .bad
theorem two_s {a b : D} {k : D → D → R Fl} : two [a, b] k = k a b := rfl
theorem e_par2 {k1 k2 : Bool} : mPar2 fs k1 k2 i j E = R.bd (fs E) fun ds => fun E => two ds fun d1 d2 => .ok .next ((E.set j (slot k2 d2)).set i (slot k1 d1)) := by
  unfold mPar2
  rw [e_b]
  congr 1
theorem e_part : mPart f E = R.bd (f E) fun d => Sm.b (Sm.o (intOf d)) fun i => Sm.p (some i) := e_b
theorem e_sl {fl fh : Sm (Option Int)} : mSl fa fl fh E = R.bd (fa E) fun x => Sm.b fl fun l => Sm.b fh fun h => fun E => opt (x.get E) fun d => Sm.o (dSl d l h) E := by
  unfold mSl
  rw [e_b]
  congr 1; funext x; congr 1; funext l; congr 1; funext h E
  unfold opt
  cases x.get E <;> rfl
/-! loops -/
def fin (r : R Fl) (k : Env3 → R Fl) : R Fl := match r with
  | .ok .next E2 => k E2
  | .ok .cont E2 => k E2
  | .ok .brk E2 => .ok .next E2
  | .ok (.ret z) E2 => .ok (.ret z) E2
  | .exc x E2 => .exc x E2
  | .bad => .bad
theorem fin_next {k : Env3 → R Fl} : fin (.ok .next E) k = k E := rfl
theorem fin_cont {k : Env3 → R Fl} : fin (.ok .cont E) k = k E := rfl
theorem fin_brk {k : Env3 → R Fl} : fin (.ok .brk E) k = .ok .next E := rfl
theorem fin_ret {k : Env3 → R Fl} {z : D} : fin (.ok (.ret z) E) k = .ok (.ret z) E := rfl
theorem e_fg0 : P3.forget [] E = E := rfl
theorem e_fg1 {is : List Nat} : P3.forget (i :: is) E = (P3.forget is E).set i .no := rfl
theorem e_for0 {gf : D → Sm Unit} {keep : Env3 → Env3} {body : Sm Fl} : mFor gf keep body [] E = .ok .next (keep E) := rfl
theorem e_for1 {gf : D → Sm Unit} {keep : Env3 → Env3} {body : Sm Fl} {d : D} {ds : List D} : mFor gf keep body (d :: ds) E = match gf d (keep E) with
    | .ok _ E1 => fin (body E1) fun E2 => mFor gf keep body ds E2
    | _ => .bad := by
  simp only [mFor, fin]
  all_goals
    cases gf d (keep E) with
    | ok a E1 => cases body E1 with
      | ok fl E2 => cases fl <;> rfl
      | exc x E2 => rfl
      | bad => rfl
    | exc x E1 => rfl
    | bad => rfl
theorem e_while {ft : Sm Bool} {keep : Env3 → Env3} {body : Sm Fl} {n : Nat} : mWhile ft keep body (n + 1) E = R.bd (ft (keep E)) fun c => fun E1 => if c = true then fin (body E1) fun E2 => mWhile ft keep body n E2 else .ok .next E1 := by
  simp only [mWhile, R.bd, fin]
  cases ft (keep E) with
  | ok c E1 => cases c with
    | true => cases body E1 with
      | ok fl E2 => cases fl <;> rfl
      | exc x E2 => rfl
      | bad => rfl
    | false => rfl
  | exc x E1 => rfl
  | bad => rfl
def cat (z : D) (r : R (List D)) : R (List D) := match r with
  | .ok zs E4 => .ok (z :: zs) E4
  | _ => .bad
theorem cat_ok {z : D} {zs : List D} : cat z (.ok zs E) = .ok (z :: zs) E := rfl
def bdd (r : R α) (k : α → Env3 → R β) : R β := match r with
  | .ok a E => k a E
  | _ => .bad
theorem bdd_ok {a : α} {k : α → Env3 → R β} : bdd (.ok a E) k = k a E := rfl
theorem e_comp0 {gf : D → Sm Unit} {vs : List Nat} {fe : Sm D} : mComp gf vs ft fe [] E = .ok [] (P3.forget vs E) := rfl
theorem e_comp1 {gf : D → Sm Unit} {vs : List Nat} {fe : Sm D} {d : D} {ds : List D} : mComp gf vs ft fe (d :: ds) E = bdd (gf d (P3.forget vs E)) fun _ E1 => bdd (ft E1) fun c E2 => if c = true then bdd (fe E2) fun z E3 => cat z (mComp gf vs ft fe ds E3) else mComp gf vs ft fe ds E2 := by
  simp only [mComp, bdd]
  cases gf d (P3.forget vs E) with
  | ok a E1 =>
    dsimp only
    cases ft E1 with
    | ok c E2 => cases c with
      | true =>
        dsimp only
        rw [if_pos rfl]
        cases fe E2 with
        | ok z E3 =>
          dsimp only
          cases mComp gf vs ft fe ds E3 <;> rfl
        | exc x E3 => rfl
        | bad => rfl
      | false => rfl
    | exc x E2 => rfl
    | bad => rfl
  | exc x E1 => rfl
  | bad => rfl
theorem e_lc {fi : Sm (List D)} {gf : D → Sm Unit} {vs : List Nat} {fe : Sm D} : mLc fi gf vs ft fe E = R.bd (fi E) fun ds => Sm.b (if ds.length < 16777216 then mComp gf vs ft fe ds else fun _ => .bad) fun zs => Sm.p (.lst zs) := e_b
theorem e_seqD : mSeqD f E = R.bd (f E) fun d => Sm.o (seqOf d) := e_b
theorem e_range1 : mRange1 fs E = R.bd (fs E) fun ds => Sm.o (dRange1 ds) := e_b
theorem e_range2 : mRange2 fs E = R.bd (fs E) fun ds => Sm.o (dRange2 ds) := e_b
theorem e_enum : mEnum f E = R.bd (f E) fun d => Sm.o ((lstOf d).map enumD) := e_b
theorem e_zip : mZip f g E = R.bd (f E) fun d => Sm.b g fun e => Sm.o (dZip d e) := e_b
theorem e_isi {T : String} : mIsi T f E = R.bd (f E) fun d => Sm.o (dIsi T d) := e_b
theorem e_isi2 {T U : String} : mIsi2 T U f E = R.bd (f E) fun d => Sm.o (dIsi2 T U d) := e_b
/-! defs -/
def endV (r : R Fl) : Res := match r with
  | .ok (.ret d) _ => .ok d
  | .ok .next _ => .ok .non
  | .exc x _ => .exc x
  | _ => .bad
theorem endV_ret {d : D} : endV (.ok (.ret d) E) = .ok d := rfl
theorem endV_next : endV (.ok .next E) = .ok .non := rfl
theorem endV_exc {x : Exn} : endV (.exc x E) = .exc x := rfl
theorem e_fn {n : Nat} {g : Sm Fl} {ds : List D} : fnOf n g ds = endV (g (startE n ds)) := by
  unfold fnOf endV; rfl
def endR (r : R Fl) : ResR := match r with
  | .ok (.ret d) E => (match w0 E with
    | some b' => .ok d b'
    | none => .bad)
  | .ok .next E => (match w0 E with
    | some b' => .ok .non b'
    | none => .bad)
  | .exc x E => (match w0 E with
    | some b' => .exc x b'
    | none => .bad)
  | _ => .bad
theorem endR_ret {d b : D} : endR (.ok (.ret d) (.w b :: E)) = .ok d b := rfl
theorem endR_next {b : D} : endR (.ok .next (.w b :: E)) = .ok .non b := rfl
theorem e_fnR {n : Nat} {g : Sm Fl} {b : D} {ds : List D} : fnOfR n g b ds = endR (g (startR n b ds)) := by
  unfold fnOfR endR; rfl
theorem e_endVif {c : Prop} [Decidable c] {a b : R Fl} : endV (if c then a else b) = if c then endV a else endV b := by split <;> rfl
theorem e_endRif {c : Prop} [Decidable c] {a b : R Fl} : endR (if c then a else b) = if c then endR a else endR b := by split <;> rfl
end
theorem e_rooted {ds : List D} : rooted (.lst ds) = true := rfl
/-! ints -/
section
variable {i j : Int} {x y : Str} {b c : Bool}
theorem d_add : dAddX (.int i) (.int j) = some (.int (i + j)) := rfl
theorem d_sub : dSub (.int i) (.int j) = some (.int (i - j)) := rfl
theorem d_mul : dMul (.int i) (.int j) = if mulOk i j = true then some (.int (i * j)) else none := rfl
theorem d_div : dDiv (.int i) (.int j) = if divOk i j = true then some (.int (i.fdiv j)) else none := rfl
theorem d_mod : dMod (.int i) (.int j) = if j = 0 then none else some (.int (i.fmod j)) := by
  show (if decide (j ≠ 0) = true then some (D.int (i.fmod j)) else none) = _
  by_cases h : j = 0 <;> simp [h]
theorem d_pow : dPow (.int i) (.int j) = if powOk i j = true then some (.int (i ^ j.toNat)) else none := rfl
theorem d_lt : dLtI (.int i) (.int j) = some (.bl (decide (i < j))) := rfl
theorem d_le : dLeI (.int i) (.int j) = some (.bl (decide (i ≤ j))) := rfl
theorem d_gt : dGtI (.int i) (.int j) = some (.bl (decide (j < i))) := rfl
theorem d_ge : dGeI (.int i) (.int j) = some (.bl (decide (j ≤ i))) := rfl
theorem eqv_int : eqD (.int i) (.int j) = decide (i = j) := by
  unfold eqD D.py
  simp only [PyData.eqv]
  by_cases h : i = j
  · subst h; simp
  · simp [h]
theorem d_eq_int : dEq (.int i) (.int j) = some (.bl (decide (i = j))) := by
  unfold dEq
  rw [eqv_int, if_pos (by rfl)]
theorem d_ne_int : dNe (.int i) (.int j) = some (.bl (!decide (i = j))) := by
  unfold dNe
  rw [eqv_int, if_pos (by rfl)]
theorem d_abs : dAbs [.int i] = some (.int i.natAbs) := by
  unfold dAbs
  simp only [Option.some.injEq, D.int.injEq]
  split <;> omega
theorem d_int_b : dInt1 [.bl b] = some (.int (if b then 1 else 0)) := rfl
theorem d_int_i : dInt1 [.int i] = some (.int i) := rfl
theorem lf_int : D.lf (.int i) = true := rfl
theorem lf_bl : D.lf (.bl b) = true := rfl
theorem lf_str : D.lf (.str x) = true := rfl
theorem lf_non : D.lf .non = true := rfl
theorem lf_tup {ds : List D} : D.lf (.tup ds) = lfs ds := rfl
theorem lfs_nil : lfs [] = true := rfl
theorem lfs_cons {d : D} {ds : List D} : lfs (d :: ds) = (d.lf && lfs ds) := rfl
theorem log_le {n : Int} {k : Nat} (h : n.natAbs < 2 ^ (k + 1)) : n.natAbs.log2 ≤ k := by
  by_cases h0 : n.natAbs = 0
  · rw [h0]; simp [Nat.log2_def]
  · have := (Nat.log2_lt h0).mpr h; omega
theorem mulOk_of {i j : Int} {a b : Nat} (h1 : i.natAbs < 2 ^ (a + 1)) (h2 : j.natAbs < 2 ^ (b + 1)) (h : a + b < 100000000) : mulOk i j = true := by
  unfold mulOk
  have := log_le h1; have := log_le h2
  exact decide_eq_true (by omega)
/-- small: below ten to the 300th -/
theorem mulOk_le {i j : Int} (h1 : -(2 ^ 2000) < i) (h2 : i < 2 ^ 2000) (h3 : -(2 ^ 2000) < j) (h4 : j < 2 ^ 2000) : mulOk i j = true :=
  mulOk_of (a := 1999) (b := 1999) (by omega) (by omega) (by omega)
theorem divOk_le {i j : Int} (h3 : -(2 ^ 2000) < j) (h4 : j < 2 ^ 2000) (h : j ≠ 0) : divOk i j = true := by
  unfold divOk
  have : j.natAbs.log2 ≤ 1999 := log_le (by omega)
  simp only [Bool.and_eq_true, decide_eq_true_eq]
  exact ⟨h, by omega⟩
theorem powOk_le {i j : Int} (h1 : 0 ≤ j) (h2 : j ≤ 1000000) (h3 : -(2 ^ 64) < i) (h4 : i < 2 ^ 64) : powOk i j = true := by
  unfold powOk
  simp only [Bool.and_eq_true, decide_eq_true_eq]
  exact ⟨⟨h1, h2⟩, by omega⟩
theorem fmod_pos {i j : Int} (h : 0 < j) : i.fmod j = i % j := Int.fmod_eq_emod_of_nonneg _ (by omega)
theorem fdiv_pos {i j : Int} (h : 0 < j) : i.fdiv j = i / j := Int.fdiv_eq_ediv_of_nonneg _ (by omega)
end
end P3
end
section
set_option exponentiation.threshold 256
set_option Elab.async false
set_option linter.all false
set_option maxRecDepth 100000
set_option maxHeartbeats 2000000
set_option autoImplicit false
/-! P3o: str of data, name += e, insert. -/
namespace P3
open PySem PySem.Spec PyProof.Rows L2
mutual
theorem py_nodict : ∀ d : D, d.py.hasDict = false
  | .non => rfl
  | .bl _ => rfl
  | .int _ => rfl
  | .str _ => rfl
  | .tup xs => by simp only [D.py, PyData.hasDict]; exact pys_nodict xs
  | .ctup xs => by simp only [D.py, PyData.hasDict]; exact pys_nodict xs
  | .lst xs => by simp only [D.py, PyData.hasDict]; exact pys_nodict xs
  | .clst xs => by simp only [D.py, PyData.hasDict]; exact pys_nodict xs
  | .flst xs => by simp only [D.py, PyData.hasDict]; exact pys_nodict xs
  | .dK _ => rfl
  | .dT _ => rfl
  | .obj _ _ => rfl
theorem pys_nodict : ∀ ds : List D, PyData.hasDictAll (pys ds) = false
  | [] => rfl
  | d :: ds => by simp only [pys, PyData.hasDictAll, py_nodict d, pys_nodict ds, Bool.or_self]
end
def strOk (d : D) : Bool := d.pl && d.py.showable && decide (d.py.shown.length ≤ 1000000) && decide (dep d ≤ 40)
def dStr1 (d : D) : Option D := match d with
  | .str x => some (.str x)
  | .int i => if i.natAbs.log2 < 1920 then some (.str (toString i)) else none
  | .lst ds => if strOk (.lst ds) = true then some (.str (D.lst ds).py.shown) else none
  | .tup ds => if strOk (.tup ds) = true then some (.str (D.tup ds).py.shown) else none
  | _ => none
def dStr : List D → Option D := one dStr1
section
variable {X : Cx} {k : Nat}
theorem str_disp (hr : Rm k X.A) {pins : List (Addr × Obj)} {s : Shared} {σ : L2.St} {H : Hp} {p : Addr} {u : Value} {d : D} {Q : VK} (I : Inv X pins σ H s) (r : RelV (.ref p) u) (o : Rdb X.K H (.ref p) d) (e : strOk d = true) (q : Q (.str d.py.shown) H) :
    wpAny (model X.prog X.w) X.A (call (.type "str") [u]) (EP X pins σ Q) X.xe s := by
  unfold strOk at e
  simp only [Bool.and_eq_true, decide_eq_true_eq] at e
  obtain ⟨⟨⟨e1, e2⟩, e3⟩, e4⟩ := e
  obtain ⟨as, rd⟩ := Own.reads I d (.ref p) u o e1 r
  obtain rfl : u = .ref p := r
  have hu := hr.units
  have sl := sizeLine_eq
  exact str_of_reads rd e2 (PyData.noDict_hsm (py_nodict d)) hr.gd (by unfold dep at e4; omega) (fun _ _ z => z) (fun h' u tk hk => ⟨.str _, H, I.kept hk, ⟨_, rfl⟩, q⟩) (by omega)
theorem cg_str (hr : Rm k X.A) : CallG X (.type "str") dStr := by
  intro pins s σ H xs us ds z Q I r o e kq
  obtain ⟨d, rfl, e1⟩ := one_some e
  obtain ⟨v, rfl, ov⟩ := owns1 o
  unfold dStr1 at e1
  split at e1
  · cases ov; cases e1
    exact SkE.call_str_str pins s σ H _ us Q I r ⟨_, rfl, kq.plain (own_str _)⟩
  · split at e1
    · rename_i hz
      cases ov; cases e1
      exact call_str_int pins s σ H _ us Q I r ⟨_, rfl, hz, kq.plain (own_str _)⟩
    · cases e1
  · split at e1
    · rename_i ds hs
      cases e1
      obtain ⟨u, rfl, ru⟩ := vals1 r
      obtain ⟨p, rfl⟩ : ∃ p, v = .ref p := by cases ov <;> exact ⟨_, rfl⟩
      exact str_disp hr I ru ov hs (kq.plain (own_str _))
    · cases e1
  · split at e1
    · rename_i ds hs
      cases e1
      obtain ⟨u, rfl, ru⟩ := vals1 r
      obtain ⟨p, rfl⟩ : ∃ p, v = .ref p := by cases ov; exact ⟨_, rfl⟩
      exact str_disp hr I ru ov hs (kq.plain (own_str _))
    · cases e1
  · cases e1
end
section
variable {Y : Cy} {e a b : Expr} {f g : Sm D} {pos apos p1 : Pos} {x : Str}
/-- name += e, name -= e: ints -/
def mAug (i : Nat) (c : D → D → Option D) (f : Sm D) : Sm Fl := Sm.b (mVar i) fun d => Sm.b f fun z => Sm.b (Sm.o (c d z)) fun r => fun E => .ok .next (E.set i (.b r))
theorem dI_eq {c : Int → Int → Bool} {g : Int → Int → D} {d z r : D} (h : dI c g d z = some r) : ∃ i j, d = .int i ∧ z = .int j ∧ r = g i j := by
  unfold dI at h
  split at h
  · split at h
    · cases h; exact ⟨_, _, rfl, rfl, rfl⟩
    · cases h
  · cases h
theorem aug_any {op : Operator} {ff : Int → Int → Int} (ho : PIp Y.X op (ipI ff)) {x : Str} {k : Bool} (i : Nat) {pos' : Pos} (h0 : Y.p0 = none ∨ i ≠ 0) (hN : Y.X.N.Nodup) (h : VE Y k e f) (hi : Y.X.N[i]? = some x) (hx : L2.Loc Y.X.env.scope x)
    (hf : Y.X.fn x = true ∨ Y.X.env.scope.names.lookup x = some .local) : VS Y (.AugAssign (.Name x pos') op e pos) (mAug i (dI (fun _ _ => true) fun a b => .int (ff a b)) f) := by
  obtain ⟨t, p, h⟩ := h
  refine ⟨_, ps_aug (i := i) hN hi hx p ho hf, fun L H E σ T EE S G => ?_⟩
  have G0 := G.bind
  unfold mVar at G0
  split at G0
  · rename_i d e0
    obtain ⟨v, h1, h2⟩ := S.lookB e0
    refine ⟨v, h1, h L H E σ T _ S (G0.bind.ex σ fun z E1 G1 y L1 H1 l1 S1 => ?_)⟩
    have G2 := G1.bind
    cases er : dI (fun _ _ => true) (fun a b => D.int (ff a b)) d z with
    | none => rw [er] at G2; exact G2.elim
    | some r =>
      rw [er] at G2
      obtain ⟨a, c, rfl, rfl, rfl⟩ := dI_eq er
      have oy := S1.rdb
      have hv : v = .int a := own_is_int h2
      have hy : y = .int c := own_is_int oy
      refine ⟨a, c, hv, hy, ?_⟩
      have S2 : St3 Y.K Y.p0 L1 H1 E1 σ (⟨false, .int (ff a c), .int (ff a c)⟩ :: T) := S1.pop.push (.int _)
      exact G2 _ L1 H1 l1 (S2.put h0)
  · exact G0.elim
theorem vs_augAdd {x : Str} {k : Bool} (i : Nat) {pos' : Pos} (h0 : Y.p0 = none ∨ i ≠ 0) (hN : Y.X.N.Nodup) (h : VE Y k e f) (hi : Y.X.N[i]? = some x := by rfl) (hx : L2.Loc Y.X.env.scope x := by first | exact Or.inl rfl | exact Or.inr rfl)
    (hf : Y.X.fn x = true ∨ Y.X.env.scope.names.lookup x = some .local := by first | exact .inl rfl | exact .inr rfl) : VS Y (.AugAssign (.Name x pos') .Add e pos) (mAug i dAdd f) := aug_any ip_add i h0 hN h hi hx hf
theorem vs_augSub {x : Str} {k : Bool} (i : Nat) {pos' : Pos} (h0 : Y.p0 = none ∨ i ≠ 0) (hN : Y.X.N.Nodup) (h : VE Y k e f) (hi : Y.X.N[i]? = some x := by rfl) (hx : L2.Loc Y.X.env.scope x := by first | exact Or.inl rfl | exact Or.inr rfl)
    (hf : Y.X.fn x = true ∨ Y.X.env.scope.names.lookup x = some .local := by first | exact .inl rfl | exact .inr rfl) : VS Y (.AugAssign (.Name x pos') .Sub e pos) (mAug i dSub f) := aug_any ip_sub i h0 hN h hi hx hf
end
section
variable {K : PySem.W.Frag} {p0 : Option Addr} {L H : Hp} {E : Env3} {σ : L2.St} {T : List Ent}
theorem Owns.cut : ∀ (n : Nat) {vs : List V} {ds : List D} {fp : List Addr}, Owns K L H vs ds fp → ∃ f g, fp = f ++ g ∧ Owns K L H (vs.take n) (ds.take n) f ∧ Owns K L H (vs.drop n) (ds.drop n) g
  | 0, _, _, fp, o => ⟨[], fp, rfl, .nil, o⟩
  | n + 1, _, _, _, .nil => ⟨[], [], rfl, .nil, .nil⟩
  | n + 1, _, _, _, .cons (f := f) h hs => by
    obtain ⟨f1, g1, rfl, o1, o2⟩ := Owns.cut n hs
    exact ⟨f ++ f1, g1, by rw [List.append_assoc], .cons h o1, o2⟩
theorem St3.ins {p : Addr} {vs : List V} {zs : List D} {y : V} {z : D} (n : Nat) (S : St3 K p0 L H E σ (⟨true, y, z⟩ :: ⟨true, .ref p, .lst zs⟩ :: T)) (hp : H p = some (.lst vs)) :
    St3 K p0 L (upd H p (.lst (vs.take n ++ [y] ++ vs.drop n))) E σ (⟨true, .ref p, .lst (zs.take n ++ [z] ++ zs.drop n)⟩ :: T) := by
  obtain ⟨f, g, o, oz, nd, k⟩ := S.two hp
  obtain ⟨f1, f2, rfl, o1, o2⟩ := o.cut n
  refine k _ _ (f1 ++ g ++ f2) (fun H' lt h => ?_) ?_ fun a ha => ?_
  · have u1 := o1.up lt fun a ha => h a (by simp [ha])
    have u2 := o2.up lt fun a ha => h a (by simp [ha])
    have u3 := oz.mono (Le.refl _) lt fun a ha => h a (by simp [ha])
    exact (u1.append (.one u3)).append u2
  · have nd2 := (List.nodup_cons.mp nd).2
    exact ((List.perm_append_comm (l₁ := g) (l₂ := f2)).append_left f1 |>.trans (by rw [List.append_assoc])).symm.nodup_iff.mp nd2 |> fun h => by simpa [List.append_assoc] using h
  · simp only [List.mem_append] at ha ⊢
    rcases ha with (h | h) | h
    · exact .inl (.inl h)
    · exact .inr h
    · exact .inl (.inr h)
end
section
variable {Y : Cy} {e a b : Expr} {f g : Sm D} {pos apos p1 : Pos} {x : Str}
/-- x.insert(e, e2) -/
def mIns (i : Nat) (f g : Sm D) : Sm D := Sm.b (mRefL i) fun _ => Sm.b f fun j => Sm.b g fun z => fun E => match E[i]?, j with
  | some (.w (.lst ds)), .int n => if (decide (0 ≤ n) && decide (n < 4611686018427387904) && decide (ds.length < 10000000)) = true then .ok .non (E.set i (.w (.lst (ds.take n.toNat ++ [z] ++ ds.drop n.toNat)))) else .bad
  | _, _ => .bad
theorem ve_ins {k : Bool} (i : Nat) (h1 : VE Y k a f) (h2 : VE Y true b g) (hN : Y.X.N[i]? = some x := by rfl) (hv : Vis Y.X.env.scope x := by first | exact Or.inl rfl | exact Or.inr (Or.inl rfl) | exact Or.inr (Or.inr rfl)) (hd : (x == ("__debug__" : Str)) = false := by decide)
    (hcd : (x == ("__classdict__" : Str)) = false := by decide) (hbase : attributeBase (.Name x p1) "insert" Y.X.env (eval (.Name x p1) Y.X.env) = eval (.Name x p1) Y.X.env := by rfl)
    (hfew : ((backTo pos (starEach (a :: b :: []) Y.X.env)).all (fun x => !x.1) && (backToKw pos (keywordEach [] Y.X.env)).all (fun x => x.1.isSome) && decide ((a :: b :: []).length + ([] : List Keyword).length + (if ([] : List Keyword).isEmpty then 0 else 1) < 30)) = true := by rfl)
    (hline : (apos.endLine == pos.line) = true := by rfl) (hs : starEach (a :: b :: []) Y.X.env = (false, eval a Y.X.env) :: starEach (b :: []) Y.X.env := by rfl) (hs2 : starEach (b :: []) Y.X.env = (false, eval b Y.X.env) :: starEach [] Y.X.env := by rfl)
    (hplain : (backTo pos (starEach (b :: []) Y.X.env)).any (·.1) = false := by rfl) : VE Y true (.Call (.Attribute (.Name x p1) "insert" apos) [a, b] [] pos) (mIns i f g) := by
  obtain ⟨t1, pt1, h1⟩ := h1
  obtain ⟨t2, pt2, h2⟩ := h2
  refine ⟨_, pe_bm PySem.F.plainAttrs_list PySem.F.slot_list_insert PySem.F.type_list_insert mt_insert (pe_var (i := i) hN hv hd hcd) (pa_cons pt1 (pa_cons pt2 pa_nil hs2) hs) hbase hfew hline hs hplain, fun L H E σ T Q S G => ?_⟩
  obtain ⟨ds0, e0, G0⟩ := Gd.refL G
  obtain ⟨v, v1, v2⟩ := S.look e0
  refine ⟨v, v1, rdb_lst v2, h1 L H E σ T _ S (Gd.imp (Gd.bind G0) fun j E1 G1 vj L1 H1 l1 S1 => ?_)⟩
  refine h2 L1 H1 E1 σ _ _ S1 (Gd.temp (Gd.bind G1) l1 fun z E2 G2 y L2 H2 l2 S2 => ?_)
  split at G2
  · rename_i ds n e1
    split at G2
    · rename_i hl
      simp only [Bool.and_eq_true, decide_eq_true_eq] at hl
      have ej : vj = .int n := own_is_int ((S2.perm (.swap _ _ _)).rdb)
      subst ej
      have S3 := (S2.perm (.swap _ _ _)).pop
      obtain ⟨v', w1, S4⟩ := S3.take e1
      rw [v1] at w1; cases w1
      obtain ⟨fo, go, o, _⟩ := S4.temps.ownW
      obtain ⟨p, vs, f3, rfl, hp, _, ho⟩ := own_lstW o
      refine ⟨p, vs, n, y, rfl, rfl, hp, by rw [ho.len]; exact lt_line hl.2, hl.1.1, by omega, ?_⟩
      have S5 := (S4.perm (.swap _ _ _)).ins n.toNat hp
      have S6 := S3.pop.back e1 v1 S5
      exact G2 .non L2 _ (l1.trans l2) (S6.fresh (Le.refl _) .non List.nodup_nil (by simp))
    · exact G2.elim
  · exact G2.elim
end
section
variable {E : Env3} {i : Nat} {f g : Sm D}
theorem e_aug {c : D → D → Option D} : mAug i c f E = R.bd (mVar i E) fun d => Sm.b f fun z => Sm.b (Sm.o (c d z)) fun r => fun E => .ok .next (E.set i (.b r)) := e_b
def isL (o : Option D) (k : R D) : R D := match o with
  | some (.lst _) => k
  | _ => .bad
def insD (d j z : D) : Option D := match d, j with
  | .lst ds, .int n => if (decide (0 ≤ n) && decide (n < 4611686018427387904) && decide (ds.length < 10000000)) = true then some (.lst (ds.take n.toNat ++ [z] ++ ds.drop n.toNat)) else none
  | _, _ => none
def okL (o : Option D) (E : Env3) : R Unit := match o with
  | some (.lst _) => .ok () E
  | _ => .bad
theorem okL_s {ds : List D} : okL (some (.lst ds)) E = .ok () E := rfl
theorem e_refL : mRefL i E = okL (rdSlot E i) E := by
  unfold mRefL okL
  cases rdSlot E i with
  | none => rfl
  | some d => cases d <;> rfl
theorem e_ins : mIns i f g E = R.bd (mRefL i E) fun _ => Sm.b f fun j => Sm.b g fun z => fun E => slW E[i]? fun d => opt (insD d j z) fun d' => .ok .non (E.set i (.w d')) := by
  unfold mIns
  rw [e_b]
  congr 1; funext _; congr 1; funext j; congr 1; funext z E
  unfold slW opt insD
  rcases E[i]? with _ | s
  · rfl
  · cases s with
    | no => rfl
    | b d => rfl
    | w d => cases d <;> cases j <;> first | rfl | (simp only []; split <;> rfl)
theorem e_app : mApp i f E = R.bd (mRefL i E) fun _ => Sm.b f fun z => fun E => slW E[i]? fun d => opt (oApp d z) fun p => .ok p.2 (E.set i (.w p.1)) := by
  unfold mApp
  rw [e_b]
  congr 1; funext _; congr 1; funext z E
  unfold slW opt oApp
  rcases E[i]? with _ | s
  · rfl
  · cases s with
    | no => rfl
    | b d => rfl
    | w d => cases d <;> first | rfl | (simp only []; split <;> rfl)
end
section
variable {K : PySem.W.Frag} {p0 : Option Addr} {L H : Hp} {E : Env3} {σ : L2.St} {T : List Ent}
/-- a new list of shared things is shared -/
theorem St3.newB {vs : List V} {ds : List D} {p : Addr} (S : St3 K p0 L H E σ T) (o : Owns K L H vs ds []) (hp : H p = none) : ∃ L', Le L L' ∧ St3 K p0 L' (upd H p (.lst vs)) E σ (⟨false, .ref p, .lst ds⟩ :: T) := by
  obtain ⟨es, l, lL, fp, hl, nd, fr⟩ := S.ex
  have hL : L p = none := lL.none hp
  have le1 : Le L (upd L p (.lst vs)) := Le.new hL
  have np : ∀ a ∈ fp, a ≠ p := fun a ha e => by
    obtain ⟨u, eu, _⟩ := hl.there a ha
    rw [e, hp] at eu
    cases eu
  refine ⟨upd L p (.lst vs), le1, St3.push ⟨⟨es, l, ⟨fun a u ha => ?_, fp, hl.up le1 (fun a ha => upd_ne (np a ha)) (Le.new hp).leT, nd, fun a ha => by rw [upd_ne (np a ha)]; exact fr a ha⟩⟩, S.pin⟩ (.bor (.inl upd_same) (o.mono le1 (Le.new hp).leT (by simp)))⟩
  by_cases e : a = p
  · subst e
    rw [upd_same] at ha
    rw [upd_same]
    exact ha
  · rw [upd_ne e] at ha
    rw [upd_ne e]
    exact lL a u ha
end
theorem ve_lstB {Y : Cy} {es : List Expr} {fs : Sm (List D)} {pos : Pos} (h : VBs Y es fs) : VE Y false (.List es pos) (mLst fs) := by
  obtain ⟨t, p, h⟩ := h
  refine ⟨_, pe_lst p, fun L H E σ T Q S G => h L H E σ T _ S (G.bind.imp fun ds E1 G1 vs L1 H1 l1 S1 o => ?_)⟩
  split at G1
  · rename_i hn
    refine ⟨sz1000 (by rw [o.len]; exact hn), fun q hq => ?_⟩
    obtain ⟨L2', l2, S2⟩ := S1.newB o hq
    exact G1 _ L2' _ (l1.trans l2) S2
  · exact G1.elim
end P3
end
section
set_option exponentiation.threshold 256
set_option Elab.async false
set_option linter.all false
set_option maxRecDepth 100000
set_option maxHeartbeats 2000000
set_option autoImplicit false
/-! P3p: three names at once, numbers of the module, list(range(..)). -/
namespace P3
open PySem PySem.Spec PyProof.Rows L2
section
variable {Y : Cy} {e a b c : Expr} {es : List Expr} {f g : Sm D} {pos : Pos}
def mPar3 (fs : Sm (List D)) (k1 k2 k3 : Bool) (i j l : Nat) : Sm Fl := Sm.b fs fun ds => fun E => match ds with
  | [d1, d2, d3] => .ok .next (((E.set l (slot k3 d3)).set j (slot k2 d2)).set i (slot k1 d1))
  | _ => .bad
theorem vs_par3 {i j l : Nat} {x y z : Str} {fs : Sm (List D)} {k1 k2 k3 : Bool} {px py pz pt : Pos} {kt kk pt2} (hi0 : Y.p0 = none ∨ i ≠ 0) (hj0 : Y.p0 = none ∨ j ≠ 0) (hl0 : Y.p0 = none ∨ l ≠ 0) (hc : Y.X.calm = true) (hN : Y.X.N.Nodup) (ha : VXs Y [k1, k2, k3] [a, b, c] fs)
    (hij : i ≠ j := by decide) (hil : i ≠ l := by decide) (hjl : j ≠ l := by decide) (hi : Y.X.N[i]? = some x := by rfl) (hj : Y.X.N[j]? = some y := by rfl) (hl : Y.X.N[l]? = some z := by rfl)
    (hx : Y.X.env.scope.names.lookup x = some .local := by rfl) (hy : Y.X.env.scope.names.lookup y = some .local := by rfl) (hz : Y.X.env.scope.names.lookup z = some .local := by rfl)
    (hw : swappedStores [.Tuple [.Name x px, .Name y py, .Name z pz] kt pt] (.Tuple [a, b, c] kk pt2) Y.X.env = pure (some [x, y, z]) := by rfl)
    (hs : swapsWithSole [.Tuple [.Name x px, .Name y py, .Name z pz] kt pt] (.Tuple [a, b, c] kk pt2) pos.line Y.X.env = pure false := by rfl) :
    VS Y (.Assign [.Tuple [.Name x px, .Name y py, .Name z pz] kt pt] (.Tuple [a, b, c] kk pt2) pos) (mPar3 fs k1 k2 k3 i j l) := by
  obtain ⟨t, p, h⟩ := ha
  refine ⟨_, ps_par3 hc hN hi hj hl hij hil hjl hx hy hz p hw hs, fun L H E σ T D S G => h L H E σ T _ S (G.bind.ex σ fun ds E1 G1 vs L1 H1 l1 h1 h2 S1 => ?_)⟩
  match vs, ds, h1, h2, S1, G1 with
  | [v1, v2, v3], [d1, d2, d3], _, _, S1, G1 =>
    refine ⟨v1, v2, v3, rfl, ?_⟩
    have S2 : St3 Y.K Y.p0 L1 H1 E1 σ ((⟨k3, v3, d3⟩ : Ent) :: ⟨k2, v2, d2⟩ :: ⟨k1, v1, d1⟩ :: T) := S1
    rw [List.set_comm (i := j) (j := l) _ _ hjl, List.set_comm (i := i) (j := l) _ _ hil, List.set_comm (i := i) (j := j) _ _ hij]
    exact G1 _ L1 H1 l1 (((S2.put hl0).put hj0).put hi0)
/-- a number of the module -/
theorem ve_glInt {x : Str} {i : Int} (hm : ∃ t, Y.X.mg x = some (.int i t)) (hg : Gl Y.X x := by rfl) (hd : (x == ("__debug__" : Str)) = false := by decide) : VE Y false (.Name x pos) (Sm.p (.int i)) := by
  obtain ⟨t, hm⟩ := hm
  exact ⟨_, pe_glob (v := .int i) hg hm ⟨t, rfl⟩ hd, fun L H E σ T Q S G => G (.int i) L H (Le.refl _) (S.push (.int i))⟩
def dListR (o : Option (List D)) : Option D := o.bind fun ds => if ds.length ≤ 1000000 then some (.lst ds) else none
def mListRg1 (f : Sm D) : Sm D := Sm.b f fun d => Sm.o (dListR (dRange1 [d]))
theorem owns_rg {K : PySem.W.Frag} {L H : Hp} (lo : Int) : ∀ l : List Nat, Owns K L H (l.map fun (i : Nat) => V.int (lo + (i : Int))) (l.map fun (k : Nat) => D.int (lo + (k : Int))) []
  | [] => .nil
  | n :: l => .cons (f := []) (g := []) (.int _) (owns_rg lo l)
theorem lfs_rg (lo : Int) : ∀ l : List Nat, lfs (l.map fun (k : Nat) => D.int (lo + (k : Int))) = true
  | [] => rfl
  | n :: l => by simp only [List.map_cons, lfs, D.lf, lfs_rg lo l, Bool.and_self]
/-- list(range(e)) -/
theorem ve_listRg1 {k : Bool} {p q : Pos} {rpos : Pos} (hc : Y.X.calm = true) (hm : Y.X.mg "list" = none) (hmr : Y.X.mg "range" = none) (h : VE Y k e f) (hg : Gl Y.X "list" := by rfl) (hgr : Gl Y.X "range" := by rfl)
    (nr : starEach [e] Y.X.env = (false, eval e Y.X.env) :: starEach [] Y.X.env := by rfl) (na : starEach [.Call (.Name "range" q) [e] [] rpos] Y.X.env = (false, eval (.Call (.Name "range" q) [e] [] rpos) Y.X.env) :: starEach [] Y.X.env := by rfl) :
    VE Y true (.Call (.Name "list" p) [.Call (.Name "range" q) [e] [] rpos] [] pos) (mListRg1 f) := by
  obtain ⟨t, pt, h⟩ := h
  refine ⟨_, pe_listRg hc hg hm (prg_1 hgr hmr pt nr) na, fun L H E σ T Q S G => h L H E σ T _ S (G.bind.imp fun d E1 G1 v L1 H1 l1 S1 => ?_)⟩
  obtain ⟨z, e1, G2⟩ := Gd.opt G1
  unfold dListR at e1
  obtain ⟨ds, e2, e3⟩ := Option.bind_eq_some_iff.mp e1
  split at e3
  · rename_i hl
    cases e3
    unfold dRange1 at e2
    split at e2
    · rename_i j hj
      cases hj
      split at e2
      · rename_i hr
        cases e2
        have hr' := rngOk_ok hr
        have hlen : (intsD 0 j.toNat).length = j.toNat := by unfold intsD; simp
        have ev : v = .int j := own_is_int S1.rdb
        refine ⟨j, ev, ⟨by omega, by omega, by omega, by omega, by rw [hlen] at hl; rw [show (j - 0).toNat = j.toNat by omega]; omega⟩, fun q hq => ?_⟩
        have e0 : (j - 0).toNat = j.toNat := by omega
        have o := owns_rg (K := Y.K) (L := H1) (H := H1) 0 (List.range (j - 0).toNat)
        have S2 := S1.pop.newLf o (lfs_rg 0 _) hq
        rw [e0] at S2
        have S3 : St3 Y.K Y.p0 L1 (upd H1 q (.lst (rgV 0 j))) E1 σ (⟨true, .ref q, .lst (intsD 0 j.toNat)⟩ :: T) := by
          unfold rgV intsD
          rw [e0]
          exact S2
        exact G2 _ L1 _ l1 S3
      · cases e2
    · cases e2
  · cases e3
end
end P3
end
section
set_option exponentiation.threshold 256
set_option Elab.async false
set_option linter.all false
set_option maxRecDepth 100000
set_option maxHeartbeats 4000000
set_option autoImplicit false
/-! P3, part q: list(zip(a, b)) -/
namespace P3
open PySem PySem.Spec PyProof.Rows L2

section
variable {prog : Program} {w : World} {A : Around} {E : Value → Shared → Prop} {s : Shared} {z TI TO i1 i2 : Addr} {fp1 fp2 : List Addr} {n1 n2 i : Nat} {P1 P2 : Nat → Value → Prop} {St1 St2 : Nat → Heap → Prop} {a1 a2 : Value}

theorem zh_item {T : Addr} {f : Bool} {oT : Obj} {Q : Value → Shared → Prop} (S : ZipSep2 z TI TO i1 i2 fp1 fp2) (D1 : Draws prog w A i1 fp1 n1 P1 St1) (D2 : Draws prog w A i2 fp2 n2 P2 St2)
    (hz : IsZipHeld s.heap z TI TO T f) (hT : s.heap.get? T = some oT) (hTI : IsTupOf2 s.heap TI (.ref i1) (.ref i2)) (st1 : St1 i s.heap) (st2 : St2 i s.heap) (hlt1 : i < n1) (hlt2 : i < n2)
    (hQ : ∀ x1 x2 h' tk, P1 i x1 → P2 i x2 → IsZipHeld h' z TI TO T true → St1 (i + 1) h' → St2 (i + 1) h' → IsTupOf2 h' s.heap.objs.size x1 x2 → h'.objs.size = s.heap.objs.size + 1 →
      (∀ c o, c ≠ z → c ≠ i1 → c ≠ i2 → s.heap.get? c = some o → h'.get? c = some o) → Q (.ref s.heap.objs.size) { s with heap := h', toks := tk }) :
    wpAny (model prog w) A (Builtin.«zip.__next__» ⟨[.ref z], []⟩) (fun fin s' => ∃ v, fin = .done (.ret v) ∧ Q v s') E s := by
  obtain ⟨hp, g, d, tk0, os⟩ := s
  show wpAny _ _ (field (.ref z) 2 >>= _) _ _ _
  refine wpAny_bind (wpAny_field hz rfl (x := .bool false) rfl ?_)
  show wpAny _ _ (field (.ref z) 3 >>= _) _ _ _
  refine wpAny_bind (wpAny_field hz rfl (x := .ref TI) rfl ?_)
  refine wpAny_bind (wpAny_seqItems hTI rfl ?_)
  show wpAny _ _ (Builtin.SmallTypes.ownedTupleIsFree (.ref z) >>= _) _ _ _
  refine wpAny_bind (wpAny_tupleHeld_zip hz hT fun h₁ hz₁ hs₁ => ?_)
  replace hs₁ : Heap.SameBut z hp h₁ := hs₁
  simp only [Bool.false_eq_true, if_false]
  refine wpAny_bind ?_
  rw [← Array.forIn_toList]
  simp only [List.forIn_cons, List.forIn_nil]
  refine wpAny_bind (wpAny_bind (wpAny_holding ?_))
  show wpAny _ _ (Builtin.SmallTypes.nextOf (.ref i1) >>= _) _ _ ⟨h₁, g, d, tk0, os⟩
  refine wpAny_bind (D1.item i _ _ _ hlt1 (D1.over st1 hs₁ S.zf1) fun x1 h₂ tk1 hx1 sn1 hs₂ => wpAny_pure ?_)
  replace hs₂ : Heap.SameBut i1 h₁ h₂ := hs₂
  refine wpAny_pure ?_
  refine wpAny_bind (wpAny_bind (wpAny_holding ?_))
  show wpAny _ _ (Builtin.SmallTypes.nextOf (.ref i2) >>= _) _ _ ⟨h₂, g, d, tk1, os⟩
  refine wpAny_bind (D2.item i _ _ _ hlt2 (D2.over (D2.over st2 hs₁ S.zf2) hs₂ S.sep1_2) fun x2 h₃ tk2 hx2 sn2 hs₃ => wpAny_pure ?_)
  replace hs₃ : Heap.SameBut i2 h₂ h₃ := hs₃
  refine wpAny_pure (wpAny_pure ?_)
  show wpAny _ _ (newTuple [x1, x2] >>= _) _ _ _
  refine wpAny_bind (wpAny_newTuple ?_)
  have hsz : h₃.objs.size = hp.objs.size := by rw [hs₃.1, hs₂.1, hs₁.1]
  have hz₃ : IsZipHeld h₃ z TI TO T true := hs₃.extBut _ _ S.zi2 (hs₂.extBut _ _ S.zi1 hz₁)
  have hk : ∀ c o, c ≠ z → c ≠ i1 → c ≠ i2 → hp.get? c = some o → h₃.get? c = some o := fun c o c1 c2 c3 e => hs₃.extBut _ _ c3 (hs₂.extBut _ _ c2 (hs₁.extBut _ _ c1 e))
  have hj1 : St1 (i + 1) h₃ := D1.over sn1 hs₃ S.sep2_1
  refine wpAny_pure ⟨_, rfl, ?_⟩
  show Q (.ref h₃.objs.size) ⟨h₃.push { cls := .type "tuple", data := .seq #[x1, x2] }, g, d, tk2, os⟩
  have hp' : IsTupOf2 (h₃.push { cls := .type "tuple", data := .seq #[x1, x2] }) h₃.objs.size x1 x2 := Heap.get?_push_size _ rfl
  have hz4 : (h₃.push { cls := .type "tuple", data := .seq #[x1, x2] }).objs.size = h₃.objs.size + 1 := Heap.size_push ..
  rw [hsz] at hp' hz4 ⊢
  exact hQ x1 x2 _ tk2 hx1 hx2 (Heap.get?_push_of_some _ hz₃) (D1.frame _ _ _ hj1 fun b _ o e => Heap.get?_push_of_some _ e) (D2.frame _ _ _ sn2 fun b _ o e => Heap.get?_push_of_some _ e) hp' hz4 fun c o c1 c2 c3 e => Heap.get?_push_of_some _ (hk c o c1 c2 c3 e)

theorem zh_end {T : Addr} {f : Bool} {oT : Obj} {Q : Fin → Shared → Prop} (S : ZipSep2 z TI TO i1 i2 fp1 fp2) (D1 : Draws prog w A i1 fp1 n1 P1 St1) (D2 : Draws prog w A i2 fp2 n2 P2 St2)
    (hz : IsZipHeld s.heap z TI TO T f) (hT : s.heap.get? T = some oT) (hTI : IsTupOf2 s.heap TI (.ref i1) (.ref i2)) (st1 : St1 i s.heap) (st2 : St2 i s.heap) (hle1 : i ≤ n1) (hle2 : i ≤ n2) (hend : i = n1 ∨ i = n2)
    (hE : ∀ h' tk e, (∀ c o, c ≠ z → c ≠ i1 → c ≠ i2 → s.heap.get? c = some o → h'.get? c = some o) → (∃ o, h'.get? e = some o ∧ o.cls = .type "StopIteration") → E (.ref e) { s with heap := h', toks := tk }) :
    wpAny (model prog w) A (Builtin.«zip.__next__» ⟨[.ref z], []⟩) Q E s := by
  obtain ⟨hp, g, d, tk0, os⟩ := s
  show wpAny _ _ (field (.ref z) 2 >>= _) _ _ _
  refine wpAny_bind (wpAny_field hz rfl (x := .bool false) rfl ?_)
  show wpAny _ _ (field (.ref z) 3 >>= _) _ _ _
  refine wpAny_bind (wpAny_field hz rfl (x := .ref TI) rfl ?_)
  refine wpAny_bind (wpAny_seqItems hTI rfl ?_)
  show wpAny _ _ (Builtin.SmallTypes.ownedTupleIsFree (.ref z) >>= _) _ _ _
  refine wpAny_bind (wpAny_tupleHeld_zip hz hT fun h₁ hz₁ hs₁ => ?_)
  replace hs₁ : Heap.SameBut z hp h₁ := hs₁
  simp only [Bool.false_eq_true, if_false]
  refine wpAny_bind ?_
  rw [← Array.forIn_toList]
  simp only [List.forIn_cons, List.forIn_nil]
  refine wpAny_bind (wpAny_bind (wpAny_holding ?_))
  show wpAny _ _ (Builtin.SmallTypes.nextOf (.ref i1) >>= _) _ _ ⟨h₁, g, d, tk0, os⟩
  by_cases hlt1 : i < n1
  · refine wpAny_bind (D1.item i _ _ _ hlt1 (D1.over st1 hs₁ S.zf1) fun x1 h₂ tk1 hx1 sn1 hs₂ => wpAny_pure ?_)
    replace hs₂ : Heap.SameBut i1 h₁ h₂ := hs₂
    refine wpAny_pure ?_
    have hi2 : i = n2 := by omega
    refine wpAny_bind (wpAny_bind (wpAny_holding ?_))
    show wpAny _ _ (Builtin.SmallTypes.nextOf (.ref i2) >>= _) _ _ ⟨h₂, g, d, tk1, os⟩
    refine wpAny_bind (D2.done ⟨h₂, g, d, tk1, os⟩ _ _ (by rw [← hi2]; exact (D2.over (D2.over st2 hs₁ S.zf2) hs₂ S.sep1_2)) fun q e hq he => ?_)
    replace hq : Heap.ExtBut i2 h₂ q := hq
    exact hE q tk1 e (fun c o cz c1 c2 x => hq _ _ c2 (hs₂.extBut _ _ c1 (hs₁.extBut _ _ cz x))) he
  · have hi1 : i = n1 := by omega
    refine wpAny_bind (D1.done ⟨h₁, g, d, tk0, os⟩ _ _ (by rw [← hi1]; exact (D1.over st1 hs₁ S.zf1)) fun q e hq he => ?_)
    replace hq : Heap.ExtBut i1 h₁ q := hq
    exact hE q tk0 e (fun c o cz c1 c2 x => hq _ _ c1 (hs₁.extBut _ _ cz x)) he

/-- a zip, fresh or with a tuple out -/
def ZSt (h : Heap) (z TI TO : Addr) : Prop := (IsZip h z TI TO .none ∧ ∃ a b, IsTupOf2 h TO a b) ∨ ∃ T f oT, IsZipHeld h z TI TO T f ∧ h.get? T = some oT
theorem ZSt.ty {s : Shared} (h : ZSt s.heap z TI TO) : s.TypeIs (.ref z) "zip" := by
  rcases h with ⟨h, _⟩ | ⟨T, f, oT, h, _⟩
  · exact ⟨_, h, rfl⟩
  · exact ⟨_, h, rfl⟩
theorem ZSt.frame {h h' : Heap} (st : ZSt h z TI TO) (k : ∀ b o, h.get? b = some o → (∃ o', h'.get? b = some o')) (kz : ∀ o, h.get? z = some o → h'.get? z = some o) (kT : ∀ o, h.get? TO = some o → h'.get? TO = some o) : ZSt h' z TI TO := by
  rcases st with ⟨h1, a, b, h2⟩ | ⟨T, f, oT, h1, h2⟩
  · exact .inl ⟨kz _ h1, a, b, kT _ h2⟩
  · obtain ⟨o', h3⟩ := k T oT h2
    exact .inr ⟨T, f, o', kz _ h1, h3⟩

theorem zip_pull {Q : Option Value → Shared → Prop} (S : ZipSep2 z TI TO i1 i2 fp1 fp2) (D1 : Draws prog w A.in1 i1 fp1 n1 P1 St1) (D2 : Draws prog w A.in1 i2 fp2 n2 P2 St2)
    (hz : ZSt s.heap z TI TO) (hTI : IsTupOf2 s.heap TI (.ref i1) (.ref i2)) (st1 : St1 i s.heap) (st2 : St2 i s.heap) (hlt1 : i < n1) (hlt2 : i < n2)
    (hQ : ∀ x1 x2 h' tk, P1 i x1 → P2 i x2 → ZSt h' z TI TO → St1 (i + 1) h' → St2 (i + 1) h' → IsTupOf2 h' s.heap.objs.size x1 x2 → h'.objs.size = s.heap.objs.size + 1 →
      (∀ c o, c ≠ z → c ≠ TO → c ≠ i1 → c ≠ i2 → s.heap.get? c = some o → h'.get? c = some o) → Q (some (.ref s.heap.objs.size)) { s with heap := h', toks := tk }) :
    wpAny (model prog w) A (pyNext (.ref z)) Q E s := by
  rcases hz with ⟨hz, a, b, hTO⟩ | ⟨T, f, oT, hz, hT⟩
  · refine wpAny_pyNext_zipD2_item S D1 D2 hz hTI hTO st1 st2 hlt1 hlt2 fun x1 x2 h' tk y1 y2 b1 b2 d1 d2 b5 b6 b7 => ?_
    exact hQ x1 x2 h' tk y1 y2 (.inr ⟨_, false, _, b1, b5⟩) d1 d2 b5 b6 b7
  · have hTy : s.TypeIs (.ref z) "zip" := ⟨_, hz, rfl⟩
    unfold pyNext
    refine wpAny_bind (wpAny_attempt (wpAny_callSpecial?_slot (name := Str.ofString "__next__") hTy F.slot_zip_next
      (wpAny_call_entry F.slot_zip_next hTy F.entry_zip_next
        (zh_item S D1 D2 hz hT hTI st1 st2 hlt1 hlt2 fun x1 x2 h' tk y1 y2 b1 d1 d2 b5 b6 b7 => wpAny_pure ?_) (F.args_zip_next_1 _))))
    have hTz : T ≠ s.heap.objs.size := Nat.ne_of_lt (Heap.lt_size hT)
    have hT' : ∃ o', h'.get? T = some o' := by
      by_cases e1 : T = z
      · subst e1; exact ⟨_, b1⟩
      by_cases e2 : T = i1
      · subst e2; exact D1.live _ _ d1
      by_cases e3 : T = i2
      · subst e3; exact D2.live _ _ d2
      exact ⟨_, b7 T oT e1 e2 e3 hT⟩
    obtain ⟨o', hT'⟩ := hT'
    exact hQ x1 x2 h' tk y1 y2 (.inr ⟨T, true, o', b1, hT'⟩) d1 d2 b5 b6 fun c o c1 _ c3 c4 e => b7 c o c1 c3 c4 e

theorem zip_stop {Q : Option Value → Shared → Prop} (S : ZipSep2 z TI TO i1 i2 fp1 fp2) (D1 : Draws prog w A.in1 i1 fp1 n1 P1 St1) (D2 : Draws prog w A.in1 i2 fp2 n2 P2 St2)
    (hz : ZSt s.heap z TI TO) (hTI : IsTupOf2 s.heap TI (.ref i1) (.ref i2)) (st1 : St1 i s.heap) (st2 : St2 i s.heap) (hle1 : i ≤ n1) (hle2 : i ≤ n2) (hend : i = n1 ∨ i = n2)
    (hQ : ∀ h' tk, (∀ c o, c ≠ z → c ≠ TO → c ≠ i1 → c ≠ i2 → s.heap.get? c = some o → h'.get? c = some o) → Q none { s with heap := h', toks := tk }) :
    wpAny (model prog w) A (pyNext (.ref z)) Q E s := by
  rcases hz with ⟨hz, a, b, hTO⟩ | ⟨T, f, oT, hz, hT⟩
  · exact wpAny_pyNext_zipD2_end S D1 D2 hz hTI hTO st1 st2 hle1 hle2 hend fun h' tk hk => hQ h' tk hk
  · have hTy : s.TypeIs (.ref z) "zip" := ⟨_, hz, rfl⟩
    unfold pyNext
    refine wpAny_bind (wpAny_attempt (wpAny_callSpecial?_slot (name := Str.ofString "__next__") hTy F.slot_zip_next
      (wpAny_call_entry F.slot_zip_next hTy F.entry_zip_next (zh_end S D1 D2 hz hT hTI st1 st2 hle1 hle2 hend fun h' tk e hk he => ?_) (F.args_zip_next_1 _))))
    obtain ⟨o, ho, hc⟩ := he
    refine wpAny_bind (wpAny_isInstance (T := "StopIteration") (b := true) ⟨o, ho, hc⟩ isSubtype_stop ?_)
    exact wpAny_pure (hQ _ _ fun c o c1 _ c3 c4 e => hk c o c1 c3 c4 e)
end

theorem zip_no_len : typeLookup (.type "zip") "__len__" = pure none := am_miss_of_fast (by decide +kernel)
theorem zip_no_hint : typeLookup (.type "zip") "__length_hint__" = pure none := am_miss_of_fast (by decide +kernel)

section
variable {prog : Program} {w : World} {A : Around} {s : Shared} {R : Result → Shared → Prop}
/-- extend, and list's start, of an iterator of any kind: what is left is the loop -/
theorem extend_it {T : String} {I S : Addr} {res : Value} {c₀ : Nat} (hT : ∀ h' tk, (∀ b o, b ≠ S → s.heap.get? b = some o → h'.get? b = some o) → ({ s with heap := h', toks := tk } : Shared).TypeIs (.ref I) T) (hSI : S ≠ I) (h2 : (Value.type T == Value.type "list") = false) (h3 : (Value.type T == Value.type "tuple") = false)
    (nl : typeLookup (.type T) "__len__" = pure none) (nh : typeLookup (.type T) "__length_hint__" = pure none)
    (hself : ∀ (A : Around) (s' : Shared) (Q : Value → Shared → Prop) (E : Value → Shared → Prop), s'.TypeIs (.ref I) T → Q (.ref I) s' → wpAny (model prog w) A (pyIter (.ref I)) Q E s')
    (hS : s.heap.get? S = some { cls := .type "list", data := .seq #[] c₀ })
    (hL : ∀ h' c, (∀ b o, b ≠ S → s.heap.get? b = some o → h'.get? b = some o) → h'.get? S = some { cls := .type "list", data := .seq #[] c } →
      codeAny (model prog w) A (.builtin "list.extend.loop" ⟨[.ref S, .ref I, res], []⟩) R { s with heap := h' }) :
    wpAny (model prog w) A.in1 (Builtin.List.listExtendWith (.ref S) (.ref I) res)
      (fun fin s' => match fin with | .done f => R (.ok f) s' | .again c' => c'.quiet = true ∧ codeAny (model prog w) A c' R s') (fun e s' => R (.error e) s') s := by
  have hT0 : s.TypeIs (.ref I) T := hT s.heap s.toks fun _ _ _ e => e
  unfold Builtin.List.listExtendWith
  refine wpAny_bind (wpAny_typeOf hT0 ?_)
  have h1 : Builtin.List.listSameRef (.ref S) (.ref I) = false := by simp [Builtin.List.listSameRef, hSI]
  simp only [h1, h2, h3, Bool.or_false, Bool.false_eq_true, if_false]
  refine wpAny_bind (hself _ _ _ _ hT0 ?_)
  refine wpAny_bind (wpAny_holding ?_)
  unfold Builtin.List.listLengthHint
  refine wpAny_bind (wpAny_specialOf hT0 nl ?_)
  show wpAny _ A.in1 (specialOf (Value.ref I) (Str.ofString "__length_hint__") >>= _) _ _ _
  refine wpAny_bind (wpAny_specialOf hT0 nh ?_)
  refine wpAny_pure ?_
  show wpAny _ A.in1 (rule "list.extend.makes-room" >>= fun _ => Builtin.List.listTouch (.ref S) >>= fun _ =>
    again (.builtin "list.extend.loop" ⟨[.ref S, .ref I, res], []⟩)) _ _ _
  refine wpAny_bind (wpAny_rule ?_)
  refine wpAny_bind ?_
  show wpAny _ A.in1 (updateSeq S (·.push .none) >>= fun _ => updateSeq S (·.pop)) _ _ _
  refine wpAny_bind (wpAny_updateSeq hS rfl ?_)
  have hS₂ := Heap.get?_update_self (Obj.mapSeq (·.push Value.none)) hS rfl
  refine wpAny_updateSeq (hz := by seq_fits) hS₂ rfl ?_
  have hS₃ := Heap.get?_update_self (Obj.mapSeq (·.pop)) hS₂ rfl
  have oth : ∀ b o, b ≠ S → s.heap.get? b = some o → ((s.heap.update S (Obj.mapSeq (·.push Value.none))).update S (Obj.mapSeq (·.pop))).get? b = some o :=
    fun b o hb e => (Heap.get?_update_other _ _ (Ne.symm hb)).trans ((Heap.get?_update_other _ _ (Ne.symm hb)).trans e)
  exact wpAny_pure ⟨plainId_quiet F.plain_extend_loop _, hL _ _ oth hS₃⟩
theorem list_init_it {T : String} {I S : Addr} (hT : ∀ h' tk, (∀ b o, b ≠ S → s.heap.get? b = some o → h'.get? b = some o) → ({ s with heap := h', toks := tk } : Shared).TypeIs (.ref I) T) (hSI : S ≠ I) (h2 : (Value.type T == Value.type "list") = false) (h3 : (Value.type T == Value.type "tuple") = false)
    (nl : typeLookup (.type T) "__len__" = pure none) (nh : typeLookup (.type T) "__length_hint__" = pure none)
    (hself : ∀ (A : Around) (s' : Shared) (Q : Value → Shared → Prop) (E : Value → Shared → Prop), s'.TypeIs (.ref I) T → Q (.ref I) s' → wpAny (model prog w) A (pyIter (.ref I)) Q E s')
    (hS : s.heap.get? S = some { cls := .type "list", data := .seq #[] })
    (hL : ∀ h' c, (∀ b o, b ≠ S → s.heap.get? b = some o → h'.get? b = some o) → h'.get? S = some { cls := .type "list", data := .seq #[] c } →
      codeAny (model prog w) A (.builtin "list.extend.loop" ⟨[.ref S, .ref I, .none], []⟩) R { s with heap := h' }) :
    wpAny (model prog w) A.in1 (Builtin.«list.__init__» ⟨[.ref S, .ref I], []⟩)
      (fun fin s' => match fin with | .done f => R (.ok f) s' | .again c' => c'.quiet = true ∧ codeAny (model prog w) A c' R s') (fun e s' => R (.error e) s') s := by
  show wpAny _ A.in1 (do let old ← Builtin.List.listItems (.ref S); Builtin.List.listUpdate (.ref S) (fun _ => #[]); letGo old.toList.reverse; Builtin.List.listExtendWith (.ref S) (.ref I) .none) _ _ s
  refine wpAny_bind ?_
  unfold Builtin.List.listItems
  refine wpAny_bind (wpAny_seqItems hS rfl (wpAny_pure ?_))
  show wpAny _ A.in1 (updateSeq S (fun _ => #[]) >>= fun _ => letGo (#[] : Array Value).toList.reverse >>= fun _ => Builtin.List.listExtendWith (.ref S) (.ref I) .none) _ _ s
  refine wpAny_bind (wpAny_updateSeq hS rfl ?_)
  have hS₂ := Heap.get?_update_self (Obj.mapSeq (fun _ => (#[] : Array Value))) hS rfl
  have oth : ∀ b o, b ≠ S → s.heap.get? b = some o → (s.heap.update S (Obj.mapSeq (fun _ => (#[] : Array Value)))).get? b = some o :=
    fun b o hb e => (Heap.get?_update_other _ _ (Ne.symm hb)).trans e
  refine wpAny_bind (wpAny_letGo ?_)
  exact extend_it (fun h' tk k => hT h' tk fun b o hb e => k b o hb (oth b o hb e)) hSI h2 h3 nl nh hself hS₂ fun h' c k e => hL h' c (fun b o hb e => k b o hb (oth b o hb e)) e
end

/-- the pairs made so far -/
def ZIt (H : Hp) (S : Addr) (xs ys vs : List V) : Prop := ∀ (j : Nat) (v : V), vs[j]? = some v → ∃ (T : Addr) (x y : V), v = V.ref T ∧ T ≠ S ∧ H T = some (.tup [x, y]) ∧ xs[j]? = some x ∧ ys[j]? = some y
theorem vals_getR {xs : List V} {its : List Value} (r : Vals xs its) {i : Nat} {u : Value} (h : its[i]? = some u) : ∃ x, xs[i]? = some x ∧ RelV x u := by
  have hl : i < xs.length := by
    rw [r.length]
    exact (List.getElem?_eq_some_iff.mp h).1
  have hx : xs[i]? = some xs[i] := List.getElem?_eq_getElem hl
  obtain ⟨u', h', q⟩ := r.get hx
  rw [h] at h'
  cases h'
  exact ⟨_, hx, q⟩
section
variable {X : Cx} {A : Around} {pins : List (Addr × Obj)} {σ : L2.St} {R : Result → Shared → Prop} {S z TI TO i1 i2 : Addr} {fp1 fp2 : List Addr} {St1 St2 : Nat → Heap → Prop} {xs ys : List V} {its1 its2 : List Value} {H0 : Hp}
theorem zip_loop (Z : ZipSep2 z TI TO i1 i2 fp1 fp2) (D1 : Draws X.prog X.w A.in1.in1 i1 fp1 its1.length (fun i v => its1[i]? = some v) St1) (D2 : Draws X.prog X.w A.in1.in1 i2 fp2 its2.length (fun i v => its2[i]? = some v) St2)
    (rx : Vals xs its1) (ry : Vals ys its2) (hS1 : S ∉ fp1) (hS2 : S ∉ fp2) (hST : S ≠ TI) (hS4 : S ∉ [z, TO, i1, i2]) (hl : xs.length < 16777216) :
    ∀ (k i : Nat) (s : Shared) (H : Hp) (vs : List V), min its1.length its2.length - i = k → i ≤ min its1.length its2.length → Inv X pins σ H s → H S = some (.lst vs) → vs.length = i → ZIt H S xs ys vs →
      (∀ b o, b ≠ S → H0 b = some o → H b = some o) → ZSt s.heap z TI TO → IsTupOf2 s.heap TI (.ref i1) (.ref i2) → St1 i s.heap → St2 i s.heap → (∀ b ∈ [z, TO, i1, i2], FpOk X pins H b ∧ b < s.heap.objs.size) →
      (∀ s' H' vs', Inv X pins σ H' s' → H' S = some (.lst vs') → vs'.length = min xs.length ys.length → ZIt H' S xs ys vs' → (∀ b o, b ≠ S → H0 b = some o → H' b = some o) → R (.ok (.ret .none)) s') →
      codeAny (model X.prog X.w) A (.builtin "list.extend.loop" ⟨[.ref S, .ref z, .none], []⟩) R s := by
  have l1 := rx.length
  have l2 := ry.length
  intro k
  induction k with
  | zero =>
    intro i s H vs hk hi I hS hv hz hle zs hTI st1 st2 hf hR
    have hin : i = min its1.length its2.length := by omega
    refine codeAny_builtin F.entry_extend_loop ?_
    rw [Around.under_plainId F.plain_extend_loop _]
    show wpAny _ A.in1 (pyNext (.ref z) >>= _) _ _ s
    refine wpAny_bind (zip_stop Z D1 D2 zs hTI st1 st2 (by omega) (by omega) (by omega) fun h' tk hk => ?_)
    have I2 : Inv X pins σ H { s with heap := h', toks := tk } := I.turnedL (t' := tk) (ch := [z, TO, i1, i2]) (fun c o hb q => hk c o (fun q' => hb (by simp [q'])) (fun q' => hb (by simp [q'])) (fun q' => hb (by simp [q'])) (fun q' => hb (by simp [q'])) q) fun b hb => (hf b hb).1
    exact wpAny_pure (hR _ H vs I2 hS (by omega) hz hle)
  | succ k ih =>
    intro i s H vs hk hi I hS hv hz hle zs hTI st1 st2 hf hR
    have hlt : i < min its1.length its2.length := by omega
    refine codeAny_builtin F.entry_extend_loop ?_
    rw [Around.under_plainId F.plain_extend_loop _]
    show wpAny _ A.in1 (pyNext (.ref z) >>= _) _ _ s
    refine wpAny_bind (zip_pull Z D1 D2 zs hTI st1 st2 (by omega) (by omega) fun u1 u2 h' tk hu1 hu2 zs' st1' st2' hT hsz hk' => ?_)
    obtain ⟨x, hx, rx1⟩ := vals_getR rx hu1
    obtain ⟨y, hy, ry1⟩ := vals_getR ry hu2
    have hTf : H s.heap.objs.size = none := I.hok.fresh (Nat.le_refl _)
    have hTS : s.heap.objs.size ≠ S := fun e => by rw [e] at hTf; rw [hTf] at hS; cases hS
    have new : ObjOk X.prog X.w (upd H s.heap.objs.size (.tup [x, y])) h' s.heap.objs.size (.tup [x, y]) :=
      ⟨by show 2 ≤ sizeLine; decide, [u1, u2], .cons rx1 (.cons ry1 .nil), ⟨_, hT, rfl, _, rfl⟩⟩
    have I1 : Inv X pins σ (upd H s.heap.objs.size (.tup [x, y])) { s with heap := h', toks := tk } :=
      I.turnedNew (t' := tk) (ch := [z, TO, i1, i2]) (fun c o hb q => hk' c o (fun q' => hb (by simp [q'])) (fun q' => hb (by simp [q'])) (fun q' => hb (by simp [q'])) (fun q' => hb (by simp [q'])) q) (fun b hb => (hf b hb).1) (Nat.le_refl _) new
    have hS1' : upd H s.heap.objs.size (.tup [x, y]) S = some (.lst vs) := by rw [upd_ne hTS.symm]; exact hS
    obtain ⟨zz, its, n, r, hlv, e⟩ := I1.lstM hS1'
    have hlen : vs.length < sizeLine := Nat.lt_of_lt_of_le (show vs.length < 16777216 by omega) (by rw [sizeLine_eq]; omega)
    have I2 := I1.lset (t' := tk) (its' := its ++ [.ref s.heap.objs.size]) (ys := vs ++ [.ref s.heap.objs.size]) (f := (·.push (.ref s.heap.objs.size))) hS1' e (by simp) (r.append (.cons (show RelV (V.ref s.heap.objs.size) (Value.ref s.heap.objs.size) from rfl) .nil)) (by rw [List.length_append, List.length_singleton]; omega)
    have fr : ∀ b o, b ≠ S → h'.get? b = some o → (h'.update S (Obj.mapSeq (·.push (.ref s.heap.objs.size)))).get? b = some o := fun b o hb q => (Heap.get?_update_other _ _ (Ne.symm hb)).trans q
    have sz2 : (h'.update S (Obj.mapSeq (·.push (.ref s.heap.objs.size)))).objs.size = s.heap.objs.size + 1 := (Heap.SameBut.update ..).1.trans hsz
    have neS : ∀ b, b ∈ [z, TO, i1, i2] → b ≠ S := fun b hb e' => hS4 (e' ▸ hb)
    have hnT : H S ≠ none := by rw [hS]; intro q; cases q
    show wpAny _ A.in1 (updateSeq S (·.push (.ref s.heap.objs.size)) >>= _) _ _ _
    refine wpAny_bind ?_
    refine wpAny_updateSeq e rfl (wpAny_pure ⟨plainId_quiet F.plain_extend_loop _, ?_⟩) (by rw [List.size_toArray]; omega) (by rw [Array.size_push, List.size_toArray]; omega)
    refine ih (i + 1) _ _ _ (by omega) (by omega) I2 upd_same (by rw [List.length_append, List.length_singleton, hv]) ?_ ?_ ?_ (fr _ _ hST.symm (hk' _ _ Z.TIz Z.TITO Z.TIi1 Z.TIi2 hTI))
      (D1.frame _ _ _ st1' fun b hb o q => fr b o (fun e' => hS1 (e' ▸ hb)) q) (D2.frame _ _ _ st2' fun b hb o q => fr b o (fun e' => hS2 (e' ▸ hb)) q) ?_ hR
    · intro j v hj
      rw [List.getElem?_append] at hj
      split at hj
      · obtain ⟨T, x', y', e1, e2, e3, e4, e5⟩ := hz j v hj
        refine ⟨T, x', y', e1, e2, ?_, e4, e5⟩
        rw [upd_ne e2, upd_ne (ne_of_none e3 hTf)]
        exact e3
      · rename_i hj2
        have : j = vs.length := by
          have := (List.getElem?_eq_some_iff.mp hj).1
          simp at this
          omega
        subst this
        simp at hj
        refine ⟨_, x, y, hj.symm, hTS, ?_, by rw [hv]; exact hx, by rw [hv]; exact hy⟩
        rw [upd_ne hTS, upd_same]
    · intro b o hb q
      rw [upd_ne hb, upd_ne (ne_of_none (hle b o hb q) hTf)]
      exact hle b o hb q
    · refine zs'.frame (fun b o q => ?_) (fun o q => fr z o (neS z (by simp)) q) fun o q => fr TO o (neS TO (by simp)) q
      by_cases hb : b = S
      · subst hb
        exact ⟨_, Heap.get?_update_self _ e rfl⟩
      · exact ⟨_, fr b o hb q⟩
    · intro b hb
      obtain ⟨f1, f2⟩ := hf b hb
      refine ⟨⟨?_, f1.2⟩, by show b < (h'.update S (Obj.mapSeq (·.push (.ref s.heap.objs.size)))).objs.size; rw [sz2]; exact Nat.lt_succ_of_lt f2⟩
      rw [upd_ne (neS b hb), upd_ne (Nat.ne_of_lt (show b < s.heap.objs.size from f2))]
      exact f1.1
end

theorem lfs_get : ∀ {ds : List D} {j : Nat} {d : D}, lfs ds = true → ds[j]? = some d → d.lf = true
  | [], _, _, _, h => by simp at h
  | d :: ds, 0, _, hl, h => by
    simp only [lfs, Bool.and_eq_true] at hl
    simp at h
    subst h
    exact hl.1
  | d :: ds, j + 1, _, hl, h => by
    simp only [lfs, Bool.and_eq_true] at hl
    exact lfs_get hl.2 (by simpa using h)
theorem iter_zip {prog : Program} {w : World} {A : Around} {s : Shared} {z : Addr} {Q : Value → Shared → Prop} {E : Value → Shared → Prop} (hT : s.TypeIs (.ref z) "zip") (h : Q (.ref z) s) : wpAny (model prog w) A (pyIter (.ref z)) Q E s := by
  refine wpAny_pyIter_slot hT F.slot_zip_iter (wpAny_call_entry F.slot_zip_iter hT F.entry_zip_iter ?_ (F.args_zip_iter_1 _))
  show wpAny _ _ (ret (.ref z)) _ _ s
  exact wpAny_pure ⟨_, rfl, "zip", _, hT, F.slot_zip_next.lookup, h⟩
theorem owns_ofGet {K : PySem.W.Frag} {L H : Hp} : ∀ {ds : List D} {vs : List V}, vs.length = ds.length → (∀ (j : Nat) (v : V) (d : D), vs[j]? = some v → ds[j]? = some d → Own K L H v d []) → Owns K L H vs ds []
  | [], [], _, _ => .nil
  | d :: ds, v :: vs, hl, h => .cons (f := []) (g := []) (h 0 v d rfl rfl) (owns_ofGet (by simpa using hl) fun j v' d' h1 h2 => h (j + 1) v' d' (by simpa using h1) (by simpa using h2))
  | [], _ :: _, hl, _ => by simp at hl
  | _ :: _, [], hl, _ => by simp at hl

def dZipL (d e : D) : Option D := match itemsOf d, itemsOf e with
  | some xs, some ys => if (lfs (zipD xs ys) && decide (xs.length < 16777216)) = true then some (.lst (zipD xs ys)) else none
  | _, _ => none
def tListZip (K : PySem.W.Frag) (ta : TA) : TE := fun σ H Q => ta σ H fun vs H1 => ∃ v w d e r, vs = [v, w] ∧ Rdb K H1 v d ∧ Rdb K H1 w e ∧ dZipL d e = some r ∧ Ret3 K H1 r Q

/-- where an iterator over v begins, at the Inv's level -/
theorem begins_seq {X : Cx} {pins : List (Addr × Obj)} {σ : L2.St} {H : Hp} {s : Shared} {p : Addr} {vs : List V} (I : Inv X pins σ H s) (h : SqL X.K H p vs ∨ SqT X.K H p vs) :
    ∃ (its : List Value) (o : Obj) (HH : Heap → Prop) (St : Addr → Nat → Heap → Prop), Vals vs its ∧ Begins (.ref p) o HH ∧ HH s.heap ∧ p < s.heap.objs.size ∧
      (∀ (A : Around) (it : Addr), A.handled = none → p ≠ it → Draws X.prog X.w A it [it, p] its.length (fun i v => its[i]? = some v) (St it)) ∧
      ∀ h' it, HH h' → h'.get? it = some o → St it 0 h' := by
  rcases h with h | h
  · obtain ⟨its, rv, pl, _⟩ := I.list h
    refine ⟨its, _, _, fun it i h => h.IsListIter it p i ∧ h.IsList p its.toArray, rv, begins_list p its.toArray, pl.isList, pl.lt, fun A it hA hne => ?_, fun h' it h1 h2 => ⟨⟨_, h2, rfl, rfl⟩, h1⟩⟩
    have := Draws.list (prog := X.prog) (w := X.w) hA it p hne its.toArray
    simpa using this
  · obtain ⟨its, rv, pl, _⟩ := I.tuple h
    obtain ⟨o1, ho1, _⟩ := id pl
    refine ⟨its, _, _, fun it i h => h.IsTupleIter it p i ∧ h.IsTuple p its.toArray, rv, begins_tuple p its.toArray, show s.heap.IsTuple p its.toArray from pl, Heap.lt_size ho1, fun A it hA hne => ?_, fun h' it h1 h2 => ⟨⟨_, h2, rfl, rfl⟩, h1⟩⟩
    have := Draws.tuple (prog := X.prog) (w := X.w) hA it p hne its.toArray
    simpa using this

theorem pe_listZip {X : Cx} {e e2 : Expr} {ta : TA} {p q pos pos2 : Pos} (hc : X.calm = true) (hg : Gl X "list") (hm : X.mg "list" = none) (hgz : Gl X "zip") (hmz : X.mg "zip" = none) (ha : PA X [e, e2] ta)
    (hs : starEach [e, e2] X.env = (false, eval e X.env) :: starEach [e2] X.env := by rfl) (hpl : (backTo pos2 (starEach [e2] X.env)).any (·.1) = false := by rfl)
    (na : starEach [.Call (.Name "zip" q) [e, e2] [] pos2] X.env = (false, eval (.Call (.Name "zip" q) [e, e2] [] pos2) X.env) :: starEach [] X.env := by rfl) :
    PE X (.Call (.Name "list" p) [.Call (.Name "zip" q) [e, e2] [] pos2] [] pos) (tListZip X.K ta) := by
  refine ⟨fun pins s σ H Q I h => ?_⟩
  refine Call_ (ld_blt I hg hm boot_list (PyProof.Rows.callWith_type1 (args_cons ?_ na) na))
  refine Call_ (ld_blt I hgz hmz PyProof.Rows.boot_zip (PyProof.Rows.callWith_type1 (thn (ha.run pos2 pins s σ H _ I h) fun us s1 ⟨vs, H1, I1, r1, q1⟩ => ?_) hs hpl))
  obtain ⟨v, w, d, e, r, ex, od, oe, er, q1⟩ := q1
  subst ex
  unfold dZipL at er
  split at er
  · rename_i dx dy hx hy
    split at er
    · rename_i hlf
      cases er
      simp only [Bool.and_eq_true, decide_eq_true_eq] at hlf
      obtain ⟨p1, v1, rfl, ow1, c1⟩ := own_seq od (Le.refl _) hx
      obtain ⟨p2, v2, rfl, ow2, c2⟩ := own_seq oe (Le.refl _) hy
      cases r1 with
      | cons r rr =>
        cases rr with
        | cons r' rr =>
          cases rr
          cases r
          cases r'
          obtain ⟨its1, o1, HH1, St1, rv1, B1, b1, lt1, dr1, in1⟩ := begins_seq I1 (c1.imp (·.1) (·.1))
          obtain ⟨its2, o2, HH2, St2, rv2, B2, b2, lt2, dr2, in2⟩ := begins_seq I1 (c2.imp (·.1) (·.1))
          refine zip_begins2 B1 B2 b1 b2 fun h' hz hTI hTO g1 g2 hsz hk => PyProof.Rows.args_nil ?_
          have hS : (h'.push { cls := .type "list", data := .seq #[] }).get? h'.objs.size = some { cls := .type "list", data := .seq #[] } := Heap.get?_push_size _ rfl
          have hNS : s1.heap.objs.size + 5 = h'.objs.size := hsz.symm
          have nz : ∀ k : Nat, k < 5 → (s1.heap.objs.size + k : Nat) ≠ h'.objs.size := fun k hk e => by rw [hsz] at e; omega
          have nz0 : (s1.heap.objs.size : Nat) ≠ h'.objs.size := nz 0 (by decide)
          have hty : ∀ s' : Shared, IsZip s'.heap (s1.heap.objs.size + 4) (s1.heap.objs.size + 2) (s1.heap.objs.size + 3) .none → s'.TypeIs (.ref (s1.heap.objs.size + 4)) "zip" := fun s' q => ⟨_, q, rfl⟩
          refine callType_codes (Q₁ := fun obj s₁ => obj = .ref h'.objs.size ∧ s₁ = { s1 with heap := h'.push { cls := .type "list", data := .seq #[] } }) F.called_list (F.typeCall_list_1 _) F.entry_list_init
            (code_list_new _ ⟨rfl, rfl⟩) fun obj s₁ h₁ => ?_
          obtain ⟨rfl, rfl⟩ := h₁
          refine ⟨⟨_, hS, rfl⟩, F.args_list_init_2 _ _, list_init_it (T := "zip") (fun h2 tk k => hty _ (k _ _ (nz 4 (by decide)) (Heap.get?_push_of_some _ hz))) (nz 4 (by decide)).symm (by decide) (by decide) zip_no_len zip_no_hint
            (fun A s' Q E ht hq => ?_) hS fun h2 c k hS2 => ?_⟩
          · exact iter_zip ht hq
          · have up : ∀ b o, b ≠ h'.objs.size → h'.get? b = some o → h2.get? b = some o := fun b o hb q => k b o hb (Heap.get?_push_of_some _ q)
            have up1 : ∀ b o, s1.heap.get? b = some o → h2.get? b = some o := fun b o q => up b o (Nat.ne_of_lt (Heap.lt_size (hk b o q))) (hk b o q)
            have hf1 : H1 h'.objs.size = none := I1.hok.fresh (show s1.heap.objs.size ≤ h'.objs.size by omega)
            have I2 : Inv X pins σ (upd H1 h'.objs.size (.lst [])) { s1 with heap := h2, toks := s1.toks } := I1.laid (t' := s1.toks) up1 (show s1.heap.objs.size ≤ h'.objs.size by omega) ⟨Nat.zero_le _, [], c, .nil, hS2⟩
            have hz2 := up _ _ (nz 4 (by decide)) hz
            have hTI2 := up _ _ (nz 2 (by decide)) hTI
            have hTO2 := up _ _ (nz 3 (by decide)) hTO
            have g12 := up _ _ nz0 g1
            have g22 := up _ _ (nz 1 (by decide)) g2
            refine zip_loop (X := X) (A := X.A.in1) (pins := pins) (σ := σ) (S := h'.objs.size) (H0 := H1) (xs := v1) (ys := v2) (St1 := St1 s1.heap.objs.size) (St2 := St2 (s1.heap.objs.size + 1))
              (zip_sep2 (N := s1.heap.objs.size) (fp1 := [p1]) (fp2 := [p2]) (fun b hb => by simp at hb; subst hb; exact lt1) (fun b hb => by simp at hb; subst hb; exact lt2))
              (dr1 _ _ (I1.ok.hd hc) (Nat.ne_of_lt lt1)) (dr2 _ _ (I1.ok.hd hc) (Nat.ne_of_lt (Nat.lt_succ_of_lt lt2))) rv1 rv2 (fun hb => by
                rcases List.mem_cons.mp hb with q | q
                · exact nz0 q.symm
                · simp at q; subst q; exact absurd lt1 (Nat.not_lt.mpr (show s1.heap.objs.size ≤ h'.objs.size by omega))) (fun hb => by
                rcases List.mem_cons.mp hb with q | q
                · exact nz 1 (by decide) q.symm
                · simp at q; subst q; exact absurd lt2 (Nat.not_lt.mpr (show s1.heap.objs.size ≤ h'.objs.size by omega))) (nz 2 (by decide)).symm (fun hb => by
                have hb' : h'.objs.size = s1.heap.objs.size + 4 ∨ h'.objs.size = s1.heap.objs.size + 3 ∨ h'.objs.size = s1.heap.objs.size ∨ h'.objs.size = s1.heap.objs.size + 1 := by simpa using hb
                omega) (by rw [ow1.len]; exact hlf.2)
              _ 0 _ _ [] rfl (Nat.zero_le _) I2 upd_same rfl (fun j v q => by simp at q) (fun b o hb q => by rw [upd_ne hb]; exact q) (.inl ⟨hz2, _, _, hTO2⟩) hTI2 (in1 _ _ (B1.keeps _ _ b1 up1) g12) (in2 _ _ (B2.keeps _ _ b2 up1) g22) ?_ ?_
            · intro b hb
              have hb' : b = s1.heap.objs.size + 4 ∨ b = s1.heap.objs.size + 3 ∨ b = s1.heap.objs.size ∨ b = s1.heap.objs.size + 1 := by simpa using hb
              have hlt : b < h2.objs.size := by
                rcases hb' with q | q | q | q <;> subst q
                · exact Heap.lt_size hz2
                · exact Heap.lt_size hTO2
                · exact Heap.lt_size g12
                · exact Heap.lt_size g22
              have hbN : s1.heap.objs.size ≤ b := by
                rcases hb' with q | q | q | q <;> subst q
                · exact Nat.le_add_right _ _
                · exact Nat.le_add_right _ _
                · exact Nat.le_refl _
                · exact Nat.le_add_right _ _
              have hbS : b ≠ h'.objs.size := by
                rcases hb' with q | q | q | q <;> subst q
                · exact nz 4 (by decide)
                · exact nz 3 (by decide)
                · exact nz0
                · exact nz 1 (by decide)
              refine ⟨I1.fpOk hbN ?_, hlt⟩
              rw [upd_ne hbS]
              exact I1.hok.fresh hbN
            · intro s' H' vs' I' hS' hl' hz' hle'
              have le : Le H1 H' := fun b o q => hle' b o (ne_of_none q hf1) q
              refine ⟨rfl, .ref h'.objs.size, H', I', rfl, q1 (.ref h'.objs.size) H' [h'.objs.size] le (.lst (fp := []) hS' (owns_ofGet ?_ fun j v d hj hd => ?_)) (by simp) (by simpa using hf1)⟩
              · rw [hl', zipD_len, ow1.len, ow2.len]
              · obtain ⟨T, x, y, e1, e2, e3, e4, e5⟩ := hz' j v hj
                obtain ⟨a, b, h3, h4, h5⟩ := zipD_get hd
                subst e1 h5
                obtain ⟨x', q1, q2⟩ := ow1.get0 h3
                obtain ⟨y', q3, q4⟩ := ow2.get0 h4
                rw [e4] at q1
                rw [e5] at q3
                cases q1
                cases q3
                have hlf2 : (D.tup [a, b]).lf = true := lfs_get hlf.1 hd
                simp only [D.lf, lfs, Bool.and_true, Bool.and_eq_true] at hlf2
                have o1 := ((q2.free (M := fun _ => none) hlf2.1).2).mono (Le.refl _) le.leT (fun _ h => by simp at h)
                have o2 := ((q4.free (M := fun _ => none) hlf2.2).2).mono (Le.refl _) le.leT (fun _ h => by simp at h)
                exact .tup e3 (.cons (f := []) (g := []) o1 (.cons (f := []) (g := []) o2 .nil))
    · cases er
  · cases er

section
variable {Y : Cy} {e e2 : Expr} {f g : Sm D} {pos pos2 p q : Pos}
def mListZip (f : Sm (List D)) : Sm D := Sm.b f fun ds => Sm.o (match ds with
  | [d, e] => dZipL d e
  | _ => none)
/-- list(zip(e, e2)) -/
theorem ve_listZip {fs : Sm (List D)} (hc : Y.X.calm = true) (hm : Y.X.mg "list" = none) (hmz : Y.X.mg "zip" = none) (h : VD Y [e, e2] fs) (hg : Gl Y.X "list" := by rfl) (hgz : Gl Y.X "zip" := by rfl)
    (hs : starEach [e, e2] Y.X.env = (false, eval e Y.X.env) :: starEach [e2] Y.X.env := by rfl) (hpl : (backTo pos2 (starEach [e2] Y.X.env)).any (·.1) = false := by rfl)
    (na : starEach [.Call (.Name "zip" q) [e, e2] [] pos2] Y.X.env = (false, eval (.Call (.Name "zip" q) [e, e2] [] pos2) Y.X.env) :: starEach [] Y.X.env := by rfl) :
    VE Y true (.Call (.Name "list" p) [.Call (.Name "zip" q) [e, e2] [] pos2] [] pos) (mListZip fs) := by
  obtain ⟨t, pt, h⟩ := h
  refine ⟨_, pe_listZip hc hg hm hgz hmz pt hs hpl na, fun L H E σ T Q S G => h L H E σ T _ S (G.bind.imp fun ds E1 G1 vs L1 H1 l1 S1 ow => ?_)⟩
  obtain ⟨z, e1, G2⟩ := Gd.opt G1
  split at e1
  · rename_i d e' 
    obtain ⟨v, w, rfl, o1, o2⟩ := owns2 ow
    exact ⟨v, w, d, e', z, rfl, o1, o2, e1, S1.ret fun v L2 H2 l2 S2 => G2 v L2 H2 (l1.trans l2) S2⟩
  · cases e1
end
end P3
end
section
set_option exponentiation.threshold 256
set_option Elab.async false
set_option linter.all false
set_option maxRecDepth 100000
set_option maxHeartbeats 2000000
set_option autoImplicit false
/-! P3, part r: a thing within an own thing is changed -/
namespace P3
open PySem PySem.Spec PyProof.Rows L2

/-- a child of an own list or dict: what it may become -/
structure Foc (K : PySem.W.Frag) (H : Hp) (v : V) (d : D) (fp : List Addr) (w : V) (c : D) (f1 : List Addr) (ch : D → D) : Prop where
  own : Own K (fun _ => none) H w c f1
  nd : fp.Nodup → f1.Nodup
  sub : ∀ a ∈ f1, a ∈ fp
  put : ∀ H' c' f', LeT H H' → (∀ a ∈ fp, a ∉ f1 → H' a = H a) → Own K (fun _ => none) H' w c' f' → f'.Nodup → (∀ a ∈ f', a ∈ f1 ∨ H a = none) → fp.Nodup →
    ∃ fp', Own K (fun _ => none) H' v (ch c') fp' ∧ fp'.Nodup ∧ ∀ a ∈ fp', a ∈ fp ∨ H a = none

section
variable {K : PySem.W.Frag} {p0 : Option Addr} {L H : Hp} {E : Env3} {σ : L2.St} {T : List Ent}
theorem Owns.foc : ∀ {ds : List D} {vs : List V} {fp : List Addr}, Owns K (fun _ => Option.none) H vs ds fp → ∀ {j : Nat} {d : D}, ds[j]? = some d → ∃ v f g1 g2, vs[j]? = some v ∧ Own K (fun _ => Option.none) H v d f ∧ fp = g1 ++ f ++ g2 ∧
    ∀ H' d' f', LeT H H' → (∀ a ∈ g1 ++ g2, H' a = H a) → Own K (fun _ => Option.none) H' v d' f' → Owns K (fun _ => Option.none) H' vs (ds.set j d') (g1 ++ f' ++ g2)
  | [], _, _, _, _, _, e => by simp at e
  | d0 :: ds, _, _, .cons (v := v) (f := f) (g := g) h hs, 0, d, e => by
    simp at e
    subst e
    exact ⟨v, f, [], g, rfl, h, rfl, fun H' d' f' lt k o => .cons o (hs.mono (Le.refl _) lt k)⟩
  | d0 :: ds, _, _, .cons (v := v0) (f := f0) (g := g) h hs, j + 1, d, e => by
    obtain ⟨v, f, g1, g2, e1, o1, e2, k⟩ := Owns.foc hs (j := j) (by simpa using e)
    refine ⟨v, f, f0 ++ g1, g2, by simpa using e1, o1, by rw [e2]; simp [List.append_assoc], fun H' d' f' lt kk o => ?_⟩
    have r := k H' d' f' lt (fun a ha => kk a (by simp only [List.mem_append] at ha ⊢; rcases ha with h | h <;> simp [h])) o
    have r0 := h.mono (Le.refl _) lt (fun a ha => kk a (by simp only [List.mem_append]; exact .inl (.inl ha)))
    simpa [List.append_assoc] using Owns.cons r0 r
/-- .. what is within p's own -/
theorem foc_nd {p : Addr} {g1 f g2 f' : List Addr} (hp : H p ≠ none) (h1 : ∀ a ∈ g1 ++ f ++ g2, H a ≠ none) (nd : (p :: (g1 ++ f ++ g2)).Nodup) (nd' : f'.Nodup) (sub : ∀ a ∈ f', a ∈ f ∨ H a = none) :
    (p :: (g1 ++ f' ++ g2)).Nodup ∧ ∀ a ∈ p :: (g1 ++ f' ++ g2), a ∈ p :: (g1 ++ f ++ g2) ∨ H a = none := by
  have n1 := List.nodup_cons.mp nd
  have n2 := List.nodup_append.mp n1.2
  have n3 := List.nodup_append.mp n2.1
  have key : ∀ a ∈ f', a ∉ g1 ∧ a ∉ g2 ∧ a ≠ p := fun a ha => by
    rcases sub a ha with q | q
    · exact ⟨fun h => n3.2.2 a h a q rfl, fun h => n2.2.2 a (List.mem_append_right _ q) a h rfl, fun h => n1.1 (by subst h; simp [q])⟩
    · exact ⟨fun h => h1 a (by simp [h]) q, fun h => h1 a (by simp [h]) q, fun h => by subst h; exact hp q⟩
  refine ⟨List.nodup_cons.mpr ⟨fun h => ?_, List.nodup_append.mpr ⟨List.nodup_append.mpr ⟨n3.1, nd', fun a ha b hb e => ?_⟩, n2.2.1, fun a ha b hb e => ?_⟩⟩, fun a ha => ?_⟩
  · simp only [List.mem_append] at h
    rcases h with (h | h) | h
    · exact n1.1 (by simp [h])
    · exact (key p h).2.2 rfl
    · exact n1.1 (by simp [h])
  · subst e; exact (key a hb).1 ha
  · subst e
    rcases List.mem_append.mp ha with h | h
    · exact n2.2.2 a (List.mem_append_left _ h) a hb rfl
    · exact (key a h).2.1 hb
  · simp only [List.mem_cons, List.mem_append] at ha ⊢
    rcases ha with h | (h | h) | h
    · exact .inl (.inl h)
    · exact .inl (.inr (.inl (.inl h)))
    · rcases sub a h with q | q
      · exact .inl (.inr (.inl (.inr q)))
      · exact .inr q
    · exact .inl (.inr (.inr h))
theorem Own.focL {v : V} {ds : List D} {fp : List Addr} (o : Own K (fun _ => none) H v (.lst ds) fp) {j : Nat} {c : D} (e : ds[j]? = some c) :
    ∃ p vs w f1, v = .ref p ∧ H p = some (.lst vs) ∧ vs.length = ds.length ∧ vs[j]? = some w ∧ Foc K H v (.lst ds) fp w c f1 (fun c' => .lst (ds.set j c')) := by
  obtain ⟨p, vs, f, rfl, hp, rfl, hs⟩ := own_lstW o
  obtain ⟨w, f1, g1, g2, e1, o1, e2, k⟩ := hs.foc e
  subst e2
  have th : ∀ a ∈ g1 ++ f1 ++ g2, H a ≠ none := fun a ha h => by
    obtain ⟨u, q, _⟩ := hs.there a ha
    rw [q] at h; cases h
  refine ⟨p, vs, w, f1, rfl, hp, hs.len, e1, o1, fun nd => ?_, fun a ha => by simp [ha], fun H' c' f' lt keep o' nd' sub nd => ?_⟩
  · exact (List.nodup_append.mp (List.nodup_append.mp (List.nodup_cons.mp nd).2).1).2.1
  · obtain ⟨q1, q2⟩ := foc_nd (by rw [hp]; simp) th nd nd' sub
    have n1 := List.nodup_cons.mp nd
    have n2 := List.nodup_append.mp n1.2
    have n3 := List.nodup_append.mp n2.1
    refine ⟨_, .lst (by rw [keep p (by simp) fun h => n1.1 (by simp [h])]; exact hp) (k H' c' f' lt (fun a ha => keep a (by simp only [List.mem_cons, List.mem_append] at ha ⊢; rcases ha with h | h <;> simp [h]) fun h => ?_) o'), q1, q2⟩
    rcases List.mem_append.mp ha with g | g
    · exact n3.2.2 a g a h rfl
    · exact n2.2.2 a (List.mem_append_right _ h) a g rfl
theorem St3.child {i : Nat} {d : D} (S : St3 K p0 L H E σ T) (e : E[i]? = some (.w d)) : ∃ v fp, σ[i]? = some (some v) ∧ Own K (fun _ => none) H v d fp ∧ (∀ a ∈ fp, L a = none) ∧ fp.Nodup ∧
    ∀ w c f1 ch, Foc K H v d fp w c f1 ch → ∀ H' c' f', Le L H' → LeT H H' → (∀ a u, a ∉ f1 → H a = some u → H' a = some u) → Own K (fun _ => none) H' w c' f' → f'.Nodup → (∀ a ∈ f', a ∈ f1 ∨ H a = none) →
      St3 K p0 L H' (E.set i (.w (ch c'))) σ T := by
  obtain ⟨v, h1, S2⟩ := S.take e
  have S3 : St3 K none L H (E.set i .no) σ (wtemps [v] [d] ++ T) := S2
  obtain ⟨g, o, nd, fr, k⟩ := S3.outW rfl
  cases o with
  | @cons _ _ _ _ f g' o1 o2 =>
    cases o2
    rw [List.append_nil] at nd fr k
    refine ⟨v, f, h1, o1, fr, nd, fun w c f1 ch F H' c' f' le lt keep o' nd' sub => ?_⟩
    have kk : ∀ a ∈ f, a ∉ f1 → H' a = H a := fun a ha hn => by
      obtain ⟨u, hu, _⟩ := o1.there a ha
      rw [hu]
      exact keep a u hn hu
    obtain ⟨fp', q1, q2, q3⟩ := F.put H' c' f' lt kk o' nd' sub nd
    refine S.back e h1 (k H' v (ch c') fp' le lt (fun a u ha hu => keep a u (fun h => ha (F.sub a h)) hu) q1 q2 fun a ha => ?_)
    rcases q3 a ha with h | h
    · exact ⟨fr a h, .inl h⟩
    · exact ⟨S.le.none h, .inr h⟩
end

/-! ### expressions that change nothing at all -/
def VQ (Y : Cy) (e : Expr) (q : Env3 → Option D) : Prop := ∃ t, PE Y.X e t ∧ ∀ L H E σ T (Q : VK) d, St3 Y.K Y.p0 L H E σ T → q E = some d → (∀ v, (∀ L H', Own Y.K L H' v d []) → Q v H) → t σ H Q
section
variable {Y : Cy} {e a b c : Expr} {f g : Sm D} {q q2 : Env3 → Option D} {pos p1 p2 p3 : Pos}
theorem vq_int {i j} : VQ Y (.Constant (.int i) j pos) (fun _ => some (.int i)) := ⟨_, pe_int, fun L H E σ T Q d S h k => by cases h; exact k _ fun _ _ => .int _⟩
def qVar (i : Nat) (E : Env3) : Option D := match E[i]? with
  | some (.b (.int j)) => some (.int j)
  | some (.b (.str j)) => some (.str j)
  | _ => none
theorem vq_var (i : Nat) {x : Str} (hN : Y.X.N[i]? = some x := by rfl) (hv : Vis Y.X.env.scope x := by first | exact Or.inl rfl | exact Or.inr (Or.inl rfl) | exact Or.inr (Or.inr rfl)) (hd : (x == ("__debug__" : Str)) = false := by decide)
    (hcd : (x == ("__classdict__" : Str)) = false := by decide) : VQ Y (.Name x pos) (qVar i) := by
  refine ⟨_, pe_var hN hv hd hcd, fun L H E σ T Q d S h k => ?_⟩
  unfold qVar at h
  split at h
  · rename_i j e
    cases h
    obtain ⟨v, h1, h2⟩ := S.look (i := i) (d := .int j) (by unfold rdSlot; rw [e])
    rw [own_is_int h2] at h1
    exact ⟨_, h1, k _ fun _ _ => .int _⟩
  · rename_i j e
    cases h
    obtain ⟨v, h1, h2⟩ := S.look (i := i) (d := .str j) (by unfold rdSlot; rw [e])
    cases h2
    exact ⟨_, h1, k _ fun _ _ => .str _⟩
  · cases h
def qOp (o : D → D → Option D) (q q2 : Env3 → Option D) (E : Env3) : Option D := (q E).bind fun d => (q2 E).bind fun e => o d e
theorem vq_bin {op : Operator} {o : D → D → Option D} (ho : OpD Y.X (binaryOp op) o) (ha : VQ Y a q) (hb : VQ Y b q2) : VQ Y (.BinOp a op b pos) (qOp o q q2) := by
  obtain ⟨t, pt, ha⟩ := ha
  obtain ⟨u, pu, hb⟩ := hb
  refine ⟨_, pe_op ho.opR pt pu, fun L H E σ T Q d S h k => ?_⟩
  unfold qOp at h
  obtain ⟨d1, e1, h⟩ := Option.bind_eq_some_iff.mp h
  obtain ⟨d2, e2, h⟩ := Option.bind_eq_some_iff.mp h
  exact ha L H E σ T _ _ S e1 fun v o1 => hb L H E σ T _ _ S e2 fun w o2 => ⟨d1, d2, d, o1 _ _, o2 _ _, h, k⟩

/-- x[j][jj] = z, lists -/
def dSet2 (d j jj z : D) : Option D := match d, j, jj with
  | .lst ds, .int n, .int m => (ixN ds.length n).bind fun k => (ds[k]?).bind fun c => match c with
    | .lst es => if z.lf = true then (ixN es.length m).map fun l => .lst (ds.set k (.lst (es.set l z))) else none
    | _ => none
  | _, _, _ => none
def mSetIt2 (f : Sm D) (i : Nat) (g : Sm D) (q : Env3 → Option D) : Sm Fl := Sm.b f fun z => Sm.b (mRef i) fun _ => Sm.b g fun j => fun E => match E[i]?, q E with
  | some (.w d), some jj => (match dSet2 d j jj z with
    | some d' => .ok .next (E.set i (.w d'))
    | none => .bad)
  | _, _ => .bad
theorem vs_setIt2 {x : Str} {k : Bool} (i : Nat) (hu : Y.X.A.units + 1 < cLine) (h : VE Y true e f) (hj : VE Y k b g) (hq : VQ Y c q) (hN : Y.X.N[i]? = some x := by rfl) (hv : Vis Y.X.env.scope x := by first | exact Or.inl rfl | exact Or.inr (Or.inl rfl) | exact Or.inr (Or.inr rfl))
    (hx : PlainIx b := by intro _ _; rfl) (hd : (x == ("__debug__" : Str)) = false := by decide) (hcd : (x == ("__classdict__" : Str)) = false := by decide)
    (ha : ∀ v, assign (.Subscript (.Subscript (.Name x p1) b p3) c p2) Y.X.env v = (do
      let ov ← holding [v] (eval (.Subscript (.Name x p1) b p3) Y.X.env)
      let iv ← holding [v, ov] (eval c Y.X.env)
      standAt p2
      holding [v, ov, iv] (setItem ov iv v)
      release [v, ov, iv] []) := by intro _; rfl)
    (hs : swapsWithSole [.Subscript (.Subscript (.Name x p1) b p3) c p2] e pos.line Y.X.env = pure false := by rfl) (hw : swappedStores [.Subscript (.Subscript (.Name x p1) b p3) c p2] e Y.X.env = pure none := by rfl)
    (h1 : (assignEach [.Subscript (.Subscript (.Name x p1) b p3) c p2] Y.X.env).map (·.2) = [assign (.Subscript (.Subscript (.Name x p1) b p3) c p2) Y.X.env] := by rfl) :
    VS Y (.Assign [.Subscript (.Subscript (.Name x p1) b p3) c p2] e pos) (mSetIt2 f i g q) := by
  obtain ⟨t, pt, h⟩ := h
  obtain ⟨u, pu, hj⟩ := hj
  obtain ⟨r, pr, hq⟩ := hq
  refine ⟨_, ps_asg pt (pg_sub (pe_ix (ix_any hu) (pe_var (i := i) hN hv hd hcd) pu hx) pr set_list ha) hs hw h1, fun L H E σ T D S G => h L H E σ T _ S (G.bind.ex σ fun z E1 G1 y L1 H1 l1 S1 => ?_)⟩
  have G0 := GdS.bind G1
  unfold mRef at G0
  split at G0
  · rename_i hk
    obtain ⟨d0, e0⟩ := Option.isSome_iff_exists.mp hk
    obtain ⟨v, v1, v2⟩ := S1.look e0
    refine ⟨v, v1, hj L1 H1 E1 σ _ _ S1 (((GdS.bind (S := sS Y L T D) G0).ex σ fun j E2 G2 => G2).temp l1 fun j E2 G2 w L2 H2 l2 S2 => ?_)⟩
    split at G2
    · rename_i d jj e2 eq
      split at G2
      · rename_i d' e3
        unfold dSet2 at e3
        split at e3
        · rename_i ds n m
          obtain ⟨k1, e4, e3⟩ := Option.bind_eq_some_iff.mp e3
          obtain ⟨cc, e5, e3⟩ := Option.bind_eq_some_iff.mp e3
          split at e3
          · rename_i es
            split at e3
            · rename_i hlf
              obtain ⟨l, e6, e7⟩ := Option.map_eq_some_iff.mp e3
              subst e7
              have S3 := S2.pop.pop
              obtain ⟨v', fp, w1, ow, frL, ndp, kk⟩ := S3.child e2
              rw [v1] at w1; cases w1
              obtain ⟨p, vs, wv, f1, rfl, hp, hl, hwv, F⟩ := ow.focL e5
              obtain ⟨p2', ws, f2, rfl, hp2, rfl, hs2⟩ := own_lstW F.own
              have hz : ∀ H', LeT H2 H' → Own Y.K (fun _ => none) H' y z [] := fun H' lt => ((S2.pop.rdb.free (M := fun _ => none) hlf).2).mono (Le.refl _) lt (fun _ h => by simp at h)
              have ew : w = .int n := own_is_int S2.rdb
              subst ew
              refine .inl (.inl ⟨p, vs, n, .ref p2', rfl, rfl, SqL.of hp, by unfold atI; rw [hl, e4]; exact hwv, ?_⟩)
              refine hq L2 H2 E2 σ _ _ _ S2 eq fun jv jo => ?_
              rw [own_is_int (jo (fun _ => none) H2)]
              refine ⟨p2', ws, m, l, rfl, rfl, hp2, by rw [hs2.len]; exact e6, ?_⟩
              have nt : LeT H2 (upd H2 p2' (.lst (ws.set l y))) := LeT.mut hp2 fun xs z => by cases z
              obtain ⟨g1, f3, g2, e8, o8⟩ := hs2.set (hz H2 (LeT.refl _)) (j := l) (by have := (ixN_seq e6).2.1; omega)
              have nd2 := F.nd ndp
              have n2 := List.nodup_cons.mp nd2
              refine G2 σ L2 _ (l1.trans l2) (kk _ _ _ _ F _ (.lst (es.set l z)) (p2' :: (g1 ++ [] ++ g2)) (S3.le.mut (frL _ (F.sub _ (by simp)))) nt (fun a u' ha hu' => ?_) (.lst upd_same (o8.mono (Le.refl _) nt fun a ha => ?_)) ?_ fun a ha => .inl ?_)
              · rw [upd_ne fun h => ha (by simp [h])]; exact hu'
              · refine upd_ne fun h => n2.1 ?_
                subst h e8
                simp only [List.append_nil, List.mem_append] at ha ⊢
                rcases ha with h | h
                · exact .inl (.inl h)
                · exact .inr h
              · subst e8
                have sl : (g1 ++ [] ++ g2).Sublist (g1 ++ f3 ++ g2) := by
                  simp only [List.append_nil]
                  exact (List.sublist_append_left _ _).append (List.Sublist.refl _)
                exact List.nodup_cons.mpr ⟨fun h => n2.1 (sl.subset h), n2.2.sublist sl⟩
              · subst e8
                simp only [List.append_nil, List.mem_cons, List.mem_append] at ha ⊢
                rcases ha with h | h | h
                · exact .inl h
                · exact .inr (.inl (.inl h))
                · exact .inr (.inr h)
            · cases e3
          · cases e3
        · cases e3
      · exact G2.elim
    · exact G2.elim
  · exact G0.elim
end

/-! ### sum of a tuple -/
def tupIts : D → Option (List D)
  | .tup ds => some ds
  | .ctup ds => some ds
  | _ => none
theorem own_tups {K : PySem.W.Frag} {H : Hp} {v : V} {d : D} {ds : List D} (o : Own K H H v d []) (e : tupIts d = some ds) : ∃ p vs, v = .ref p ∧ Owns K H H vs ds [] ∧ SqT K H p vs := by
  cases d <;> simp only [tupIts, Option.some.injEq, reduceCtorEq] at e
  · subst e; cases o with | tup h hs => exact ⟨_, _, rfl, hs, SqT.of h⟩
  · subst e; cases o with | ctup h hs => exact ⟨_, _, rfl, hs, leEmpty.sqT h⟩
theorem cr_sumT {X : Cx} (hc : X.calm = true) : CallR X (.builtin "sum") (fun vs H Q => ∃ (a : Addr) (ns : List Int), vs = [V.ref a] ∧ SqT X.K H a (ns.map V.int) ∧ Q (.int ns.sum) H) := by
  intro pins s σ H vs us Q I r h
  obtain ⟨a, ns, rfl, hs, q⟩ := h
  obtain ⟨its, rv, hl, _⟩ := I.tuple hs
  rw [Vals.ref1 r]
  have hi := rv.ints
  have hl : s.heap.IsTuple a its.toArray := hl
  obtain ⟨xs, e⟩ := hi.allInts.items
  have hn : numsOf (intItems xs).toList = ns := by rw [← e]; exact hi.numsOf
  rw [nums_intItems] at hn
  rw [e] at hl
  refine PySem.W.ktm_sumG (I.ok.hd hc) hl fun h' tk t' hk => ?_
  have ee : preSum (numAt xs) xs.size = ns.sum := by rw [preSum_eq, List.take_of_length_le (by simp), hn]
  exact ⟨.int _, H, I.kept hk, ⟨_, rfl⟩, by rw [ee]; exact q⟩
def dSumA : List D → Option D := one fun d => match tupIts d with
  | some ds => (allInt ds).map fun ns => .int ns.sum
  | none => dSum [d]
theorem cg_sumA {X : Cx} (hc : X.calm = true) : CallG X (.builtin "sum") dSumA := by
  intro pins s σ H xs us ds z Q I r o e k
  obtain ⟨d, rfl, e'⟩ := one_some e
  split at e'
  · rename_i ys e1
    obtain ⟨ns, e2, rfl⟩ := Option.map_eq_some_iff.mp e'
    obtain ⟨v, rfl, o1⟩ := owns1 o
    obtain ⟨p, vs, rfl, os, h⟩ := own_tups o1 e1
    rw [allInt_eq e2] at os
    exact cr_sumT hc pins s σ H _ us Q I r ⟨p, ns, rfl, by rw [← owns_ints os]; exact h, k.plain (own_int _)⟩
  · exact cg_sum hc pins s σ H xs us [d] z Q I r o e' k

/-! ### an own list is shared from now on; an item of an item -/
section
variable {Y : Cy} {e a b c : Expr} {f g : Sm D} {q : Env3 → Option D} {pos p1 p2 : Pos}
def mFrz (i : Nat) : Sm D := fun E => match E[i]? with
  | some (.w d) => .ok d (E.set i (.b d))
  | _ => .bad
theorem ve_frz (i : Nat) {x : Str} (h0 : Y.p0 = none ∨ i ≠ 0) (hN : Y.X.N[i]? = some x := by rfl) (hv : Vis Y.X.env.scope x := by first | exact Or.inl rfl | exact Or.inr (Or.inl rfl) | exact Or.inr (Or.inr rfl)) (hd : (x == ("__debug__" : Str)) = false := by decide)
    (hcd : (x == ("__classdict__" : Str)) = false := by decide) : VE Y false (.Name x pos) (mFrz i) := by
  refine ⟨_, pe_var hN hv hd hcd, fun L H E σ T Q S G => ?_⟩
  unfold mFrz at G
  split at G
  · rename_i d e
    obtain ⟨v, h1, S2⟩ := S.take e
    obtain ⟨es, l, hh⟩ := S2.ex
    obtain ⟨L', le, h2⟩ := (hh.perm List.perm_middle).freeze
    have S20 : St3 Y.K none L' H (E.set i .no) σ (⟨false, v, d⟩ :: T) := ⟨⟨es, l, h2.perm List.perm_middle.symm⟩, fun _ z => nomatch z⟩
    have S3 : St3 Y.K none L' H (E.set i .no) σ (⟨false, v, d⟩ :: ⟨false, v, d⟩ :: T) := S20.push h2.own0
    have S4 := S3.put (i := i) (.inl rfl)
    have e1 : (E.set i .no).set i (slot false d) = E.set i (.b d) := List.set_set ..
    have e2 : σ.set i (some v) = σ := by
      obtain ⟨hi, hv'⟩ := List.getElem?_eq_some_iff.mp h1
      rw [← hv']
      exact List.set_getElem_self hi
    rw [e1, e2] at S4
    have S5 : St3 Y.K Y.p0 L' H (E.set i (.b d)) σ (⟨false, v, d⟩ :: T) := ⟨S4.ex, fun a ha => by
      obtain ⟨x1, d2, x2⟩ := S.pin a ha
      refine ⟨x1, d2, ?_⟩
      have hi0 : i ≠ 0 := h0.resolve_left (by rw [ha]; intro z; cases z)
      rw [List.getElem?_set_ne hi0]
      exact x2⟩
    exact ⟨v, h1, G v L' H le S5⟩
  · exact G.elim
def mIxW2 (i : Nat) (g : Sm D) (q : Env3 → Option D) : Sm D := Sm.b (mRef i) fun _ => Sm.b g fun j => fun E => match rdSlot E i, q E with
  | some d, some jj => (match (dIx d j).bind fun c => dIx c jj with
    | some z => if z.lf = true then .ok z E else .bad
    | none => .bad)
  | _, _ => .bad
theorem ve_ixW2 {k : Bool} (i : Nat) (hu : Y.X.A.units + 1 < cLine) {x : Str} {pos' : Pos} (hb : VE Y k b g) (hq : VQ Y c q) (hN : Y.X.N[i]? = some x := by rfl) (hv : Vis Y.X.env.scope x := by first | exact Or.inl rfl | exact Or.inr (Or.inl rfl) | exact Or.inr (Or.inr rfl))
    (hs : PlainIx b := by intro _ _; rfl) (hs2 : PlainIx c := by intro _ _; rfl) (hd : (x == ("__debug__" : Str)) = false := by decide) (hcd : (x == ("__classdict__" : Str)) = false := by decide) : VE Y false (.Subscript (.Subscript (.Name x pos') b p1) c pos) (mIxW2 i g q) := by
  obtain ⟨tb, pb, hb⟩ := hb
  obtain ⟨tc, pc, hq⟩ := hq
  refine ⟨_, pe_ix (ix_any hu) (pe_ix (ix_any hu) (pe_var (i := i) hN hv hd hcd) pb hs) pc hs2, fun L H E σ T Q S G => ?_⟩
  have G0 := G.bind
  unfold mRef at G0
  split at G0
  · rename_i hk
    obtain ⟨d0, e0⟩ := Option.isSome_iff_exists.mp hk
    obtain ⟨v, h1, h2⟩ := S.look e0
    refine ⟨v, h1, hb L H E σ T _ S (Gd.imp (Gd.bind G0) fun j E2 G2 w L2 H2 l2 S2 => ?_)⟩
    split at G2
    · rename_i d jj e2 eq
      split at G2
      · rename_i z e3
        obtain ⟨cc, e4, e5⟩ := Option.bind_eq_some_iff.mp e3
        split at G2
        · rename_i hf
          have hv := arg_rdb S2 h1 e2
          refine ix_ok hv (Le.refl _) S2.rdb e4 _ fun u f o hsub => ?_
          have o' : Rdb Y.K H2 u cc := by
            have : f = [] := nil_of_sub hsub
            rw [this] at o
            exact o
          refine hq L2 H2 E2 σ _ _ _ S2 eq fun jv jo => ?_
          exact ix_ok o' (Le.refl _) (jo H2 H2) e5 Q fun u2 f2 o2 _ => G2 u2 L2 H2 l2 (S2.pop.push (o2.free hf).2)
        · exact G2.elim
      · exact G2.elim
    · exact G2.elim
  · exact G0.elim
end
end P3
end
section
set_option exponentiation.threshold 256
set_option Elab.async false
set_option linter.all false
set_option maxRecDepth 100000
set_option maxHeartbeats 2000000
set_option autoImplicit false
/-! P3s: sorted, of ints and of tuples of ints, any number of them. -/
namespace P3
open PySem PySem.Spec PyProof.Rows L2
/-! ### lists of ints in order -/
def lexZ (fin : Bool) : List Int → List Int → Bool
  | x :: xs, y :: ys => if x = y then lexZ fin xs ys else decide (x < y)
  | _, _ => fin
def lexI : List Int → List Int → Bool
  | _, [] => false
  | [], _ :: _ => true
  | x :: xs, y :: ys => if x = y then lexI xs ys else decide (x < y)
theorem lexI_eq : ∀ xs ys : List Int, lexI xs ys = lexZ (decide (xs.length < ys.length)) xs ys
  | [], [] => rfl
  | _ :: _, [] => rfl
  | [], _ :: _ => rfl
  | x :: xs, y :: ys => by
    simp only [lexI, lexZ, List.length_cons, Nat.add_lt_add_iff_right, lexI_eq xs ys]
theorem lexI_asym : ∀ xs ys : List Int, lexI xs ys = true → lexI ys xs = false
  | [], [], h => nomatch h
  | _ :: _, [], h => nomatch h
  | [], _ :: _, _ => rfl
  | x :: xs, y :: ys, h => by
    simp only [lexI] at h ⊢
    by_cases e : x = y
    · subst e
      simp only [if_true] at h ⊢
      exact lexI_asym xs ys h
    · rw [if_neg e, decide_eq_true_eq] at h
      rw [if_neg fun z => e z.symm, decide_eq_false_iff_not]
      omega
theorem lexI_tr : ∀ xs ys zs : List Int, lexI ys xs = false → lexI zs ys = false → lexI zs xs = false
  | [], _, _, _, _ => by rename_i zs _ _; cases zs <;> rfl
  | _ :: _, [], _, h, _ => by cases h
  | _ :: _, _ :: _, [], _, h => by cases h
  | x :: xs, y :: ys, z :: zs, h1, h2 => by
    simp only [lexI] at h1 h2 ⊢
    by_cases e1 : y = x
    · subst e1
      simp only [if_true] at h1
      by_cases e2 : z = y
      · subst e2
        simp only [if_true] at h2 ⊢
        exact lexI_tr xs ys zs h1 h2
      · rw [if_neg e2] at h2 ⊢
        exact h2
    · rw [if_neg e1, decide_eq_false_iff_not] at h1
      by_cases e2 : z = y
      · subst e2
        rw [if_neg e1, decide_eq_false_iff_not]
        exact h1
      · rw [if_neg e2, decide_eq_false_iff_not] at h2
        rw [if_neg (by omega), decide_eq_false_iff_not]
        omega
theorem lexI_anti : ∀ xs ys : List Int, lexI xs ys = false → lexI ys xs = false → xs = ys
  | [], [], _, _ => rfl
  | [], _ :: _, h, _ => by cases h
  | _ :: _, [], _, h => by cases h
  | x :: xs, y :: ys, h1, h2 => by
    simp only [lexI] at h1 h2
    by_cases e : x = y
    · subst e
      simp only [if_true] at h1 h2
      rw [lexI_anti xs ys h1 h2]
    · rw [if_neg e, decide_eq_false_iff_not] at h1
      rw [if_neg (fun z => e z.symm), decide_eq_false_iff_not] at h2
      omega
theorem lexI_swo : SrtO.Swo lexI := ⟨lexI_asym, fun x y z => lexI_tr x y z⟩
/-! ### insertion -/
section
variable {α : Type}
def insB (lt : α → α → Bool) (x : α) : List α → List α
  | [] => [x]
  | y :: r => if lt y x = true then y :: insB lt x r else x :: y :: r
def isort (lt : α → α → Bool) : List α → List α
  | [] => []
  | x :: r => insB lt x (isort lt r)
theorem insB_perm (lt : α → α → Bool) (x : α) : ∀ l : List α, (insB lt x l).Perm (x :: l)
  | [] => List.Perm.refl _
  | y :: r => by
    unfold insB
    split
    · exact ((insB_perm lt x r).cons y).trans (.swap x y r)
    · exact List.Perm.refl _
theorem isort_perm (lt : α → α → Bool) : ∀ l : List α, (isort lt l).Perm l
  | [] => List.Perm.refl _
  | x :: r => (insB_perm lt x _).trans ((isort_perm lt r).cons x)
theorem insB_srt {lt : α → α → Bool} (O : SrtO.Swo lt) (x : α) : ∀ {l : List α}, SrtO.Srtd lt l → SrtO.Srtd lt (insB lt x l)
  | [], _ => SrtO.srtd_one x
  | y :: r, h => by
    unfold insB
    by_cases c : lt y x = true
    · rw [if_pos c]
      refine List.pairwise_cons.mpr ⟨fun z hz => ?_, insB_srt O x (List.pairwise_cons.mp h).2⟩
      rcases List.mem_cons.mp ((insB_perm lt x r).mem_iff.mp hz) with rfl | hz
      · exact O.asym _ _ c
      · exact SrtO.srtd_head h z hz
    · rw [if_neg c]
      have c' : lt y x = false := by simpa using c
      exact List.pairwise_cons.mpr ⟨fun z hz => O.le_all h (x := y) c' z hz, h⟩
theorem isort_srt {lt : α → α → Bool} (O : SrtO.Swo lt) : ∀ l : List α, SrtO.Srtd lt (isort lt l)
  | [] => List.Pairwise.nil
  | x :: r => insB_srt O x (isort_srt O r)
/-- of one order there is one list -/
theorem srt_uniq {lt : α → α → Bool} (anti : ∀ x y, lt x y = false → lt y x = false → x = y) : ∀ {l m : List α}, l.Perm m → SrtO.Srtd lt l → SrtO.Srtd lt m → l = m
  | [], m, p, _, _ => (p.symm.eq_nil).symm
  | x :: l, [], p, _, _ => by have := p.length_eq; simp at this
  | x :: l, y :: m, p, hl, hm => by
    have e : x = y := by
      rcases List.mem_cons.mp (p.mem_iff.mp (List.mem_cons_self (a := x) (l := l))) with e | hx
      · exact e
      · rcases List.mem_cons.mp (p.mem_iff.mpr (List.mem_cons_self (a := y) (l := m))) with e | hy
        · exact e.symm
        · exact anti x y (SrtO.srtd_head hm x hx) (SrtO.srtd_head hl y hy)
    subst e
    rw [srt_uniq anti p.cons_inv (List.pairwise_cons.mp hl).2 (List.pairwise_cons.mp hm).2]
end
/-! ### tuples of ints, compared -/
section
variable {prog : Program} {w : World} {A : Around} {E : Value → Shared → Prop} {s : Shared}
theorem lex_walk {Q : Bool → Shared → Prop} {fin : Bool} : ∀ {xs ys : List Int} {us ws : List Value} (i : Nat), Vals (xs.map V.int) us → Vals (ys.map V.int) ws → Q (lexZ fin xs ys) s → PySem.W.KatLex prog w A true fin Q (us.zip ws) i s
  | [], ys, us, ws, i, r, _, h => by
    cases r
    exact PySem.W.kat_nil h
  | x :: xs, [], us, ws, i, r, r2, h => by
    cases r2
    rw [List.zip_nil_right]
    exact PySem.W.kat_nil h
  | x :: xs, y :: ys, _, _, i, .cons (b := u) r rr, .cons (b := v) r2 rr2, h => by
    obtain ⟨t, rfl⟩ := (r : ∃ t, u = Value.int x t)
    obtain ⟨t', rfl⟩ := (r2 : ∃ t, v = Value.int y t)
    rw [List.zip_cons_cons]
    refine PySem.W.kat_cons (SeqAt.EqAt.int_int x t y t' prog w _ _ ?_)
    refine PySem.W.kat_go (fun e1 => ?_) (fun e1 => ?_)
    · have ex : x = y := by simpa using e1
      subst ex
      simp only [lexZ, if_true] at h
      exact PySem.W.kat_yes (lex_walk (i + 1) rr rr2 h)
    · have ex : ¬ x = y := by simpa using e1
      simp only [lexZ, if_neg ex] at h
      exact PySem.W.kat_no (by first | exact TS.oneLt_ints _ h | exact SK.oneLt_ints _ h | exact PyProof.Rows.oneLt_ints _ h)
/-- a value is a tuple of these ints -/
def IsT (h : Heap) (v : Value) (ns : List Int) : Prop := ∃ a o us n, v = .ref a ∧ h.get? a = some o ∧ o.cls = .type "tuple" ∧ o.data = .seq us n ∧ Vals (ns.map V.int) us.toList
theorem IsT.keeps {h h' : Heap} {v : Value} {ns : List Int} (x : IsT h v ns) (k : ∀ b o, h.get? b = some o → o.cls = .type "tuple" → h'.get? b = some o) : IsT h' v ns := by
  obtain ⟨a, o, us, n, e, ho, hc, q⟩ := x
  exact ⟨a, o, us, n, e, k a o ho hc, hc, q⟩
theorem tup_cmp {vs : List Value} {k : Value → List Int} (hp : ∀ v ∈ vs, IsT s.heap v (k v)) : SrtO.Cmp prog w A s (tuples' true) (fun p => p.1 ∈ vs) (SrtO.lt2 fun v u => lexI (k v) (k u)) := by
  intro p q hm hm'
  obtain ⟨a, o, us, n, e, ho, hc, hd, hv⟩ := hp _ hm
  obtain ⟨a', o', us', n', e', ho', hc', hd', hv'⟩ := hp _ hm'
  show wpAny (model prog w) A (keyLt' (tuples' true) p.1 q.1) (fun r s' => s' = s ∧ r = lexI (k p.1) (k q.1)) (fun _ _ => False) s
  rw [lexI_eq]
  generalize k p.1 = ns at hv ⊢
  generalize k q.1 = ms at hv' ⊢
  rw [e, e']
  refine PySem.W.kat_lt ho hd ho' hd' ?_
  have l1 := hv.length
  have l2 := hv'.length
  have ef : decide (us.size < us'.size) = decide (ns.length < ms.length) := by
    simp only [List.length_map, Array.length_toList] at l1 l2
    rw [l1, l2]
  rw [ef]
  exact lex_walk 0 hv hv' ⟨rfl, rfl⟩
theorem tup_firsts {h : Heap} {k : Value → List Int} : ∀ {vs : List Value}, (∀ v ∈ vs, IsT h v (k v) ∧ k v ≠ []) → ∃ fs : List Value, PySem.W.KatTups h vs fs ∧ fs.length = vs.length ∧ ∀ f ∈ fs, ∃ x t, f = Value.int x t
  | [], _ => ⟨[], PySem.W.KatTups.nil, rfl, fun _ m => nomatch m⟩
  | v :: vs, hp => by
    obtain ⟨fs, q1, q2, q3⟩ := tup_firsts (vs := vs) fun v' m => hp v' (List.mem_cons_of_mem _ m)
    obtain ⟨⟨a, o, us, n, e, ho, hc, hd, hv⟩, ne⟩ := hp v List.mem_cons_self
    obtain ⟨us⟩ := us
    cases hk : k v with
    | nil => exact absurd hk ne
    | cons i is =>
      rw [hk] at hv
      match us, hv with
      | u :: ur, .cons r rr =>
        obtain ⟨t, rfl⟩ := (r : ∃ t, u = Value.int i t)
        rw [e]
        refine ⟨.int i t :: fs, PySem.W.KatTups.cons ho hc hd rfl q1, by simp only [List.length_cons, q2], fun f m => ?_⟩
        rcases List.mem_cons.mp m with rfl | m
        · exact ⟨i, t, rfl⟩
        · exact q3 f m
theorem tup_sortable {a : Addr} {vs : List Value} {k : Value → List Int} (h0 : 0 < vs.length) (hp : ∀ v ∈ vs, IsT s.heap v (k v) ∧ k v ≠ []) (ha : ∀ o, s.heap.get? a = some o → o.cls ≠ .type "tuple") : SrtO.SortableO prog w A s a vs fun v u => lexI (k v) (k u) := by
  intro h' keep
  have hp' : ∀ v ∈ vs, IsT h' v (k v) ∧ k v ≠ [] := fun v m => ⟨(hp v m).1.keeps fun b o e c => keep b o (fun z => ha o (z ▸ e) c) e, (hp v m).2⟩
  obtain ⟨fs, q1, q2, q3⟩ := tup_firsts hp'
  refine ⟨tuples' true, fun Q E hq => ?_, tup_cmp fun v m => (hp' v m).1⟩
  refine PySem.W.kat_kind (T := .type "int") q1 (by omega) (fun f m => ?_) (by rfl) ?_
  · obtain ⟨x, t, rfl⟩ := q3 f m
    exact PySem.W.Looks.now
  · have e : (Value.type "int" != Value.type "tuple") = true := by first | decide +kernel | rfl | decide
    rw [e]; exact hq
theorem lexk_swo (k : Value → List Int) : SrtO.Swo fun v u => lexI (k v) (k u) := ⟨fun x y => lexI_asym _ _, fun x y z => lexI_tr _ _ _⟩
theorem sorted_tupsI {l : Addr} {vs : List Value} {k : Value → List Int} {Q : Value → Shared → Prop} (hl : s.heap.IsList l vs.toArray) (hz : vs.length ≤ sizeLine) (hp : ∀ v ∈ vs, IsT s.heap v (k v) ∧ k v ≠ [])
    (h : ∀ (h' : Heap) (d : Addr) (out : List Value), SrtO.Srtd (fun v u => lexI (k v) (k u)) out → out.Perm vs → (∀ b o, s.heap.get? b = some o → h'.get? b = some o) → s.heap.objs.size ≤ d → (∃ n, h'.get? d = some (seqObj "list" out.toArray n)) → Q (.ref d) { s with heap := h' }) :
    wpAny (model prog w) A (call (.builtin "sorted") [.ref l]) Q E s := by
  refine SrtO.sorted_ord (lexk_swo k) hl hz (fun h2 h₁ a ha kk => ?_) fun out hs hb => h _ _ out hs hb.perm (fun b o e => sortedAll_old e) (Nat.le_succ _) (sortedAll_at s.heap vs out.toArray)
  refine tup_sortable (s := { s with heap := h₁ }) (by omega) (fun v m => ⟨(hp v m).1.keeps fun b o e _ => (kk b o e).2, (hp v m).2⟩) fun o e => ?_
  have e' : some o = some (seqObj "list" vs.toArray 0) := e.symm.trans ha
  cases e'
  exact fun c => absurd (Value.type.inj c) (by decide)
end
/-! ### sorted(xs) -/
def intsL : List D → Option (List Int)
  | [] => some []
  | .int i :: r => (intsL r).map (i :: ·)
  | _ => none
def tupsL : List D → Option (List (List Int))
  | [] => some []
  | .tup is :: r => (match intsL is with
    | some (i :: js) => (tupsL r).map ((i :: js) :: ·)
    | _ => none)
  | _ => none
def toT (ns : List Int) : D := .tup (ns.map .int)
def sortD (ds : List D) : Option D := match tupsL ds with
  | some ts => some (.lst ((isort lexI ts).map toT))
  | none => (intsL ds).map fun js => .lst ((isort (fun i j => decide (i < j)) js).map .int)
def dSorted : List D → Option D := one fun d => match d with
  | .lst ds => sortD ds
  | .flst ds => sortD ds
  | _ => none
theorem intsL_eq : ∀ {ds : List D} {js : List Int}, intsL ds = some js → ds = js.map .int
  | [], js, h => by cases h; rfl
  | .int i :: r, js, h => by
    simp only [intsL, Option.map_eq_some_iff] at h
    obtain ⟨k, h1, rfl⟩ := h
    rw [intsL_eq h1]; rfl
  | .non :: _, _, h | .bl _ :: _, _, h | .str _ :: _, _, h | .tup _ :: _, _, h | .lst _ :: _, _, h | .ctup _ :: _, _, h | .clst _ :: _, _, h | .flst _ :: _, _, h | .dK _ :: _, _, h | .dT _ :: _, _, h | .obj _ _ :: _, _, h => by cases h
theorem tupsL_eq : ∀ {ds : List D} {ts : List (List Int)}, tupsL ds = some ts → ds = ts.map toT ∧ ∀ t ∈ ts, t ≠ []
  | [], ts, h => by cases h; exact ⟨rfl, fun _ m => nomatch m⟩
  | .tup is :: r, ts, h => by
    simp only [tupsL] at h
    split at h
    · rename_i i js e
      rw [Option.map_eq_some_iff] at h
      obtain ⟨k, h1, rfl⟩ := h
      obtain ⟨e1, e2⟩ := tupsL_eq h1
      rw [intsL_eq e, e1]
      refine ⟨rfl, fun t m => ?_⟩
      rcases List.mem_cons.mp m with rfl | m
      · exact List.cons_ne_nil _ _
      · exact e2 t m
    · cases h
  | .int _ :: _, _, h | .non :: _, _, h | .bl _ :: _, _, h | .str _ :: _, _, h | .lst _ :: _, _, h | .ctup _ :: _, _, h | .clst _ :: _, _, h | .flst _ :: _, _, h | .dK _ :: _, _, h | .dT _ :: _, _, h | .obj _ _ :: _, _, h => by cases h
theorem owns_intsV {K : PySem.W.Frag} {L H : Hp} : ∀ {js : List Int} {vs : List V} {fp : List Addr}, Owns K L H vs (js.map D.int) fp → vs = js.map V.int
  | [], _, _, .nil => rfl
  | j :: js, _, _, .cons h hs => by
    rw [own_is_int h, owns_intsV hs]; rfl
theorem own_intsV {K : PySem.W.Frag} {L H : Hp} : ∀ (js : List Int), Owns K L H (js.map V.int) (js.map D.int) []
  | [] => .nil
  | j :: js => .cons (f := []) (g := []) (.int j) (own_intsV js)
/-- the ints of a tuple's address -/
def keyH (H : Hp) : Value → List Int
  | .ref q => (match H q with
    | some (.tup ws) => ws.filterMap fun v => match v with
      | .int i => some i
      | _ => none
    | _ => [])
  | _ => []
theorem key_at {H : Hp} {q : Addr} {ns : List Int} (h : H q = some (.tup (ns.map V.int))) : keyH H (.ref q) = ns := by
  have e : ∀ ns : List Int, (ns.map V.int).filterMap (fun v => match v with
      | .int i => some i
      | _ => none) = ns := fun ns => by
    induction ns with
    | nil => rfl
    | cons n ns ih => rw [List.map_cons, List.filterMap_cons]; simp only [ih]
  unfold keyH
  simp only [h, e]
theorem owns_tupsV {K : PySem.W.Frag} {L H : Hp} : ∀ {ts : List (List Int)} {vs : List V} {us : List Value} {fp : List Addr}, Owns K L H vs (ts.map toT) fp → Vals vs us →
    us.map (keyH H) = ts ∧ vs = us.map backV ∧ (∀ u ∈ us, ∃ q, u = .ref q ∧ H q = some (.tup ((keyH H u).map V.int)))
  | [], _, _, _, .nil, .nil => ⟨rfl, rfl, fun _ m => nomatch m⟩
  | t :: ts, _, _, _, .cons (v := v) h hs, .cons (b := u) r rr => by
    obtain ⟨e1, e2, e3⟩ := owns_tupsV hs rr
    have ht : ∃ q, v = .ref q ∧ H q = some (.tup (t.map V.int)) := by
      unfold toT at h
      cases h with
      | @tup q ws _ _ h hs => exact ⟨q, rfl, by rw [← owns_intsV hs]; exact h⟩
    obtain ⟨q, rfl, hq⟩ := ht
    obtain rfl : u = .ref q := r
    have kq := key_at hq
    refine ⟨by rw [List.map_cons, e1, kq], by rw [List.map_cons, ← e2]; rfl, fun u m => ?_⟩
    rcases List.mem_cons.mp m with rfl | m
    · exact ⟨q, rfl, by rw [kq]; exact hq⟩
    · exact e3 u m
theorem owns_back {K : PySem.W.Frag} {H : Hp} : ∀ {us : List Value}, (∀ u ∈ us, ∃ q, u = .ref q ∧ H q = some (.tup ((keyH H u).map V.int))) → Owns K H H (us.map backV) ((us.map (keyH H)).map toT) []
  | [], _ => .nil
  | u :: us, h => by
    obtain ⟨q, rfl, hq⟩ := h u List.mem_cons_self
    exact .cons (f := []) (g := []) (.tup hq (own_intsV _)) (owns_back fun u m => h u (List.mem_cons_of_mem _ m))
theorem lfs_toT (ts : List (List Int)) : lfs (ts.map toT) = true := by
  have li : ∀ js : List Int, lfs (js.map D.int) = true := fun js => by
    induction js with
    | nil => rfl
    | cons j js ih => simp only [List.map_cons, lfs, D.lf, ih, Bool.and_self]
  induction ts with
  | nil => rfl
  | cons t ts ih => simp only [List.map_cons, lfs, toT, D.lf, li, ih, Bool.and_self]
theorem lfs_ints (js : List Int) : lfs (js.map D.int) = true := by
  induction js with
  | nil => rfl
  | cons j js ih => simp only [List.map_cons, lfs, D.lf, ih, Bool.and_self]
theorem ilt_swo : SrtO.Swo fun i j : Int => decide (i < j) := ⟨fun x y h => by simp only [decide_eq_true_eq, decide_eq_false_iff_not] at *; omega, fun x y z h1 h2 => by simp only [decide_eq_false_iff_not] at *; omega⟩
theorem cg_sorted {X : Cx} : CallG X (.builtin "sorted") dSorted := by
  intro pins s σ H xs us ds z Q I r o e0 k
  obtain ⟨d, rfl, e⟩ := one_some e0
  clear e0
  obtain ⟨v, rfl, o1⟩ := owns1 o
  have main : ∀ (p : Addr) (vs : List V) (ys : List D), v = .ref p → Owns X.K H H vs ys [] → Rd H p (.lst vs) → sortD ys = some z → wpAny (model X.prog X.w) X.A (call (.builtin "sorted") us) (EP X pins σ Q) X.xe s := by
    intro p vs ys ev hs hr e
    subst ev
    unfold sortD at e
    split at e
    · rename_i ts et
      cases e
      obtain ⟨e1, e2⟩ := tupsL_eq et
      subst e1
      obtain ⟨its, rv, hl, hz⟩ := I.list (.inl hr)
      obtain ⟨u, rfl, ru⟩ := vals1 r
      obtain rfl : u = Value.ref p := ru
      obtain ⟨k1, k2, k3⟩ := owns_tupsV hs rv
      refine sorted_tupsI (k := keyH H) hl.isList (by rw [← rv.length]; exact hz) (fun u m => ⟨?_, ?_⟩) fun h' d out h1 h2 kp hd hn => ?_
      · obtain ⟨q, rfl, hq⟩ := k3 u m
        obtain ⟨_, its2, r2, o, ho, hc, n, hd⟩ := I.hok _ _ hq
        exact ⟨q, o, its2.toArray, n, rfl, ho, hc, hd, by simpa using r2⟩
      · refine e2 _ ?_
        rw [← k1]
        exact List.mem_map.mpr ⟨u, m, rfl⟩
      · have k4 : ∀ u ∈ out, ∃ q, u = .ref q ∧ H q = some (.tup ((keyH H u).map V.int)) := fun u m => k3 u (h2.mem_iff.mp m)
        have hb : ∀ u ∈ out, ∃ a, u = Value.ref a := fun u m => let ⟨q, e, _⟩ := k4 u m; ⟨q, e⟩
        obtain ⟨n, hn⟩ := hn
        have eo : out.map (keyH H) = isort lexI ts := srt_uniq lexI_anti ((h2.map _).trans (by rw [k1]; exact (isort_perm _ _).symm)) (SrtO.srtd_map h1) (isort_srt lexI_swo ts)
        have ob := owns_back (K := X.K) k4
        rw [eo] at ob
        refine ⟨.ref d, upd H d (.lst (out.map backV)), I.laid (t' := s.toks) kp hd ⟨?_, out, n, vals_back hb, hn⟩, rfl, k.newL ob (lfs_toT _) (I.hok.fresh hd)⟩
        rw [List.length_map, h2.length_eq, ← rv.length]
        exact hz
    · rw [Option.map_eq_some_iff] at e
      obtain ⟨js, ej, rfl⟩ := e
      have := intsL_eq ej
      subst this
      have ev := owns_intsV hs
      subst ev
      refine cr_sortedI pins s σ H _ us Q I r ⟨p, js, rfl, .inl hr, fun ns' q pm rise hq => ?_⟩
      have eo : ns' = isort (fun i j => decide (i < j)) js := srt_uniq (lt := fun i j : Int => decide (i < j)) (fun x y h1 h2 => by simp only [decide_eq_false_iff_not] at *; omega) (pm.trans (isort_perm _ _).symm) (List.Pairwise.imp (fun {a b} h => by simp only [decide_eq_false_iff_not]; omega) rise) (isort_srt ilt_swo js)
      rw [← eo] at k
      exact k.newL (L := H) (own_intsV ns') (lfs_ints _) hq
  split at e
  · cases o1 with
    | bor hr hs => exact main _ _ _ rfl hs hr e
  · cases o1 with
    | flst hr hs => exact main _ _ _ rfl hs (.inr hr) e
  · cases e
end P3
end
section
set_option exponentiation.threshold 256
set_option Elab.async false
set_option linter.all false
set_option maxRecDepth 100000
set_option maxHeartbeats 2000000
set_option autoImplicit false
/-! P3t: dicts displayed, extend, repetition, index, two items stored at once. -/
namespace P3
open PySem PySem.Spec PyProof.Rows L2
section
variable {Y : Cy} {pos : Pos}
/-- an empty dict whose keys are tuples, are plain -/
theorem ve_dT0 : VE Y true (.Dict [] [] pos) (Sm.p (.dT [])) :=
  ⟨_, pe_dnewT, fun L H E σ T Q S G => fun p hp => G (.ref p) L _ (Le.refl _) (S.fresh (Le.new hp) (.dT upd_same rfl .nil) (by simp) (by simpa using hp))⟩
theorem ve_dK0 : VE Y true (.Dict [] [] pos) (Sm.p (.dK [])) :=
  ⟨_, pe_dnewK, fun L H E σ T Q S G => fun p hp => G (.ref p) L _ (Le.refl _) (S.fresh (Le.new hp) (.dK upd_same rfl .nil) (by simp) (by simpa using hp))⟩
end
section
variable {K : PySem.W.Frag} {p0 : Option Addr} {L H M : Hp} {E : Env3} {σ : L2.St} {T : List Ent}
theorem St3.ext {p : Addr} {vs ws : List V} {zs es : List D} (S : St3 K p0 L H E σ (⟨true, .ref p, .lst zs⟩ :: T)) (hp : H p = some (.lst vs)) (o : Owns K M H ws es []) (hf : lfs es = true) :
    St3 K p0 L (upd H p (.lst (vs ++ ws))) E σ (⟨true, .ref p, .lst (zs ++ es)⟩ :: T) :=
  S.dict hp (fun xs z => by cases z) fun f1 o1 => by
    cases o1 with
    | bor h _ => exact (h.elim (fun z => nomatch z) fun ⟨_, z⟩ => nomatch z)
    | @lst _ vs' _ fp h hs =>
      rw [hp] at h; cases h
      refine ⟨fp, rfl, fp, fun H' lt hh hp' => .lst hp' ?_, List.Sublist.refl _⟩
      have := (hs.up lt hh).append ((o.free (M := fun _ => none) hf).2.mono (Le.refl _) lt (by simp))
      rw [List.append_nil] at this
      exact this
end
section
variable {X : Cx}
def rExtR : V → List V → Hp → VK → Prop := fun x vs H Q => ∃ (l b : Addr) (xs zs : List V), x = .ref l ∧ vs = [.ref b] ∧ H l = some (.lst xs) ∧ Rd H b (.lst zs) ∧ xs.length + zs.length ≤ sizeLine ∧ Q .non (upd H l (.lst (xs ++ zs)))
theorem mt_extR : MtM X "list.extend" rExtR := by
  intro pins s σ H x vs v us Q I rx rv ⟨l, b, xs, zs, ex, ev, hl, hb, hz, q⟩
  subst ex ev
  obtain ⟨u, eu, ru⟩ := rv.one
  subst eu
  obtain rfl : v = Value.ref l := rx
  obtain rfl : u = Value.ref b := ru
  obtain ⟨_, is1, n1, r1, l1, g1⟩ := I.lstM hl
  obtain ⟨_, is2, n2, r2, g2⟩ := hb.ok I.hok
  have l2 := r2.length
  have sz : is1.toArray.size + is2.toArray.size ≤ sizeLine := by simp only [List.size_toArray]; omega
  refine call_meets F.slot_list_extend ⟨_, g1, rfl⟩ F.entry_list_extend (F.args_list_extend_2 _ _) (AutoSeq1.list_extend_list_list_0 l is1.toArray n1 b is2.toArray n2 (fun c => ?_) (Nat.le_trans (Nat.le_add_right _ _) sz) (Nat.le_succ_of_le sz)) ⟨g1, g2, ?_⟩
  · rw [notLongL sz, Bool.and_false] at c
    cases c
  · refine ⟨.non, _, I.lset (its' := is1 ++ is2) hl g1 (by simp) (r1.append r2) (by simp only [List.length_append]; omega), rfl, q⟩
end
section
variable {Y : Cy} {e a b : Expr} {f g : Sm D} {pos apos p1 : Pos} {x : Str}
/-- x.extend(e) -/
def oExt (d z : D) : Option D := match d, z with
  | .lst ds, .lst es => if (lfs es && decide (ds.length + es.length < 10000000)) = true then some (.lst (ds ++ es)) else none
  | .lst ds, .flst es => if (lfs es && decide (ds.length + es.length < 10000000)) = true then some (.lst (ds ++ es)) else none
  | _, _ => none
def mExt (i : Nat) (f : Sm D) : Sm D := Sm.b (mRefL i) fun _ => Sm.b f fun z => fun E => match E[i]? with
  | some (.w d) => (match oExt d z with
    | some d' => .ok .non (E.set i (.w d'))
    | none => .bad)
  | _ => .bad
theorem oExt_eq {d z r : D} (h : oExt d z = some r) : ∃ ds es, d = .lst ds ∧ (z = .lst es ∨ z = .flst es) ∧ lfs es = true ∧ ds.length + es.length < 10000000 ∧ r = .lst (ds ++ es) := by
  unfold oExt at h
  split at h
  · split at h
    · rename_i hc
      simp only [Bool.and_eq_true, decide_eq_true_eq] at hc
      cases h
      exact ⟨_, _, rfl, .inl rfl, hc.1, hc.2, rfl⟩
    · cases h
  · split at h
    · rename_i hc
      simp only [Bool.and_eq_true, decide_eq_true_eq] at hc
      cases h
      exact ⟨_, _, rfl, .inr rfl, hc.1, hc.2, rfl⟩
    · cases h
  · cases h
theorem ve_ext (i : Nat) (h : VO Y e f) (hN : Y.X.N[i]? = some x := by rfl) (hv : Vis Y.X.env.scope x := by first | exact Or.inl rfl | exact Or.inr (Or.inl rfl) | exact Or.inr (Or.inr rfl)) (hd : (x == ("__debug__" : Str)) = false := by decide)
    (hcd : (x == ("__classdict__" : Str)) = false := by decide) (hbase : attributeBase (.Name x p1) "extend" Y.X.env (eval (.Name x p1) Y.X.env) = eval (.Name x p1) Y.X.env := by rfl)
    (hfew : ((backTo pos (starEach (e :: []) Y.X.env)).all (fun x => !x.1) && (backToKw pos (keywordEach [] Y.X.env)).all (fun x => x.1.isSome) && decide ((e :: []).length + ([] : List Keyword).length + (if ([] : List Keyword).isEmpty then 0 else 1) < 30)) = true := by rfl)
    (hline : (apos.endLine == pos.line) = true := by rfl) (hs : starEach (e :: []) Y.X.env = (false, eval e Y.X.env) :: starEach [] Y.X.env := by rfl) (hplain : (backTo pos (starEach [] Y.X.env)).any (·.1) = false := by rfl) :
    VE Y true (.Call (.Attribute (.Name x p1) "extend" apos) [e] [] pos) (mExt i f) := by
  obtain ⟨t, pt, h⟩ := h
  refine ⟨_, pe_bm PySem.F.plainAttrs_list PySem.F.slot_list_extend PySem.F.type_list_extend mt_extR (pe_var (i := i) hN hv hd hcd) (pa_cons pt pa_nil hs) hbase hfew hline hs hplain, fun L H E σ T Q S G => ?_⟩
  obtain ⟨ds0, e0, G0⟩ := Gd.refL G
  obtain ⟨v, v1, v2⟩ := S.look e0
  refine ⟨v, v1, rdb_lst v2, h L H E σ T _ S (Gd.imp (Gd.bind G0) fun z E1 G1 y L1 H1 l1 S1 r1 => ?_)⟩
  split at G1
  · rename_i d e1
    split at G1
    · rename_i d' e2
      obtain ⟨ds, es, rfl, ez, hf, hl, rfl⟩ := oExt_eq e2
      obtain ⟨v', w1, S2⟩ := S1.take e1
      rw [v1] at w1; cases w1
      obtain ⟨fo, go, o, _⟩ := S2.temps.ownW
      obtain ⟨p, vs, f3, rfl, hp, _, ho⟩ := own_lstW o
      obtain ⟨q, ws, rfl, hr, hrs⟩ : ∃ q ws, y = .ref q ∧ Rd H1 q (.lst ws) ∧ Owns Y.K H1 H1 ws es [] := by
        rcases ez with rfl | rfl
        · cases r1 with | bor hr hrs => exact ⟨_, _, rfl, hr, hrs⟩
        · cases r1 with | flst hr hrs => exact ⟨_, _, rfl, .inr hr, hrs⟩
      · refine ⟨p, q, vs, ws, rfl, rfl, hp, hr, by rw [ho.len, hrs.len]; exact Nat.le_of_lt (lt_line hl), ?_⟩
        have S3 := S2.ext hp hrs hf
        have S4 := S1.back e1 v1 S3
        exact G1 .non L1 _ l1 (S4.fresh (Le.refl _) .non List.nodup_nil (by simp))
    · exact G1.elim
  · exact G1.elim
/-- xs * k, xs new -/
def dRep (d z : D) : Option D := match d, z with
  | .lst ds, .int k => if (lfs ds && decide (0 ≤ k) && decide (k ≤ 1000000) && decide (ds.length * k.toNat ≤ 10000000)) = true then some (.lst (List.replicate k.toNat ds).flatten) else none
  | _, _ => none
def mRep (f g : Sm D) : Sm D := Sm.b f fun d => Sm.b g fun z => Sm.o (dRep d z)
theorem owns_rep {K : PySem.W.Frag} {L H : Hp} {vs : List V} {ds : List D} (o : Owns K L H vs ds []) : ∀ n, Owns K L H (List.replicate n vs).flatten (List.replicate n ds).flatten []
  | 0 => .nil
  | n + 1 => by
    simp only [List.replicate_succ, List.flatten_cons]
    exact o.append (owns_rep o n)
theorem lfs_rep {ds : List D} (h : lfs ds = true) : ∀ n, lfs (List.replicate n ds).flatten = true
  | 0 => rfl
  | n + 1 => by
    simp only [List.replicate_succ, List.flatten_cons]
    exact lfs_append h (lfs_rep h n)
theorem ve_rep {k : Bool} (h1 : VE Y true a f) (h2 : VE Y k b g) : VE Y true (.BinOp a .Mult b pos) (mRep f g) := by
  obtain ⟨t1, p1, h1⟩ := h1
  obtain ⟨t2, p2, h2⟩ := h2
  refine ⟨_, pe_op op_rep p1 p2, fun L H E σ T Q S G => h1 L H E σ T _ S (G.bind.imp fun d E1 G1 v L1 H1 l1 S1 => ?_)⟩
  refine h2 L1 H1 E1 σ _ _ S1 (Gd.temp (Gd.bind G1) l1 fun z E2 G2 w L2 H2 l2 S2 => ?_)
  obtain ⟨r, e1, G3⟩ := Gd.opt G2
  unfold dRep at e1
  split at e1
  · rename_i ds j
    split at e1
    · rename_i hc
      simp only [Bool.and_eq_true, decide_eq_true_eq] at hc
      cases e1
      have ew : w = .int j := own_is_int S2.rdb
      have S3 := S2.pop
      obtain ⟨fo, go, o, _⟩ := S3.temps.ownW
      obtain ⟨p, vs, f3, rfl, hp, _, ho⟩ := own_lstW o
      refine ⟨p, j, vs, rfl, ew, hp, by omega, by omega, by rw [ho.len]; exact le_line hc.2, fun q hq => ?_⟩
      exact G3 _ L2 _ (l1.trans l2) (S3.pop.newLf (owns_rep (ho.free (M := H2) hc.1.1.1).2 _) (lfs_rep hc.1.1.1 _) hq)
    · cases e1
  · cases e1
/-- xs.index(i): ints -/
def firstAt (i : Int) : List Int → Option Nat
  | [] => none
  | j :: r => if j = i then some 0 else (firstAt i r).map (· + 1)
def dIndex (d z : D) : Option D := match d, z with
  | .lst ds, .int i => (intsL ds).bind fun js => (firstAt i js).map fun (n : Nat) => D.int n
  | .flst ds, .int i => (intsL ds).bind fun js => (firstAt i js).map fun (n : Nat) => D.int n
  | _, _ => none
theorem firstAt_eq {i : Int} : ∀ {js : List Int} {n : Nat}, firstAt i js = some n → js[n]? = some i ∧ ∀ m z, m < n → js[m]? = some z → z ≠ i
  | j :: r, n, h => by
    unfold firstAt at h
    split at h
    · rename_i e
      cases h
      exact ⟨by rw [e]; rfl, fun m z hm => absurd hm (Nat.not_lt_zero _)⟩
    · rename_i e
      rw [Option.map_eq_some_iff] at h
      obtain ⟨n', h1, rfl⟩ := h
      obtain ⟨q1, q2⟩ := firstAt_eq h1
      refine ⟨by simpa using q1, fun m z hm hz => ?_⟩
      cases m with
      | zero => simp at hz; rw [← hz]; exact e
      | succ m => exact q2 m z (by omega) (by simpa using hz)
def isLs : D → Bool
  | .lst _ => true
  | .flst _ => true
  | _ => false
def mIndex (f g : Sm D) : Sm D := Sm.b f fun d => if isLs d = true then Sm.b g fun z => Sm.o (dIndex d z) else fun _ => .bad
theorem ve_index {k k2 : Bool} (h1 : VE Y k a f) (h2 : VE Y k2 b g) (hbase : attributeBase a "index" Y.X.env (eval a Y.X.env) = eval a Y.X.env := by rfl)
    (hfew : ((backTo pos (starEach (b :: []) Y.X.env)).all (fun x => !x.1) && (backToKw pos (keywordEach [] Y.X.env)).all (fun x => x.1.isSome) && decide ((b :: []).length + ([] : List Keyword).length + (if ([] : List Keyword).isEmpty then 0 else 1) < 30)) = true := by rfl)
    (hline : (apos.endLine == pos.line) = true := by rfl) (hs : starEach (b :: []) Y.X.env = (false, eval b Y.X.env) :: starEach [] Y.X.env := by rfl) (hplain : (backTo pos (starEach [] Y.X.env)).any (·.1) = false := by rfl) :
    VE Y false (.Call (.Attribute a "index" apos) [b] [] pos) (mIndex f g) := by
  obtain ⟨t1, p1, h1⟩ := h1
  obtain ⟨t2, p2, h2⟩ := h2
  refine ⟨_, pe_bm PySem.F.plainAttrs_list PySem.F.slot_list_index PySem.F.type_list_index mt_index p1 (pa_cons p2 pa_nil hs) hbase hfew hline hs hplain, fun L H E σ T Q S G => h1 L H E σ T _ S (G.bind.imp fun d E1 G1 v L1 H1 l1 S1 => ?_)⟩
  by_cases hd : isLs d = true
  · have G1' := Gd.bind (f := g) (g := fun z => Sm.o (dIndex d z)) (E := E1) (by rw [if_pos hd] at G1; exact G1)
    have rdl : ∀ {T : List Ent} {H : Hp} {L : Hp} {E : Env3}, St3 Y.K Y.p0 L H E σ (⟨k, v, d⟩ :: T) → ∃ ds q ws, (d = .lst ds ∨ d = .flst ds) ∧ v = .ref q ∧ Rd H q (.lst ws) ∧ Owns Y.K H H ws ds [] := fun S => by
      have rd := S.rdb
      cases d <;> simp only [isLs, Bool.false_eq_true] at hd
      · cases rd with | bor hr hrs => exact ⟨_, _, _, .inl rfl, rfl, hr, hrs⟩
      · cases rd with | flst hr hrs => exact ⟨_, _, _, .inr rfl, rfl, .inr hr, hrs⟩
    obtain ⟨ds0, q0, ws0, _, ev0, hr0, _⟩ := rdl S1
    refine ⟨by rw [ev0]; exact .inl ⟨rfl, _, .inl hr0⟩, h2 L1 H1 E1 σ _ _ S1 (Gd.temp G1' l1 fun z E2 G2 w L2 H2 l2 S2 => ?_)⟩
    obtain ⟨r, e1, G3⟩ := Gd.opt G2
    obtain ⟨ds, q, ws, ed, ev, hr, hrs⟩ := rdl S2.pop
    obtain ⟨i, js, n, ez, e2, e4, er⟩ : ∃ i js n, z = .int i ∧ intsL ds = some js ∧ firstAt i js = some n ∧ r = .int (n : Nat) := by
      rcases ed with ed | ed <;> rw [ed] at e1 <;> cases z <;> simp only [dIndex, reduceCtorEq] at e1
      all_goals
        obtain ⟨js, e2, e3⟩ := Option.bind_eq_some_iff.mp e1
        obtain ⟨n, e4, e5⟩ := Option.map_eq_some_iff.mp e3
        exact ⟨_, js, n, rfl, e2, e4, e5.symm⟩
    subst ez er
    have := intsL_eq e2
    subst this
    obtain ⟨q1, q2⟩ := firstAt_eq e4
    have ew : w = .int i := own_is_int S2.rdb
    have evv := owns_intsV hrs
    subst evv
    refine ⟨q, js.map V.int, .int i, n, .int i, ev, by rw [ew], .inl hr, rfl, ?_, by rw [List.getElem?_map, q1]; rfl, by first | rfl | simp [eqV], fun m z' hm hz => ?_, ?_⟩
    · simp [List.all_eq_true, flatV]
    · rw [List.getElem?_map, Option.map_eq_some_iff] at hz
      obtain ⟨j, hj, rfl⟩ := hz
      have := q2 m j hm hj
      simp [eqV, this]
    · exact G3 (.int n) L2 H2 (l1.trans l2) (S2.pop.pop.push (.int _))
  · rw [if_neg hd] at G1; exact G1.elim
end
/-! ### targets that change things -/
def GM {α : Type} (r : R α) (P : α → Env3 → Prop) : Prop := match r with
  | .ok a E => P a E
  | _ => False
section
variable {α β : Type} {Y : Cy} {L : Hp} {σ : L2.St} {T : List Ent}
theorem GM.gd {r : R α} {P : α → Env3 → Prop} (h : GM r P) : Gd Y L σ T P r := by
  cases r with
  | ok a E => exact h
  | exc x E => exact h.elim
  | bad => exact h
theorem GM.bind {f : Sm α} {g : α → Sm β} {E : Env3} {P : β → Env3 → Prop} (h : GM (Sm.b f g E) P) : GM (f E) fun a E' => GM (g a E') P := by
  unfold Sm.b at h
  cases e : f E with
  | ok a E' => rw [e] at h; exact h
  | exc x E' => rw [e] at h; exact h
  | bad => rw [e] at h; exact h
/-- f raises nothing -/
def NoXS (f : Sm α) : Prop := ∀ E x E', f E ≠ .exc x E'
theorem nx_b {f : Sm α} {g : α → Sm β} (h : NoXS f) (k : ∀ a, NoXS (g a)) : NoXS (Sm.b f g) := fun E x E' q => by
  unfold Sm.b at q
  cases e : f E with
  | ok a E1 => rw [e] at q; exact k a _ _ _ q
  | exc y E1 => exact h _ _ _ e
  | bad => rw [e] at q; cases q
theorem nx_var {i : Nat} : NoXS (mVar i) := fun E x E' q => by unfold mVar at q; split at q <;> cases q
theorem nx_ref {i : Nat} : NoXS (mRef i) := fun E x E' q => by unfold mRef at q; split at q <;> cases q
theorem nx_p {a : α} : NoXS (Sm.p a) := fun E x E' q => nomatch q
theorem nx_nil : NoXS (mNil : Sm (List α)) := fun E x E' q => nomatch q
theorem nx_cons {f : Sm α} {g : Sm (List α)} (h : NoXS f) (k : NoXS g) : NoXS (mCons f g) := nx_b h fun _ => nx_b k fun _ => nx_p
theorem nx_tup {f : Sm (List D)} (h : NoXS f) : NoXS (mTup f) := nx_b h fun ds E x E' q => by
  split at q
  · exact nx_p _ _ _ q
  · cases q
end
section
variable {Y : Cy} {e a b : Expr} {f g : Sm D} {pos p1 p2 : Pos} {x : Str}
def VGh (Y : Cy) (tg : Expr) (gf : D → Sm Unit) : Prop := ∃ t, PG Y.X tg t ∧ ∀ L H E σ T v d (Q : L2.St → Hp → Prop), St3 Y.K Y.p0 L H E σ (⟨false, v, d⟩ :: T) → GM (gf d E) (fun _ E' => ∀ L' H', Le L L' → St3 Y.K Y.p0 L' H' E' σ T → Q σ H') → t v σ H Q
def gSt (i : Nat) (g : Sm D) : D → Sm Unit := fun z => if z.lf = true then Sm.b (mRef i) fun _ => Sm.b g fun j => fun E => match E[i]? with
    | some (.w d) => (match dSet d j z with
      | some d' => .ok () (E.set i (.w d'))
      | none => .bad)
    | _ => .bad
  else fun _ => .bad
theorem nox_st {i : Nat} (h : NoXS g) : NoX (gSt i g) := fun z E x E' q => by
  unfold gSt at q
  split at q
  · refine nx_b nx_ref (fun _ => nx_b h fun j E x E' q => ?_) _ _ _ q
    split at q
    · split at q <;> cases q
    · cases q
  · cases q
theorem vgh_set {k : Bool} (i : Nat) (hu : Y.X.A.units + 1 < cLine) (hj : VE Y k b g) (hN : Y.X.N[i]? = some x := by rfl) (hv : Vis Y.X.env.scope x := by first | exact Or.inl rfl | exact Or.inr (Or.inl rfl) | exact Or.inr (Or.inr rfl))
    (hd : (x == ("__debug__" : Str)) = false := by decide) (hcd : (x == ("__classdict__" : Str)) = false := by decide)
    (ha : ∀ v, assign (.Subscript (.Name x p1) b p2) Y.X.env v = (do
      let ov ← holding [v] (eval (.Name x p1) Y.X.env)
      let iv ← holding [v, ov] (eval b Y.X.env)
      standAt p2
      holding [v, ov, iv] (setItem ov iv v)
      release [v, ov, iv] []) := by intro _; rfl) : VGh Y (.Subscript (.Name x p1) b p2) (gSt i g) := by
  obtain ⟨u, pu, hj⟩ := hj
  refine ⟨_, pg_sub (pe_var (i := i) hN hv hd hcd) pu (PSet.or set_list (set_dict hu)) ha, fun L H E σ T y z Q S G => ?_⟩
  unfold gSt at G
  by_cases hz : z.lf = true
  · rw [if_pos hz] at G
    have G0 := GM.bind G
    unfold mRef at G0
    split at G0
    · rename_i hk
      obtain ⟨d0, e0⟩ := Option.isSome_iff_exists.mp hk
      obtain ⟨v, v1, v2⟩ := S.look e0
      refine ⟨v, v1, hj L H E σ _ _ S (Gd.imp (GM.gd (GM.bind G0)) fun j E2 G2 w L2 H2 l2 S2 => ?_)⟩
      split at G2
      · rename_i d e2
        split at G2
        · rename_i d' e3
          obtain ⟨v', w1, S3⟩ := S2.take e2
          rw [v1] at w1; cases w1
          have hr : Rdb Y.K H2 w j := S2.rdb
          have S4 := ((S3.perm (.swap _ _ _)).pop).perm (.swap _ _ _)
          have oz := S4.rdb
          have S5 : St3 Y.K none L2 H2 (E2.set i .no) σ (⟨true, y, z⟩ :: ⟨true, v, d⟩ :: T) := S4.pop.fresh (Le.refl _) (oz.free hz).2 List.nodup_nil (by simp)
          exact set_ok S5 hr e3 _ fun H3 S6 => G2 L2 H3 l2 (S2.pop.pop.back e2 v1 S6)
        · exact G2.elim
      · exact G2.elim
    · exact G0.elim
  · rw [if_neg hz] at G; exact G.elim
def gTup2 (g1 g2 : D → Sm Unit) : D → Sm Unit := fun d => match d with
  | .tup [d1, d2] => if (d1.lf && d2.lf) = true then Sm.b (g1 d1) fun _ => g2 d2 else fun _ => .bad
  | _ => fun _ => .bad
theorem nox_tup2 {g1 g2 : D → Sm Unit} (h1 : NoX g1) (h2 : NoX g2) : NoX (gTup2 g1 g2) := fun d E x E' q => by
  unfold gTup2 at q
  split at q
  · split at q
    · exact nx_b (fun E x E' => h1 _ E x E') (fun _ E x E' => h2 _ E x E') _ _ _ q
    · cases q
  · cases q
theorem vgh_tup2 {g1 g2 : D → Sm Unit} {kk : Nat} (hc : Y.X.calm = true) (h1 : VGh Y a g1) (h2 : VGh Y b g2) (hn : (assignEach [a, b] Y.X.env).length = 2 := by rfl) (hst : (assignEach [a, b] Y.X.env).findIdx? (·.1) = none := by rfl)
    (q1 : (assignEach [a, b] Y.X.env).map (·.2) = assign a Y.X.env :: (assignEach [b] Y.X.env).map (·.2) := by rfl) (q2 : (assignEach [b] Y.X.env).map (·.2) = assign b Y.X.env :: (assignEach [] Y.X.env).map (·.2) := by rfl) : VGh Y (.Tuple [a, b] kk pos) (gTup2 g1 g2) := by
  obtain ⟨t1, p1, h1⟩ := h1
  obtain ⟨t2, p2, h2⟩ := h2
  refine ⟨_, pg_tup hc (pgs_cons p1 (pgs_cons p2 pgs_nil q2) q1) hn hst, fun L H E σ T v d Q S G => ?_⟩
  unfold gTup2 at G
  split at G
  · rename_i d1 d2
    by_cases hl : (d1.lf && d2.lf) = true
    · rw [if_pos hl] at G
      rw [Bool.and_eq_true] at hl
      have o := S.rdb
      generalize hfp : ([] : List Addr) = fp at o
      cases o with
      | @tup p vs _ _ hp hs =>
        obtain ⟨fp, hs⟩ : ∃ fp, Owns Y.K H H vs [d1, d2] fp := ⟨_, hs⟩
        match vs, fp, hs, hp with
        | [v1, v2], _, .cons o1 (.cons o2 .nil), hp =>
          refine ⟨p, [v1, v2], rfl, SqT.of hp, rfl, v1, [v2], rfl, ?_⟩
          have S1 : St3 Y.K Y.p0 L H E σ (⟨false, v1, d1⟩ :: ⟨false, v2, d2⟩ :: T) := (S.pop.push (o2.free hl.2).2).push (o1.free hl.1).2
          refine h1 L H E σ _ v1 d1 _ S1 ?_
          have G1 := GM.bind G
          cases er : g1 d1 E with
          | ok a E1 =>
            rw [er] at G1
            intro L' H' l' S2
            refine ⟨v2, [], rfl, h2 L' H' E1 σ T v2 d2 _ S2 ?_⟩
            have G2 : GM (g2 d2 E1) _ := G1
            cases er2 : g2 d2 E1 with
            | ok a E2 =>
              rw [er2] at G2
              exact fun L2 H2 l2 S3 => ⟨rfl, G2 L2 H2 (l'.trans l2) S3⟩
            | exc y E2 => rw [er2] at G2; exact G2.elim
            | bad => rw [er2] at G2; exact G2.elim
          | exc y E1 => rw [er] at G1; exact G1.elim
          | bad => rw [er] at G1; exact G1.elim
    · rw [if_neg hl] at G; exact G.elim
  · exact G.elim
theorem vs_asgH {tg : Expr} {gf : D → Sm Unit} (h : VE Y false e f) (hg : VGh Y tg gf) (hx : NoX gf) (hs : swapsWithSole [tg] e pos.line Y.X.env = pure false := by rfl) (hw : swappedStores [tg] e Y.X.env = pure none := by rfl)
    (h1 : (assignEach [tg] Y.X.env).map (·.2) = [assign tg Y.X.env] := by rfl) : VS Y (.Assign [tg] e pos) (mAsg f gf) := by
  obtain ⟨t, p, h⟩ := h
  obtain ⟨u, q, hg⟩ := hg
  refine ⟨_, ps_asg p q hs hw h1, fun L H E σ T D S G => h L H E σ T _ S (G.bind.ex σ fun d E1 G1 v L1 H1 l1 S1 => ?_)⟩
  refine hg L1 H1 E1 σ T v d D.nx S1 ?_
  have G2 := GdS.bind G1
  cases er : gf d E1 with
  | ok a E2 => rw [er] at G2; exact fun L' H' l' S' => G2 σ L' H' (l1.trans l') S'
  | exc y E2 => exact hx _ _ _ _ er
  | bad => rw [er] at G2; exact G2
end
/-! ### how they are worked out -/
section
variable {E : Env3} {i : Nat} {f g : Sm D}
theorem e_ext : mExt i f E = R.bd (mRefL i E) fun _ => Sm.b f fun z => fun E => slW E[i]? fun d => opt (oExt d z) fun d' => .ok .non (E.set i (.w d')) := by
  unfold mExt
  rw [e_b]
  congr 1; funext _; congr 1; funext z E
  unfold slW opt
  rcases E[i]? with _ | s
  · rfl
  · cases s with
    | no => rfl
    | b d => rfl
    | w d => simp only []; cases oExt d z <;> rfl
theorem e_rep : mRep f g E = R.bd (f E) fun d => Sm.b g fun z => Sm.o (dRep d z) := e_b
theorem e_index : mIndex f g E = R.bd (f E) fun d => if isLs d = true then Sm.b g fun z => Sm.o (dIndex d z) else fun _ => .bad := e_b
theorem e_isl {ds : List D} : isLs (.lst ds) = true := rfl
theorem e_isf {ds : List D} : isLs (.flst ds) = true := rfl
theorem e_gst {z : D} : gSt i g z E = if z.lf = true then R.bd (mRef i E) fun _ => Sm.b g fun j => fun E => slW E[i]? fun d => opt (dSet d j z) fun d' => .ok () (E.set i (.w d')) else .bad := by
  unfold gSt
  by_cases h : z.lf = true
  · rw [if_pos h, if_pos h, e_b]
    congr 1; funext _; congr 1; funext j E
    unfold slW opt
    rcases E[i]? with _ | s
    · rfl
    · cases s with
      | no => rfl
      | b d => rfl
      | w d => simp only []; cases dSet d j z <;> rfl
  · rw [if_neg h, if_neg h]
theorem e_gtup2 {g1 g2 : D → Sm Unit} {d1 d2 : D} : gTup2 g1 g2 (.tup [d1, d2]) E = if (d1.lf && d2.lf) = true then R.bd (g1 d1 E) fun _ => g2 d2 else .bad := by
  show (if (d1.lf && d2.lf) = true then Sm.b (g1 d1) fun _ => g2 d2 else fun _ => .bad) E = _
  by_cases h : (d1.lf && d2.lf) = true
  · rw [if_pos h, if_pos h, e_b]
  · rw [if_neg h, if_neg h]
end
end P3
end
section
set_option exponentiation.threshold 256
set_option Elab.async false
set_option linter.all false
set_option maxRecDepth 100000
set_option maxHeartbeats 2000000
set_option autoImplicit false
/-! P3u: own lists locked: things that may be shared, told back, put into others. -/
namespace P3
open PySem PySem.Spec PyProof.Rows L2
mutual
/-- what an own thing is, locked -/
def lkD : D → D
  | .lst xs => .flst (lkDs xs)
  | .tup xs => .tup (lkDs xs)
  | .flst xs => .flst (lkDs xs)
  | d => d
def lkDs : List D → List D
  | [] => []
  | d :: ds => lkD d :: lkDs ds
end
/-- H2 is H, the lists at fp locked -/
structure Lk (H H2 : Hp) (fp : List Addr) : Prop where
  off : ∀ a, a ∉ fp → H2 a = H a
  on : ∀ a ∈ fp, ∀ u, H a = some u → ∃ o, H2 a = some (.frz o u)
section
variable {K : PySem.W.Frag} {H H2 : Hp}
mutual
theorem lk_at : ∀ {v : V} {d : D} {fp : List Addr}, Own K (fun _ => none) H v d fp → (lkD d).lf = true → ∀ a ∈ fp, ∃ xs, H a = some (.lst xs)
  | _, _, _, .non, _, a, m => nomatch m
  | _, _, _, .bl b, _, a, m => nomatch m
  | _, _, _, .int i, _, a, m => nomatch m
  | _, _, _, .str x, _, a, m => nomatch m
  | _, _, _, .tup h hs, e, a, m => lk_ats hs (by simpa [lkD, D.lf] using e) a m
  | _, _, _, .ctup h hs, e, a, m => nomatch m
  | _, _, _, .clst h hs, e, a, m => nomatch m
  | _, _, _, .flst h hs, e, a, m => nomatch m
  | _, _, _, .bor h hs, e, a, m => nomatch m
  | _, _, _, .lst h hs, e, a, m => by
    rcases List.mem_cons.mp m with rfl | m
    · exact ⟨_, h⟩
    · exact lk_ats hs (by simpa [lkD, D.lf] using e) a m
  | _, _, _, .dKb _ _ _, e, _, _ => by simp [lkD, D.lf] at e
  | _, _, _, .dK _ _ _, e, _, _ => by simp [lkD, D.lf] at e
  | _, _, _, .dTb _ _ _, e, _, _ => by simp [lkD, D.lf] at e
  | _, _, _, .dT _ _ _, e, _, _ => by simp [lkD, D.lf] at e
  | _, _, _, .objb _ _ _ _, e, _, _ => by simp [lkD, D.lf] at e
  | _, _, _, .obj _ _ _ _, e, _, _ => by simp [lkD, D.lf] at e
theorem lk_ats : ∀ {vs : List V} {ds : List D} {fp : List Addr}, Owns K (fun _ => none) H vs ds fp → lfs (lkDs ds) = true → ∀ a ∈ fp, ∃ xs, H a = some (.lst xs)
  | _, _, _, .nil, _, a, m => nomatch m
  | _, _, _, .cons h hs, e, a, m => by
    simp only [lkDs, lfs, Bool.and_eq_true] at e
    rcases List.mem_append.mp m with m | m
    · exact lk_at h e.1 a m
    · exact lk_ats hs e.2 a m
end
mutual
theorem lk_own {fq : List Addr} (hq : ∀ a ∈ fq, ∃ xs, H a = some (.lst xs)) (l : Lk H H2 fq) : ∀ {v : V} {d : D} {fp : List Addr}, Own K (fun _ => none) H v d fp → (∀ a ∈ fp, a ∈ fq) → (lkD d).lf = true → Own K (fun _ => none) H2 v (lkD d) []
  | _, _, _, .non, _, _ => .non
  | _, _, _, .bl b, _, _ => .bl b
  | _, _, _, .int i, _, _ => .int i
  | _, _, _, .str x, _, _ => .str x
  | _, _, _, .tup (p := p) h hs, s, e => .tup (by rw [l.off p fun m => by obtain ⟨xs, q⟩ := hq p m; rw [h] at q; cases q]; exact h) (lk_owns hq l hs s (by simpa [lkD, D.lf] using e))
  | _, _, _, .ctup h hs, s, e => by
    have lt : LeT H H2 := ⟨fun a xs q => by rw [l.off a fun m => by obtain ⟨ys, r⟩ := hq a m; rw [q] at r; cases r]; exact q, fun a o u q => by rw [l.off a fun m => by obtain ⟨ys, r⟩ := hq a m; rw [q] at r; cases r]; exact q⟩
    exact .ctup h (hs.mono (Le.refl _) lt (by simp))
  | _, _, _, .clst h hs, s, e => by
    have lt : LeT H H2 := ⟨fun a xs q => by rw [l.off a fun m => by obtain ⟨ys, r⟩ := hq a m; rw [q] at r; cases r]; exact q, fun a o u q => by rw [l.off a fun m => by obtain ⟨ys, r⟩ := hq a m; rw [q] at r; cases r]; exact q⟩
    exact .clst h (hs.mono (Le.refl _) lt (by simp))
  | _, _, _, .flst (p := p) ⟨o, h⟩ hs, s, e => .flst ⟨o, by rw [l.off p fun m => by obtain ⟨xs, q⟩ := hq p m; rw [h] at q; cases q]; exact h⟩ (lk_owns hq l hs (fun a m => nomatch m) (by simpa [lkD, D.lf] using e))
  | _, _, _, .bor h hs, _, _ => (h.elim (fun z => nomatch z) fun ⟨_, z⟩ => nomatch z)
  | _, _, _, .lst (p := p) h hs, s, e => .flst (l.on p (s p List.mem_cons_self) _ h) (lk_owns hq l hs (fun a m => s a (List.mem_cons_of_mem _ m)) (by simpa [lkD, D.lf] using e))
  | _, _, _, .dKb _ _ _, _, e => by simp [lkD, D.lf] at e
  | _, _, _, .dK _ _ _, _, e => by simp [lkD, D.lf] at e
  | _, _, _, .dTb _ _ _, _, e => by simp [lkD, D.lf] at e
  | _, _, _, .dT _ _ _, _, e => by simp [lkD, D.lf] at e
  | _, _, _, .objb _ _ _ _, _, e => by simp [lkD, D.lf] at e
  | _, _, _, .obj _ _ _ _, _, e => by simp [lkD, D.lf] at e
theorem lk_owns {fq : List Addr} (hq : ∀ a ∈ fq, ∃ xs, H a = some (.lst xs)) (l : Lk H H2 fq) : ∀ {vs : List V} {ds : List D} {fp : List Addr}, Owns K (fun _ => none) H vs ds fp → (∀ a ∈ fp, a ∈ fq) → lfs (lkDs ds) = true → Owns K (fun _ => none) H2 vs (lkDs ds) []
  | _, _, _, .nil, _, _ => .nil
  | _, _, _, .cons h hs, s, e => by
    simp only [lkDs, lfs, Bool.and_eq_true] at e
    exact .cons (f := []) (g := []) (lk_own hq l h (fun a m => s a (List.mem_append_left _ m)) e.1) (lk_owns hq l hs (fun a m => s a (List.mem_append_right _ m)) e.2)
end
theorem lk_leT {fq : List Addr} (hq : ∀ a ∈ fq, ∃ xs, H a = some (.lst xs)) (l : Lk H H2 fq) : LeT H H2 :=
  ⟨fun a xs q => by rw [l.off a fun m => by obtain ⟨ys, r⟩ := hq a m; rw [q] at r; cases r]; exact q, fun a o u q => by rw [l.off a fun m => by obtain ⟨ys, r⟩ := hq a m; rw [q] at r; cases r]; exact q⟩
end
/-! ### as a step -/
section
variable {X : Cx} {pins : List (Addr × Obj)} {σ : L2.St} {s : Shared}
theorem lock_all : ∀ (fp : List Addr) (H : Hp), fp.Nodup → (∀ a ∈ fp, ∃ xs, H a = some (.lst xs)) → Inv X pins σ H s → ∃ H2, Lk H H2 fp ∧ Inv X pins σ H2 s
  | [], H, _, _, I => ⟨H, ⟨fun _ _ => rfl, fun _ m => nomatch m⟩, I⟩
  | p :: fp, H, nd, hq, I => by
    have nd' := List.nodup_cons.mp nd
    obtain ⟨xs, hp⟩ := hq p List.mem_cons_self
    obtain ⟨o, I1⟩ := I.lock hp trivial
    have ne : ∀ a ∈ fp, a ≠ p := fun a m z => nd'.1 (z ▸ m)
    obtain ⟨H2, l, I2⟩ := lock_all fp _ nd'.2 (fun a m => by rw [upd_ne (ne a m)]; exact hq a (List.mem_cons_of_mem _ m)) I1
    refine ⟨H2, ⟨fun a m => ?_, fun a m u e => ?_⟩, I2⟩
    · have h1 : a ≠ p := fun z => m (z ▸ List.mem_cons_self)
      rw [l.off a fun z => m (List.mem_cons_of_mem _ z), upd_ne h1]
    · rcases List.mem_cons.mp m with rfl | m
      · rw [l.off a nd'.1, upd_same]
        rw [hp] at e; cases e
        exact ⟨o, rfl⟩
      · exact l.on a m u (by rw [upd_ne (ne a m)]; exact e)
def tLk (t : TE) : TE := fun σ H Q => t σ H fun v H1 => ∃ fp : List Addr, fp.Nodup ∧ (∀ a ∈ fp, ∃ xs, H1 a = some (.lst xs)) ∧ ∀ H2, Lk H1 H2 fp → Q v H2
theorem pe_lk {e : Expr} {t : TE} (h : PE X e t) : PE X e (tLk t) := by
  constructor
  intro pins s σ H Q I q
  refine wpAny_mono (h.run pins s σ H _ I q) (fun v s' hv => ?_) fun _ _ z => z
  obtain ⟨x, H1, I1, r, fp, nd, hq, k⟩ := hv
  obtain ⟨H2, l, I2⟩ := lock_all fp H1 nd hq I1
  exact ⟨x, H2, I2, r, k H2 l⟩
end
section
variable {Y : Cy} {e : Expr} {f : Sm D}
def mLk (f : Sm D) : Sm D := Sm.b f fun d => if (lkD d).lf = true then Sm.p (lkD d) else fun _ => .bad
theorem ve_lk (h : VE Y true e f) : VE Y true e (mLk f) := by
  obtain ⟨t, p, h⟩ := h
  refine ⟨_, pe_lk p, fun L H E σ T Q S G => h L H E σ T _ S (G.bind.imp fun d E1 G1 v L1 H1 l1 S1 => ?_)⟩
  by_cases hl : (lkD d).lf = true
  · rw [if_pos hl] at G1
    have S' : St3 Y.K Y.p0 L1 H1 E1 σ (wtemps [v] [d] ++ T) := S1
    obtain ⟨g, o, nd, fr, k⟩ := S'.outW rfl
    cases o with
    | @cons _ _ _ _ f1 f2 o1 o2 =>
      cases o2
      rw [List.append_nil] at nd fr k
      have hq := lk_at o1 hl
      refine ⟨f1, nd, hq, fun H2 l => ?_⟩
      have le : Le L1 H2 := fun a u ea => by
        rw [l.off a fun m => by rw [fr a m] at ea; cases ea]
        exact S1.le a u ea
      exact G1 v L1 H2 l1 (k H2 v (lkD d) [] le (lk_leT hq l) (fun a u na ea => by rw [l.off a na]; exact ea) (lk_own hq l o1 (fun _ m => m) hl) List.nodup_nil (fun a m => nomatch m))
  · rw [if_neg hl] at G1
    exact G1.elim
end
/-! ### xs[::-1] -/
section
variable {Y : Cy} {e : Expr} {f : Sm D}
def dRevS : D → Option D
  | .lst ds => if lfs ds = true then some (.lst ds.reverse) else none
  | .flst ds => if lfs ds = true then some (.lst ds.reverse) else none
  | _ => none
def mRevS (f : Sm D) : Sm D := Sm.b f fun d => Sm.o (dRevS d)
theorem owns_rev {K : PySem.W.Frag} {L H : Hp} : ∀ {vs : List V} {ds : List D} {fp : List Addr}, Owns K L H vs ds fp → lfs ds = true → Owns K L H vs.reverse ds.reverse []
  | _, _, _, .nil, _ => .nil
  | _, _, _, .cons h hs, e => by
    simp only [lfs, Bool.and_eq_true] at e
    rw [List.reverse_cons, List.reverse_cons]
    exact (owns_rev hs e.2).append (.one (h.free e.1).2)
theorem lfs_rev : ∀ {ds : List D}, lfs ds = true → lfs ds.reverse = true
  | [], _ => rfl
  | d :: ds, e => by
    simp only [lfs, Bool.and_eq_true] at e
    rw [List.reverse_cons]
    exact lfs_append (lfs_rev e.2) (by simp only [lfs, e.1, Bool.and_self])
theorem ve_revS {k : Bool} {kk : Nat} {p1 p2 p3 pos : Pos} (h : VE Y k e f) : VE Y true (.Subscript e (.Slice none none (some (.UnaryOp .USub (.Constant (.int 1) kk p1) p2)) p3) pos) (mRevS f) := by
  obtain ⟨t, p, h⟩ := h
  refine ⟨_, pe_revL p, fun L H E σ T Q S G => h L H E σ T _ S (G.bind.imp fun d E1 G1 v L1 H1 l1 S1 => ?_)⟩
  obtain ⟨z, e1, G2⟩ := Gd.opt G1
  obtain ⟨ds, q, ws, ev, hr, hrs, hl, ez⟩ : ∃ ds q ws, v = .ref q ∧ Rd H1 q (.lst ws) ∧ Owns Y.K H1 H1 ws ds [] ∧ lfs ds = true ∧ z = .lst ds.reverse := by
    have rd := S1.rdb
    unfold dRevS at e1
    split at e1
    · split at e1
      · rename_i hl
        cases e1
        cases rd with | bor hr hrs => exact ⟨_, _, _, rfl, hr, hrs, hl, rfl⟩
      · cases e1
    · split at e1
      · rename_i hl
        cases e1
        cases rd with | flst hr hrs => exact ⟨_, _, _, rfl, .inr hr, hrs, hl, rfl⟩
      · cases e1
    · cases e1
  subst ez
  exact ⟨q, ws, ev, .inl hr, fun p hp => G2 _ L1 _ l1 (S1.pop.newLf (owns_rev hrs hl) (lfs_rev hl) hp)⟩
end
/-- nothing is promised -/
theorem fn_noneR {P : Program} {w : World} {K : PySem.W.Frag} {mg : Str → Option Value} {base : Heap} {CX : CXT} {k : Nat} {f : Addr} {fd : FuncData} {ps : List Str} {n : Nat} : FnG P w K mg base CX k f fd ps (spR K mg n fun _ _ => .bad) :=
  ⟨fun _ _ _ _ h => by obtain ⟨_, _, _, _, _, _, _, _, _, _, _, h⟩ := h; exact h.elim, fun _ _ _ _ _ _ _ _ _ _ _ _ _ h => by obtain ⟨_, _, _, _, _, _, _, _, _, _, _, h⟩ := h; exact h.elim⟩
section
variable {E : Env3} {f : Sm D}
theorem e_revS : mRevS f E = R.bd (f E) fun d => Sm.o (dRevS d) := e_b
theorem e_lk : mLk f E = R.bd (f E) fun d => if (lkD d).lf = true then Sm.p (lkD d) else fun _ => .bad := e_b
end
end P3
end
section
set_option exponentiation.threshold 256
set_option maxRecDepth 100000
set_option linter.all false
set_option Elab.async false
set_option autoImplicit false
set_option maxHeartbeats 2000000
/-! Plain: of a triangle's seven tests one holds (k04, k05, k07). -/
namespace Tri
theorem ltge (a b : Int) : a < b ∨ b ≤ a := by omega
theorem neg_of_mul {A x : Int} (hA : 0 < A) (h : A * x < 0) : x < 0 := by
  rcases ltge x 0 with hx | hx
  · exact hx
  · have := Int.mul_nonneg (Int.le_of_lt hA) hx
    omega
theorem edge {A B C a1 a2 : Int} (hA : 0 < A) (hD : 0 < A * C - B * B) (h : A * a2 - B * a1 ≤ 0) (h1 : a1 < 0) (h2 : 0 < a2) : C * a1 - B * a2 < 0 ∧ (a2 - C ≤ 0 ∨ a1 - B ≤ a2 - C) := by
  have p1 : 0 < A * a2 := Int.mul_pos hA h2
  have hB : B < 0 := by
    rcases ltge B 0 with hx | hx
    · exact hx
    · have := Int.mul_nonpos_of_nonneg_of_nonpos hx (Int.le_of_lt h1)
      omega
  constructor
  · refine neg_of_mul hA ?_
    have e1 : A * (C * a1 - B * a2) = (A * C - B * B) * a1 + (-B) * (A * a2 - B * a1) := by grind
    have e2 : (A * C - B * B) * a1 < 0 := Int.mul_neg_of_pos_of_neg hD h1
    have e3 : (-B) * (A * a2 - B * a1) ≤ 0 := Int.mul_nonpos_of_nonneg_of_nonpos (by omega) h
    omega
  · rcases ltge 0 (a2 - C) with hc | hc
    · right
      rcases ltge (a2 - C) (a1 - B) with hd | hd
      · have e1 : 0 < (-B) * (a1 - B) := Int.mul_pos (by omega) (by omega)
        have e2 : 0 < A * (a2 - C) := Int.mul_pos hA hc
        have e3 : (-B) * (a1 - B) + A * (a2 - C) + (A * C - B * B) = A * a2 - B * a1 := by grind
        omega
      · exact hd
    · exact .inl hc
/-- what stands when none of the six tests holds -/
theorem inside {A B C a1 a2 : Int} (hA : 0 < A) (hC : 0 < C) (hD : 0 < A * C - B * B)
    (t1 : ¬ (a1 ≤ 0 ∧ a2 ≤ 0)) (t2 : ¬ (0 ≤ a1 - A ∧ a2 - B ≤ a1 - A)) (t3 : ¬ (A * a2 - B * a1 ≤ 0 ∧ 0 ≤ a1 ∧ a1 - A ≤ 0)) (t4 : ¬ (0 ≤ a2 - C ∧ a1 - B ≤ a2 - C)) (t5 : ¬ (C * a1 - B * a2 ≤ 0 ∧ 0 ≤ a2 ∧ a2 - C ≤ 0))
    (t6 : ¬ ((A * C - B * B) - (C * a1 - B * a2) - (A * a2 - B * a1) ≤ 0 ∧ a1 - A ≤ a2 - B ∧ a2 - C ≤ a1 - B)) :
    0 < A * a2 - B * a1 ∧ 0 < C * a1 - B * a2 ∧ 0 < (A * C - B * B) - (C * a1 - B * a2) - (A * a2 - B * a1) := by
  have hE : 0 < A - 2 * B + C := by
    rcases ltge 0 (A - 2 * B + C) with h | h
    · exact h
    · have e : A * (A - 2 * B + C) = (A - B) * (A - B) + (A * C - B * B) := by grind
      have e1 : A * (A - 2 * B + C) ≤ 0 := Int.mul_nonpos_of_nonneg_of_nonpos (Int.le_of_lt hA) h
      have e2 : 0 ≤ (A - B) * (A - B) := by
        rcases Int.le_total 0 (A - B) with h | h
        · exact Int.mul_nonneg h h
        · exact Int.mul_nonneg_of_nonpos_of_nonpos h h
      omega
  refine ⟨?_, ?_, ?_⟩
  · rcases ltge 0 (A * a2 - B * a1) with h | h
    · exact h
    · exfalso
      rcases ltge a1 0 with ha | ha
      · obtain ⟨e1, e2⟩ := edge hA hD h ha (by omega)
        rcases e2 with e2 | e2
        · exact t5 ⟨by omega, by omega, e2⟩
        · rcases ltge 0 (a2 - C) with e3 | e3
          · exact t4 ⟨by omega, e2⟩
          · exact t5 ⟨by omega, by omega, e3⟩
      · have hb : 0 < a1 - A := by omega
        have hb2 : a1 - A < a2 - B := by omega
        obtain ⟨e1, e2⟩ := edge (A := A) (B := A - B) (C := A - 2 * B + C) (a1 := A - a1) (a2 := (a2 - B) - (a1 - A)) hA (by have h9 : A * (A - 2 * B + C) - (A - B) * (A - B) = A * C - B * B := (by grind); omega) (by have h9 : A * ((a2 - B) - (a1 - A)) - (A - B) * (A - a1) = A * a2 - B * a1 := (by grind); omega) (by omega) (by omega)
        have e3 : (A - 2 * B + C) * (A - a1) - (A - B) * ((a2 - B) - (a1 - A)) = (A * C - B * B) - (C * a1 - B * a2) - (A * a2 - B * a1) := by grind
        rw [e3] at e1
        rcases ltge (a1 - B) (a2 - C) with e4 | e4
        · exact t4 ⟨by omega, by omega⟩
        · exact t6 ⟨by omega, by omega, e4⟩
  · rcases ltge 0 (C * a1 - B * a2) with h | h
    · exact h
    · exfalso
      rcases ltge a2 0 with ha | ha
      · obtain ⟨e1, e2⟩ := edge (A := C) (B := B) (C := A) (a1 := a2) (a2 := a1) hC (by have h9 : C * A - B * B = A * C - B * B := (by grind); omega) h ha (by omega)
        rcases ltge 0 (a1 - A) with e3 | e3
        · exact t2 ⟨by omega, by omega⟩
        · exact t3 ⟨by omega, by omega, e3⟩
      · have hb : 0 < a2 - C := by omega
        have hb2 : a2 - C < a1 - B := by omega
        obtain ⟨e1, e2⟩ := edge (A := C) (B := C - B) (C := A - 2 * B + C) (a1 := C - a2) (a2 := (a1 - B) - (a2 - C)) hC (by have h9 : C * (A - 2 * B + C) - (C - B) * (C - B) = A * C - B * B := (by grind); omega) (by have h9 : C * ((a1 - B) - (a2 - C)) - (C - B) * (C - a2) = C * a1 - B * a2 := (by grind); omega) (by omega) (by omega)
        have e3 : (A - 2 * B + C) * (C - a2) - (C - B) * ((a1 - B) - (a2 - C)) = (A * C - B * B) - (C * a1 - B * a2) - (A * a2 - B * a1) := by grind
        rw [e3] at e1
        rcases ltge (a2 - B) (a1 - A) with e4 | e4
        · exact t2 ⟨by omega, by omega⟩
        · exact t6 ⟨by omega, e4, by omega⟩
  · rcases ltge 0 ((A * C - B * B) - (C * a1 - B * a2) - (A * a2 - B * a1)) with h | h
    · exact h
    · exfalso
      rcases ltge (a2 - B) (a1 - A) with ha | ha
      · have hb : a1 - A < 0 := by omega
        obtain ⟨e1, e2⟩ := edge (A := A - 2 * B + C) (B := A - B) (C := A) (a1 := (a2 - B) - (a1 - A)) (a2 := A - a1) hE (by have h9 : (A - 2 * B + C) * A - (A - B) * (A - B) = A * C - B * B := (by grind); omega) (by have h9 : (A - 2 * B + C) * (A - a1) - (A - B) * ((a2 - B) - (a1 - A)) = (A * C - B * B) - (C * a1 - B * a2) - (A * a2 - B * a1) := (by grind); omega) (by omega) (by omega)
        have e3 : A * ((a2 - B) - (a1 - A)) - (A - B) * (A - a1) = A * a2 - B * a1 := by grind
        rw [e3] at e1
        rcases ltge a1 0 with e4 | e4
        · exact t1 ⟨by omega, by omega⟩
        · exact t3 ⟨by omega, e4, by omega⟩
      · have ha2 : a1 - B < a2 - C := by omega
        have hb : a2 - C < 0 := by omega
        obtain ⟨e1, e2⟩ := edge (A := A - 2 * B + C) (B := C - B) (C := C) (a1 := (a1 - B) - (a2 - C)) (a2 := C - a2) hE (by have h9 : (A - 2 * B + C) * C - (C - B) * (C - B) = A * C - B * B := (by grind); omega) (by have h9 : (A - 2 * B + C) * (C - a2) - (C - B) * ((a1 - B) - (a2 - C)) = (A * C - B * B) - (C * a1 - B * a2) - (A * a2 - B * a1) := (by grind); omega) (by omega) (by omega)
        have e3 : C * ((a1 - B) - (a2 - C)) - (C - B) * (C - a2) = C * a1 - B * a2 := by grind
        rw [e3] at e1
        rcases ltge a2 0 with e4 | e4
        · exact t1 ⟨by omega, by omega⟩
        · exact t5 ⟨by omega, e4, by omega⟩
end Tri
end
section
set_option exponentiation.threshold 256
set_option maxRecDepth 100000
set_option linter.all false
set_option Elab.async false
set_option autoImplicit false
set_option maxHeartbeats 4000000
/-! Plain: vectors, and what the foot on a triangle keeps (k04, k05, k07). -/
namespace Tri
structure V where
  x : Int
  y : Int
  z : Int
def sub (p q : V) : V := ⟨p.x - q.x, p.y - q.y, p.z - q.z⟩
def sc (k : Int) (p : V) : V := ⟨k * p.x, k * p.y, k * p.z⟩
def add (p q : V) : V := ⟨p.x + q.x, p.y + q.y, p.z + q.z⟩
def dot (p q : V) : Int := p.x * q.x + p.y * q.y + p.z * q.z
def cross (p q : V) : V := ⟨p.y * q.z - p.z * q.y, p.z * q.x - p.x * q.z, p.x * q.y - p.y * q.x⟩
/-- the sum of the corners by the shares -/
def at_ (a b c : V) (sa sb s : Int) : V := add (add (sc sa a) (sc sb b)) (sc s c)
def across (a b c : V) : V := cross (sub b a) (sub c a)
theorem in_plane (a b c : V) (sa sb s : Int) : dot (across a b c) (sub (at_ a b c sa sb s) (sc (sa + sb + s) a)) = 0 := by
  simp only [dot, across, cross, sub, sc, add, at_]
  grind
theorem edge_ab (a b c : V) (sa sb s : Int) : dot (cross (sub b a) (sub (at_ a b c sa sb s) (sc (sa + sb + s) a))) (across a b c) = s * dot (across a b c) (across a b c) := by
  simp only [dot, across, cross, sub, sc, add, at_]
  grind
theorem edge_bc (a b c : V) (sa sb s : Int) : dot (cross (sub c b) (sub (at_ a b c sa sb s) (sc (sa + sb + s) b))) (across a b c) = sa * dot (across a b c) (across a b c) := by
  simp only [dot, across, cross, sub, sc, add, at_]
  grind
theorem edge_ca (a b c : V) (sa sb s : Int) : dot (cross (sub a c) (sub (at_ a b c sa sb s) (sc (sa + sb + s) c))) (across a b c) = sb * dot (across a b c) (across a b c) := by
  simp only [dot, across, cross, sub, sc, add, at_]
  grind
theorem gram (a b c : V) : dot (across a b c) (across a b c) = dot (sub b a) (sub b a) * dot (sub c a) (sub c a) - dot (sub b a) (sub c a) * dot (sub b a) (sub c a) := by
  simp only [dot, across, cross, sub]
  grind
end Tri
end
section
set_option exponentiation.threshold 256
set_option maxRecDepth 100000
set_option linter.all false
set_option Elab.async false
set_option autoImplicit false
set_option maxHeartbeats 4000000
/-! Plain: the shares of the nearest point (k04, k05, k07). -/
namespace Tri
/-- the shares, by the seven tests, of the numbers that the program takes -/
def sharesN (a1 a2 b1 b2 c1 c2 : Int) : Int × Int × Int :=
  if a1 ≤ 0 ∧ a2 ≤ 0 then (1, 0, 0)
  else if 0 ≤ b1 ∧ b2 ≤ b1 then (0, 1, 0)
  else if a1 * b2 - b1 * a2 ≤ 0 ∧ 0 ≤ a1 ∧ b1 ≤ 0 then (0 - b1, a1, 0)
  else if 0 ≤ c2 ∧ c1 ≤ c2 then (0, 0, 1)
  else if c1 * a2 - a1 * c2 ≤ 0 ∧ 0 ≤ a2 ∧ c2 ≤ 0 then (0 - c2, 0, a2)
  else if b1 * c2 - c1 * b2 ≤ 0 ∧ b1 ≤ b2 ∧ c2 ≤ c1 then (0, c1 - c2, b2 - b1)
  else (b1 * c2 - c1 * b2, c1 * a2 - a1 * c2, a1 * b2 - b1 * a2)
/-- how far the corners lean beyond, times the sum twice -/
def lean (A B C a1 a2 S sb s : Int) : Int × Int × Int :=
  (0 - (S * (sb * a1 + s * a2) - (sb * sb * A + 2 * sb * s * B + s * s * C)),
   0 - (S * (sb * a1 + s * a2) - (sb * sb * A + 2 * sb * s * B + s * s * C)) + S * (S * a1 - (sb * A + s * B)),
   0 - (S * (sb * a1 + s * a2) - (sb * sb * A + 2 * sb * s * B + s * s * C)) + S * (S * a2 - (sb * B + s * C)))
theorem shares_ok {A B C a1 a2 : Int} (hA : 0 < A) (hC : 0 < C) (hD : 0 < A * C - B * B) (hE : 0 < A - 2 * B + C) {sa sb s : Int} (h : sharesN a1 a2 (a1 - A) (a2 - B) (a1 - B) (a2 - C) = (sa, sb, s)) :
    (0 ≤ sa ∧ 0 ≤ sb ∧ 0 ≤ s ∧ 0 < sa + sb + s) ∧ (lean A B C a1 a2 (sa + sb + s) sb s).1 ≤ 0 ∧ (lean A B C a1 a2 (sa + sb + s) sb s).2.1 ≤ 0 ∧ (lean A B C a1 a2 (sa + sb + s) sb s).2.2 ≤ 0 := by
  have k1 : a1 * (a2 - B) - (a1 - A) * a2 = A * a2 - B * a1 := by grind
  have k2 : (a1 - B) * a2 - a1 * (a2 - C) = C * a1 - B * a2 := by grind
  have k3 : (a1 - A) * (a2 - C) - (a1 - B) * (a2 - B) = (A * C - B * B) - (C * a1 - B * a2) - (A * a2 - B * a1) := by grind
  unfold sharesN at h
  rw [k1, k2, k3] at h
  unfold lean
  simp only []
  split at h
  · rename_i t
    cases h
    refine ⟨by omega, ?_, ?_, ?_⟩ <;> grind
  · rename_i t1
    split at h
    · rename_i t
      cases h
      refine ⟨by omega, ?_, ?_, ?_⟩ <;> grind
    · rename_i t2
      split at h
      · rename_i t
        cases h
        have e : (A * a2 - B * a1) * A ≤ 0 := Int.mul_nonpos_of_nonpos_of_nonneg t.1 (Int.le_of_lt hA)
        refine ⟨by omega, ?_, ?_, ?_⟩ <;> grind
      · rename_i t3
        split at h
        · rename_i t
          cases h
          refine ⟨by omega, ?_, ?_, ?_⟩ <;> grind
        · rename_i t4
          split at h
          · rename_i t
            cases h
            have e : (C * a1 - B * a2) * C ≤ 0 := Int.mul_nonpos_of_nonpos_of_nonneg t.1 (Int.le_of_lt hC)
            refine ⟨by omega, ?_, ?_, ?_⟩ <;> grind
          · rename_i t5
            split at h
            · rename_i t
              cases h
              have e : ((A * C - B * B) - (C * a1 - B * a2) - (A * a2 - B * a1)) * (A - 2 * B + C) ≤ 0 := Int.mul_nonpos_of_nonpos_of_nonneg t.1 (Int.le_of_lt hE)
              refine ⟨by omega, ?_, ?_, ?_⟩ <;> grind
            · rename_i t6
              cases h
              obtain ⟨q1, q2, q3⟩ := inside hA hC hD t1 t2 t3 t4 t5 t6
              refine ⟨by omega, ?_, ?_, ?_⟩ <;> grind
end Tri
end
section
set_option exponentiation.threshold 256
set_option maxRecDepth 100000
set_option linter.all false
set_option Elab.async false
set_option autoImplicit false
set_option maxHeartbeats 4000000
/-! Plain: the nearest point, told in fractions (k04, k05, k06, k07). -/
namespace Tri
/-- shares of a, b, c for v -/
def shares (a b c v : V) : Int × Int × Int :=
  sharesN (dot (sub b a) (sub v a)) (dot (sub c a) (sub v a)) (dot (sub b a) (sub v b)) (dot (sub c a) (sub v b)) (dot (sub b a) (sub v c)) (dot (sub c a) (sub v c))
def nz (p : V) : Prop := p ≠ ⟨0, 0, 0⟩
theorem sq_nonneg (x : Int) : 0 ≤ x * x := by
  rcases Int.le_total 0 x with h | h
  · exact Int.mul_nonneg h h
  · exact Int.mul_nonneg_of_nonpos_of_nonpos h h
theorem sq_pos {x : Int} (h : x ≠ 0) : 0 < x * x := by
  rcases Int.lt_or_gt_of_ne h with h | h
  · exact Int.mul_pos_of_neg_of_neg h h
  · exact Int.mul_pos h h
theorem dot_self_pos {p : V} (h : nz p) : 0 < dot p p := by
  obtain ⟨x, y, z⟩ := p
  unfold dot
  simp only []
  have h1 := sq_nonneg x
  have h2 := sq_nonneg y
  have h3 := sq_nonneg z
  by_cases hx : x = 0
  · by_cases hy : y = 0
    · have hz : z ≠ 0 := fun e => h (by rw [hx, hy, e])
      have := sq_pos hz
      omega
    · have := sq_pos hy
      omega
  · have := sq_pos hx
    omega
theorem gram_pos {a b c : V} (h : nz (across a b c)) : 0 < dot (sub b a) (sub b a) ∧ 0 < dot (sub c a) (sub c a) ∧ 0 < dot (sub b a) (sub b a) * dot (sub c a) (sub c a) - dot (sub b a) (sub c a) * dot (sub b a) (sub c a) ∧
    0 < dot (sub b a) (sub b a) - 2 * dot (sub b a) (sub c a) + dot (sub c a) (sub c a) := by
  have hp := dot_self_pos h
  rw [gram] at hp
  refine ⟨dot_self_pos fun e => h ?_, dot_self_pos fun e => h ?_, hp, ?_⟩
  · unfold across; rw [e]; simp [cross]
  · unfold across; rw [e]; simp [cross]
  · have e : dot (sub b a) (sub b a) - 2 * dot (sub b a) (sub c a) + dot (sub c a) (sub c a) = dot (sub c b) (sub c b) := by
      simp only [dot, sub]; grind
    rw [e]
    refine dot_self_pos fun e => h ?_
    have e1 : (sub c b).x = 0 := by rw [e]
    have e2 : (sub c b).y = 0 := by rw [e]
    have e3 : (sub c b).z = 0 := by rw [e]
    simp only [sub] at e1 e2 e3
    have x1 : c.x = b.x := by omega
    have x2 : c.y = b.y := by omega
    have x3 : c.z = b.z := by omega
    unfold across
    simp only [cross, sub, x1, x2, x3, V.mk.injEq]
    refine ⟨?_, ?_, ?_⟩ <;> grind
theorem shares_eq (a b c v : V) : shares a b c v = sharesN (dot (sub b a) (sub v a)) (dot (sub c a) (sub v a)) (dot (sub b a) (sub v a) - dot (sub b a) (sub b a)) (dot (sub c a) (sub v a) - dot (sub b a) (sub c a)) (dot (sub b a) (sub v a) - dot (sub b a) (sub c a)) (dot (sub c a) (sub v a) - dot (sub c a) (sub c a)) := by
  have e1 : dot (sub b a) (sub v b) = dot (sub b a) (sub v a) - dot (sub b a) (sub b a) := by simp only [dot, sub]; grind
  have e2 : dot (sub c a) (sub v b) = dot (sub c a) (sub v a) - dot (sub b a) (sub c a) := by simp only [dot, sub]; grind
  have e3 : dot (sub b a) (sub v c) = dot (sub b a) (sub v a) - dot (sub b a) (sub c a) := by simp only [dot, sub]; grind
  have e4 : dot (sub c a) (sub v c) = dot (sub c a) (sub v a) - dot (sub c a) (sub c a) := by simp only [dot, sub]; grind
  unfold shares
  rw [e1, e2, e3, e4]
/-- what is asked of the point p over S -/
structure Near (a b c v p : V) (S : Int) : Prop where
  S0 : 0 < S
  plane : dot (across a b c) (sub p (sc S a)) = 0
  ab : 0 ≤ dot (cross (sub b a) (sub p (sc S a))) (across a b c)
  bc : 0 ≤ dot (cross (sub c b) (sub p (sc S b))) (across a b c)
  ca : 0 ≤ dot (cross (sub a c) (sub p (sc S c))) (across a b c)
  la : dot (sub (sc S v) p) (sub (sc S a) p) ≤ 0
  lb : dot (sub (sc S v) p) (sub (sc S b) p) ≤ 0
  lc : dot (sub (sc S v) p) (sub (sc S c) p) ≤ 0
theorem near_ok {a b c v : V} (h : nz (across a b c)) : (0 ≤ (shares a b c v).1 ∧ 0 ≤ (shares a b c v).2.1 ∧ 0 ≤ (shares a b c v).2.2) ∧
    Near a b c v (at_ a b c (shares a b c v).1 (shares a b c v).2.1 (shares a b c v).2.2) ((shares a b c v).1 + (shares a b c v).2.1 + (shares a b c v).2.2) := by
  obtain ⟨gA, gC, gD, gE⟩ := gram_pos h
  have hp := dot_self_pos h
  rcases hs : shares a b c v with ⟨sa, sb, s⟩
  rw [shares_eq] at hs
  obtain ⟨⟨q1, q2, q3, q4⟩, l1, l2, l3⟩ := shares_ok gA gC gD gE hs
  simp only []
  refine ⟨⟨q1, q2, q3⟩, q4, in_plane a b c sa sb s, ?_, ?_, ?_, ?_, ?_, ?_⟩
  · rw [edge_ab]; exact Int.mul_nonneg q3 (Int.le_of_lt hp)
  · rw [edge_bc]; exact Int.mul_nonneg q1 (Int.le_of_lt hp)
  · rw [edge_ca]; exact Int.mul_nonneg q2 (Int.le_of_lt hp)
  · refine Int.le_trans (Int.le_of_eq ?_) l1
    unfold lean
    simp only [dot, sub, sc, add, at_]
    grind
  · refine Int.le_trans (Int.le_of_eq ?_) l2
    unfold lean
    simp only [dot, sub, sc, add, at_]
    grind
  · refine Int.le_trans (Int.le_of_eq ?_) l3
    unfold lean
    simp only [dot, sub, sc, add, at_]
    grind
/-- the same point over another whole -/
theorem Near.over {a b c v p q : V} {S W : Int} (h : Near a b c v p S) (hW : 0 < W) (hq : sc S q = sc W p) : Near a b c v q W := by
  obtain ⟨S0, h1, h2, h3, h4, h5, h6, h7⟩ := h
  have ex : S * q.x = W * p.x := congrArg V.x hq
  have ey : S * q.y = W * p.y := congrArg V.y hq
  have ez : S * q.z = W * p.z := congrArg V.z hq
  have pos : ∀ {x y : Int}, S * x = W * y → 0 ≤ y → 0 ≤ x := fun {x y} e hy => by
    have : 0 ≤ S * x := by rw [e]; exact Int.mul_nonneg (Int.le_of_lt hW) hy
    rcases ltge x 0 with hx | hx
    · have := Int.mul_neg_of_pos_of_neg S0 hx
      omega
    · exact hx
  have neg : ∀ {x y : Int}, S * S * x = W * W * y → y ≤ 0 → x ≤ 0 := fun {x y} e hy => by
    have : S * S * x ≤ 0 := by rw [e]; exact Int.mul_nonpos_of_nonneg_of_nonpos (Int.le_of_lt (Int.mul_pos hW hW)) hy
    rcases ltge 0 x with hx | hx
    · have := Int.mul_pos (Int.mul_pos S0 S0) hx
      omega
    · exact hx
  refine ⟨hW, ?_, pos ?_ h2, pos ?_ h3, pos ?_ h4, neg ?_ h5, neg ?_ h6, neg ?_ h7⟩
  · have e : S * dot (across a b c) (sub q (sc W a)) = W * dot (across a b c) (sub p (sc S a)) := by
      generalize across a b c = X
      simp only [dot, sub, sc]
      grind
    rw [h1, Int.mul_zero] at e
    rcases Int.mul_eq_zero.mp e with z | z
    · omega
    · exact z
  · generalize across a b c = X
    simp only [dot, sub, sc, cross]
    grind
  · generalize across a b c = X
    simp only [dot, sub, sc, cross]
    grind
  · generalize across a b c = X
    simp only [dot, sub, sc, cross]
    grind
  · simp only [dot, sub, sc]
    grind
  · simp only [dot, sub, sc]
    grind
  · simp only [dot, sub, sc]
    grind
end Tri
end
section
set_option exponentiation.threshold 256
set_option maxRecDepth 100000
set_option linter.all false
set_option Elab.async false
set_option autoImplicit false
set_option maxHeartbeats 4000000
/-! P3v: sizes of numbers, vectors as things -/
namespace P3
open PySem PySem.Spec PyProof.Rows L2
/-- below two to the nth -/
def Bd (n : Nat) (i : Int) : Prop := i.natAbs < 2 ^ n
theorem pow_le {n m : Nat} (h : n ≤ m) : 2 ^ n ≤ 2 ^ m := Nat.pow_le_pow_right (by decide) h
theorem Bd.mono {n m : Nat} {i : Int} (h : Bd n i) (l : n ≤ m) : Bd m i := Nat.lt_of_lt_of_le h (pow_le l)
theorem Bd.add {n : Nat} {i j : Int} (h : Bd n i) (k : Bd n j) : Bd (n + 1) (i + j) := by
  unfold Bd at *
  rw [Nat.pow_succ]; omega
theorem Bd.sub {n : Nat} {i j : Int} (h : Bd n i) (k : Bd n j) : Bd (n + 1) (i - j) := by
  unfold Bd at *
  rw [Nat.pow_succ]; omega
theorem Bd.mul {n m : Nat} {i j : Int} (h : Bd n i) (k : Bd m j) : Bd (n + m) (i * j) := by
  unfold Bd at *
  rw [Nat.pow_add, Int.natAbs_mul]
  exact Nat.mul_lt_mul_of_lt_of_le h (Nat.le_of_lt k) (Nat.pow_pos (by decide))
theorem Bd.neg {n : Nat} {i : Int} (h : Bd n i) : Bd n (-i) := by unfold Bd at *; omega
theorem Bd.ok {n m : Nat} {i j : Int} (h : Bd n i) (k : Bd m j) (l : n + m < 100000000) : mulOk i j = true :=
  mulOk_of (a := n) (b := m) (Nat.lt_of_lt_of_le h (pow_le (Nat.le_succ _))) (Nat.lt_of_lt_of_le k (pow_le (Nat.le_succ _))) (by omega)
theorem Bd.divOk {n : Nat} {i j : Int} (k : Bd n j) (h : j ≠ 0) (l : n < 9000) : divOk i j = true := by
  unfold P3.divOk
  have : j.natAbs.log2 ≤ n := log_le (Nat.lt_of_lt_of_le k (pow_le (Nat.le_succ _)))
  simp only [Bool.and_eq_true, decide_eq_true_eq]
  exact ⟨h, by omega⟩
theorem Bd.le {n : Nat} {i j : Int} (h : Bd n j) (k : i.natAbs ≤ j.natAbs) : Bd n i := Nat.lt_of_le_of_lt k h
theorem Bd.zero (n : Nat) : Bd n 0 := Nat.pow_pos (by decide)
/-- vectors -/
def VB (n : Nat) (p : Tri.V) : Prop := Bd n p.x ∧ Bd n p.y ∧ Bd n p.z
theorem VB.mono {n m : Nat} {p : Tri.V} (h : VB n p) (l : n ≤ m) : VB m p := ⟨h.1.mono l, h.2.1.mono l, h.2.2.mono l⟩
theorem VB.sub {n : Nat} {p q : Tri.V} (h : VB n p) (k : VB n q) : VB (n + 1) (Tri.sub p q) := ⟨h.1.sub k.1, h.2.1.sub k.2.1, h.2.2.sub k.2.2⟩
theorem VB.add {n : Nat} {p q : Tri.V} (h : VB n p) (k : VB n q) : VB (n + 1) (Tri.add p q) := ⟨h.1.add k.1, h.2.1.add k.2.1, h.2.2.add k.2.2⟩
theorem VB.sc {n m : Nat} {p : Tri.V} {s : Int} (k : Bd m s) (h : VB n p) : VB (m + n) (Tri.sc s p) := ⟨k.mul h.1, k.mul h.2.1, k.mul h.2.2⟩
theorem VB.dot {n m : Nat} {p q : Tri.V} (h : VB n p) (k : VB m q) : Bd (n + m + 2) (Tri.dot p q) := by
  unfold Tri.dot
  exact ((h.1.mul k.1).add (h.2.1.mul k.2.1)).add ((h.2.2.mul k.2.2).mono (Nat.le_succ _))
theorem VB.cross {n m : Nat} {p q : Tri.V} (h : VB n p) (k : VB m q) : VB (n + m + 1) (Tri.cross p q) :=
  ⟨(h.2.1.mul k.2.2).sub (h.2.2.mul k.2.1), (h.2.2.mul k.1).sub (h.1.mul k.2.2), (h.1.mul k.2.1).sub (h.2.1.mul k.1)⟩
theorem VB.at_ {n m : Nat} {a b c : Tri.V} {sa sb s : Int} (ha : VB n a) (hb : VB n b) (hc : VB n c) (h1 : Bd m sa) (h2 : Bd m sb) (h3 : Bd m s) : VB (m + n + 2) (Tri.at_ a b c sa sb s) :=
  ((VB.sc h1 ha).add (VB.sc h2 hb)).add ((VB.sc h3 hc).mono (Nat.le_succ _))
def v3 (p : Tri.V) : D := .tup [.int p.x, .int p.y, .int p.z]
def vl (p : Tri.V) : D := .lst [.int p.x, .int p.y, .int p.z]
def fl (a b c : Tri.V) : D := .tup [v3 a, v3 b, v3 c]
theorem v3_lf {p : Tri.V} : D.lf (v3 p) = true := rfl
theorem fl_lf {a b c : Tri.V} : D.lf (fl a b c) = true := rfl
theorem rg3 : dRange1 [.int 3] = some [.int 0, .int 1, .int 2] := rfl
theorem rg4 : dRange1 [.int 4] = some [.int 0, .int 1, .int 2, .int 3] := rfl
theorem rg6 : dRange1 [.int 6] = some [.int 0, .int 1, .int 2, .int 3, .int 4, .int 5] := rfl
theorem tup3 (a b c : D) (h : lfs [a, b, c] = true) : dTuple [.lst [a, b, c]] = some (.tup [a, b, c]) := by
  simp only [dTuple, one, itemsOf, Option.bind_some, h, if_true]
theorem tup3i (a b c : Int) : dTuple [.lst [.int a, .int b, .int c]] = some (.tup [.int a, .int b, .int c]) := rfl
theorem lst3i (a b c : Int) : dList [.tup [.int a, .int b, .int c]] = some (.lst [.int a, .int b, .int c]) := rfl
theorem sum3i (a b c : Int) : dSumA [.lst [.int a, .int b, .int c]] = some (.int (a + b + c)) := by
  show some (D.int [a, b, c].sum) = _
  simp only [List.sum_cons, List.sum_nil, Int.add_zero, Int.add_assoc]
theorem sum3t (a b c : Int) : dSumA [.tup [.int a, .int b, .int c]] = some (.int (a + b + c)) := by
  show some (D.int [a, b, c].sum) = _
  simp only [List.sum_cons, List.sum_nil, Int.add_zero, Int.add_assoc]
theorem zip3v (p q : Tri.V) : dZip (v3 p) (v3 q) = some [.tup [.int p.x, .int q.x], .tup [.int p.y, .int q.y], .tup [.int p.z, .int q.z]] := rfl
theorem zip3l (p q : Tri.V) : dZip (vl p) (vl q) = some [.tup [.int p.x, .int q.x], .tup [.int p.y, .int q.y], .tup [.int p.z, .int q.z]] := rfl
theorem zipL3 (p q : Tri.V) : dZipL (v3 p) (v3 q) = some (.lst [.tup [.int p.x, .int q.x], .tup [.int p.y, .int q.y], .tup [.int p.z, .int q.z]]) := rfl
theorem x0v {p : Tri.V} : dIx (v3 p) (.int 0) = some (.int p.x) := at0
theorem x1v {p : Tri.V} : dIx (v3 p) (.int 1) = some (.int p.y) := at1
theorem x2v {p : Tri.V} : dIx (v3 p) (.int 2) = some (.int p.z) := at2
theorem x1m {p : Tri.V} : dIx (v3 p) (.int (-1)) = some (.int p.z) := rfl
theorem x2m {p : Tri.V} : dIx (v3 p) (.int (-2)) = some (.int p.y) := rfl
theorem seqv {p : Tri.V} : seqOf (v3 p) = some [.int p.x, .int p.y, .int p.z] := rfl
theorem seqf {a b c : Tri.V} : seqOf (fl a b c) = some [v3 a, v3 b, v3 c] := rfl
theorem x0f {a b c : Tri.V} : dIx (fl a b c) (.int 0) = some (v3 a) := at0
theorem x1f {a b c : Tri.V} : dIx (fl a b c) (.int 1) = some (v3 b) := at1
theorem x2f {a b c : Tri.V} : dIx (fl a b c) (.int 2) = some (v3 c) := at2
theorem eqD_tup3 {a b c a' b' c' : Int} : eqD (.tup [.int a, .int b, .int c]) (.tup [.int a', .int b', .int c']) = decide (a = a' ∧ b = b' ∧ c = c') := by
  unfold eqD
  simp only [D.py, pys, PyData.eqv, PyData.eqvAll]
  by_cases h1 : a = a' <;> by_cases h2 : b = b' <;> by_cases h3 : c = c' <;> simp [h1, h2, h3]
instance (p q : Tri.V) : Decidable (p = q) := by
  obtain ⟨a, b, c⟩ := p
  obtain ⟨d, e, f⟩ := q
  rw [Tri.V.mk.injEq]
  infer_instance
theorem eq_v3 {p : Tri.V} : dEq (v3 p) (.tup [.int 0, .int 0, .int 0]) = some (.bl (decide (p = ⟨0, 0, 0⟩))) := by
  unfold dEq
  rw [if_pos (by rfl)]
  unfold v3
  rw [eqD_tup3]
  obtain ⟨x, y, z⟩ := p
  congr 2
  simp only [Tri.V.mk.injEq]
section
variable {E : Env3} {p q r : Bool} {f g h : Sm Bool}
theorem and_ok (h1 : f E = .ok p E) (h2 : g E = .ok q E) : mAnd f g E = .ok (p && q) E := by
  rw [e_and, h1]
  cases p
  · rfl
  · exact h2
theorem or_ok (h1 : f E = .ok p E) (h2 : g E = .ok q E) : mOr f g E = .ok (p || q) E := by
  rw [e_or, h1]
  cases p
  · exact h2
  · rfl
end
theorem ite_and {c : Prop} [Decidable c] {q : Bool} {E : Env3} : (if c then R.ok q E else R.ok false E) = R.ok (decide c && q) E := by split <;> simp_all
theorem ite_or {c : Prop} [Decidable c] {q : Bool} {E : Env3} : (if c then R.ok true E else R.ok q E) = R.ok (decide c || q) E := by split <;> simp_all
theorem ite_andD {c : Prop} [Decidable c] {q : Bool} {E : Env3} : (if c then R.ok (D.bl q) E else R.ok (D.bl false) E) = R.ok (D.bl (decide c && q)) E := by split <;> simp_all
theorem ite_orD {c : Prop} [Decidable c] {q : Bool} {E : Env3} : (if c then R.ok (D.bl true) E else R.ok (D.bl q) E) = R.ok (D.bl (decide c || q)) E := by split <;> simp_all
theorem e_setIt2 {f g : Sm D} {i : Nat} {q : Env3 → Option D} {E : Env3} : mSetIt2 f i g q E = R.bd (f E) fun z => Sm.b (mRef i) fun _ => Sm.b g fun j => fun E => slW E[i]? fun d => opt (q E) fun jj => opt (dSet2 d j jj z) fun d' => .ok .next (E.set i (.w d')) := by
  unfold mSetIt2
  rw [e_b]
  congr 1; funext z; congr 1; funext _; congr 1; funext j E
  unfold slW opt
  rcases E[i]? with _ | s
  · rfl
  · cases s with
    | no => rfl
    | b d => rfl
    | w d =>
      cases q E with
      | none => rfl
      | some jj => simp only []; cases dSet2 d j jj z <;> rfl
theorem e_frz {i : Nat} {E : Env3} : mFrz i E = slW E[i]? fun d => .ok d (E.set i (.b d)) := by
  unfold mFrz slW
  rcases E[i]? with _ | s
  · rfl
  · cases s <;> rfl
theorem e_ixW2 {i : Nat} {g : Sm D} {q : Env3 → Option D} {E : Env3} : mIxW2 i g q E = R.bd (mRef i E) fun _ => Sm.b g fun j => fun E => opt (rdSlot E i) fun d => opt (q E) fun jj => opt ((dIx d j).bind fun c => dIx c jj) fun z => if z.lf = true then .ok z E else .bad := by
  unfold mIxW2
  rw [e_b]
  congr 1; funext _; congr 1; funext j E
  unfold opt
  cases rdSlot E i with
  | none => rfl
  | some d =>
    cases q E with
    | none => rfl
    | some jj => simp only []; cases (dIx d j).bind fun c => dIx c jj <;> rfl
def dTL : List D → Option D
  | [d, e] => dZipL d e
  | _ => none
theorem e_lzip {fs : Sm (List D)} {E : Env3} : mListZip fs E = R.bd (fs E) fun ds => Sm.o (dTL ds) := e_b
theorem dTL2 {d e : D} : dTL [d, e] = dZipL d e := rfl
def qSl : Option Slot → Option D
  | some (.b (.int j)) => some (.int j)
  | some (.b (.str j)) => some (.str j)
  | _ => none
theorem e_qvar {i : Nat} {E : Env3} : qVar i E = qSl E[i]? := rfl
theorem qSl_i {j : Int} : qSl (some (.b (.int j))) = some (.int j) := rfl
theorem e_qop {o : D → D → Option D} {q q2 : Env3 → Option D} {E : Env3} : qOp o q q2 E = (q E).bind fun d => (q2 E).bind fun e => o d e := rfl
theorem d_addI {i j : Int} : dAdd (.int i) (.int j) = some (.int (i + j)) := rfl

/-- a loop by what holds at each turn -/
theorem for_inv {gf : D → Sm Unit} {body : Sm Fl} (P : Nat → Env3 → Prop) : ∀ (ds : List D) (k : Nat) (E : Env3), (∀ i d E, ds[i]? = some d → P (k + i) E → ∃ E1 E2, gf d E = .ok () E1 ∧ body E1 = .ok .next E2 ∧ P (k + i + 1) E2) → P k E →
    ∃ E', mFor gf (P3.forget []) body ds E = .ok .next E' ∧ P (k + ds.length) E'
  | [], k, E, _, h => ⟨E, rfl, h⟩
  | d :: ds, k, E, hs, h => by
    obtain ⟨E1, E2, e1, e2, h2⟩ := hs 0 d E rfl h
    obtain ⟨E', e3, h3⟩ := for_inv P ds (k + 1) E2 (fun i d' E0 e0 p0 => by
      have := hs (i + 1) d' E0 (by simpa using e0) (by rw [show k + (i + 1) = k + 1 + i by omega]; exact p0)
      rw [show k + (i + 1) + 1 = k + 1 + i + 1 by omega] at this
      exact this) h2
    refine ⟨E', ?_, by rw [List.length_cons, show k + (ds.length + 1) = k + 1 + ds.length by omega]; exact h3⟩
    rw [e_for1, e_fg0, e1]
    simp only [e2, fin_next]
    exact e3
/-- .. or it hands back the same thing -/
theorem all_map' (ds : List D) (h : ∀ d ∈ ds, d = .bl true) : dAll [.lst ds] = some (.bl true) := by
  have e : ∀ ds : List D, (∀ d ∈ ds, d = .bl true) → allBl ds = some (ds.map fun _ => true) := by
    intro ds
    induction ds with
    | nil => intro _; rfl
    | cons d ds ih =>
      intro h
      rw [h d List.mem_cons_self]
      simp only [allBl, ih fun x hx => h x (List.mem_cons_of_mem _ hx), List.map_cons, Option.map_some]
  unfold dAll one
  simp only [lstIts, Option.bind_some, e ds h, Option.map_some, Option.some.injEq, D.bl.injEq, List.all_map]
  simp
end P3
end
section
set_option exponentiation.threshold 256
/-! P3w: all of P3. -/
end
section
set_option exponentiation.threshold 256
set_option Elab.async false
set_option linter.all false
set_option maxRecDepth 100000
set_option maxHeartbeats 2000000
set_option autoImplicit false
/-! P3x: plain data: what things of any kind are made of. -/
namespace P3
open PySem PySem.Spec PyProof.Rows L2
mutual
/-- ints to B, lists (locked) and tuples to n long -/
def Pd (B : Int) (n : Nat) : D → Prop
  | .non => True
  | .bl _ => True
  | .str _ => True
  | .int i => -B ≤ i ∧ i ≤ B
  | .tup xs => xs.length ≤ n ∧ Pds B n xs
  | .flst xs => xs.length ≤ n ∧ Pds B n xs
  | _ => False
def Pds (B : Int) (n : Nat) : List D → Prop
  | [] => True
  | d :: ds => Pd B n d ∧ Pds B n ds
end
variable {B B' : Int} {n n' : Nat}
mutual
theorem Pd.lf : ∀ {d : D}, Pd B n d → d.lf = true
  | .non, _ | .bl _, _ | .str _, _ | .int _, _ => rfl
  | .tup xs, h => by unfold Pd at h; simp only [D.lf]; exact Pds.lfs h.2
  | .flst xs, h => by unfold Pd at h; simp only [D.lf]; exact Pds.lfs h.2
  | .lst _, h | .ctup _, h | .clst _, h | .dK _, h | .dT _, h | .obj _ _, h => by unfold Pd at h; exact h.elim
theorem Pds.lfs : ∀ {ds : List D}, Pds B n ds → P3.lfs ds = true
  | [], _ => rfl
  | d :: ds, h => by unfold Pds at h; simp only [P3.lfs, Pd.lf h.1, Pds.lfs h.2, Bool.and_self]
end
mutual
theorem Pd.lk : ∀ {d : D}, Pd B n d → lkD d = d
  | .non, _ | .bl _, _ | .str _, _ | .int _, _ => by simp [lkD]
  | .tup xs, h => by unfold Pd at h; simp only [lkD, Pds.lk h.2]
  | .flst xs, h => by unfold Pd at h; simp only [lkD, Pds.lk h.2]
  | .lst _, h | .ctup _, h | .clst _, h | .dK _, h | .dT _, h | .obj _ _, h => by unfold Pd at h; exact h.elim
theorem Pds.lk : ∀ {ds : List D}, Pds B n ds → lkDs ds = ds
  | [], _ => by simp [lkDs]
  | d :: ds, h => by unfold Pds at h; simp only [lkDs, Pd.lk h.1, Pds.lk h.2]
end
mutual
theorem Pd.mono (hB : B ≤ B') (hn : n ≤ n') : ∀ {d : D}, Pd B n d → Pd B' n' d
  | .non, _ | .bl _, _ | .str _, _ => by unfold Pd; trivial
  | .int i, h => by unfold Pd at h ⊢; omega
  | .tup xs, h => by unfold Pd at h ⊢; exact ⟨Nat.le_trans h.1 hn, Pds.mono hB hn h.2⟩
  | .flst xs, h => by unfold Pd at h ⊢; exact ⟨Nat.le_trans h.1 hn, Pds.mono hB hn h.2⟩
  | .lst _, h | .ctup _, h | .clst _, h | .dK _, h | .dT _, h | .obj _ _, h => by unfold Pd at h; exact h.elim
theorem Pds.mono (hB : B ≤ B') (hn : n ≤ n') : ∀ {ds : List D}, Pds B n ds → Pds B' n' ds
  | [], _ => by unfold Pds; trivial
  | d :: ds, h => by unfold Pds at h ⊢; exact ⟨Pd.mono hB hn h.1, Pds.mono hB hn h.2⟩
end
theorem Pds.iff : ∀ {ds : List D}, Pds B n ds ↔ ∀ d ∈ ds, Pd B n d
  | [] => by unfold Pds; simp
  | d :: ds => by unfold Pds; rw [Pds.iff]; simp
theorem Pds.app {xs ys : List D} (h : Pds B n xs) (k : Pds B n ys) : Pds B n (xs ++ ys) := Pds.iff.mpr fun d m => (List.mem_append.mp m).elim (Pds.iff.mp h d) (Pds.iff.mp k d)
theorem Pds.sub {xs ys : List D} (h : Pds B n xs) (s : ∀ d ∈ ys, d ∈ xs) : Pds B n ys := Pds.iff.mpr fun d m => Pds.iff.mp h d (s d m)
theorem cut_mem {ds : List D} {lo hi : Option Int} : ∀ d ∈ cutL ds lo hi, d ∈ ds := fun d m => List.mem_of_mem_drop (List.mem_of_mem_take m)
theorem cut_len {ds : List D} {lo hi : Option Int} : (cutL ds lo hi).length ≤ ds.length := by
  unfold cutL
  rw [List.length_take, List.length_drop]
  omega
/-- what comes, once it is locked -/
def Rs (B : Int) (n : Nat) (z : D) : Prop := Pd B n (lkD z)
theorem Rs.of {z : D} (h : Pd B n z) : Rs B n z := by unfold Rs; rw [h.lk]; exact h
theorem Rs.lst {xs : List D} (hl : xs.length ≤ n) (h : Pds B n xs) : Rs B n (.lst xs) := by unfold Rs; simp only [lkD, h.lk, Pd]; exact ⟨hl, h⟩
theorem Rs.lf {z : D} (h : Rs B n z) : (lkD z).lf = true := Pd.lf h
theorem Rs.mono {z : D} (h : Rs B n z) (hB : B ≤ B') (hn : n ≤ n') : Rs B' n' z := Pd.mono hB hn h
section
variable {xs ys : List D}
theorem sl_l (h : Pds B n xs) (lo hi : Option Int) : dSl (.lst xs) lo hi = some (.lst (cutL xs lo hi)) := if_pos (Pds.lfs (h.sub cut_mem))
theorem add_l (h : Pds B n xs) (k : Pds B n ys) (l : xs.length + ys.length ≤ 10000000) : dAddX (.lst xs) (.lst ys) = some (.lst (xs ++ ys)) := by
  show (if _ then _ else _) = _
  rw [if_pos (by simp [h.lfs, k.lfs, l])]
theorem rev_l (h : Pds B n xs) : dRevS (.lst xs) = some (.lst xs.reverse) := if_pos h.lfs
theorem tup_l (h : Pds B n xs) : dTuple [.lst xs] = some (.tup xs) := by
  show (if _ then _ else _) = _
  rw [if_pos h.lfs]
theorem list_t (h : Pds B n xs) : dList [.tup xs] = some (.lst xs) := by
  show (if _ then _ else _) = _
  rw [if_pos h.lfs]
theorem list_f (h : Pds B n xs) : dList [.flst xs] = some (.lst xs) := by
  show (if _ then _ else _) = _
  rw [if_pos h.lfs]
theorem ins_l {z : D} {j : Int} (h0 : 0 ≤ j) (h1 : j < 4611686018427387904) (hl : xs.length < 10000000) : insD (.lst xs) (.int j) z = some (.lst (xs.take j.toNat ++ [z] ++ xs.drop j.toNat)) := by
  show (if _ then _ else _) = _
  rw [if_pos (by simp [h0, h1, hl])]
end
/-- subscripts of a displayed list -/
theorem at_mem {ds : List D} {j : Int} (h0 : 0 ≤ j) (h : j < ds.length) : ∃ z, z ∈ ds ∧ atI ds j = some z := by
  have hj : j.toNat < ds.length := by omega
  exact ⟨ds[j.toNat], List.getElem_mem hj, by rw [atI_nat h0 h, List.getElem?_eq_getElem hj]⟩
theorem isi_l_f {ds : List D} : dIsi "list" (.flst ds) = some (.bl true) := by simp [dIsi, tyD, isTy]
theorem isi_t_f {ds : List D} : dIsi "tuple" (.flst ds) = some (.bl false) := by simp [dIsi, tyD, isTy]
theorem isi2_lt_f {ds : List D} : dIsi2 "list" "tuple" (.flst ds) = some (.bl true) := by simp [dIsi2, tyD, isTy]
theorem isi2_tl_f {ds : List D} : dIsi2 "tuple" "list" (.flst ds) = some (.bl true) := by simp [dIsi2, tyD, isTy]
theorem len_f {ds : List D} : dLen [.flst ds] = some (.int ds.length) := rfl
section
variable {i : Int} {b : Bool} {x : Str} {xs : List D} {d : D}
theorem e_lki : lkD (.int i) = .int i := by simp [lkD]
theorem e_lkb : lkD (.bl b) = .bl b := by simp [lkD]
theorem e_lks : lkD (.str x) = .str x := by simp [lkD]
theorem e_lkn : lkD .non = .non := by simp [lkD]
theorem e_lkt : lkD (.tup xs) = .tup (lkDs xs) := by simp [lkD]
theorem e_lkl : lkD (.lst xs) = .flst (lkDs xs) := by simp [lkD]
theorem e_lkf : lkD (.flst xs) = .flst (lkDs xs) := by simp [lkD]
theorem e_lk0 : lkDs [] = [] := by simp [lkDs]
theorem e_lk1 : lkDs (d :: xs) = lkD d :: lkDs xs := by simp [lkDs]
theorem lf_flst : D.lf (.flst xs) = lfs xs := by simp [D.lf]
theorem lk_ints (ns : List Int) : lkDs (ns.map D.int) = ns.map D.int := by
  induction ns with
  | nil => exact e_lk0
  | cons n ns ih => rw [List.map_cons, e_lk1, e_lki, ih]
end
/-! ### loops of comprehensions -/
section
variable {gf : D → Sm Unit} {vs : List Nat} {fe : Sm D}
theorem comp_map {h : D → D} {F : Env3} : ∀ (ds : List D) (E : Env3), P3.forget vs E = F → (∀ d ∈ ds, ∃ E1 E2, gf d F = .ok () E1 ∧ fe E1 = .ok (h d) E2 ∧ P3.forget vs E2 = F) → mComp gf vs (Sm.p true) fe ds E = .ok (ds.map h) F
  | [], E, hF, _ => by rw [e_comp0, hF]; rfl
  | d :: ds, E, hF, hs => by
    obtain ⟨E1, E2, h1, h2, h3⟩ := hs d List.mem_cons_self
    rw [e_comp1, hF, h1]
    simp only [bdd, Sm.p, if_true, h2]
    rw [comp_map ds E2 h3 fun d m => hs d (List.mem_cons_of_mem _ m)]
    rfl
/-- .. what goes along -/
theorem comp_inv (P : Nat → Env3 → Prop) (R : Nat → D → Prop) : ∀ (ds : List D) (k : Nat) (E : Env3), (∀ i d E, ds[i]? = some d → P (k + i) E → ∃ E1 z E2, gf d (P3.forget vs E) = .ok () E1 ∧ fe E1 = .ok z E2 ∧ R (k + i) z ∧ P (k + i + 1) E2) → P k E →
    ∃ zs E', mComp gf vs (Sm.p true) fe ds E = .ok zs (P3.forget vs E') ∧ P (k + ds.length) E' ∧ zs.length = ds.length ∧ ∀ i z, zs[i]? = some z → R (k + i) z
  | [], k, E, _, p => ⟨[], E, rfl, p, rfl, fun i z e => by simp at e⟩
  | d :: ds, k, E, hs, p => by
    obtain ⟨E1, z, E2, h1, h2, h3, h4⟩ := hs 0 d E rfl p
    obtain ⟨zs, E', q1, q2, q3, q4⟩ := comp_inv P R ds (k + 1) E2 (fun i d' E0 e0 p0 => by
      have := hs (i + 1) d' E0 (by simpa using e0) (by rw [show k + (i + 1) = k + 1 + i by omega]; exact p0)
      rw [show k + (i + 1) = k + 1 + i by omega] at this
      exact this) h4
    refine ⟨z :: zs, E', ?_, by rw [List.length_cons, show k + (ds.length + 1) = k + 1 + ds.length by omega]; exact q2, by rw [List.length_cons, List.length_cons, q3], fun i y e => ?_⟩
    · rw [e_comp1, h1]
      simp only [bdd, Sm.p, if_true, h2, q1]
      rfl
    · cases i with
      | zero => simp at e; rw [← e]; exact h3
      | succ i => rw [show k + (i + 1) = k + 1 + i by omega]; exact q4 i y (by simpa using e)
theorem e_chain {o o' : D → D → Option D} {f g h : Sm D} {E : Env3} : mChain o o' f g h E = R.bd (f E) fun x => Sm.b g fun y => Sm.b (Sm.o ((o x y).bind isBl)) fun k => if k = true then Sm.b h fun z => Sm.o (o' y z) else Sm.p (.bl false) := e_b
end
theorem all_bl3 (p q r : Bool) : dAll [.lst [.bl p, .bl q, .bl r]] = some (.bl (p && (q && r))) := by cases p <;> cases q <;> cases r <;> rfl
end P3
end
section
set_option exponentiation.threshold 256
set_option Elab.async false
set_option linter.all false
set_option maxRecDepth 100000
set_option maxHeartbeats 4000000
set_option autoImplicit false
namespace K01
open PySem PySem.Spec PyProof.Rows L2 P3
abbrev st (i : Nat) : Stmt := PySem.Challenge.pw_thinskin_k01_places_and_vectors.main.body.getD i (.Pass ⟨0, 0, 0, 0⟩)
abbrev FnP (K : PySem.W.Frag) (x : Str) (st : Stmt) (f : Addr) (fd : FuncData) : Prop := FunD K x x (defArgs st) (defBody st) (defScope st) [] [] f fd

theorem boot_ok_abs : bootBuiltins "abs" = some (.builtin "abs") := by decide +kernel
theorem boot_ok_all : bootBuiltins "all" = some (.builtin "all") := by decide +kernel
theorem boot_ok_bool : bootBuiltins "bool" = some (.type "bool") := by decide +kernel
theorem boot_ok_enumerate : bootBuiltins "enumerate" = some (.type "enumerate") := by decide +kernel
theorem boot_ok_int : bootBuiltins "int" = some (.type "int") := by decide +kernel
theorem boot_ok_isinstance : bootBuiltins "isinstance" = some (.builtin "isinstance") := by decide +kernel
theorem boot_ok_len : bootBuiltins "len" = some (.builtin "len") := by decide +kernel
theorem boot_ok_list : bootBuiltins "list" = some (.type "list") := by decide +kernel
theorem boot_ok_max : bootBuiltins "max" = some (.builtin "max") := by decide +kernel
theorem boot_ok_range : bootBuiltins "range" = some (.type "range") := by decide +kernel
theorem boot_ok_str : bootBuiltins "str" = some (.type "str") := by decide +kernel
theorem boot_ok_sum : bootBuiltins "sum" = some (.builtin "sum") := by decide +kernel
theorem boot_ok_tuple : bootBuiltins "tuple" = some (.type "tuple") := by decide +kernel
theorem boot_ok_zip : bootBuiltins "zip" = some (.type "zip") := by decide +kernel
theorem S_law_folded : FnScope ["_law_script", "_law_many", "_law_cells", "_law_k", "_law_cell"] ["_law_script", "_law_many"] (defScope (st 13)) := ⟨rfl, rfl, rfl, by decide +kernel, rfl, by decide +kernel, by decide +kernel⟩
def b_law_folded_1 : Sm Fl := (mSetIt (mLk (mOp dAddX (mVal (mIxW 2 (mOp dMod (mRef 3) (mRef 1)))) (mVal (mOp dMul (mRef 4) (mVal (mOp dAddX (mRef 3) (mVal (Sm.p (.int 2))))))))) 2 (mOp dMod (mRef 3) (mRef 1)))
theorem b_law_folded_1_E {E : Env3} : b_law_folded_1 E = (mSetIt (mLk (mOp dAddX (mVal (mIxW 2 (mOp dMod (mRef 3) (mRef 1)))) (mVal (mOp dMul (mRef 4) (mVal (mOp dAddX (mRef 3) (mVal (Sm.p (.int 2))))))))) 2 (mOp dMod (mRef 3) (mRef 1))) E := rfl
def g_law_folded : Sm Fl := (mSeq (mAsg (mCallG dList (mArgs (mCons (mVal (mSl (mRef 0) (Sm.p none) (mPart (mVar 1)))) mNil))) (gN true 2))
  (mSeq (Sm.b (mEnum (mSl (mRef 0) (mPart (mVar 1)) (mPart (Sm.p (.int 63))))) (mFor (gSeq3 2 (gCons3 (gN false 3) (gCons3 (gN false 4) gNil3))) (P3.forget []) b_law_folded_1))
  (mRet (mMove 2))))
def f_law_folded : List D → Res := fnOf 5 g_law_folded
theorem ok_law_folded {P : Program} {w : World} {K : PySem.W.Frag} {mg : Str → Option Value} {base : Heap} {fa : Addr} {fd : FuncData} (k : Nat) (F : FnP K "_law_folded" (st 13) fa fd)  (m_list : mg "list" = none) (m_enumerate : mg "enumerate" = none) : FnG P w K mg base (L2.CX P w) (k + 1) fa fd ["_law_script", "_law_many"] (spV K mg 2 (fnOf 5 (g_law_folded))) :=
  have S := S_law_folded
  def_ok F S fun cdv A outer s H E hr =>
  (vss_cons (vs_set 2 (.inl rfl) S.nd (ve_callTy cg_list rfl m_list boot_ok_list (VA.vd (va_cons (VE.vr (ve_sl (vr_var 0) vp_none (vp_some (ve_var 1)))) va_nil))))
  (vss_cons (vs_for [] (.inl rfl) (passes_of rfl) rfl (vi_enum m_enumerate (VE.frz (ve_sl (vr_var 0) (vp_some (ve_var 1)) (vp_some ve_int)))) (vg_tup rfl (vgs_cons (vg_name 3 (.inl rfl) S.nd) (vgs_cons (vg_name 4 (.inl rfl) S.nd) vgs_nil)))
  (vss_one (vs_setIt 2 hr.u1 (ve_lk (ve_binG og_add (VE.vr (ve_ixW 2 hr.u1 (ve_bin od_mod (vr_var 3) (vr_var 1)))) (VE.vr (ve_bin od_mul (vr_var 4) (VE.vr (ve_binG og_add (vr_var 3) (VE.vr ve_int))))))) (ve_bin od_mod (vr_var 3) (vr_var 1)))))
  (vss_one (vs_ret (ve_move 2 (.inl rfl))))))
theorem S_law_take : FnScope ["_law_box_here", "_law_many", "_law_found", "_law_once", "_law_twice"] ["_law_box_here", "_law_many"] (defScope (st 12)) := ⟨rfl, rfl, rfl, by decide +kernel, rfl, by decide +kernel, by decide +kernel⟩
def g_law_take : Sm Fl := (mSeq (mIf (mT (mOp dGtI (mVal (mIxW 0 (Sm.p (.int 0)))) (mVal (Sm.p (.int 0)))))
  (mSeq (mAsg (mOp dMod (mVal (mIxW 0 (Sm.p (.int 0)))) (mRef 1)) (gN false 2))
  (mSeq (mSetIt (mLf (mOp dDiv (mVal (mIxW 0 (Sm.p (.int 0)))) (mRef 1))) 0 (Sm.p (.int 0)))
  (mRet (mLf (mVar 2)))))
  (Sm.p .next))
  (mSeq (mSetIt (mLk (mOp dAddX (mVal (mIxW 0 (Sm.p (.int 2)))) (mVal (Sm.p (.int 1))))) 0 (Sm.p (.int 2)))
  (mSeq (mAsg (mOp dMod (mVal (mOp dMul (mVal (mOp dAddX (mVal (mIxW 0 (Sm.p (.int 1)))) (mVal (mOp dMul (mVal (Sm.p (.int 40009))) (mVal (mIxW 0 (Sm.p (.int 2)))))))) (mVal (Sm.p (.int 48271))))) (mVal (Sm.p (.int 2147483647)))) (gN false 3))
  (mSeq (mAsg (mOp dMod (mVal (mOp dAddX (mRef 3) (mVal (mOp dMul (mVal (mOp dMul (mVal (mIxW 0 (Sm.p (.int 2)))) (mVal (mIxW 0 (Sm.p (.int 2)))))) (mVal (Sm.p (.int 7919))))))) (mVal (Sm.p (.int 2147483587)))) (gN false 4))
  (mRet (mLf (mOp dMod (mVal (mOp dDiv (mVal (mOp dMod (mVal (mOp dMul (mVal (mOp dMod (mVal (mOp dPow (mRef 4) (mVal (Sm.p (.int 3))))) (mVal (Sm.p (.int 1999999973))))) (mVal (Sm.p (.int 39373))))) (mVal (Sm.p (.int 2147483563))))) (mVal (Sm.p (.int 64))))) (mRef 1))))))))
def f_law_take : D → List D → ResR := fnOfR 5 g_law_take
theorem ok_law_take {P : Program} {w : World} {K : PySem.W.Frag} {mg : Str → Option Value} {base : Heap} {fa : Addr} {fd : FuncData} (k : Nat) (F : FnP K "_law_take" (st 12) fa fd)   : FnG P w K mg base (L2.CX P w) (k + 1) fa fd ["_law_box_here", "_law_many"] (spR K mg 2 (fnOfR 5 (g_law_take))) :=
  have S := S_law_take
  defR_ok F S fun p0 cdv A outer s H E hr =>
  (vss_cons (vs_if (vt_cp od_gt (VE.vr (ve_ixW 0 hr.u1 ve_int)) (VE.vr ve_int))
  (vss_cons (vs_set 2 (.inr (by decide)) S.nd (ve_bin od_mod (VE.vr (ve_ixW 0 hr.u1 ve_int)) (vr_var 1)))
  (vss_cons (vs_setIt 0 hr.u1 (VE.own (ve_bin od_div (VE.vr (ve_ixW 0 hr.u1 ve_int)) (vr_var 1))) ve_int)
  (vss_one (vs_ret (VE.own (ve_var 2))))))
  vss_nil)
  (vss_cons (vs_setIt 0 hr.u1 (ve_lk (ve_binG og_add (VE.vr (ve_ixW 0 hr.u1 ve_int)) (VE.vr ve_int))) ve_int)
  (vss_cons (vs_set 3 (.inr (by decide)) S.nd (ve_bin od_mod (VE.vr (ve_bin od_mul (VE.vr (ve_binG og_add (VE.vr (ve_ixW 0 hr.u1 ve_int)) (VE.vr (ve_bin od_mul (VE.vr ve_int) (VE.vr (ve_ixW 0 hr.u1 ve_int)))))) (VE.vr ve_int))) (VE.vr ve_int)))
  (vss_cons (vs_set 4 (.inr (by decide)) S.nd (ve_bin od_mod (VE.vr (ve_binG og_add (vr_var 3) (VE.vr (ve_bin od_mul (VE.vr (ve_bin od_mul (VE.vr (ve_ixW 0 hr.u1 ve_int)) (VE.vr (ve_ixW 0 hr.u1 ve_int)))) (VE.vr ve_int))))) (VE.vr ve_int)))
  (vss_one (vs_ret (VE.own (ve_bin od_mod (VE.vr (ve_bin od_div (VE.vr (ve_bin od_mod (VE.vr (ve_bin od_mul (VE.vr (ve_bin od_mod (VE.vr (ve_bin od_pow (vr_var 4) (VE.vr ve_int))) (VE.vr ve_int))) (VE.vr ve_int))) (VE.vr ve_int))) (VE.vr ve_int))) (vr_var 1)))))))))
theorem S_law_vector : FnScope ["_law_box_here", "_law_most", "_law_k"] ["_law_box_here"] (defScope (st 22)) := ⟨rfl, rfl, rfl, by decide +kernel, rfl, by decide +kernel, by decide +kernel⟩
def g_law_vector : Sm Fl := (mSeq (mAsg (mIx (mLk (mLst (mCons (mLf (Sm.p (.int 5))) (mCons (mLf (Sm.p (.int 2001))) (mCons (mLf (mOp dPow (mVal (Sm.p (.int 10))) (mVal (Sm.p (.int 30))))) (mCons (mLf (Sm.p (.int 2))) mNil)))))) (mCallR 2 f_law_take 0 (mCons (mVal (Sm.p (.int 4))) mNil))) (gN false 1))
  (mRet (mCallG dTuple (mArgs (mCons (mVal (mLc (mRange1 (mArgs (mCons (mVal (Sm.p (.int 3))) mNil))) (gN false 2) [2] (Sm.p true) (mLf (mOp dSub (mVal (mCallR 2 f_law_take 0 (mCons (mRef 1) mNil))) (mVal (mOp dDiv (mRef 1) (mVal (Sm.p (.int 2))))))))) mNil)))))
def f_law_vector : D → List D → ResR := fnOfR 3 g_law_vector
theorem ok_law_vector {klaw_take : Nat} {P : Program} {w : World} {K : PySem.W.Frag} {mg : Str → Option Value} {base : Heap} {fa : Addr} {fd : FuncData} (k : Nat) (F : FnP K "_law_vector" (st 22) fa fd) (hklaw_take : klaw_take ≤ k) (c_law_take : Callee P w K mg base "_law_take" klaw_take ["_law_box_here", "_law_many"] (spR K mg 2 f_law_take)) (m_tuple : mg "tuple" = none) (m_range : mg "range" = none) : FnG P w K mg base (L2.CX P w) (k + 1) fa fd ["_law_box_here"] (spR K mg 1 (fnOfR 3 (g_law_vector))) :=
  have S := S_law_vector
  defR_ok F S fun p0 cdv A outer s H E hr =>
  (vss_cons (vs_set 1 (.inr (by decide)) S.nd (ve_ix hr.u1 (VE.frz (ve_lk (ve_lst (vw_cons (VE.own ve_int) (vw_cons (VE.own ve_int) (vw_cons (VE.own (ve_bin od_pow (VE.vr ve_int) (VE.vr ve_int))) (vw_cons (VE.own ve_int) vw_nil))))))) (ve_callR 0 c_law_take.d (hr.mono (by omega)) (va_cons (VE.vr ve_int) va_nil))))
  (vss_one (vs_ret (ve_callTy cg_tuple rfl m_tuple boot_ok_tuple (VA.vd (va_cons (VE.vr (ve_lc rfl S.nd (vi_range1 m_range (VA.vd (va_cons (VE.vr ve_int) va_nil))) (blkOk_by (N := ["_law_box_here", "_law_most", "_law_k"]) (sc := defScope (st 22)) (by decide +kernel)) (own := [("_law_k", 2)]) ⟨fun _ _ _ _ _ => (vg_name 2 (.inr (by decide)) S.nd), fun _ _ _ _ _ => vi_none, fun _ _ _ _ _ => (VE.own (ve_bin od_sub (VE.vr (ve_callR 0 c_law_take.d (hr.mono (by omega)) (va_cons (vr_var 1) va_nil))) (VE.vr (ve_bin od_div (vr_var 1) (VE.vr ve_int))))), by decide, (.inr (by decide))⟩)) va_nil))))))
theorem S_law_vectors : FnScope ["_law_box_here", "_law_a", "_law_b", "_law_c", "_law_k", "_law_way", "_law_by", "_law_one", "_law_other"] ["_law_box_here"] (defScope (st 23)) := ⟨rfl, rfl, rfl, by decide +kernel, rfl, by decide +kernel, by decide +kernel⟩
def g_law_vectors : Sm Fl := (mSeq (mAsg (mLk (mLc (mRange1 (mArgs (mCons (mVal (Sm.p (.int 3))) mNil))) (gN false 4) [4] (Sm.p true) (mCallR 1 f_law_vector 0 mNil))) (gSeq3 3 (gCons3 (gN false 1) (gCons3 (gN false 2) (gCons3 (gN false 3) gNil3)))))
  (mSeq (mAsg (mTup (mCons (mCallR 2 f_law_take 0 (mCons (mVal (Sm.p (.int 5))) mNil)) (mCons (mOp dSub (mVal (mCallR 2 f_law_take 0 (mCons (mVal (Sm.p (.int 7))) mNil))) (mVal (Sm.p (.int 3)))) mNil))) (gSeq3 2 (gCons3 (gN false 5) (gCons3 (gN false 6) gNil3))))
  (mSeq (mIf (mT (mOp dEq (mRef 5) (mVal (Sm.p (.int 0)))))
  (mAsg (mLk (mCallG dTuple (mArgs (mCons (mVal (mLc (mSeqD (mVar 1)) (gN false 7) [7] (Sm.p true) (mLf (mOp dSub (mVal (Sm.p (.int 0))) (mRef 7))))) mNil)))) (gN false 2))
  (mIf (mT (mOp dEq (mRef 5) (mVal (Sm.p (.int 1)))))
  (mAsg (mLk (mCallG dTuple (mArgs (mCons (mVal (mLc (mZip (mVar 1) (mVar 2)) (gSeq3 2 (gCons3 (gN false 7) (gCons3 (gN false 8) gNil3))) [7, 8] (Sm.p true) (mOp dAddX (mRef 7) (mVal (mOp dMul (mRef 6) (mVal (mOp dSub (mRef 8) (mRef 7)))))))) mNil)))) (gN false 3))
  (Sm.p .next)))
  (mRet (mIf (mT (mOp dEq (mRef 5) (mVal (Sm.p (.int 2))))) (mTup (mCons (mLf (mVar 1)) (mCons (mLf (mVar 2)) (mCons (mLf (mVar 1)) mNil)))) (mTup (mCons (mLf (mVar 1)) (mCons (mLf (mVar 2)) (mCons (mLf (mVar 3)) mNil)))))))))
def f_law_vectors : D → List D → ResR := fnOfR 9 g_law_vectors
theorem ok_law_vectors {klaw_vector klaw_take : Nat} {P : Program} {w : World} {K : PySem.W.Frag} {mg : Str → Option Value} {base : Heap} {fa : Addr} {fd : FuncData} (k : Nat) (F : FnP K "_law_vectors" (st 23) fa fd) (hklaw_vector : klaw_vector ≤ k) (hklaw_take : klaw_take ≤ k) (c_law_vector : Callee P w K mg base "_law_vector" klaw_vector ["_law_box_here"] (spR K mg 1 f_law_vector)) (c_law_take : Callee P w K mg base "_law_take" klaw_take ["_law_box_here", "_law_many"] (spR K mg 2 f_law_take)) (m_range : mg "range" = none) (m_tuple : mg "tuple" = none) (m_zip : mg "zip" = none) : FnG P w K mg base (L2.CX P w) (k + 1) fa fd ["_law_box_here"] (spR K mg 1 (fnOfR 9 (g_law_vectors))) :=
  have S := S_law_vectors
  defR_ok F S fun p0 cdv A outer s H E hr =>
  (vss_cons (vs_asg (VE.frz (ve_lk (ve_lc rfl S.nd (vi_range1 m_range (VA.vd (va_cons (VE.vr ve_int) va_nil))) (blkOk_by (N := ["_law_box_here", "_law_a", "_law_b", "_law_c", "_law_k", "_law_way", "_law_by", "_law_one", "_law_other"]) (sc := defScope (st 23)) (by decide +kernel)) (own := [("_law_k", 4)]) ⟨fun _ _ _ _ _ => (vg_name 4 (.inr (by decide)) S.nd), fun _ _ _ _ _ => vi_none, fun _ _ _ _ _ => (ve_callR 0 c_law_vector.d (hr.mono (by omega)) va_nil), by decide, (.inr (by decide))⟩))) (vg_tup rfl (vgs_cons (vg_name 1 (.inr (by decide)) S.nd) (vgs_cons (vg_name 2 (.inr (by decide)) S.nd) (vgs_cons (vg_name 3 (.inr (by decide)) S.nd) vgs_nil)))) (nox_seq (nox_cons nox_name (nox_cons nox_name (nox_cons nox_name nox_nil)))))
  (vss_cons (vs_asg (ve_tup (vb_cons (VE.frz (ve_callR 0 c_law_take.d (hr.mono (by omega)) (va_cons (VE.vr ve_int) va_nil))) (vb_cons (ve_bin od_sub (VE.vr (ve_callR 0 c_law_take.d (hr.mono (by omega)) (va_cons (VE.vr ve_int) va_nil))) (VE.vr ve_int)) vb_nil))) (vg_tup rfl (vgs_cons (vg_name 5 (.inr (by decide)) S.nd) (vgs_cons (vg_name 6 (.inr (by decide)) S.nd) vgs_nil))) (nox_seq (nox_cons nox_name (nox_cons nox_name nox_nil))))
  (vss_cons (vs_if (vt_cp (od_eq hr.units) (vr_var 5) (VE.vr ve_int))
  (vss_one (vs_set 2 (.inr (by decide)) S.nd (VE.frz (ve_lk (ve_callTy cg_tuple rfl m_tuple boot_ok_tuple (VA.vd (va_cons (VE.vr (ve_lc rfl S.nd (vi_seq (ve_var 1)) (blkOk_by (N := ["_law_box_here", "_law_a", "_law_b", "_law_c", "_law_k", "_law_way", "_law_by", "_law_one", "_law_other"]) (sc := defScope (st 23)) (by decide +kernel)) (own := [("_law_one", 7)]) ⟨fun _ _ _ _ _ => (vg_name 7 (.inr (by decide)) S.nd), fun _ _ _ _ _ => vi_none, fun _ _ _ _ _ => (VE.own (ve_bin od_sub (VE.vr ve_int) (vr_var 7))), by decide, (.inr (by decide))⟩)) va_nil)))))))
  (vss_one (vs_if (vt_cp (od_eq hr.units) (vr_var 5) (VE.vr ve_int))
  (vss_one (vs_set 3 (.inr (by decide)) S.nd (VE.frz (ve_lk (ve_callTy cg_tuple rfl m_tuple boot_ok_tuple (VA.vd (va_cons (VE.vr (ve_lc rfl S.nd (vi_zip m_zip (ve_var 1) (ve_var 2)) (blkOk_by (N := ["_law_box_here", "_law_a", "_law_b", "_law_c", "_law_k", "_law_way", "_law_by", "_law_one", "_law_other"]) (sc := defScope (st 23)) (by decide +kernel)) (own := [("_law_one", 7), ("_law_other", 8)]) ⟨fun _ _ _ _ _ => (vg_tup rfl (vgs_cons (vg_name 7 (.inr (by decide)) S.nd) (vgs_cons (vg_name 8 (.inr (by decide)) S.nd) vgs_nil))), fun _ _ _ _ _ => vi_none, fun _ _ _ _ _ => (ve_binG og_add (vr_var 7) (VE.vr (ve_bin od_mul (vr_var 6) (VE.vr (ve_bin od_sub (vr_var 8) (vr_var 7)))))), by decide, (.inr (by decide))⟩)) va_nil)))))))
  vss_nil)))
  (vss_one (vs_ret (ve_if (vt_cp (od_eq hr.units) (vr_var 5) (VE.vr ve_int)) (ve_tupW (vw_cons (VE.own (ve_var 1)) (vw_cons (VE.own (ve_var 2)) (vw_cons (VE.own (ve_var 1)) vw_nil)))) (ve_tupW (vw_cons (VE.own (ve_var 1)) (vw_cons (VE.own (ve_var 2)) (vw_cons (VE.own (ve_var 3)) vw_nil))))))))))
theorem S_law_cross : FnScope ["_law_one", "_law_other", "_law_k"] ["_law_one", "_law_other"] (defScope (st 16)) := ⟨rfl, rfl, rfl, by decide +kernel, rfl, by decide +kernel, by decide +kernel⟩
def g_law_cross : Sm Fl := (mRet (mCallG dTuple (mArgs (mCons (mVal (mLc (mRange1 (mArgs (mCons (mVal (Sm.p (.int 3))) mNil))) (gN false 2) [2] (Sm.p true) (mLf (mOp dSub (mVal (mOp dMul (mVal (mIx (mVar 0) (mOp dSub (mRef 2) (mVal (Sm.p (.int 2)))))) (mVal (mIx (mVar 1) (mOp dSub (mRef 2) (mVal (Sm.p (.int 1)))))))) (mVal (mOp dMul (mVal (mIx (mVar 0) (mOp dSub (mRef 2) (mVal (Sm.p (.int 1)))))) (mVal (mIx (mVar 1) (mOp dSub (mRef 2) (mVal (Sm.p (.int 2)))))))))))) mNil))))
def f_law_cross : List D → Res := fnOf 3 g_law_cross
theorem ok_law_cross {P : Program} {w : World} {K : PySem.W.Frag} {mg : Str → Option Value} {base : Heap} {fa : Addr} {fd : FuncData} (k : Nat) (F : FnP K "_law_cross" (st 16) fa fd)  (m_tuple : mg "tuple" = none) (m_range : mg "range" = none) : FnG P w K mg base (L2.CX P w) (k + 1) fa fd ["_law_one", "_law_other"] (spV K mg 2 (fnOf 3 (g_law_cross))) :=
  have S := S_law_cross
  def_ok F S fun cdv A outer s H E hr =>
  (vss_one (vs_ret (ve_callTy cg_tuple rfl m_tuple boot_ok_tuple (VA.vd (va_cons (VE.vr (ve_lc rfl S.nd (vi_range1 m_range (VA.vd (va_cons (VE.vr ve_int) va_nil))) (blkOk_by (N := ["_law_one", "_law_other", "_law_k"]) (sc := defScope (st 16)) (by decide +kernel)) (own := [("_law_k", 2)]) ⟨fun _ _ _ _ _ => (vg_name 2 (.inl rfl) S.nd), fun _ _ _ _ _ => vi_none, fun _ _ _ _ _ => (VE.own (ve_bin od_sub (VE.vr (ve_bin od_mul (VE.vr (ve_ix hr.u1 (ve_var 0) (ve_bin od_sub (vr_var 2) (VE.vr ve_int)))) (VE.vr (ve_ix hr.u1 (ve_var 1) (ve_bin od_sub (vr_var 2) (VE.vr ve_int)))))) (VE.vr (ve_bin od_mul (VE.vr (ve_ix hr.u1 (ve_var 0) (ve_bin od_sub (vr_var 2) (VE.vr ve_int)))) (VE.vr (ve_ix hr.u1 (ve_var 1) (ve_bin od_sub (vr_var 2) (VE.vr ve_int)))))))), by decide, (.inl rfl)⟩)) va_nil)))))
theorem S_law_less : FnScope ["_law_one", "_law_other", "_law_x", "_law_y"] ["_law_one", "_law_other"] (defScope (st 15)) := ⟨rfl, rfl, rfl, by decide +kernel, rfl, by decide +kernel, by decide +kernel⟩
def g_law_less : Sm Fl := (mRet (mCallG dTuple (mArgs (mCons (mVal (mLc (mZip (mVar 0) (mVar 1)) (gSeq3 2 (gCons3 (gN false 2) (gCons3 (gN false 3) gNil3))) [2, 3] (Sm.p true) (mLf (mOp dSub (mRef 2) (mRef 3))))) mNil))))
def f_law_less : List D → Res := fnOf 4 g_law_less
theorem ok_law_less {P : Program} {w : World} {K : PySem.W.Frag} {mg : Str → Option Value} {base : Heap} {fa : Addr} {fd : FuncData} (k : Nat) (F : FnP K "_law_less" (st 15) fa fd)  (m_tuple : mg "tuple" = none) (m_zip : mg "zip" = none) : FnG P w K mg base (L2.CX P w) (k + 1) fa fd ["_law_one", "_law_other"] (spV K mg 2 (fnOf 4 (g_law_less))) :=
  have S := S_law_less
  def_ok F S fun cdv A outer s H E hr =>
  (vss_one (vs_ret (ve_callTy cg_tuple rfl m_tuple boot_ok_tuple (VA.vd (va_cons (VE.vr (ve_lc rfl S.nd (vi_zip m_zip (ve_var 0) (ve_var 1)) (blkOk_by (N := ["_law_one", "_law_other", "_law_x", "_law_y"]) (sc := defScope (st 15)) (by decide +kernel)) (own := [("_law_x", 2), ("_law_y", 3)]) ⟨fun _ _ _ _ _ => (vg_tup rfl (vgs_cons (vg_name 2 (.inl rfl) S.nd) (vgs_cons (vg_name 3 (.inl rfl) S.nd) vgs_nil))), fun _ _ _ _ _ => vi_none, fun _ _ _ _ _ => (VE.own (ve_bin od_sub (vr_var 2) (vr_var 3))), by decide, (.inl rfl)⟩)) va_nil)))))
theorem S_law_dot : FnScope ["_law_one", "_law_other", "_law_x", "_law_y"] ["_law_one", "_law_other"] (defScope (st 17)) := ⟨rfl, rfl, rfl, by decide +kernel, rfl, by decide +kernel, by decide +kernel⟩
def g_law_dot : Sm Fl := (mRet (mCallG dSumA (mArgs (mCons (mVal (mLc (mZip (mVar 0) (mVar 1)) (gSeq3 2 (gCons3 (gN false 2) (gCons3 (gN false 3) gNil3))) [2, 3] (Sm.p true) (mLf (mOp dMul (mRef 2) (mRef 3))))) mNil))))
def f_law_dot : List D → Res := fnOf 4 g_law_dot
theorem ok_law_dot {P : Program} {w : World} {K : PySem.W.Frag} {mg : Str → Option Value} {base : Heap} {fa : Addr} {fd : FuncData} (k : Nat) (F : FnP K "_law_dot" (st 17) fa fd)  (m_sum : mg "sum" = none) (m_zip : mg "zip" = none) : FnG P w K mg base (L2.CX P w) (k + 1) fa fd ["_law_one", "_law_other"] (spV K mg 2 (fnOf 4 (g_law_dot))) :=
  have S := S_law_dot
  def_ok F S fun cdv A outer s H E hr =>
  (vss_one (vs_ret (ve_callB (cg_sumA rfl) rfl m_sum boot_ok_sum (VA.vd (va_cons (VE.vr (ve_lc rfl S.nd (vi_zip m_zip (ve_var 0) (ve_var 1)) (blkOk_by (N := ["_law_one", "_law_other", "_law_x", "_law_y"]) (sc := defScope (st 17)) (by decide +kernel)) (own := [("_law_x", 2), ("_law_y", 3)]) ⟨fun _ _ _ _ _ => (vg_tup rfl (vgs_cons (vg_name 2 (.inl rfl) S.nd) (vgs_cons (vg_name 3 (.inl rfl) S.nd) vgs_nil))), fun _ _ _ _ _ => vi_none, fun _ _ _ _ _ => (VE.own (ve_bin od_mul (vr_var 2) (vr_var 3))), by decide, (.inl rfl)⟩)) va_nil)))))
theorem S_law_same : FnScope ["_law_found", "_law_due", "_law_one", "_law_other"] ["_law_found", "_law_due"] (defScope (st 14)) := ⟨rfl, rfl, rfl, by decide +kernel, rfl, by decide +kernel, by decide +kernel⟩
def g_law_same (self : List D → Res) : Sm Fl := (mSeq (mIf (mT (mIsi2 "list" "tuple" (mVar 1)))
  (mSeq (mIf (mOr (mT (mOp dNe (mVal (mIsi "list" (mRd 0))) (mVal (mIsi "list" (mRd 1))))) (mT (mOp dNe (mVal (mIsi "tuple" (mRd 0))) (mVal (mIsi "tuple" (mRd 1))))))
  (mRet (mLf (Sm.p (.bl false))))
  (Sm.p .next))
  (mRet (mLf (mAndV (mOp dEq (mVal (mCallG dLen (mArgs (mCons (mRef 0) mNil)))) (mVal (mCallG dLen (mArgs (mCons (mRef 1) mNil))))) (mCallG dAll (mArgs (mCons (mVal (mLc (mZip (mVar 0) (mVar 1)) (gSeq3 2 (gCons3 (gN false 2) (gCons3 (gN false 3) gNil3))) [2, 3] (Sm.p true) (mCall 2 self (mArgs (mCons (mRef 2) (mCons (mRef 3) mNil)))))) mNil)))))))
  (Sm.p .next))
  (mSeq (mIf (mT (mOp dIs (mRef 1) (mVal (Sm.p .non))))
  (mRet (mLf (mOp dIs (mRef 0) (mVal (Sm.p .non)))))
  (Sm.p .next))
  (mSeq (mIf (mT (mIsi2 "str" "bool" (mVar 1)))
  (mRet (mLf (mAndV (mOp dEq (mVal (mIsi "str" (mRd 0))) (mVal (mIsi "str" (mRd 1)))) (mAndV (mIsi2 "str" "bool" (mVar 0)) (mOp dEq (mRef 0) (mRef 1))))))
  (Sm.p .next))
  (mRet (mLf (mAndV (mIsi "int" (mRd 0)) (mAndV (mNotV (mIsi "bool" (mRd 0))) (mOp dEq (mRef 0) (mRef 1)))))))))
def f_law_same : Nat → List D → Res
  | 0 => fun _ => .bad
  | n + 1 => fnOf 4 (g_law_same (f_law_same n))
theorem ok_law_same {self : List D → Res} {P : Program} {w : World} {K : PySem.W.Frag} {mg : Str → Option Value} {base : Heap} {fa : Addr} {fd : FuncData} (k : Nat) (F : FnP K "_law_same" (st 14) fa fd)  (c_law_same : Callee P w K mg base "_law_same" k ["_law_found", "_law_due"] (spV K mg 2 self)) (m_isinstance : mg "isinstance" = none) (m_list : mg "list" = none) (m_tuple : mg "tuple" = none) (m_all : mg "all" = none) (m_zip : mg "zip" = none) (m_len : mg "len" = none) (m_str : mg "str" = none) (m_bool : mg "bool" = none) (m_int : mg "int" = none) : FnG P w K mg base (L2.CX P w) (k + 1) fa fd ["_law_found", "_law_due"] (spV K mg 2 (fnOf 4 (g_law_same self))) :=
  have S := S_law_same
  def_ok F S fun cdv A outer s H E hr =>
  (vss_cons (vs_if (vt_val (ve_isi2 m_isinstance (ve_var 1) m_list (boot_ok_list) m_tuple (boot_ok_tuple)))
  (vss_cons (vs_if (VW.vt (vw_or (vt_cp (od_ne hr.units) (VE.vr (ve_isi (x := "a") m_isinstance (vo_var 0) m_list (boot_ok_list))) (VE.vr (ve_isi (x := "a") m_isinstance (vo_var 1) m_list (boot_ok_list)))) (vw_or1 (vt_cp (od_ne hr.units) (VE.vr (ve_isi (x := "a") m_isinstance (vo_var 0) m_tuple (boot_ok_tuple))) (VE.vr (ve_isi (x := "a") m_isinstance (vo_var 1) m_tuple (boot_ok_tuple)))))))
  (vss_one (vs_ret (VE.own ve_bl)))
  vss_nil)
  (vss_one (vs_ret (VE.own (ve_and (ve_cp (od_eq hr.units) (VE.vr (ve_callB cg_len rfl m_len boot_ok_len (VA.vd (va_cons (vr_var 0) va_nil)))) (VE.vr (ve_callB cg_len rfl m_len boot_ok_len (VA.vd (va_cons (vr_var 1) va_nil))))) (VE.frz (ve_one (ve_callB (cg_all rfl) rfl m_all boot_ok_all (VA.vd (va_cons (VE.vr (ve_lc rfl S.nd (vi_zip m_zip (ve_var 0) (ve_var 1)) (blkOk_by (N := ["_law_found", "_law_due", "_law_one", "_law_other"]) (sc := defScope (st 14)) (by decide +kernel)) (own := [("_law_one", 2), ("_law_other", 3)]) ⟨fun _ _ _ _ _ => (vg_tup rfl (vgs_cons (vg_name 2 (.inl rfl) S.nd) (vgs_cons (vg_name 3 (.inl rfl) S.nd) vgs_nil))), fun _ _ _ _ _ => vi_none, fun _ _ _ _ _ => (ve_call c_law_same.d (hr.mono (by omega)) (VA.vd (va_cons (vr_var 2) (va_cons (vr_var 3) va_nil)))), by decide, (.inl rfl)⟩)) va_nil))))))))))
  vss_nil)
  (vss_cons (vs_if (vt_cp od_is (vr_var 1) (VE.vr ve_non))
  (vss_one (vs_ret (VE.own (ve_cp od_is (vr_var 0) (VE.vr ve_non)))))
  vss_nil)
  (vss_cons (vs_if (vt_val (ve_isi2 m_isinstance (ve_var 1) m_str (boot_ok_str) m_bool (boot_ok_bool)))
  (vss_one (vs_ret (VE.own (ve_and (ve_cp (od_eq hr.units) (VE.vr (ve_isi (x := "a") m_isinstance (vo_var 0) m_str (boot_ok_str))) (VE.vr (ve_isi (x := "a") m_isinstance (vo_var 1) m_str (boot_ok_str)))) (ve_and (ve_isi2 m_isinstance (ve_var 0) m_str (boot_ok_str) m_bool (boot_ok_bool)) (ve_one (ve_cp (od_eq hr.units) (vr_var 0) (vr_var 1))))))))
  vss_nil)
  (vss_one (vs_ret (VE.own (ve_and (ve_isi (x := "a") m_isinstance (vo_var 0) m_int (boot_ok_int)) (ve_and (ve_not (ve_isi (x := "a") m_isinstance (vo_var 0) m_bool (boot_ok_bool))) (ve_one (ve_cp (od_eq hr.units) (vr_var 0) (vr_var 1)))))))))))
theorem S_cross_of : FnScope ["one", "other", "x1", "y1", "z1", "x2", "y2", "z2"] ["one", "other"] (defScope (st 7)) := ⟨rfl, rfl, rfl, by decide +kernel, rfl, by decide +kernel, by decide +kernel⟩
def g_cross_of : Sm Fl := (mSeq (mAsg (mVar 0) (gSeq3 3 (gCons3 (gN false 2) (gCons3 (gN false 3) (gCons3 (gN false 4) gNil3)))))
  (mSeq (mAsg (mVar 1) (gSeq3 3 (gCons3 (gN false 5) (gCons3 (gN false 6) (gCons3 (gN false 7) gNil3)))))
  (mRet (mTup (mCons (mLf (mOp dSub (mVal (mOp dMul (mRef 3) (mRef 7))) (mVal (mOp dMul (mRef 4) (mRef 6))))) (mCons (mLf (mOp dSub (mVal (mOp dMul (mRef 4) (mRef 5))) (mVal (mOp dMul (mRef 2) (mRef 7))))) (mCons (mLf (mOp dSub (mVal (mOp dMul (mRef 2) (mRef 6))) (mVal (mOp dMul (mRef 3) (mRef 5))))) mNil)))))))
def f_cross_of : List D → Res := fnOf 8 g_cross_of
theorem ok_cross_of {P : Program} {w : World} {K : PySem.W.Frag} {mg : Str → Option Value} {base : Heap} {fa : Addr} {fd : FuncData} (k : Nat) (F : FnP K "cross_of" (st 7) fa fd)   : FnG P w K mg base (L2.CX P w) (k + 1) fa fd ["one", "other"] (spV K mg 2 (fnOf 8 (g_cross_of))) :=
  have S := S_cross_of
  def_ok F S fun cdv A outer s H E hr =>
  (vss_cons (vs_asg (ve_var 0) (vg_tup rfl (vgs_cons (vg_name 2 (.inl rfl) S.nd) (vgs_cons (vg_name 3 (.inl rfl) S.nd) (vgs_cons (vg_name 4 (.inl rfl) S.nd) vgs_nil)))) (nox_seq (nox_cons nox_name (nox_cons nox_name (nox_cons nox_name nox_nil)))))
  (vss_cons (vs_asg (ve_var 1) (vg_tup rfl (vgs_cons (vg_name 5 (.inl rfl) S.nd) (vgs_cons (vg_name 6 (.inl rfl) S.nd) (vgs_cons (vg_name 7 (.inl rfl) S.nd) vgs_nil)))) (nox_seq (nox_cons nox_name (nox_cons nox_name (nox_cons nox_name nox_nil)))))
  (vss_one (vs_ret (ve_tupW (vw_cons (VE.own (ve_bin od_sub (VE.vr (ve_bin od_mul (vr_var 3) (vr_var 7))) (VE.vr (ve_bin od_mul (vr_var 4) (vr_var 6))))) (vw_cons (VE.own (ve_bin od_sub (VE.vr (ve_bin od_mul (vr_var 4) (vr_var 5))) (VE.vr (ve_bin od_mul (vr_var 2) (vr_var 7))))) (vw_cons (VE.own (ve_bin od_sub (VE.vr (ve_bin od_mul (vr_var 2) (vr_var 6))) (VE.vr (ve_bin od_mul (vr_var 3) (vr_var 5))))) vw_nil))))))))
theorem S_less_by : FnScope ["one", "other"] ["one", "other"] (defScope (st 6)) := ⟨rfl, rfl, rfl, by decide +kernel, rfl, by decide +kernel, by decide +kernel⟩
def g_less_by : Sm Fl := (mRet (mTup (mCons (mLf (mOp dSub (mVal (mIx (mVar 0) (Sm.p (.int 0)))) (mVal (mIx (mVar 1) (Sm.p (.int 0)))))) (mCons (mLf (mOp dSub (mVal (mIx (mVar 0) (Sm.p (.int 1)))) (mVal (mIx (mVar 1) (Sm.p (.int 1)))))) (mCons (mLf (mOp dSub (mVal (mIx (mVar 0) (Sm.p (.int 2)))) (mVal (mIx (mVar 1) (Sm.p (.int 2)))))) mNil)))))
def f_less_by : List D → Res := fnOf 2 g_less_by
theorem ok_less_by {P : Program} {w : World} {K : PySem.W.Frag} {mg : Str → Option Value} {base : Heap} {fa : Addr} {fd : FuncData} (k : Nat) (F : FnP K "less_by" (st 6) fa fd)   : FnG P w K mg base (L2.CX P w) (k + 1) fa fd ["one", "other"] (spV K mg 2 (fnOf 2 (g_less_by))) :=
  have S := S_less_by
  def_ok F S fun cdv A outer s H E hr =>
  (vss_one (vs_ret (ve_tupW (vw_cons (VE.own (ve_bin od_sub (VE.vr (ve_ix hr.u1 (ve_var 0) ve_int)) (VE.vr (ve_ix hr.u1 (ve_var 1) ve_int)))) (vw_cons (VE.own (ve_bin od_sub (VE.vr (ve_ix hr.u1 (ve_var 0) ve_int)) (VE.vr (ve_ix hr.u1 (ve_var 1) ve_int)))) (vw_cons (VE.own (ve_bin od_sub (VE.vr (ve_ix hr.u1 (ve_var 0) ve_int)) (VE.vr (ve_ix hr.u1 (ve_var 1) ve_int)))) vw_nil))))))
theorem S_normal_of : FnScope ["a", "b", "c"] ["a", "b", "c"] (defScope (st 9)) := ⟨rfl, rfl, rfl, by decide +kernel, rfl, by decide +kernel, by decide +kernel⟩
def g_normal_of : Sm Fl := (mRet (mCall 2 f_cross_of (mArgs (mCons (mVal (mCall 2 f_less_by (mArgs (mCons (mRef 1) (mCons (mRef 0) mNil))))) (mCons (mVal (mCall 2 f_less_by (mArgs (mCons (mRef 2) (mCons (mRef 0) mNil))))) mNil)))))
def f_normal_of : List D → Res := fnOf 3 g_normal_of
theorem ok_normal_of {kcross_of kless_by : Nat} {P : Program} {w : World} {K : PySem.W.Frag} {mg : Str → Option Value} {base : Heap} {fa : Addr} {fd : FuncData} (k : Nat) (F : FnP K "normal_of" (st 9) fa fd) (hkcross_of : kcross_of ≤ k) (hkless_by : kless_by ≤ k) (c_cross_of : Callee P w K mg base "cross_of" kcross_of ["one", "other"] (spV K mg 2 f_cross_of)) (c_less_by : Callee P w K mg base "less_by" kless_by ["one", "other"] (spV K mg 2 f_less_by)) : FnG P w K mg base (L2.CX P w) (k + 1) fa fd ["a", "b", "c"] (spV K mg 3 (fnOf 3 (g_normal_of))) :=
  have S := S_normal_of
  def_ok F S fun cdv A outer s H E hr =>
  (vss_one (vs_ret (ve_call c_cross_of.d (hr.mono (by omega)) (VA.vd (va_cons (VE.vr (ve_call c_less_by.d (hr.mono (by omega)) (VA.vd (va_cons (vr_var 1) (va_cons (vr_var 0) va_nil))))) (va_cons (VE.vr (ve_call c_less_by.d (hr.mono (by omega)) (VA.vd (va_cons (vr_var 2) (va_cons (vr_var 0) va_nil))))) va_nil))))))
theorem S_dot_of : FnScope ["one", "other"] ["one", "other"] (defScope (st 8)) := ⟨rfl, rfl, rfl, by decide +kernel, rfl, by decide +kernel, by decide +kernel⟩
def g_dot_of : Sm Fl := (mRet (mOp dAddX (mVal (mOp dAddX (mVal (mOp dMul (mVal (mIx (mVar 0) (Sm.p (.int 0)))) (mVal (mIx (mVar 1) (Sm.p (.int 0)))))) (mVal (mOp dMul (mVal (mIx (mVar 0) (Sm.p (.int 1)))) (mVal (mIx (mVar 1) (Sm.p (.int 1)))))))) (mVal (mOp dMul (mVal (mIx (mVar 0) (Sm.p (.int 2)))) (mVal (mIx (mVar 1) (Sm.p (.int 2))))))))
def f_dot_of : List D → Res := fnOf 2 g_dot_of
theorem ok_dot_of {P : Program} {w : World} {K : PySem.W.Frag} {mg : Str → Option Value} {base : Heap} {fa : Addr} {fd : FuncData} (k : Nat) (F : FnP K "dot_of" (st 8) fa fd)   : FnG P w K mg base (L2.CX P w) (k + 1) fa fd ["one", "other"] (spV K mg 2 (fnOf 2 (g_dot_of))) :=
  have S := S_dot_of
  def_ok F S fun cdv A outer s H E hr =>
  (vss_one (vs_ret (ve_binG og_add (VE.vr (ve_binG og_add (VE.vr (ve_bin od_mul (VE.vr (ve_ix hr.u1 (ve_var 0) ve_int)) (VE.vr (ve_ix hr.u1 (ve_var 1) ve_int)))) (VE.vr (ve_bin od_mul (VE.vr (ve_ix hr.u1 (ve_var 0) ve_int)) (VE.vr (ve_ix hr.u1 (ve_var 1) ve_int)))))) (VE.vr (ve_bin od_mul (VE.vr (ve_ix hr.u1 (ve_var 0) ve_int)) (VE.vr (ve_ix hr.u1 (ve_var 1) ve_int)))))))
theorem S_law_sums_right : FnScope ["_law_a", "_law_b", "_law_c", "_law_due", "_law_turn", "_law_turned", "_law_one", "_law_some"] ["_law_a", "_law_b", "_law_c"] (defScope (st 24)) := ⟨rfl, rfl, rfl, by decide +kernel, rfl, by decide +kernel, by decide +kernel⟩
def b_law_sums_right_1 : Sm Fl := (mIf (mNot (mT (mCall 2 (f_law_same 4) (mArgs (mCons (mVal (mLst (mCons (mLk (mCall 2 f_less_by (mArgs (mCons (mRef 0) (mCons (mRef 1) mNil))))) (mCons (mLk (mCall 2 f_cross_of (mArgs (mCons (mRef 0) (mCons (mRef 1) mNil))))) (mCons (mLk (mCall 2 f_dot_of (mArgs (mCons (mRef 0) (mCons (mRef 1) mNil))))) (mCons (mLk (mCall 3 f_normal_of (mArgs (mCons (mRef 0) (mCons (mRef 1) (mCons (mRef 2) mNil)))))) mNil)))))) (mCons (mRef 3) mNil))))))
  (mRet (mLf (Sm.p (.bl false))))
  (Sm.p .next))
theorem b_law_sums_right_1_E {E : Env3} : b_law_sums_right_1 E = (mIf (mNot (mT (mCall 2 (f_law_same 4) (mArgs (mCons (mVal (mLst (mCons (mLk (mCall 2 f_less_by (mArgs (mCons (mRef 0) (mCons (mRef 1) mNil))))) (mCons (mLk (mCall 2 f_cross_of (mArgs (mCons (mRef 0) (mCons (mRef 1) mNil))))) (mCons (mLk (mCall 2 f_dot_of (mArgs (mCons (mRef 0) (mCons (mRef 1) mNil))))) (mCons (mLk (mCall 3 f_normal_of (mArgs (mCons (mRef 0) (mCons (mRef 1) (mCons (mRef 2) mNil)))))) mNil)))))) (mCons (mRef 3) mNil))))))
  (mRet (mLf (Sm.p (.bl false))))
  (Sm.p .next)) E := rfl
def g_law_sums_right : Sm Fl := (mSeq (mAsg (mLk (mLst (mCons (mLk (mCall 2 f_law_less (mArgs (mCons (mRef 0) (mCons (mRef 1) mNil))))) (mCons (mLk (mCall 2 f_law_cross (mArgs (mCons (mRef 0) (mCons (mRef 1) mNil))))) (mCons (mLk (mCall 2 f_law_dot (mArgs (mCons (mRef 0) (mCons (mRef 1) mNil))))) (mCons (mLk (mCall 2 f_law_cross (mArgs (mCons (mVal (mCall 2 f_law_less (mArgs (mCons (mRef 1) (mCons (mRef 0) mNil))))) (mCons (mVal (mCall 2 f_law_less (mArgs (mCons (mRef 2) (mCons (mRef 0) mNil))))) mNil))))) mNil)))))) (gN false 3))
  (mSeq (Sm.b (mRange1 (mArgs (mCons (mVal (Sm.p (.int 2))) mNil))) (mFor (gN false 4) (P3.forget []) b_law_sums_right_1))
  (mSeq (mAsg (mLk (mCallG dTuple (mArgs (mCons (mVal (mLc (mSeqD (mIx (mVar 3) (Sm.p (.int 3)))) (gN false 6) [6] (Sm.p true) (mLf (mOp dSub (mVal (Sm.p (.int 0))) (mRef 6))))) mNil)))) (gN false 5))
  (mSeq (mAsg (mLk (mLst (mCons (mLk (mCall 3 f_normal_of (mArgs (mCons (mRef 1) (mCons (mRef 2) (mCons (mRef 0) mNil)))))) (mCons (mLk (mCall 3 f_normal_of (mArgs (mCons (mRef 2) (mCons (mRef 0) (mCons (mRef 1) mNil)))))) (mCons (mLk (mCall 3 f_normal_of (mArgs (mCons (mRef 0) (mCons (mRef 2) (mCons (mRef 1) mNil)))))) (mCons (mLk (mCall 3 f_normal_of (mArgs (mCons (mRef 1) (mCons (mRef 0) (mCons (mRef 2) mNil)))))) mNil)))))) (gN false 7))
  (mSeq (mIf (mOr (mT (mOp dNe (mRef 7) (mVal (mLst (mCons (mLf (mIx (mVar 3) (Sm.p (.int 3)))) (mCons (mLf (mIx (mVar 3) (Sm.p (.int 3)))) (mCons (mLf (mVar 5)) (mCons (mLf (mVar 5)) mNil)))))))) (mT (mOp dNe (mVal (mCall 2 f_cross_of (mArgs (mCons (mRef 1) (mCons (mRef 0) mNil))))) (mVal (mCallG dTuple (mArgs (mCons (mVal (mLc (mSeqD (mIx (mVar 3) (Sm.p (.int 1)))) (gN false 6) [6] (Sm.p true) (mLf (mOp dSub (mVal (Sm.p (.int 0))) (mRef 6))))) mNil)))))))
  (mRet (mLf (Sm.p (.bl false))))
  (Sm.p .next))
  (mRet (mLf (mAndV (mOp dEq (mVal (mCall 2 f_dot_of (mArgs (mCons (mVal (mIx (mVar 3) (Sm.p (.int 1)))) (mCons (mRef 0) mNil))))) (mVal (Sm.p (.int 0)))) (mAndV (mOp dEq (mVal (mCall 2 f_dot_of (mArgs (mCons (mVal (mIx (mVar 3) (Sm.p (.int 1)))) (mCons (mRef 1) mNil))))) (mVal (Sm.p (.int 0)))) (mOp dEq (mVal (mCall 2 f_cross_of (mArgs (mCons (mRef 0) (mCons (mVal (mCallG dTuple (mArgs (mCons (mVal (mLc (mSeqD (mVar 0)) (gN false 6) [6] (Sm.p true) (mLf (mOp dMul (mVal (Sm.p (.int 7))) (mRef 6))))) mNil)))) mNil))))) (mVal (mTup (mCons (Sm.p (.int 0)) (mCons (Sm.p (.int 0)) (mCons (Sm.p (.int 0)) mNil)))))))))))))))
def f_law_sums_right : List D → Res := fnOf 8 g_law_sums_right
theorem ok_law_sums_right {klaw_cross klaw_less klaw_dot klaw_same knormal_of kdot_of kcross_of kless_by : Nat} {P : Program} {w : World} {K : PySem.W.Frag} {mg : Str → Option Value} {base : Heap} {fa : Addr} {fd : FuncData} (k : Nat) (F : FnP K "_law_sums_right" (st 24) fa fd) (hklaw_cross : klaw_cross ≤ k) (hklaw_less : klaw_less ≤ k) (hklaw_dot : klaw_dot ≤ k) (hklaw_same : klaw_same ≤ k) (hknormal_of : knormal_of ≤ k) (hkdot_of : kdot_of ≤ k) (hkcross_of : kcross_of ≤ k) (hkless_by : kless_by ≤ k) (c_law_cross : Callee P w K mg base "_law_cross" klaw_cross ["_law_one", "_law_other"] (spV K mg 2 f_law_cross)) (c_law_less : Callee P w K mg base "_law_less" klaw_less ["_law_one", "_law_other"] (spV K mg 2 f_law_less)) (c_law_dot : Callee P w K mg base "_law_dot" klaw_dot ["_law_one", "_law_other"] (spV K mg 2 f_law_dot)) (c_law_same : Callee P w K mg base "_law_same" klaw_same ["_law_found", "_law_due"] (spV K mg 2 (f_law_same 4))) (c_normal_of : Callee P w K mg base "normal_of" knormal_of ["a", "b", "c"] (spV K mg 3 f_normal_of)) (c_dot_of : Callee P w K mg base "dot_of" kdot_of ["one", "other"] (spV K mg 2 f_dot_of)) (c_cross_of : Callee P w K mg base "cross_of" kcross_of ["one", "other"] (spV K mg 2 f_cross_of)) (c_less_by : Callee P w K mg base "less_by" kless_by ["one", "other"] (spV K mg 2 f_less_by)) (m_range : mg "range" = none) (m_tuple : mg "tuple" = none) : FnG P w K mg base (L2.CX P w) (k + 1) fa fd ["_law_a", "_law_b", "_law_c"] (spV K mg 3 (fnOf 8 (g_law_sums_right))) :=
  have S := S_law_sums_right
  def_ok F S fun cdv A outer s H E hr =>
  (vss_cons (vs_set 3 (.inl rfl) S.nd (VE.frz (ve_lk (ve_lst (vw_cons (ve_lk (ve_call c_law_less.d (hr.mono (by omega)) (VA.vd (va_cons (vr_var 0) (va_cons (vr_var 1) va_nil))))) (vw_cons (ve_lk (ve_call c_law_cross.d (hr.mono (by omega)) (VA.vd (va_cons (vr_var 0) (va_cons (vr_var 1) va_nil))))) (vw_cons (ve_lk (ve_call c_law_dot.d (hr.mono (by omega)) (VA.vd (va_cons (vr_var 0) (va_cons (vr_var 1) va_nil))))) (vw_cons (ve_lk (ve_call c_law_cross.d (hr.mono (by omega)) (VA.vd (va_cons (VE.vr (ve_call c_law_less.d (hr.mono (by omega)) (VA.vd (va_cons (vr_var 1) (va_cons (vr_var 0) va_nil))))) (va_cons (VE.vr (ve_call c_law_less.d (hr.mono (by omega)) (VA.vd (va_cons (vr_var 2) (va_cons (vr_var 0) va_nil))))) va_nil))))) vw_nil))))))))
  (vss_cons (vs_for [] (.inl rfl) (passes_of rfl) rfl (vi_range1 m_range (VA.vd (va_cons (VE.vr ve_int) va_nil))) (vg_name 4 (.inl rfl) S.nd)
  (vss_one (vs_if (vt_not (vt_val (ve_call c_law_same.d (hr.mono (by omega)) (VA.vd (va_cons (VE.vr (ve_lst (vw_cons (ve_lk (ve_call c_less_by.d (hr.mono (by omega)) (VA.vd (va_cons (vr_var 0) (va_cons (vr_var 1) va_nil))))) (vw_cons (ve_lk (ve_call c_cross_of.d (hr.mono (by omega)) (VA.vd (va_cons (vr_var 0) (va_cons (vr_var 1) va_nil))))) (vw_cons (ve_lk (ve_call c_dot_of.d (hr.mono (by omega)) (VA.vd (va_cons (vr_var 0) (va_cons (vr_var 1) va_nil))))) (vw_cons (ve_lk (ve_call c_normal_of.d (hr.mono (by omega)) (VA.vd (va_cons (vr_var 0) (va_cons (vr_var 1) (va_cons (vr_var 2) va_nil)))))) vw_nil)))))) (va_cons (vr_var 3) va_nil))))))
  (vss_one (vs_ret (VE.own ve_bl)))
  vss_nil)))
  (vss_cons (vs_set 5 (.inl rfl) S.nd (VE.frz (ve_lk (ve_callTy cg_tuple rfl m_tuple boot_ok_tuple (VA.vd (va_cons (VE.vr (ve_lc rfl S.nd (vi_seq (ve_ix hr.u1 (ve_var 3) ve_int)) (blkOk_by (N := ["_law_a", "_law_b", "_law_c", "_law_due", "_law_turn", "_law_turned", "_law_one", "_law_some"]) (sc := defScope (st 24)) (by decide +kernel)) (own := [("_law_one", 6)]) ⟨fun _ _ _ _ _ => (vg_name 6 (.inl rfl) S.nd), fun _ _ _ _ _ => vi_none, fun _ _ _ _ _ => (VE.own (ve_bin od_sub (VE.vr ve_int) (vr_var 6))), by decide, (.inl rfl)⟩)) va_nil))))))
  (vss_cons (vs_set 7 (.inl rfl) S.nd (VE.frz (ve_lk (ve_lst (vw_cons (ve_lk (ve_call c_normal_of.d (hr.mono (by omega)) (VA.vd (va_cons (vr_var 1) (va_cons (vr_var 2) (va_cons (vr_var 0) va_nil)))))) (vw_cons (ve_lk (ve_call c_normal_of.d (hr.mono (by omega)) (VA.vd (va_cons (vr_var 2) (va_cons (vr_var 0) (va_cons (vr_var 1) va_nil)))))) (vw_cons (ve_lk (ve_call c_normal_of.d (hr.mono (by omega)) (VA.vd (va_cons (vr_var 0) (va_cons (vr_var 2) (va_cons (vr_var 1) va_nil)))))) (vw_cons (ve_lk (ve_call c_normal_of.d (hr.mono (by omega)) (VA.vd (va_cons (vr_var 1) (va_cons (vr_var 0) (va_cons (vr_var 2) va_nil)))))) vw_nil))))))))
  (vss_cons (vs_if (VW.vt (vw_or (vt_cp (od_ne hr.units) (vr_var 7) (VE.vr (ve_lst (vw_cons (VE.own (ve_ix hr.u1 (ve_var 3) ve_int)) (vw_cons (VE.own (ve_ix hr.u1 (ve_var 3) ve_int)) (vw_cons (VE.own (ve_var 5)) (vw_cons (VE.own (ve_var 5)) vw_nil))))))) (vw_or1 (vt_cp (od_ne hr.units) (VE.vr (ve_call c_cross_of.d (hr.mono (by omega)) (VA.vd (va_cons (vr_var 1) (va_cons (vr_var 0) va_nil))))) (VE.vr (ve_callTy cg_tuple rfl m_tuple boot_ok_tuple (VA.vd (va_cons (VE.vr (ve_lc rfl S.nd (vi_seq (ve_ix hr.u1 (ve_var 3) ve_int)) (blkOk_by (N := ["_law_a", "_law_b", "_law_c", "_law_due", "_law_turn", "_law_turned", "_law_one", "_law_some"]) (sc := defScope (st 24)) (by decide +kernel)) (own := [("_law_one", 6)]) ⟨fun _ _ _ _ _ => (vg_name 6 (.inl rfl) S.nd), fun _ _ _ _ _ => vi_none, fun _ _ _ _ _ => (VE.own (ve_bin od_sub (VE.vr ve_int) (vr_var 6))), by decide, (.inl rfl)⟩)) va_nil))))))))
  (vss_one (vs_ret (VE.own ve_bl)))
  vss_nil)
  (vss_one (vs_ret (VE.own (ve_and (ve_cp (od_eq hr.units) (VE.vr (ve_call c_dot_of.d (hr.mono (by omega)) (VA.vd (va_cons (VE.vr (ve_ix hr.u1 (ve_var 3) ve_int)) (va_cons (vr_var 0) va_nil))))) (VE.vr ve_int)) (ve_and (ve_cp (od_eq hr.units) (VE.vr (ve_call c_dot_of.d (hr.mono (by omega)) (VA.vd (va_cons (VE.vr (ve_ix hr.u1 (ve_var 3) ve_int)) (va_cons (vr_var 1) va_nil))))) (VE.vr ve_int)) (ve_one (ve_cp (od_eq hr.units) (VE.vr (ve_call c_cross_of.d (hr.mono (by omega)) (VA.vd (va_cons (vr_var 0) (va_cons (VE.vr (ve_callTy cg_tuple rfl m_tuple boot_ok_tuple (VA.vd (va_cons (VE.vr (ve_lc rfl S.nd (vi_seq (ve_var 0)) (blkOk_by (N := ["_law_a", "_law_b", "_law_c", "_law_due", "_law_turn", "_law_turned", "_law_one", "_law_some"]) (sc := defScope (st 24)) (by decide +kernel)) (own := [("_law_one", 6)]) ⟨fun _ _ _ _ _ => (vg_name 6 (.inl rfl) S.nd), fun _ _ _ _ _ => vi_none, fun _ _ _ _ _ => (VE.own (ve_bin od_mul (VE.vr ve_int) (vr_var 6))), by decide, (.inl rfl)⟩)) va_nil)))) va_nil))))) (VE.vr (ve_tup (vb_cons ve_int (vb_cons ve_int (vb_cons ve_int vb_nil)))))))))))))))))
theorem S_law_odd : FnScope ["_law_box_here", "_law_some"] ["_law_box_here"] (defScope (st 19)) := ⟨rfl, rfl, rfl, by decide +kernel, rfl, by decide +kernel, by decide +kernel⟩
def g_law_odd : Sm Fl := (mSeq (mAsg (mLk (mLst (mCons (mLf (Sm.p .non)) (mCons (mLf (Sm.p (.bl true))) (mCons (mLf (Sm.p (.bl false))) (mCons (mLf (Sm.p (.int 0))) (mCons (mLf (Sm.p (.int 1))) (mCons (mLf (mNeg (Sm.p (.int 1)))) (mCons (mLf (Sm.p (.int 1001))) (mCons (mLf (mNeg (Sm.p (.int 1000)))) (mCons (mLf (mOp dPow (mVal (Sm.p (.int 10))) (mVal (Sm.p (.int 9))))) (mCons (mLf (Sm.p (.str ""))) (mCons (mLf (Sm.p (.str "a"))) (mCons (mLk (mTup mNil)) (mCons (mLk (mLst mNil)) (mCons (mLk (mTup (mCons (mLf (Sm.p (.int 0))) mNil))) (mCons (mLk (mTup (mCons (mLf (Sm.p (.int 0))) (mCons (mLf (Sm.p (.int 0))) (mCons (mLf (Sm.p (.int 0))) mNil))))) (mCons (mLk (mLst (mCons (mLf (Sm.p (.int 0))) (mCons (mLf (Sm.p (.int 0))) (mCons (mLf (Sm.p (.int 0))) mNil))))) mNil)))))))))))))))))) (gN false 1))
  (mRet (mLf (mIx (mVar 1) (mCallR 2 f_law_take 0 (mCons (mVal (Sm.p (.int 16))) mNil))))))
def f_law_odd : D → List D → ResR := fnOfR 2 g_law_odd
theorem ok_law_odd {klaw_take : Nat} {P : Program} {w : World} {K : PySem.W.Frag} {mg : Str → Option Value} {base : Heap} {fa : Addr} {fd : FuncData} (k : Nat) (F : FnP K "_law_odd" (st 19) fa fd) (hklaw_take : klaw_take ≤ k) (c_law_take : Callee P w K mg base "_law_take" klaw_take ["_law_box_here", "_law_many"] (spR K mg 2 f_law_take)) : FnG P w K mg base (L2.CX P w) (k + 1) fa fd ["_law_box_here"] (spR K mg 1 (fnOfR 2 (g_law_odd))) :=
  have S := S_law_odd
  defR_ok F S fun p0 cdv A outer s H E hr =>
  (vss_cons (vs_set 1 (.inr (by decide)) S.nd (VE.frz (ve_lk (ve_lst (vw_cons (VE.own ve_non) (vw_cons (VE.own ve_bl) (vw_cons (VE.own ve_bl) (vw_cons (VE.own ve_int) (vw_cons (VE.own ve_int) (vw_cons (VE.own (ve_neg ve_int)) (vw_cons (VE.own ve_int) (vw_cons (VE.own (ve_neg ve_int)) (vw_cons (VE.own (ve_bin od_pow (VE.vr ve_int) (VE.vr ve_int))) (vw_cons (VE.own ve_str) (vw_cons (VE.own ve_str) (vw_cons (ve_lk (ve_tupW vw_nil)) (vw_cons (ve_lk (ve_lst vw_nil)) (vw_cons (ve_lk (ve_tupW (vw_cons (VE.own ve_int) vw_nil))) (vw_cons (ve_lk (ve_tupW (vw_cons (VE.own ve_int) (vw_cons (VE.own ve_int) (vw_cons (VE.own ve_int) vw_nil))))) (vw_cons (ve_lk (ve_lst (vw_cons (VE.own ve_int) (vw_cons (VE.own ve_int) (vw_cons (VE.own ve_int) vw_nil))))) vw_nil))))))))))))))))))))
  (vss_one (vs_ret (VE.own (ve_ix hr.u1 (ve_var 1) (ve_callR 0 c_law_take.d (hr.mono (by omega)) (va_cons (VE.vr ve_int) va_nil)))))))
theorem S_law_bent_row : FnScope ["_law_box_here", "_law_row", "_law_way", "_law_at", "_law_some"] ["_law_box_here", "_law_row"] (defScope (st 20)) := ⟨rfl, rfl, rfl, by decide +kernel, rfl, by decide +kernel, by decide +kernel⟩
def g_law_bent_row : Sm Fl := (mSeq (mPar2 (mCons (mLk (mCallR 2 f_law_take 0 (mCons (mVal (Sm.p (.int 6))) mNil))) (mCons (mLk (mCallR 2 f_law_take 0 (mCons (mVal (mOp dAddX (mVal (mCallG dLen (mArgs (mCons (mRef 1) mNil)))) (mVal (Sm.p (.int 1))))) mNil))) mNil)) false false 2 3)
  (mSeq (mAsg (mCallG dList (mArgs (mCons (mRef 1) mNil))) (gN true 4))
  (mSeq (mIf (mT (mOp dEq (mRef 2) (mVal (Sm.p (.int 0)))))
  (mAsg (mOp dAddX (mVal (mSl (mRef 4) (Sm.p none) (mPart (mVar 3)))) (mVal (mSl (mRef 4) (mPart (mOp dAddX (mRef 3) (mVal (Sm.p (.int 1))))) (Sm.p none)))) (gN true 4))
  (mIf (mT (mOp dEq (mRef 2) (mVal (Sm.p (.int 1)))))
  (mAsg (mOp dAddX (mVal (mOp dAddX (mVal (mSl (mRef 4) (Sm.p none) (mPart (mVar 3)))) (mVal (mSl (mRef 4) (mPart (mVar 3)) (mPart (mOp dAddX (mRef 3) (mVal (Sm.p (.int 1))))))))) (mVal (mSl (mRef 4) (mPart (mVar 3)) (Sm.p none)))) (gN true 4))
  (mIf (mT (mOp dEq (mRef 2) (mVal (Sm.p (.int 2)))))
  (mDrop (mIns 4 (mVar 3) (mLk (mCallR 1 f_law_odd 0 mNil))))
  (mIf (mT (mOp dEq (mRef 2) (mVal (Sm.p (.int 3)))))
  (mAsg (mOp dAddX (mVal (mOp dAddX (mVal (mSl (mRef 4) (Sm.p none) (mPart (mVar 3)))) (mVal (mRevS (mSl (mRef 4) (mPart (mVar 3)) (mPart (mOp dAddX (mRef 3) (mVal (Sm.p (.int 2)))))))))) (mVal (mSl (mRef 4) (mPart (mOp dAddX (mRef 3) (mVal (Sm.p (.int 2))))) (Sm.p none)))) (gN true 4))
  (mIf (mT (mOp dEq (mRef 2) (mVal (Sm.p (.int 4)))))
  (mRet (mIf (mT (mIsi "tuple" (mRd 1))) (mMove 4) (mCallG dTuple (mArgs (mCons (mRef 4) mNil)))))
  (mRet (mCallR 1 f_law_odd 0 mNil)))))))
  (mRet (mIf (mT (mIsi "tuple" (mRd 1))) (mCallG dTuple (mArgs (mCons (mRef 4) mNil))) (mMove 4))))))
def f_law_bent_row : D → List D → ResR := fnOfR 5 g_law_bent_row
theorem ok_law_bent_row {klaw_take klaw_odd : Nat} {P : Program} {w : World} {K : PySem.W.Frag} {mg : Str → Option Value} {base : Heap} {fa : Addr} {fd : FuncData} (k : Nat) (F : FnP K "_law_bent_row" (st 20) fa fd) (hklaw_take : klaw_take ≤ k) (hklaw_odd : klaw_odd ≤ k) (c_law_take : Callee P w K mg base "_law_take" klaw_take ["_law_box_here", "_law_many"] (spR K mg 2 f_law_take)) (c_law_odd : Callee P w K mg base "_law_odd" klaw_odd ["_law_box_here"] (spR K mg 1 f_law_odd)) (m_len : mg "len" = none) (m_list : mg "list" = none) (m_isinstance : mg "isinstance" = none) (m_tuple : mg "tuple" = none) : FnG P w K mg base (L2.CX P w) (k + 1) fa fd ["_law_box_here", "_law_row"] (spR K mg 2 (fnOfR 5 (g_law_bent_row))) :=
  have S := S_law_bent_row
  defR_ok F S fun p0 cdv A outer s H E hr =>
  (vss_cons (vs_par2 (i := 2) (j := 3) (k1 := false) (k2 := false) (.inr (by decide)) (.inr (by decide)) rfl S.nd (vx_cons (VE.frz (ve_lk (ve_callR 0 c_law_take.d (hr.mono (by omega)) (va_cons (VE.vr ve_int) va_nil)))) (vx_cons (VE.frz (ve_lk (ve_callR 0 c_law_take.d (hr.mono (by omega)) (va_cons (VE.vr (ve_binG og_add (VE.vr (ve_callB cg_len rfl m_len boot_ok_len (VA.vd (va_cons (vr_var 1) va_nil)))) (VE.vr ve_int))) va_nil)))) vx_nil)))
  (vss_cons (vs_set 4 (.inr (by decide)) S.nd (ve_callTy cg_list rfl m_list boot_ok_list (VA.vd (va_cons (vr_var 1) va_nil))))
  (vss_cons (vs_if (vt_cp (od_eq hr.units) (vr_var 2) (VE.vr ve_int))
  (vss_one (vs_set 4 (.inr (by decide)) S.nd (ve_binG og_add (VE.vr (ve_sl (vr_var 4) vp_none (vp_some (ve_var 3)))) (VE.vr (ve_sl (vr_var 4) (vp_some (ve_binG og_add (vr_var 3) (VE.vr ve_int))) vp_none)))))
  (vss_one (vs_if (vt_cp (od_eq hr.units) (vr_var 2) (VE.vr ve_int))
  (vss_one (vs_set 4 (.inr (by decide)) S.nd (ve_binG og_add (VE.vr (ve_binG og_add (VE.vr (ve_sl (vr_var 4) vp_none (vp_some (ve_var 3)))) (VE.vr (ve_sl (vr_var 4) (vp_some (ve_var 3)) (vp_some (ve_binG og_add (vr_var 3) (VE.vr ve_int))))))) (VE.vr (ve_sl (vr_var 4) (vp_some (ve_var 3)) vp_none)))))
  (vss_one (vs_if (vt_cp (od_eq hr.units) (vr_var 2) (VE.vr ve_int))
  (vss_one (vs_expr (ve_ins 4 (ve_var 3) (ve_lk (ve_callR 0 c_law_odd.d (hr.mono (by omega)) va_nil)))))
  (vss_one (vs_if (vt_cp (od_eq hr.units) (vr_var 2) (VE.vr ve_int))
  (vss_one (vs_set 4 (.inr (by decide)) S.nd (ve_binG og_add (VE.vr (ve_binG og_add (VE.vr (ve_sl (vr_var 4) vp_none (vp_some (ve_var 3)))) (VE.vr (ve_revS (ve_sl (vr_var 4) (vp_some (ve_var 3)) (vp_some (ve_binG og_add (vr_var 3) (VE.vr ve_int)))))))) (VE.vr (ve_sl (vr_var 4) (vp_some (ve_binG og_add (vr_var 3) (VE.vr ve_int))) vp_none)))))
  (vss_one (vs_if (vt_cp (od_eq hr.units) (vr_var 2) (VE.vr ve_int))
  (vss_one (vs_ret (ve_if (vt_val (ve_isi (x := "a") m_isinstance (vo_var 1) m_tuple (boot_ok_tuple))) (ve_move 4 (.inr (by decide))) (ve_callTy cg_tuple rfl m_tuple boot_ok_tuple (VA.vd (va_cons (vr_var 4) va_nil))))))
  (vss_one (vs_ret (ve_callR 0 c_law_odd.d (hr.mono (by omega)) va_nil))))))))))))
  (vss_one (vs_ret (ve_if (vt_val (ve_isi (x := "a") m_isinstance (vo_var 1) m_tuple (boot_ok_tuple))) (ve_callTy cg_tuple rfl m_tuple boot_ok_tuple (VA.vd (va_cons (vr_var 4) va_nil))) (ve_move 4 (.inr (by decide)))))))))
theorem S_law_bent : FnScope ["_law_box_here", "_law_thing", "_law_deep", "_law_way", "_law_at", "_law_some"] ["_law_box_here", "_law_thing", "_law_deep"] (defScope (st 21)) := ⟨rfl, rfl, rfl, by decide +kernel, rfl, by decide +kernel, by decide +kernel⟩
def g_law_bent (self : D → List D → ResR) : Sm Fl := (mSeq (mIf (mNot (mT (mIsi2 "list" "tuple" (mVar 1))))
  (mSeq (mAsg (mLk (mCallR 2 f_law_take 0 (mCons (mVal (Sm.p (.int 9))) mNil))) (gN false 3))
  (mSeq (mIf (mOr (mT (mOp dLtI (mRef 3) (mVal (Sm.p (.int 3))))) (mOr (mNot (mT (mIsi "int" (mRd 1)))) (mT (mIsi "bool" (mRd 1)))))
  (mRet (mCallR 1 f_law_odd 0 mNil))
  (Sm.p .next))
  (mRet (mLf (mIx (mLk (mLst (mCons (mLk (mOp dAddX (mRef 1) (mVal (Sm.p (.int 1))))) (mCons (mLf (mOp dSub (mRef 1) (mVal (Sm.p (.int 1))))) (mCons (mLf (mOp dSub (mVal (Sm.p (.int 0))) (mRef 1))) (mCons (mLf (mOp dEq (mRef 1) (mVal (Sm.p (.int 1))))) (mCons (mLk (mCallG dStr (mArgs (mCons (mRef 1) mNil)))) (mCons (mLk (mOp dAddX (mRef 1) (mVal (Sm.p (.int 10))))) mNil)))))))) (mOp dSub (mRef 3) (mVal (Sm.p (.int 3)))))))))
  (Sm.p .next))
  (mSeq (mIf (mOr (mT (mOp dEq (mRef 2) (mVal (Sm.p (.int 0))))) (mOr (mT (mOp dEq (mVal (mCallG dLen (mArgs (mCons (mRef 1) mNil)))) (mVal (Sm.p (.int 0))))) (mT (mOp dEq (mVal (mCallR 2 f_law_take 0 (mCons (mVal (Sm.p (.int 4))) mNil))) (mVal (Sm.p (.int 0)))))))
  (mRet (mCallR 2 f_law_bent_row 0 (mCons (mRef 1) mNil)))
  (Sm.p .next))
  (mSeq (mAsg (mIf (mT (mOp dEq (mVal (mCallR 2 f_law_take 0 (mCons (mVal (Sm.p (.int 4))) mNil))) (mVal (Sm.p (.int 0))))) (mOp dSub (mVal (mCallG dLen (mArgs (mCons (mRef 1) mNil)))) (mVal (Sm.p (.int 1)))) (mCallR 2 f_law_take 0 (mCons (mVal (mCallG dLen (mArgs (mCons (mRef 1) mNil)))) mNil))) (gN false 4))
  (mSeq (mAsg (mCallG dList (mArgs (mCons (mRef 1) mNil))) (gN true 5))
  (mSeq (mSetIt (mLk (mCallR 3 self 0 (mCons (mVal (mIxW 5 (mVar 4))) (mCons (mVal (mOp dSub (mRef 2) (mVal (Sm.p (.int 1))))) mNil)))) 5 (mVar 4))
  (mRet (mIf (mT (mIsi "tuple" (mRd 1))) (mCallG dTuple (mArgs (mCons (mRef 5) mNil))) (mMove 5))))))))
def f_law_bent : Nat → D → List D → ResR
  | 0 => fun _ _ => .bad
  | n + 1 => fnOfR 6 (g_law_bent (f_law_bent n))
theorem ok_law_bent {klaw_take klaw_odd klaw_bent_row : Nat} {self : D → List D → ResR} {P : Program} {w : World} {K : PySem.W.Frag} {mg : Str → Option Value} {base : Heap} {fa : Addr} {fd : FuncData} (k : Nat) (F : FnP K "_law_bent" (st 21) fa fd) (hklaw_take : klaw_take ≤ k) (hklaw_odd : klaw_odd ≤ k) (hklaw_bent_row : klaw_bent_row ≤ k) (c_law_take : Callee P w K mg base "_law_take" klaw_take ["_law_box_here", "_law_many"] (spR K mg 2 f_law_take)) (c_law_odd : Callee P w K mg base "_law_odd" klaw_odd ["_law_box_here"] (spR K mg 1 f_law_odd)) (c_law_bent_row : Callee P w K mg base "_law_bent_row" klaw_bent_row ["_law_box_here", "_law_row"] (spR K mg 2 f_law_bent_row)) (c_law_bent : Callee P w K mg base "_law_bent" k ["_law_box_here", "_law_thing", "_law_deep"] (spR K mg 3 self)) (m_isinstance : mg "isinstance" = none) (m_list : mg "list" = none) (m_tuple : mg "tuple" = none) (m_int : mg "int" = none) (m_bool : mg "bool" = none) (m_str : mg "str" = none) (m_len : mg "len" = none) : FnG P w K mg base (L2.CX P w) (k + 1) fa fd ["_law_box_here", "_law_thing", "_law_deep"] (spR K mg 3 (fnOfR 6 (g_law_bent self))) :=
  have S := S_law_bent
  defR_ok F S fun p0 cdv A outer s H E hr =>
  (vss_cons (vs_if (vt_not (vt_val (ve_isi2 m_isinstance (ve_var 1) m_list (boot_ok_list) m_tuple (boot_ok_tuple))))
  (vss_cons (vs_set 3 (.inr (by decide)) S.nd (VE.frz (ve_lk (ve_callR 0 c_law_take.d (hr.mono (by omega)) (va_cons (VE.vr ve_int) va_nil)))))
  (vss_cons (vs_if (VW.vt (vw_or (vt_cp od_ltI (vr_var 3) (VE.vr ve_int)) (vw_or (vt_not (vt_val (ve_isi (x := "a") m_isinstance (vo_var 1) m_int (boot_ok_int)))) (vw_or1 (vt_val (ve_isi (x := "a") m_isinstance (vo_var 1) m_bool (boot_ok_bool)))))))
  (vss_one (vs_ret (ve_callR 0 c_law_odd.d (hr.mono (by omega)) va_nil)))
  vss_nil)
  (vss_one (vs_ret (VE.own (ve_ix hr.u1 (VE.frz (ve_lk (ve_lst (vw_cons (ve_lk (ve_binG og_add (vr_var 1) (VE.vr ve_int))) (vw_cons (VE.own (ve_bin od_sub (vr_var 1) (VE.vr ve_int))) (vw_cons (VE.own (ve_bin od_sub (VE.vr ve_int) (vr_var 1))) (vw_cons (VE.own (ve_cp (od_eq hr.units) (vr_var 1) (VE.vr ve_int))) (vw_cons (ve_lk (ve_callTy (cg_str hr) rfl m_str boot_ok_str (VA.vd (va_cons (vr_var 1) va_nil)))) (vw_cons (ve_lk (ve_binG og_add (vr_var 1) (VE.vr ve_int))) vw_nil))))))))) (ve_bin od_sub (vr_var 3) (VE.vr ve_int))))))))
  vss_nil)
  (vss_cons (vs_if (VW.vt (vw_or (vt_cp (od_eq hr.units) (vr_var 2) (VE.vr ve_int)) (vw_or (vt_cp (od_eq hr.units) (VE.vr (ve_callB cg_len rfl m_len boot_ok_len (VA.vd (va_cons (vr_var 1) va_nil)))) (VE.vr ve_int)) (vw_or1 (vt_cp (od_eq hr.units) (VE.vr (ve_callR 0 c_law_take.d (hr.mono (by omega)) (va_cons (VE.vr ve_int) va_nil))) (VE.vr ve_int))))))
  (vss_one (vs_ret (ve_callR 0 c_law_bent_row.d (hr.mono (by omega)) (va_cons (vr_var 1) va_nil))))
  vss_nil)
  (vss_cons (vs_set 4 (.inr (by decide)) S.nd (ve_if (vt_cp (od_eq hr.units) (VE.vr (ve_callR 0 c_law_take.d (hr.mono (by omega)) (va_cons (VE.vr ve_int) va_nil))) (VE.vr ve_int)) (ve_bin od_sub (VE.vr (ve_callB cg_len rfl m_len boot_ok_len (VA.vd (va_cons (vr_var 1) va_nil)))) (VE.vr ve_int)) (VE.frz (ve_callR 0 c_law_take.d (hr.mono (by omega)) (va_cons (VE.vr (ve_callB cg_len rfl m_len boot_ok_len (VA.vd (va_cons (vr_var 1) va_nil)))) va_nil)))))
  (vss_cons (vs_set 5 (.inr (by decide)) S.nd (ve_callTy cg_list rfl m_list boot_ok_list (VA.vd (va_cons (vr_var 1) va_nil))))
  (vss_cons (vs_setIt 5 hr.u1 (ve_lk (ve_callR 0 c_law_bent.d (hr.mono (by omega)) (va_cons (VE.vr (ve_ixW 5 hr.u1 (ve_var 4))) (va_cons (VE.vr (ve_bin od_sub (vr_var 2) (VE.vr ve_int))) va_nil)))) (ve_var 4))
  (vss_one (vs_ret (ve_if (vt_val (ve_isi (x := "a") m_isinstance (vo_var 1) m_tuple (boot_ok_tuple))) (ve_callTy cg_tuple rfl m_tuple boot_ok_tuple (VA.vd (va_cons (vr_var 5) va_nil))) (ve_move 5 (.inr (by decide)))))))))))
theorem S_law_is_place : FnScope ["_law_thing", "_law_one"] ["_law_thing"] (defScope (st 18)) := ⟨rfl, rfl, rfl, by decide +kernel, rfl, by decide +kernel, by decide +kernel⟩
def g_law_is_place : Sm Fl := (mSeq (mIf (mOr (mNot (mT (mIsi "tuple" (mRd 0)))) (mT (mOp dNe (mVal (mCallG dLen (mArgs (mCons (mRef 0) mNil)))) (mVal (Sm.p (.int 3))))))
  (mRet (mLf (Sm.p (.bl false))))
  (Sm.p .next))
  (mRet (mCallG dAll (mArgs (mCons (mVal (mLc (mSeqD (mVar 0)) (gN false 1) [1] (Sm.p true) (mLf (mAndV (mIsi "int" (mRd 1)) (mAndV (mNotV (mIsi "bool" (mRd 1))) (mChain dLeI dLeI (mNeg (Sm.p (.int 1000))) (mVar 1) (Sm.p (.int 1000)))))))) mNil)))))
def f_law_is_place : List D → Res := fnOf 2 g_law_is_place
theorem ok_law_is_place {P : Program} {w : World} {K : PySem.W.Frag} {mg : Str → Option Value} {base : Heap} {fa : Addr} {fd : FuncData} (k : Nat) (F : FnP K "_law_is_place" (st 18) fa fd)  (m_isinstance : mg "isinstance" = none) (m_tuple : mg "tuple" = none) (m_len : mg "len" = none) (m_all : mg "all" = none) (m_bool : mg "bool" = none) (m_int : mg "int" = none) : FnG P w K mg base (L2.CX P w) (k + 1) fa fd ["_law_thing"] (spV K mg 1 (fnOf 2 (g_law_is_place))) :=
  have S := S_law_is_place
  def_ok F S fun cdv A outer s H E hr =>
  (vss_cons (vs_if (VW.vt (vw_or (vt_not (vt_val (ve_isi (x := "a") m_isinstance (vo_var 0) m_tuple (boot_ok_tuple)))) (vw_or1 (vt_cp (od_ne hr.units) (VE.vr (ve_callB cg_len rfl m_len boot_ok_len (VA.vd (va_cons (vr_var 0) va_nil)))) (VE.vr ve_int)))))
  (vss_one (vs_ret (VE.own ve_bl)))
  vss_nil)
  (vss_one (vs_ret (ve_callB (cg_all rfl) rfl m_all boot_ok_all (VA.vd (va_cons (VE.vr (ve_lc rfl S.nd (vi_seq (ve_var 0)) (blkOk_by (N := ["_law_thing", "_law_one"]) (sc := defScope (st 18)) (by decide +kernel)) (own := [("_law_one", 1)]) ⟨fun _ _ _ _ _ => (vg_name 1 (.inl rfl) S.nd), fun _ _ _ _ _ => vi_none, fun _ _ _ _ _ => (VE.own (ve_and (ve_isi (x := "a") m_isinstance (vo_var 1) m_int (boot_ok_int)) (ve_and (ve_not (ve_isi (x := "a") m_isinstance (vo_var 1) m_bool (boot_ok_bool))) (ve_one (ve_chain od_le od_le (ve_neg ve_int) (ve_var 1) ve_int))))), by decide, (.inl rfl)⟩)) va_nil))))))
theorem S_is_number : FnScope ["thing"] ["thing"] (defScope (st 2)) := ⟨rfl, rfl, rfl, by decide +kernel, rfl, by decide +kernel, by decide +kernel⟩
def g_is_number : Sm Fl := (mRet (mLf (mAndV (mIsi "int" (mRd 0)) (mNotV (mIsi "bool" (mRd 0))))))
def f_is_number : List D → Res := fnOf 1 g_is_number
theorem ok_is_number {P : Program} {w : World} {K : PySem.W.Frag} {mg : Str → Option Value} {base : Heap} {fa : Addr} {fd : FuncData} (k : Nat) (F : FnP K "is_number" (st 2) fa fd)  (m_isinstance : mg "isinstance" = none) (m_bool : mg "bool" = none) (m_int : mg "int" = none) : FnG P w K mg base (L2.CX P w) (k + 1) fa fd ["thing"] (spV K mg 1 (fnOf 1 (g_is_number))) :=
  have S := S_is_number
  def_ok F S fun cdv A outer s H E hr =>
  (vss_one (vs_ret (VE.own (ve_and (ve_isi (x := "a") m_isinstance (vo_var 0) m_int (boot_ok_int)) (ve_one (ve_not (ve_isi (x := "a") m_isinstance (vo_var 0) m_bool (boot_ok_bool))))))))
theorem S_is_between : FnScope ["thing", "least", "most"] ["thing", "least", "most"] (defScope (st 3)) := ⟨rfl, rfl, rfl, by decide +kernel, rfl, by decide +kernel, by decide +kernel⟩
def g_is_between : Sm Fl := (mRet (mLf (mAndV (mCall 1 f_is_number (mArgs (mCons (mRef 0) mNil))) (mChain dLeI dLeI (mVar 1) (mVar 0) (mVar 2)))))
def f_is_between : List D → Res := fnOf 3 g_is_between
theorem ok_is_between {kis_number : Nat} {P : Program} {w : World} {K : PySem.W.Frag} {mg : Str → Option Value} {base : Heap} {fa : Addr} {fd : FuncData} (k : Nat) (F : FnP K "is_between" (st 3) fa fd) (hkis_number : kis_number ≤ k) (c_is_number : Callee P w K mg base "is_number" kis_number ["thing"] (spV K mg 1 f_is_number)) : FnG P w K mg base (L2.CX P w) (k + 1) fa fd ["thing", "least", "most"] (spV K mg 3 (fnOf 3 (g_is_between))) :=
  have S := S_is_between
  def_ok F S fun cdv A outer s H E hr =>
  (vss_one (vs_ret (VE.own (ve_and (ve_call c_is_number.d (hr.mono (by omega)) (VA.vd (va_cons (vr_var 0) va_nil))) (ve_one (ve_chain od_le od_le (ve_var 1) (ve_var 0) (ve_var 2)))))))
theorem S_is_tuple : FnScope ["thing", "size"] ["thing", "size"] (defScope (st 4)) := ⟨rfl, rfl, rfl, by decide +kernel, rfl, by decide +kernel, by decide +kernel⟩
def g_is_tuple : Sm Fl := (mRet (mLf (mAndV (mIsi "tuple" (mRd 0)) (mOp dEq (mVal (mCallG dLen (mArgs (mCons (mRef 0) mNil)))) (mRef 1)))))
def f_is_tuple : List D → Res := fnOf 2 g_is_tuple
theorem ok_is_tuple {P : Program} {w : World} {K : PySem.W.Frag} {mg : Str → Option Value} {base : Heap} {fa : Addr} {fd : FuncData} (k : Nat) (F : FnP K "is_tuple" (st 4) fa fd)  (m_len : mg "len" = none) (m_isinstance : mg "isinstance" = none) (m_tuple : mg "tuple" = none) : FnG P w K mg base (L2.CX P w) (k + 1) fa fd ["thing", "size"] (spV K mg 2 (fnOf 2 (g_is_tuple))) :=
  have S := S_is_tuple
  def_ok F S fun cdv A outer s H E hr =>
  (vss_one (vs_ret (VE.own (ve_and (ve_isi (x := "a") m_isinstance (vo_var 0) m_tuple (boot_ok_tuple)) (ve_one (ve_cp (od_eq hr.units) (VE.vr (ve_callB cg_len rfl m_len boot_ok_len (VA.vd (va_cons (vr_var 0) va_nil)))) (vr_var 1)))))))
theorem S_is_place : FnScope ["thing", "side"] ["thing"] (defScope (st 5)) := ⟨rfl, rfl, rfl, by decide +kernel, rfl, by decide +kernel, by decide +kernel⟩
def g_is_place : Sm Fl := (mRet (mLf (mAndV (mCall 2 f_is_tuple (mArgs (mCons (mRef 0) (mCons (mVal (Sm.p (.int 3))) mNil)))) (mCallG dAll (mArgs (mCons (mVal (mLc (mSeqD (mVar 0)) (gN false 1) [1] (Sm.p true) (mCall 3 f_is_between (mArgs (mCons (mRef 1) (mCons (mVal (mNeg (Sm.p (.int 1000)))) (mCons (mVal (Sm.p (.int 1000))) mNil))))))) mNil))))))
def f_is_place : List D → Res := fnOf 2 g_is_place
theorem ok_is_place {kis_between kis_tuple : Nat} {P : Program} {w : World} {K : PySem.W.Frag} {mg : Str → Option Value} {base : Heap} {fa : Addr} {fd : FuncData} (k : Nat) (F : FnP K "is_place" (st 5) fa fd) (hkis_between : kis_between ≤ k) (hkis_tuple : kis_tuple ≤ k) (c_is_between : Callee P w K mg base "is_between" kis_between ["thing", "least", "most"] (spV K mg 3 f_is_between)) (c_is_tuple : Callee P w K mg base "is_tuple" kis_tuple ["thing", "size"] (spV K mg 2 f_is_tuple)) (m_all : mg "all" = none) (i_MOST_SIDE : ∃ t, mg "MOST_SIDE" = some (.int 1000 t)) : FnG P w K mg base (L2.CX P w) (k + 1) fa fd ["thing"] (spV K mg 1 (fnOf 2 (g_is_place))) :=
  have S := S_is_place
  def_ok F S fun cdv A outer s H E hr =>
  (vss_one (vs_ret (VE.own (ve_and (ve_call c_is_tuple.d (hr.mono (by omega)) (VA.vd (va_cons (vr_var 0) (va_cons (VE.vr ve_int) va_nil)))) (VE.frz (ve_one (ve_callB (cg_all rfl) rfl m_all boot_ok_all (VA.vd (va_cons (VE.vr (ve_lc rfl S.nd (vi_seq (ve_var 0)) (blkOk_by (N := ["thing", "side"]) (sc := defScope (st 5)) (by decide +kernel)) (own := [("side", 1)]) ⟨fun _ _ _ _ _ => (vg_name 1 (.inl rfl) S.nd), fun _ _ _ _ _ => vi_none, fun _ _ _ _ _ => (ve_call c_is_between.d (hr.mono (by omega)) (VA.vd (va_cons (vr_var 1) (va_cons (VE.vr (ve_neg (ve_glInt i_MOST_SIDE))) (va_cons (VE.vr (ve_glInt i_MOST_SIDE)) va_nil))))), by decide, (.inl rfl)⟩)) va_nil)))))))))
theorem S_law_right : FnScope ["_law_box_here", "_law_a", "_law_b", "_law_c", "_law_place", "_law_k", "_law_things", "_law_turn", "_law_thing"] ["_law_box_here"] (defScope (st 25)) := ⟨rfl, rfl, rfl, by decide +kernel, rfl, by decide +kernel, by decide +kernel⟩
def b_law_right_1 : Sm Fl := (mSeq (mAsg (mLk (mCallR 3 (f_law_bent 4) 0 (mCons (mRef 4) (mCons (mVal (Sm.p (.int 2))) mNil)))) (gN false 8))
  (mDrop (mApp 6 (mLk (mIf (mT (mOp dEq (mVal (mCallR 2 f_law_take 0 (mCons (mVal (Sm.p (.int 3))) mNil))) (mVal (Sm.p (.int 0))))) (mCallR 3 (f_law_bent 4) 0 (mCons (mRef 8) (mCons (mVal (Sm.p (.int 2))) mNil))) (mLf (mVar 8)))))))
theorem b_law_right_1_E {E : Env3} : b_law_right_1 E = (mSeq (mAsg (mLk (mCallR 3 (f_law_bent 4) 0 (mCons (mRef 4) (mCons (mVal (Sm.p (.int 2))) mNil)))) (gN false 8))
  (mDrop (mApp 6 (mLk (mIf (mT (mOp dEq (mVal (mCallR 2 f_law_take 0 (mCons (mVal (Sm.p (.int 3))) mNil))) (mVal (Sm.p (.int 0))))) (mCallR 3 (f_law_bent 4) 0 (mCons (mRef 8) (mCons (mVal (Sm.p (.int 2))) mNil))) (mLf (mVar 8))))))) E := rfl
def g_law_right : Sm Fl := (mSeq (mAsg (mLk (mCallR 1 f_law_vectors 0 mNil)) (gSeq3 3 (gCons3 (gN false 1) (gCons3 (gN false 2) (gCons3 (gN false 3) gNil3)))))
  (mSeq (mIf (mOr (mNot (mT (mCall 3 f_law_sums_right (mArgs (mCons (mRef 1) (mCons (mRef 2) (mCons (mRef 3) mNil))))))) (mNot (mT (mCall 3 f_law_sums_right (mArgs (mCons (mRef 3) (mCons (mRef 1) (mCons (mRef 2) mNil))))))))
  (mRet (mLf (Sm.p (.bl false))))
  (Sm.p .next))
  (mSeq (mAsg (mLk (mCallG dTuple (mArgs (mCons (mVal (mLc (mRange1 (mArgs (mCons (mVal (Sm.p (.int 3))) mNil))) (gN false 5) [5] (Sm.p true) (mLf (mIx (mLk (mLst (mCons (mLf (Sm.p (.int 0))) (mCons (mLf (Sm.p (.int 1000))) (mCons (mLf (mNeg (Sm.p (.int 1000)))) (mCons (mLf (mOp dSub (mVal (mCallR 2 f_law_take 0 (mCons (mVal (Sm.p (.int 2001))) mNil))) (mVal (Sm.p (.int 1000))))) mNil)))))) (mCallR 2 f_law_take 0 (mCons (mVal (Sm.p (.int 4))) mNil)))))) mNil)))) (gN false 4))
  (mSeq (mAsg (mLst (mCons (mLf (mVar 4)) (mCons (mLf (Sm.p .non)) (mCons (mLf (Sm.p (.bl true))) (mCons (mLf (Sm.p (.int 0))) (mCons (mLf (Sm.p (.str ""))) (mCons (mLk (mTup mNil)) (mCons (mLk (mLst mNil)) (mCons (mLk (mCallG dList (mArgs (mCons (mRef 4) mNil)))) (mCons (mLk (mSl (mRef 4) (Sm.p none) (mPart (Sm.p (.int 2))))) (mCons (mLk (mOp dAddX (mRef 4) (mVal (mTup (mCons (Sm.p (.int 0)) mNil))))) (mCons (mLk (mTup (mCons (mLf (Sm.p (.int 0))) (mCons (mLf (Sm.p (.int 0))) (mCons (mLf (Sm.p (.bl true))) mNil))))) (mCons (mLk (mTup (mCons (mLf (Sm.p (.int 0))) (mCons (mLf (Sm.p (.int 0))) (mCons (mLf (Sm.p (.int 1001))) mNil))))) mNil))))))))))))) (gN true 6))
  (mSeq (Sm.b (mRange1 (mArgs (mCons (mVal (Sm.p (.int 16))) mNil))) (mFor (gN false 7) (P3.forget []) b_law_right_1))
  (mSeq (mAsg (mOp dAddX (mRef 6) (mVal (mLst (mCons (mLk (mTup (mCons (mLf (Sm.p (.int 0))) (mCons (mLf (mNeg (Sm.p (.int 1001)))) (mCons (mLf (Sm.p (.int 0))) mNil))))) (mCons (mLk (mTup (mCons (mLf (Sm.p (.str "0"))) (mCons (mLf (Sm.p (.int 0))) (mCons (mLf (Sm.p (.int 0))) mNil))))) (mCons (mLk (mTup (mCons (mTup (mCons (mLf (Sm.p (.int 0))) (mCons (mLf (Sm.p (.int 0))) (mCons (mLf (Sm.p (.int 0))) mNil)))) mNil))) (mCons (mLk (mTup (mCons (mLf (Sm.p (.int 0))) (mCons (mLf (Sm.p (.int 0))) (mCons (mLf (Sm.p .non)) mNil))))) mNil))))))) (gN true 6))
  (mRet (mCallG dAll (mArgs (mCons (mVal (mLc (mSeqD (mFrz 6)) (gN false 8) [8] (Sm.p true) (mCall 2 (f_law_same 4) (mArgs (mCons (mVal (mCall 1 f_is_place (mArgs (mCons (mRef 8) mNil)))) (mCons (mVal (mCall 1 f_law_is_place (mArgs (mCons (mRef 8) mNil)))) mNil)))))) mNil))))))))))
def f_law_right : D → List D → ResR := fnOfR 9 g_law_right
theorem ok_law_right {klaw_vectors klaw_sums_right klaw_take klaw_bent klaw_same klaw_is_place kis_place : Nat} {P : Program} {w : World} {K : PySem.W.Frag} {mg : Str → Option Value} {base : Heap} {fa : Addr} {fd : FuncData} (k : Nat) (F : FnP K "_law_right" (st 25) fa fd) (hklaw_vectors : klaw_vectors ≤ k) (hklaw_sums_right : klaw_sums_right ≤ k) (hklaw_take : klaw_take ≤ k) (hklaw_bent : klaw_bent ≤ k) (hklaw_same : klaw_same ≤ k) (hklaw_is_place : klaw_is_place ≤ k) (hkis_place : kis_place ≤ k) (c_law_vectors : Callee P w K mg base "_law_vectors" klaw_vectors ["_law_box_here"] (spR K mg 1 f_law_vectors)) (c_law_sums_right : Callee P w K mg base "_law_sums_right" klaw_sums_right ["_law_a", "_law_b", "_law_c"] (spV K mg 3 f_law_sums_right)) (c_law_take : Callee P w K mg base "_law_take" klaw_take ["_law_box_here", "_law_many"] (spR K mg 2 f_law_take)) (c_law_bent : Callee P w K mg base "_law_bent" klaw_bent ["_law_box_here", "_law_thing", "_law_deep"] (spR K mg 3 (f_law_bent 4))) (c_law_same : Callee P w K mg base "_law_same" klaw_same ["_law_found", "_law_due"] (spV K mg 2 (f_law_same 4))) (c_law_is_place : Callee P w K mg base "_law_is_place" klaw_is_place ["_law_thing"] (spV K mg 1 f_law_is_place)) (c_is_place : Callee P w K mg base "is_place" kis_place ["thing"] (spV K mg 1 f_is_place)) (m_tuple : mg "tuple" = none) (m_range : mg "range" = none) (m_list : mg "list" = none) (m_all : mg "all" = none) : FnG P w K mg base (L2.CX P w) (k + 1) fa fd ["_law_box_here"] (spR K mg 1 (fnOfR 9 (g_law_right))) :=
  have S := S_law_right
  defR_ok F S fun p0 cdv A outer s H E hr =>
  (vss_cons (vs_asg (VE.frz (ve_lk (ve_callR 0 c_law_vectors.d (hr.mono (by omega)) va_nil))) (vg_tup rfl (vgs_cons (vg_name 1 (.inr (by decide)) S.nd) (vgs_cons (vg_name 2 (.inr (by decide)) S.nd) (vgs_cons (vg_name 3 (.inr (by decide)) S.nd) vgs_nil)))) (nox_seq (nox_cons nox_name (nox_cons nox_name (nox_cons nox_name nox_nil)))))
  (vss_cons (vs_if (VW.vt (vw_or (vt_not (vt_val (ve_call c_law_sums_right.d (hr.mono (by omega)) (VA.vd (va_cons (vr_var 1) (va_cons (vr_var 2) (va_cons (vr_var 3) va_nil))))))) (vw_or1 (vt_not (vt_val (ve_call c_law_sums_right.d (hr.mono (by omega)) (VA.vd (va_cons (vr_var 3) (va_cons (vr_var 1) (va_cons (vr_var 2) va_nil))))))))))
  (vss_one (vs_ret (VE.own ve_bl)))
  vss_nil)
  (vss_cons (vs_set 4 (.inr (by decide)) S.nd (VE.frz (ve_lk (ve_callTy cg_tuple rfl m_tuple boot_ok_tuple (VA.vd (va_cons (VE.vr (ve_lc rfl S.nd (vi_range1 m_range (VA.vd (va_cons (VE.vr ve_int) va_nil))) (blkOk_by (N := ["_law_box_here", "_law_a", "_law_b", "_law_c", "_law_place", "_law_k", "_law_things", "_law_turn", "_law_thing"]) (sc := defScope (st 25)) (by decide +kernel)) (own := [("_law_k", 5)]) ⟨fun _ _ _ _ _ => (vg_name 5 (.inr (by decide)) S.nd), fun _ _ _ _ _ => vi_none, fun _ _ _ _ _ => (VE.own (ve_ix hr.u1 (VE.frz (ve_lk (ve_lst (vw_cons (VE.own ve_int) (vw_cons (VE.own ve_int) (vw_cons (VE.own (ve_neg ve_int)) (vw_cons (VE.own (ve_bin od_sub (VE.vr (ve_callR 0 c_law_take.d (hr.mono (by omega)) (va_cons (VE.vr ve_int) va_nil))) (VE.vr ve_int))) vw_nil))))))) (ve_callR 0 c_law_take.d (hr.mono (by omega)) (va_cons (VE.vr ve_int) va_nil)))), by decide, (.inr (by decide))⟩)) va_nil))))))
  (vss_cons (vs_set 6 (.inr (by decide)) S.nd (ve_lst (vw_cons (VE.own (ve_var 4)) (vw_cons (VE.own ve_non) (vw_cons (VE.own ve_bl) (vw_cons (VE.own ve_int) (vw_cons (VE.own ve_str) (vw_cons (ve_lk (ve_tupW vw_nil)) (vw_cons (ve_lk (ve_lst vw_nil)) (vw_cons (ve_lk (ve_callTy cg_list rfl m_list boot_ok_list (VA.vd (va_cons (vr_var 4) va_nil)))) (vw_cons (ve_lk (ve_sl (vr_var 4) vp_none (vp_some ve_int))) (vw_cons (ve_lk (ve_binG og_add (vr_var 4) (VE.vr (ve_tup (vb_cons ve_int vb_nil))))) (vw_cons (ve_lk (ve_tupW (vw_cons (VE.own ve_int) (vw_cons (VE.own ve_int) (vw_cons (VE.own ve_bl) vw_nil))))) (vw_cons (ve_lk (ve_tupW (vw_cons (VE.own ve_int) (vw_cons (VE.own ve_int) (vw_cons (VE.own ve_int) vw_nil))))) vw_nil))))))))))))))
  (vss_cons (vs_for [] (.inr (by decide)) (passes_of rfl) rfl (vi_range1 m_range (VA.vd (va_cons (VE.vr ve_int) va_nil))) (vg_name 7 (.inr (by decide)) S.nd)
  (vss_cons (vs_set 8 (.inr (by decide)) S.nd (VE.frz (ve_lk (ve_callR 0 c_law_bent.d (hr.mono (by omega)) (va_cons (vr_var 4) (va_cons (VE.vr ve_int) va_nil))))))
  (vss_one (vs_expr (ve_app 6 (h := (ve_lk (ve_if (vt_cp (od_eq hr.units) (VE.vr (ve_callR 0 c_law_take.d (hr.mono (by omega)) (va_cons (VE.vr ve_int) va_nil))) (VE.vr ve_int)) (ve_callR 0 c_law_bent.d (hr.mono (by omega)) (va_cons (vr_var 8) (va_cons (VE.vr ve_int) va_nil))) (VE.own (ve_var 8))))))))))
  (vss_cons (vs_set 6 (.inr (by decide)) S.nd (ve_binG og_add (vr_var 6) (VE.vr (ve_lst (vw_cons (ve_lk (ve_tupW (vw_cons (VE.own ve_int) (vw_cons (VE.own (ve_neg ve_int)) (vw_cons (VE.own ve_int) vw_nil))))) (vw_cons (ve_lk (ve_tupW (vw_cons (VE.own ve_str) (vw_cons (VE.own ve_int) (vw_cons (VE.own ve_int) vw_nil))))) (vw_cons (ve_lk (ve_tupW (vw_cons (ve_tupW (vw_cons (VE.own ve_int) (vw_cons (VE.own ve_int) (vw_cons (VE.own ve_int) vw_nil)))) vw_nil))) (vw_cons (ve_lk (ve_tupW (vw_cons (VE.own ve_int) (vw_cons (VE.own ve_int) (vw_cons (VE.own ve_non) vw_nil))))) vw_nil))))))))
  (vss_one (vs_ret (ve_callB (cg_all rfl) rfl m_all boot_ok_all (VA.vd (va_cons (VE.vr (ve_lc rfl S.nd (vi_seq (ve_frz 6 (.inr (by decide)))) (blkOk_by (N := ["_law_box_here", "_law_a", "_law_b", "_law_c", "_law_place", "_law_k", "_law_things", "_law_turn", "_law_thing"]) (sc := defScope (st 25)) (by decide +kernel)) (own := [("_law_thing", 8)]) ⟨fun _ _ _ _ _ => (vg_name 8 (.inr (by decide)) S.nd), fun _ _ _ _ _ => vi_none, fun _ _ _ _ _ => (ve_call c_law_same.d (hr.mono (by omega)) (VA.vd (va_cons (VE.vr (ve_call c_is_place.d (hr.mono (by omega)) (VA.vd (va_cons (vr_var 8) va_nil)))) (va_cons (VE.vr (ve_call c_law_is_place.d (hr.mono (by omega)) (VA.vd (va_cons (vr_var 8) va_nil)))) va_nil)))), by decide, (.inr (by decide))⟩)) va_nil)))))))))))
theorem S_law_box : FnScope ["_law_cells", "_law_k", "_law_cell"] ["_law_cells", "_law_k"] (defScope (st 11)) := ⟨rfl, rfl, rfl, by decide +kernel, rfl, by decide +kernel, by decide +kernel⟩
def g_law_box : Sm Fl := (mSeq (mAsg (mIf (mT (mOp dLtI (mRef 1) (mVal (mCallG dLen (mArgs (mCons (mRef 0) mNil)))))) (mIx (mVar 0) (mVar 1)) (Sm.p (.int 0))) (gN false 2))
  (mRet (mLst (mCons (mLf (mOp dMul (mVal (mCallG dAbs (mArgs (mCons (mRef 2) mNil)))) (mVal (mCallG dInt1 (mArgs (mCons (mVal (mOp dGeI (mVal (mCallG dAbs (mArgs (mCons (mRef 2) mNil)))) (mVal (mOp dPow (mVal (Sm.p (.int 10))) (mVal (Sm.p (.int 18))))))) mNil)))))) (mCons (mLf (mOp dMod (mVal (mOp dAddX (mRef 2) (mVal (mOp dMul (mVal (Sm.p (.int 7907))) (mRef 1))))) (mVal (Sm.p (.int 2147483629))))) (mCons (mLf (Sm.p (.int 0))) mNil))))))
def f_law_box : List D → Res := fnOf 3 g_law_box
theorem ok_law_box {P : Program} {w : World} {K : PySem.W.Frag} {mg : Str → Option Value} {base : Heap} {fa : Addr} {fd : FuncData} (k : Nat) (F : FnP K "_law_box" (st 11) fa fd)  (m_len : mg "len" = none) (m_abs : mg "abs" = none) (m_int : mg "int" = none) : FnG P w K mg base (L2.CX P w) (k + 1) fa fd ["_law_cells", "_law_k"] (spV K mg 2 (fnOf 3 (g_law_box))) :=
  have S := S_law_box
  def_ok F S fun cdv A outer s H E hr =>
  (vss_cons (vs_set 2 (.inl rfl) S.nd (ve_if (vt_cp od_ltI (vr_var 1) (VE.vr (ve_callB cg_len rfl m_len boot_ok_len (VA.vd (va_cons (vr_var 0) va_nil))))) (ve_ix hr.u1 (ve_var 0) (ve_var 1)) ve_int))
  (vss_one (vs_ret (ve_lst (vw_cons (VE.own (ve_bin od_mul (VE.vr (ve_callB cg_abs rfl m_abs boot_ok_abs (VA.vd (va_cons (vr_var 2) va_nil)))) (VE.vr (ve_callTy cg_int rfl m_int boot_ok_int (VA.vd (va_cons (VE.vr (ve_cp od_ge (VE.vr (ve_callB cg_abs rfl m_abs boot_ok_abs (VA.vd (va_cons (vr_var 2) va_nil)))) (VE.vr (ve_bin od_pow (VE.vr ve_int) (VE.vr ve_int))))) va_nil)))))) (vw_cons (VE.own (ve_bin od_mod (VE.vr (ve_binG og_add (vr_var 2) (VE.vr (ve_bin od_mul (VE.vr ve_int) (vr_var 1))))) (VE.vr ve_int))) (vw_cons (VE.own ve_int) vw_nil)))))))
theorem S_law : FnScope ["_law_script", "_law_cells", "_law_k"] ["_law_script"] (defScope (st 26)) := ⟨rfl, rfl, rfl, by decide +kernel, rfl, by decide +kernel, by decide +kernel⟩
def g_law : Sm Fl := (mSeq (mAsg (mLk (mCall 2 f_law_folded (mArgs (mCons (mRef 0) (mCons (mVal (Sm.p (.int 8))) mNil))))) (gN false 1))
  (mRet (mCallG dAll (mArgs (mCons (mVal (mLc (mRange1 (mArgs (mCons (mVal (mCallG dMax2 (mArgs (mCons (mVal (Sm.p (.int 2))) (mCons (mVal (mCallG dLen (mArgs (mCons (mRef 1) mNil)))) mNil))))) mNil))) (gN false 2) [2] (Sm.p true) (mCallRT 1 f_law_right (mCall 2 f_law_box (mArgs (mCons (mRef 1) (mCons (mRef 2) mNil)))) mNil))) mNil)))))
def f_law : List D → Res := fnOf 3 g_law
theorem ok_law {klaw_folded klaw_right klaw_box : Nat} {P : Program} {w : World} {K : PySem.W.Frag} {mg : Str → Option Value} {base : Heap} {fa : Addr} {fd : FuncData} (k : Nat) (F : FnP K "law" (st 26) fa fd) (hklaw_folded : klaw_folded ≤ k) (hklaw_right : klaw_right ≤ k) (hklaw_box : klaw_box ≤ k) (c_law_folded : Callee P w K mg base "_law_folded" klaw_folded ["_law_script", "_law_many"] (spV K mg 2 f_law_folded)) (c_law_right : Callee P w K mg base "_law_right" klaw_right ["_law_box_here"] (spR K mg 1 f_law_right)) (c_law_box : Callee P w K mg base "_law_box" klaw_box ["_law_cells", "_law_k"] (spV K mg 2 f_law_box)) (m_all : mg "all" = none) (m_range : mg "range" = none) (m_max : mg "max" = none) (m_len : mg "len" = none) : FnG P w K mg base (L2.CX P w) (k + 1) fa fd ["_law_script"] (spV K mg 1 (fnOf 3 (g_law))) :=
  have S := S_law
  def_ok F S fun cdv A outer s H E hr =>
  (vss_cons (vs_set 1 (.inl rfl) S.nd (VE.frz (ve_lk (ve_call c_law_folded.d (hr.mono (by omega)) (VA.vd (va_cons (vr_var 0) (va_cons (VE.vr ve_int) va_nil)))))))
  (vss_one (vs_ret (ve_callB (cg_all rfl) rfl m_all boot_ok_all (VA.vd (va_cons (VE.vr (ve_lc rfl S.nd (vi_range1 m_range (VA.vd (va_cons (VE.vr (ve_callB (cg_max2 rfl) rfl m_max boot_ok_max (VA.vd (va_cons (VE.vr ve_int) (va_cons (VE.vr (ve_callB cg_len rfl m_len boot_ok_len (VA.vd (va_cons (vr_var 1) va_nil)))) va_nil))))) va_nil))) (blkOk_by (N := ["_law_script", "_law_cells", "_law_k"]) (sc := defScope (st 26)) (by decide +kernel)) (own := [("_law_k", 2)]) ⟨fun _ _ _ _ _ => (vg_name 2 (.inl rfl) S.nd), fun _ _ _ _ _ => vi_none, fun _ _ _ _ _ => (ve_callRT c_law_right.d (hr.mono (by omega)) (ve_call c_law_box.d (hr.mono (by omega)) (VA.vd (va_cons (vr_var 1) (va_cons (vr_var 2) va_nil)))) vb_nil), by decide, (.inl rfl)⟩)) va_nil))))))
end K01
end
section
set_option maxRecDepth 100000
set_option linter.all false
set_option Elab.async false
set_option autoImplicit false
set_option maxHeartbeats 8000000
set_option exponentiation.threshold 3000
/-! the laws' common helpers: _law_take, _law_folded, _law_box -/
namespace K01
open PySem PySem.Spec PyProof.Rows L2 P3
theorem sq_le {c n : Int} (h0 : 0 ≤ c) (h1 : c ≤ n) : 0 ≤ c * c ∧ c * c ≤ n * n := ⟨Int.mul_nonneg h0 h0, Int.mul_le_mul h1 h1 h0 (by omega)⟩
theorem take_ok (m : Int) (hm : 0 < m) (hm2 : m < 2 ^ 1999) {a b c : Int} (ha: 0 ≤ a) (hb : 0 ≤ b) (hb2 : b < 2147483629) (hc : 0 ≤ c) (hc2: c < 2^60) : ∃ r a' c', f_law_take (.lst [.int a,.int b,.int c]) [.int m] = .ok (.int r) (.lst [.int a',.int b,.int c']) ∧ 0 ≤ r ∧ r < m ∧ 0 ≤ a' ∧ c ≤ c' ∧ c' ≤ c+1 := by
  unfold f_law_take g_law_take
  have hm0 : m ≠ 0 := by omega
  by_cases h : 0 < a
  · simp (maxSteps := 3000000) (disch := first | assumption | decide | omega) only [e_b, e_ok, e_exc, e_bad, e_p, e_os, e_on, e_oif, slB_b, e_var, slD_b, slD_w, e_rdS, e_rd, okR_s, e_ref, slW_w, e_move, opt_s, opt_n, opt_if, e_rdL, e_lf, e_val, e_get_v, e_get_r, e_pair, e_op, e_T, e_isBl, e_and, e_or, e_not, e_andV, e_orV, e_notV, e_if, e_ap, e_bdif, e_seq, e_asg, e_gN, e_slt, e_slf, e_gnil, e_gcons, e_gseq, e_seqt, e_seql, e_seqf, e_ret, e_drop, e_ix, e_ixW, e_dix1, e_dix2, e_dix3, e_dix5, e_dix4, at0, at1, at2, at3, at4, at5, e_setIt, set0, set1, set2, e_cons, e_nil, e_args, e_ga0, e_ga1, e_tup, e_lst, e_callG, e_neg, e_intOf, res_ok, res_exc, e_call, resR_ok, resR_exc, e_callR, resT_ok, e_callRT, two_s, e_par2, e_part, e_sl, fin_next, fin_cont, fin_brk, fin_ret, e_fg0, e_fg1, e_for0, e_while, cat_ok, bdd_ok, e_comp0, e_comp1, e_lc, e_seqD, e_range1, e_range2, e_enum, e_zip, e_isi, e_isi2, endV_ret, endV_next, endV_exc, e_fn, endR_ret, endR_next, e_fnR, e_endVif, e_endRif, e_rooted, d_add, d_sub, d_mul, d_div, d_mod, d_pow, d_lt, d_le, d_gt, d_ge, d_eq_int, d_ne_int, d_abs, d_int_b, d_int_i, lf_int, lf_bl, lf_str, lf_non, lf_tup, lfs_nil, lfs_cons, e_aug, okL_s, e_refL, e_ins, e_app, ite_and, ite_or, ite_andD, ite_orD, e_setIt2, e_frz, e_ixW2, e_lzip, dTL2, e_qvar, qSl_i, e_qop, d_addI, lfs_rep, e_ext, e_rep, e_index, e_isl, e_isf, e_gst, e_gtup2, lfs_rev, e_revS, e_lk, e_lki, e_lkb, e_lks, e_lkn, e_lkt, e_lkl, e_lkf, e_lk0, e_lk1, lf_flst, startE, startR, List.map_cons, List.map_nil, List.length_cons, List.length_nil, List.replicate, List.getElem?_cons_zero, List.getElem?_cons_succ, List.set_cons_zero, List.set_cons_succ, List.cons_append, List.nil_append, List.append_nil, if_true, if_false, reduceIte, Option.isSome_some, Option.map_some, Option.bind_some, Bool.and_eq_true, Bool.or_eq_true, and_self, and_true, true_and, or_true, true_or, or_false, false_or, Bool.and_true, Bool.true_and, Bool.and_self, Bool.not_true, Bool.not_false, decide_true, decide_false, reduceCtorEq, Bool.false_eq_true, Nat.reduceAdd, Nat.reduceSub, Nat.reduceMul, Nat.reduceLeDiff, Nat.reduceLT, ne_eq, not_false_eq_true, Nat.reducePow, Nat.reduceEqDiff, Int.reduceToNat, Int.reducePow, Int.reduceMul, Int.reduceAdd, Int.reduceSub, Int.reduceNeg, Int.reduceLT, Int.reduceLE, Int.reduceEq, noRef, decide_eq_true_eq, h, hm0, divOk_le, fmod_pos, fdiv_pos]
    refine ⟨_, _, _, rfl, Int.emod_nonneg _ hm0, Int.emod_lt_of_pos _ hm, Int.ediv_nonneg ha (by omega), ?_, ?_⟩ <;> omega
  · obtain ⟨h1, h2⟩ := sq_le (c := c + 1) (n := 2 ^ 60) (by omega) (by omega)
    simp (maxSteps := 3000000) (disch := first | assumption | decide | omega) only [e_b, e_ok, e_exc, e_bad, e_p, e_os, e_on, e_oif, slB_b, e_var, slD_b, slD_w, e_rdS, e_rd, okR_s, e_ref, slW_w, e_move, opt_s, opt_n, opt_if, e_rdL, e_lf, e_val, e_get_v, e_get_r, e_pair, e_op, e_T, e_isBl, e_and, e_or, e_not, e_andV, e_orV, e_notV, e_if, e_ap, e_bdif, e_seq, e_asg, e_gN, e_slt, e_slf, e_gnil, e_gcons, e_gseq, e_seqt, e_seql, e_seqf, e_ret, e_drop, e_ix, e_ixW, e_dix1, e_dix2, e_dix3, e_dix5, e_dix4, at0, at1, at2, at3, at4, at5, e_setIt, set0, set1, set2, e_cons, e_nil, e_args, e_ga0, e_ga1, e_tup, e_lst, e_callG, e_neg, e_intOf, res_ok, res_exc, e_call, resR_ok, resR_exc, e_callR, resT_ok, e_callRT, two_s, e_par2, e_part, e_sl, fin_next, fin_cont, fin_brk, fin_ret, e_fg0, e_fg1, e_for0, e_while, cat_ok, bdd_ok, e_comp0, e_comp1, e_lc, e_seqD, e_range1, e_range2, e_enum, e_zip, e_isi, e_isi2, endV_ret, endV_next, endV_exc, e_fn, endR_ret, endR_next, e_fnR, e_endVif, e_endRif, e_rooted, d_add, d_sub, d_mul, d_div, d_mod, d_pow, d_lt, d_le, d_gt, d_ge, d_eq_int, d_ne_int, d_abs, d_int_b, d_int_i, lf_int, lf_bl, lf_str, lf_non, lf_tup, lfs_nil, lfs_cons, e_aug, okL_s, e_refL, e_ins, e_app, ite_and, ite_or, ite_andD, ite_orD, e_setIt2, e_frz, e_ixW2, e_lzip, dTL2, e_qvar, qSl_i, e_qop, d_addI, lfs_rep, e_ext, e_rep, e_index, e_isl, e_isf, e_gst, e_gtup2, lfs_rev, e_revS, e_lk, e_lki, e_lkb, e_lks, e_lkn, e_lkt, e_lkl, e_lkf, e_lk0, e_lk1, lf_flst, startE, startR, List.map_cons, List.map_nil, List.length_cons, List.length_nil, List.replicate, List.getElem?_cons_zero, List.getElem?_cons_succ, List.set_cons_zero, List.set_cons_succ, List.cons_append, List.nil_append, List.append_nil, if_true, if_false, reduceIte, Option.isSome_some, Option.map_some, Option.bind_some, Bool.and_eq_true, Bool.or_eq_true, and_self, and_true, true_and, or_true, true_or, or_false, false_or, Bool.and_true, Bool.true_and, Bool.and_self, Bool.not_true, Bool.not_false, decide_true, decide_false, reduceCtorEq, Bool.false_eq_true, Nat.reduceAdd, Nat.reduceSub, Nat.reduceMul, Nat.reduceLeDiff, Nat.reduceLT, ne_eq, not_false_eq_true, Nat.reducePow, Nat.reduceEqDiff, Int.reduceToNat, Int.reducePow, Int.reduceMul, Int.reduceAdd, Int.reduceSub, Int.reduceNeg, Int.reduceLT, Int.reduceLE, Int.reduceEq, noRef, decide_eq_true_eq, h, hm0, divOk_le, fmod_pos, fdiv_pos, mulOk_le, powOk_le]
    refine ⟨_, _, _, rfl, Int.emod_nonneg _ hm0, Int.emod_lt_of_pos _ hm, ha, ?_, ?_⟩ <;> omega

/-- a box after at most n draws -/
def Box (n : Nat) (d : D) : Prop := ∃ a b c : Int, d = .lst [.int a, .int b, .int c] ∧ 0 ≤ a ∧ 0 ≤ b ∧ b < 2147483629 ∧ 0 ≤ c ∧ c ≤ n
theorem Box.mono {n m : Nat} {d : D} (h : Box n d) (l : n ≤ m) : Box m d := by
  obtain ⟨a, b, c, rfl, h⟩ := h
  exact ⟨a, b, c, rfl, h.1, h.2.1, h.2.2.1, h.2.2.2.1, by omega⟩
theorem Box.lf {n : Nat} {d : D} (h : Box n d) : rooted d = true := by obtain ⟨a, b, c, rfl, h⟩ := h; rfl
theorem take_box {n : Nat} {d : D} (h : Box n d) (hn : n < 2 ^ 59) (m : Int) (hm : 0 < m) (hm2 : m < 2 ^ 1999) : ∃ r d', f_law_take d [.int m] = .ok (.int r) d' ∧ 0 ≤ r ∧ r < m ∧ Box (n + 1) d' := by
  obtain ⟨a, b, c, rfl, h1, h2, h3, h4, h5⟩ := h
  obtain ⟨r, a', c', e, q1, q2, q3, q4, q5⟩ := take_ok m hm hm2 h1 h2 h3 h4 (by omega)
  exact ⟨r, _, e, q1, q2, a', b, c', rfl, q3, h2, h3, by omega, by omega⟩
theorem d_ne_bl {a b : Bool} : dNe (.bl a) (.bl b) = some (.bl (a != b)) := by cases a <;> cases b <;> rfl
theorem d_eq_bl {a b : Bool} : dEq (.bl a) (.bl b) = some (.bl (a == b)) := by cases a <;> cases b <;> rfl
theorem isi2_lt_l {ds : List D} : dIsi2 "list" "tuple" (.lst ds) = some (.bl true) := by simp [dIsi2, tyD, isTy]
theorem isi2_lt_t {ds : List D} : dIsi2 "list" "tuple" (.tup ds) = some (.bl true) := by simp [dIsi2, tyD, isTy]
theorem isi2_lt_i {i : Int} : dIsi2 "list" "tuple" (.int i) = some (.bl false) := by simp [dIsi2, tyD, isTy]
theorem isi2_lt_s {x : Str} : dIsi2 "list" "tuple" (.str x) = some (.bl false) := by simp [dIsi2, tyD, isTy]
theorem isi2_lt_b {b : Bool} : dIsi2 "list" "tuple" (.bl b) = some (.bl false) := by simp [dIsi2, tyD, isTy]
theorem isi2_lt_n : dIsi2 "list" "tuple" .non = some (.bl false) := by simp [dIsi2, tyD, isTy]
theorem isi2_sb_i {i : Int} : dIsi2 "str" "bool" (.int i) = some (.bl false) := by simp [dIsi2, tyD, isTy]
theorem isi2_sb_s {x : Str} : dIsi2 "str" "bool" (.str x) = some (.bl true) := by simp [dIsi2, tyD, isTy]
theorem isi2_sb_b {b : Bool} : dIsi2 "str" "bool" (.bl b) = some (.bl true) := by simp [dIsi2, tyD, isTy]
theorem isi_l_l {ds : List D} : dIsi "list" (.lst ds) = some (.bl true) := by simp [dIsi, tyD, isTy]
theorem isi_l_t {ds : List D} : dIsi "list" (.tup ds) = some (.bl false) := by simp [dIsi, tyD, isTy]
theorem isi_t_l {ds : List D} : dIsi "tuple" (.lst ds) = some (.bl false) := by simp [dIsi, tyD, isTy]
theorem isi_t_t {ds : List D} : dIsi "tuple" (.tup ds) = some (.bl true) := by simp [dIsi, tyD, isTy]
theorem isi_s_s {x : Str} : dIsi "str" (.str x) = some (.bl true) := by simp [dIsi, tyD, isTy]
theorem isi_s_b {b : Bool} : dIsi "str" (.bl b) = some (.bl false) := by simp [dIsi, tyD, isTy]
theorem isi_i_i {i : Int} : dIsi "int" (.int i) = some (.bl true) := by simp [dIsi, tyD, isTy]
theorem isi_b_i {i : Int} : dIsi "bool" (.int i) = some (.bl false) := by simp [dIsi, tyD, isTy]
theorem is_int {i : Int} : dIs (.int i) .non = some (.bl false) := rfl
theorem is_str {x : Str} : dIs (.str x) .non = some (.bl false) := rfl
theorem is_bl {b : Bool} : dIs (.bl b) .non = some (.bl false) := rfl
theorem is_non : dIs .non .non = some (.bl true) := rfl
theorem len_l {ds : List D} : dLen [.lst ds] = some (.int ds.length) := rfl
theorem len_t {ds : List D} : dLen [.tup ds] = some (.int ds.length) := rfl
theorem zip_l {xs ys : List D} : dZip (.lst xs) (.lst ys) = some (zipD xs ys) := rfl
theorem zip_t {xs ys : List D} : dZip (.tup xs) (.tup ys) = some (zipD xs ys) := rfl
theorem d_eq_str {x : Str} : dEq (.str x) (.str x) = some (.bl true) := by
  unfold dEq
  rw [if_pos (by rfl)]
  unfold eqD D.py
  simp [PyData.eqv]
theorem allBl_map : ∀ bs : List Bool, allBl (bs.map .bl) = some bs
  | [] => rfl
  | b :: bs => by simp only [List.map_cons, allBl, allBl_map bs]; rfl
theorem all_map (bs : List Bool) : dAll [.lst (bs.map .bl)] = some (.bl (bs.all id)) := by
  unfold dAll one
  simp only [lstIts, Option.bind_some, allBl_map, Option.map_some]
theorem all_true {α : Type} (xs : List α) : dAll [.lst (xs.map fun _ => .bl true)] = some (.bl true) := by
  have := all_map (xs.map fun _ => true)
  rw [List.map_map] at this
  have e : (D.bl ∘ fun (_ : α) => true) = fun _ => D.bl true := rfl
  rw [e] at this
  rw [this]
  congr 2
  rw [List.all_map]
  simp
theorem zip_len (xs : List D) : (zipD xs xs).length = xs.length := by rw [zipD_len]; omega
def tp (p : Int × Int) : D := .tup [.int p.1, .int p.2]
theorem cut1 (ds : List D) (m : Nat) : cutL ds none (some (m : Int)) = ds.take m := by
  unfold cutL HT.sIx
  simp only [List.drop_zero, Nat.sub_zero, Int.toNat_natCast]
  rw [if_neg (by omega)]
  rw [List.take_eq_take_iff]
  omega
theorem cut2 (ds : List D) (m : Nat) (h : ds.length ≤ 63) : cutL ds (some (m : Int)) (some 63) = ds.drop m := by
  unfold cutL HT.sIx
  simp only [Int.toNat_natCast]
  rw [if_neg (by omega), if_neg (by omega)]
  have e : (63 : Int).toNat = 63 := rfl
  rw [e]
  by_cases hm : m ≤ ds.length
  · rw [Nat.min_eq_left hm, Nat.min_eq_right h, List.take_of_length_le (by rw [List.length_drop]; omega)]
  · rw [List.drop_of_length_le (i := m) (by omega), List.drop_of_length_le (i := min m ds.length) (by omega), List.take_nil]
def prs (ns : List Int) : List (Int × Int) := ns.mapIdx fun i c => ((i : Int), c)
theorem enum_prs (ns : List Int) : enumD (ns.map .int) = (prs ns).map tp := by
  unfold enumD prs
  apply List.ext_getElem?
  intro i
  simp only [List.getElem?_mapIdx, List.getElem?_map, Option.map_map]
  cases ns[i]? <;> rfl
theorem prs_mem {ns : List Int} {p : Int × Int} (h : p ∈ prs ns) : 0 ≤ p.1 ∧ p.1 < ns.length ∧ p.2 ∈ ns := by
  unfold prs at h
  rw [List.mem_iff_getElem?] at h
  obtain ⟨i, h⟩ := h
  rw [List.getElem?_mapIdx] at h
  cases e : ns[i]? with
  | none => rw [e] at h; cases h
  | some c =>
    rw [e] at h
    cases h
    obtain ⟨hi, hc⟩ := List.getElem?_eq_some_iff.mp e
    exact ⟨by simp only []; omega, by simp only []; omega, List.mem_of_getElem? e⟩
theorem at_ints {cs : List Int} {j : Int} (h0 : 0 ≤ j) (h : j < cs.length) : ∃ c, c ∈ cs ∧ atI (cs.map D.int) j = some (.int c) := by
  have hj : j.toNat < cs.length := by omega
  refine ⟨cs[j.toNat], List.getElem_mem hj, ?_⟩
  rw [atI_nat h0 (by rw [List.length_map]; exact h), List.getElem?_map, List.getElem?_eq_getElem hj]
  rfl
theorem set_ints {cs : List Int} {j z : Int} (h0 : 0 ≤ j) (h : j < cs.length) : dSet (.lst (cs.map D.int)) (.int j) (.int z) = some (.lst ((cs.set j.toNat z).map D.int)) := by
  rw [e_set, ixN_nat h0 (by rw [List.length_map]; exact h), Option.map_some, List.map_set]
theorem fold_loop (S : Slot) (m : Nat) (hm : 0 < m) (hm2 : m ≤ 63) (A : Nat) (hA : A < 2 ^ (1048575 + 1)) : ∀ (ps : List (Int × Int)) (cells : List Int) (s3 s4 : Slot) (B : Nat), cells.length = m → (∀ x ∈ cells, x.natAbs ≤ B) → (∀ p ∈ ps, 0 ≤ p.1 ∧ p.1 ≤ 62 ∧ p.2.natAbs ≤ A) →
    ∃ (cells' : List Int) (t3 t4 : Slot), mFor (gSeq3 2 (gCons3 (gN false 3) (gCons3 (gN false 4) gNil3))) (P3.forget []) b_law_folded_1 (ps.map tp) [S, .b (.int m), .w (.lst (cells.map D.int)), s3, s4] = .ok .next [S, .b (.int m), .w (.lst (cells'.map D.int)), t3, t4] ∧ cells'.length = m ∧ ∀ x ∈ cells', x.natAbs ≤ B + ps.length * (64 * A)
  | [], cells, s3, s4, B, hl, hB, _ => ⟨cells, s3, s4, rfl, hl, fun x hx => by have := hB x hx; omega⟩
  | p :: ps, cells, s3, s4, B, hl, hB, hp => by
    obtain ⟨p1, p2, p3⟩ := hp p List.mem_cons_self
    have hm0 : (0 : Int) < (m : Int) := by omega
    have hm1 : (m : Int) ≠ 0 := by omega
    have j0 : 0 ≤ p.1 % (m : Int) := Int.emod_nonneg _ hm1
    have j1 : p.1 % (m : Int) < cells.length := by rw [hl]; exact Int.emod_lt_of_pos _ hm0
    obtain ⟨c, hc, ec⟩ := at_ints j0 j1
    have mu : mulOk p.2 (p.1 + 2) = true := mulOk_of (a := 1048575) (b := 9) (Nat.lt_of_le_of_lt p3 hA) (by omega) (by omega)
    have es := set_ints (cs := cells) (z := c + p.2 * (p.1 + 2)) j0 j1
    obtain ⟨cells', t3, t4, ih, hl', hB'⟩ := fold_loop S m hm hm2 A hA ps (cells.set (p.1 % (m : Int)).toNat (c + p.2 * (p.1 + 2))) (.b (.int p.1)) (.b (.int p.2)) (B + 64 * A) (by rw [List.length_set]; exact hl) (fun x hx => by
      rcases List.mem_or_eq_of_mem_set hx with h | rfl
      · have := hB x h; omega
      · have b1 := hB c hc
        have b2 : (p.2 * (p.1 + 2)).natAbs ≤ 64 * A := by
          rw [Int.natAbs_mul, Nat.mul_comm]
          exact Nat.mul_le_mul (by omega) p3
        omega) fun q hq => hp q (List.mem_cons_of_mem _ hq)
    refine ⟨cells', t3, t4, ?_, hl', fun x hx => ?_⟩
    · rw [← ih, List.map_cons, e_for1]
      have tq : seqOf (tp p) = some [.int p.1, .int p.2] := rfl
      simp (maxSteps := 3000000) (disch := first | assumption | decide | omega) only [e_b, e_ok, e_exc, e_bad, e_p, e_os, e_on, e_oif, slB_b, e_var, slD_b, slD_w, e_rdS, e_rd, okR_s, e_ref, slW_w, e_move, opt_s, opt_n, opt_if, e_rdL, e_lf, e_val, e_get_v, e_get_r, e_pair, e_op, e_T, e_isBl, e_and, e_or, e_not, e_andV, e_orV, e_notV, e_if, e_ap, e_bdif, e_seq, e_asg, e_gN, e_slt, e_slf, e_gnil, e_gcons, e_gseq, e_seqt, e_seql, e_seqf, e_ret, e_drop, e_ix, e_ixW, e_dix1, e_dix2, e_dix3, e_dix5, e_dix4, at0, at1, at2, at3, at4, at5, e_setIt, set0, set1, set2, e_cons, e_nil, e_args, e_ga0, e_ga1, e_tup, e_lst, e_callG, e_neg, e_intOf, res_ok, res_exc, e_call, resR_ok, resR_exc, e_callR, resT_ok, e_callRT, two_s, e_par2, e_part, e_sl, fin_next, fin_cont, fin_brk, fin_ret, e_fg0, e_fg1, e_for0, e_while, cat_ok, bdd_ok, e_comp0, e_comp1, e_lc, e_seqD, e_range1, e_range2, e_enum, e_zip, e_isi, e_isi2, endV_ret, endV_next, endV_exc, e_fn, endR_ret, endR_next, e_fnR, e_endVif, e_endRif, e_rooted, d_add, d_sub, d_mul, d_div, d_mod, d_pow, d_lt, d_le, d_gt, d_ge, d_eq_int, d_ne_int, d_abs, d_int_b, d_int_i, lf_int, lf_bl, lf_str, lf_non, lf_tup, lfs_nil, lfs_cons, e_aug, okL_s, e_refL, e_ins, e_app, ite_and, ite_or, ite_andD, ite_orD, e_setIt2, e_frz, e_ixW2, e_lzip, dTL2, e_qvar, qSl_i, e_qop, d_addI, lfs_rep, e_ext, e_rep, e_index, e_isl, e_isf, e_gst, e_gtup2, lfs_rev, e_revS, e_lk, e_lki, e_lkb, e_lks, e_lkn, e_lkt, e_lkl, e_lkf, e_lk0, e_lk1, lf_flst, startE, startR, List.map_cons, List.map_nil, List.length_cons, List.length_nil, List.replicate, List.getElem?_cons_zero, List.getElem?_cons_succ, List.set_cons_zero, List.set_cons_succ, List.cons_append, List.nil_append, List.append_nil, if_true, if_false, reduceIte, Option.isSome_some, Option.map_some, Option.bind_some, Bool.and_eq_true, Bool.or_eq_true, and_self, and_true, true_and, or_true, true_or, or_false, false_or, Bool.and_true, Bool.true_and, Bool.and_self, Bool.not_true, Bool.not_false, decide_true, decide_false, reduceCtorEq, Bool.false_eq_true, Nat.reduceAdd, Nat.reduceSub, Nat.reduceMul, Nat.reduceLeDiff, Nat.reduceLT, ne_eq, not_false_eq_true, Nat.reducePow, Nat.reduceEqDiff, Int.reduceToNat, Int.reducePow, Int.reduceMul, Int.reduceAdd, Int.reduceSub, Int.reduceNeg, Int.reduceLT, Int.reduceLE, Int.reduceEq, noRef, decide_eq_true_eq, tq, b_law_folded_1_E, hm1, fmod_pos, e_dix1, ec, mu, es]
    · have := hB' x hx
      rw [List.length_cons, Nat.add_mul]
      omega
def Bg (c : Int) : Prop := c.natAbs < 2 ^ (1048599 + 1)
theorem folded_ok {s : D} {ns : List Int} (hs : s = .lst (ns.map .int) ∨ s = .clst (ns.map .int)) (hn : ns.length ≤ 63) (hb : ∀ z ∈ ns, Builtin.Int.intBits z ≤ 1048576) (m : Nat) (hm : 0 < m) (hm2 : m ≤ 63) :
    ∃ cs : List Int, f_law_folded [s, .int m] = .ok (.lst (cs.map .int)) ∧ cs.length ≤ m ∧ ∀ c ∈ cs, Bg c := by
  have hA : ∀ z ∈ ns, z.natAbs ≤ 2 ^ 1048576 - 1 := fun z hz => by
    have := intBits_le_iff.mp (hb z hz)
    omega
  have d1 : dSl s none (some (m : Int)) = some (.lst ((ns.take m).map .int)) := by
    rw [List.map_take]
    rcases hs with rfl | rfl <;> simp only [dSl, cut1, lfs_take (lfs_ints ns), if_true]
  have d2 : dSl s (some (m : Int)) (some 63) = some (.lst ((ns.drop m).map .int)) := by
    rw [List.map_drop]
    have hl : (ns.map D.int).length ≤ 63 := by rw [List.length_map]; exact hn
    rcases hs with rfl | rfl <;> simp only [dSl, cut2 _ _ hl, lfs_drop (lfs_ints ns), if_true]
  have d3 : dList [.lst ((ns.take m).map .int)] = some (.lst ((ns.take m).map .int)) := by
    simp only [dList, one, itemsOf, Option.bind_some, lfs_ints, if_true]
  have d4 : lstOf (.lst ((ns.drop m).map .int)) = some ((ns.drop m).map .int) := rfl
  have pw : (2 : Nat) ^ (1048599 + 1) = 2 ^ 1048576 * 2 ^ 24 := by rw [← Nat.pow_add]
  generalize hP : (2 : Nat) ^ 1048576 = P at *
  have hP0 : 0 < P := by rw [← hP]; exact Nat.pow_pos (by omega)
  obtain ⟨cells', t3, t4, e, hl, hB⟩ : ∃ (cells' : List Int) (t3 t4 : Slot), mFor (gSeq3 2 (gCons3 (gN false 3) (gCons3 (gN false 4) gNil3))) (P3.forget []) b_law_folded_1 ((prs (ns.drop m)).map tp) [.b s, .b (.int m), .w (.lst ((ns.take m).map D.int)), .no, .no] = .ok .next [.b s, .b (.int m), .w (.lst (cells'.map D.int)), t3, t4] ∧ cells'.length ≤ m ∧ ∀ x ∈ cells', x.natAbs ≤ (P - 1) + 63 * (64 * (P - 1)) := by
    by_cases h : ns.length ≤ m
    · rw [List.drop_of_length_le h]
      refine ⟨ns.take m, .no, .no, rfl, by rw [List.length_take]; omega, fun x hx => ?_⟩
      have := hA x (List.mem_of_mem_take hx)
      omega
    · obtain ⟨c, t3, t4, e, hl, hB⟩ := fold_loop (.b s) m hm hm2 (P - 1) (by omega) (prs (ns.drop m)) (ns.take m) .no .no (P - 1) (by rw [List.length_take]; omega) (fun x hx => hA x (List.mem_of_mem_take hx)) fun p hp => by
        obtain ⟨a1, a2, a3⟩ := prs_mem hp
        rw [List.length_drop] at a2
        exact ⟨a1, by omega, hA _ (List.mem_of_mem_drop a3)⟩
      refine ⟨c, t3, t4, e, by omega, fun x hx => Nat.le_trans (hB x hx) ?_⟩
      have : (prs (ns.drop m)).length ≤ 63 := by
        unfold prs
        rw [List.length_mapIdx, List.length_drop]
        omega
      exact Nat.add_le_add_left (Nat.mul_le_mul_right _ this) _
  refine ⟨cells', ?_, hl, fun x hx => by have := hB x hx; unfold Bg; rw [pw]; omega⟩
  unfold f_law_folded g_law_folded
  simp (maxSteps := 3000000) (disch := first | assumption | decide | omega) only [e_b, e_ok, e_exc, e_bad, e_p, e_os, e_on, e_oif, slB_b, e_var, slD_b, slD_w, e_rdS, e_rd, okR_s, e_ref, slW_w, e_move, opt_s, opt_n, opt_if, e_rdL, e_lf, e_val, e_get_v, e_get_r, e_pair, e_op, e_T, e_isBl, e_and, e_or, e_not, e_andV, e_orV, e_notV, e_if, e_ap, e_bdif, e_seq, e_asg, e_gN, e_slt, e_slf, e_gnil, e_gcons, e_gseq, e_seqt, e_seql, e_seqf, e_ret, e_drop, e_ix, e_ixW, e_dix1, e_dix2, e_dix3, e_dix5, e_dix4, at0, at1, at2, at3, at4, at5, e_setIt, set0, set1, set2, e_cons, e_nil, e_args, e_ga0, e_ga1, e_tup, e_lst, e_callG, e_neg, e_intOf, res_ok, res_exc, e_call, resR_ok, resR_exc, e_callR, resT_ok, e_callRT, two_s, e_par2, e_part, e_sl, fin_next, fin_cont, fin_brk, fin_ret, e_fg0, e_fg1, e_for0, e_while, cat_ok, bdd_ok, e_comp0, e_comp1, e_lc, e_seqD, e_range1, e_range2, e_enum, e_zip, e_isi, e_isi2, endV_ret, endV_next, endV_exc, e_fn, endR_ret, endR_next, e_fnR, e_endVif, e_endRif, e_rooted, d_add, d_sub, d_mul, d_div, d_mod, d_pow, d_lt, d_le, d_gt, d_ge, d_eq_int, d_ne_int, d_abs, d_int_b, d_int_i, lf_int, lf_bl, lf_str, lf_non, lf_tup, lfs_nil, lfs_cons, e_aug, okL_s, e_refL, e_ins, e_app, ite_and, ite_or, ite_andD, ite_orD, e_setIt2, e_frz, e_ixW2, e_lzip, dTL2, e_qvar, qSl_i, e_qop, d_addI, lfs_rep, e_ext, e_rep, e_index, e_isl, e_isf, e_gst, e_gtup2, lfs_rev, e_revS, e_lk, e_lki, e_lkb, e_lks, e_lkn, e_lkt, e_lkl, e_lkf, e_lk0, e_lk1, lf_flst, startE, startR, List.map_cons, List.map_nil, List.length_cons, List.length_nil, List.replicate, List.getElem?_cons_zero, List.getElem?_cons_succ, List.set_cons_zero, List.set_cons_succ, List.cons_append, List.nil_append, List.append_nil, if_true, if_false, reduceIte, Option.isSome_some, Option.map_some, Option.bind_some, Bool.and_eq_true, Bool.or_eq_true, and_self, and_true, true_and, or_true, true_or, or_false, false_or, Bool.and_true, Bool.true_and, Bool.and_self, Bool.not_true, Bool.not_false, decide_true, decide_false, reduceCtorEq, Bool.false_eq_true, Nat.reduceAdd, Nat.reduceSub, Nat.reduceMul, Nat.reduceLeDiff, Nat.reduceLT, ne_eq, not_false_eq_true, Nat.reducePow, Nat.reduceEqDiff, Int.reduceToNat, Int.reducePow, Int.reduceMul, Int.reduceAdd, Int.reduceSub, Int.reduceNeg, Int.reduceLT, Int.reduceLE, Int.reduceEq, noRef, decide_eq_true_eq, d1, d2, d3, d4, enum_prs, e]
theorem d_max2 {i j : Int} : dMax2 [.int i, .int j] = some (.int (if j > i then j else i)) := rfl
theorem box_ok (cs : List Int) (hc : ∀ c ∈ cs, Bg c) (k : Int) (k0 : 0 ≤ k) (k1 : k ≤ 62) : ∃ d, f_law_box [.flst (cs.map .int), .int k] = .ok d ∧ Box 0 d := by
  obtain ⟨c, e, hb⟩ : ∃ c : Int, mIf (mT (mOp dLtI (mRef 1) (mVal (mCallG dLen (mArgs (mCons (mRef 0) mNil)))))) (mIx (mVar 0) (mVar 1)) (Sm.p (.int 0)) [.b (.flst (cs.map .int)), .b (.int k), .no] = .ok (.int c) [.b (.flst (cs.map .int)), .b (.int k), .no] ∧ Bg c := by
    by_cases h : k < cs.length
    · obtain ⟨c, hm, e⟩ := at_ints k0 h
      exact ⟨c, by simp (maxSteps := 3000000) (disch := first | assumption | decide | omega) only [e_b, e_ok, e_exc, e_bad, e_p, e_os, e_on, e_oif, slB_b, e_var, slD_b, slD_w, e_rdS, e_rd, okR_s, e_ref, slW_w, e_move, opt_s, opt_n, opt_if, e_rdL, e_lf, e_val, e_get_v, e_get_r, e_pair, e_op, e_T, e_isBl, e_and, e_or, e_not, e_andV, e_orV, e_notV, e_if, e_ap, e_bdif, e_seq, e_asg, e_gN, e_slt, e_slf, e_gnil, e_gcons, e_gseq, e_seqt, e_seql, e_seqf, e_ret, e_drop, e_ix, e_ixW, e_dix1, e_dix2, e_dix3, e_dix5, e_dix4, at0, at1, at2, at3, at4, at5, e_setIt, set0, set1, set2, e_cons, e_nil, e_args, e_ga0, e_ga1, e_tup, e_lst, e_callG, e_neg, e_intOf, res_ok, res_exc, e_call, resR_ok, resR_exc, e_callR, resT_ok, e_callRT, two_s, e_par2, e_part, e_sl, fin_next, fin_cont, fin_brk, fin_ret, e_fg0, e_fg1, e_for0, e_while, cat_ok, bdd_ok, e_comp0, e_comp1, e_lc, e_seqD, e_range1, e_range2, e_enum, e_zip, e_isi, e_isi2, endV_ret, endV_next, endV_exc, e_fn, endR_ret, endR_next, e_fnR, e_endVif, e_endRif, e_rooted, d_add, d_sub, d_mul, d_div, d_mod, d_pow, d_lt, d_le, d_gt, d_ge, d_eq_int, d_ne_int, d_abs, d_int_b, d_int_i, lf_int, lf_bl, lf_str, lf_non, lf_tup, lfs_nil, lfs_cons, e_aug, okL_s, e_refL, e_ins, e_app, ite_and, ite_or, ite_andD, ite_orD, e_setIt2, e_frz, e_ixW2, e_lzip, dTL2, e_qvar, qSl_i, e_qop, d_addI, lfs_rep, e_ext, e_rep, e_index, e_isl, e_isf, e_gst, e_gtup2, lfs_rev, e_revS, e_lk, e_lki, e_lkb, e_lks, e_lkn, e_lkt, e_lkl, e_lkf, e_lk0, e_lk1, lf_flst, startE, startR, List.map_cons, List.map_nil, List.length_cons, List.length_nil, List.replicate, List.getElem?_cons_zero, List.getElem?_cons_succ, List.set_cons_zero, List.set_cons_succ, List.cons_append, List.nil_append, List.append_nil, if_true, if_false, reduceIte, Option.isSome_some, Option.map_some, Option.bind_some, Bool.and_eq_true, Bool.or_eq_true, and_self, and_true, true_and, or_true, true_or, or_false, false_or, Bool.and_true, Bool.true_and, Bool.and_self, Bool.not_true, Bool.not_false, decide_true, decide_false, reduceCtorEq, Bool.false_eq_true, Nat.reduceAdd, Nat.reduceSub, Nat.reduceMul, Nat.reduceLeDiff, Nat.reduceLT, ne_eq, not_false_eq_true, Nat.reducePow, Nat.reduceEqDiff, Int.reduceToNat, Int.reducePow, Int.reduceMul, Int.reduceAdd, Int.reduceSub, Int.reduceNeg, Int.reduceLT, Int.reduceLE, Int.reduceEq, noRef, decide_eq_true_eq, len_f, List.length_map, h, e_dix5, e], hc c hm⟩
    · exact ⟨0, by simp (maxSteps := 3000000) (disch := first | assumption | decide | omega) only [e_b, e_ok, e_exc, e_bad, e_p, e_os, e_on, e_oif, slB_b, e_var, slD_b, slD_w, e_rdS, e_rd, okR_s, e_ref, slW_w, e_move, opt_s, opt_n, opt_if, e_rdL, e_lf, e_val, e_get_v, e_get_r, e_pair, e_op, e_T, e_isBl, e_and, e_or, e_not, e_andV, e_orV, e_notV, e_if, e_ap, e_bdif, e_seq, e_asg, e_gN, e_slt, e_slf, e_gnil, e_gcons, e_gseq, e_seqt, e_seql, e_seqf, e_ret, e_drop, e_ix, e_ixW, e_dix1, e_dix2, e_dix3, e_dix5, e_dix4, at0, at1, at2, at3, at4, at5, e_setIt, set0, set1, set2, e_cons, e_nil, e_args, e_ga0, e_ga1, e_tup, e_lst, e_callG, e_neg, e_intOf, res_ok, res_exc, e_call, resR_ok, resR_exc, e_callR, resT_ok, e_callRT, two_s, e_par2, e_part, e_sl, fin_next, fin_cont, fin_brk, fin_ret, e_fg0, e_fg1, e_for0, e_while, cat_ok, bdd_ok, e_comp0, e_comp1, e_lc, e_seqD, e_range1, e_range2, e_enum, e_zip, e_isi, e_isi2, endV_ret, endV_next, endV_exc, e_fn, endR_ret, endR_next, e_fnR, e_endVif, e_endRif, e_rooted, d_add, d_sub, d_mul, d_div, d_mod, d_pow, d_lt, d_le, d_gt, d_ge, d_eq_int, d_ne_int, d_abs, d_int_b, d_int_i, lf_int, lf_bl, lf_str, lf_non, lf_tup, lfs_nil, lfs_cons, e_aug, okL_s, e_refL, e_ins, e_app, ite_and, ite_or, ite_andD, ite_orD, e_setIt2, e_frz, e_ixW2, e_lzip, dTL2, e_qvar, qSl_i, e_qop, d_addI, lfs_rep, e_ext, e_rep, e_index, e_isl, e_isf, e_gst, e_gtup2, lfs_rev, e_revS, e_lk, e_lki, e_lkb, e_lks, e_lkn, e_lkt, e_lkl, e_lkf, e_lk0, e_lk1, lf_flst, startE, startR, List.map_cons, List.map_nil, List.length_cons, List.length_nil, List.replicate, List.getElem?_cons_zero, List.getElem?_cons_succ, List.set_cons_zero, List.set_cons_succ, List.cons_append, List.nil_append, List.append_nil, if_true, if_false, reduceIte, Option.isSome_some, Option.map_some, Option.bind_some, Bool.and_eq_true, Bool.or_eq_true, and_self, and_true, true_and, or_true, true_or, or_false, false_or, Bool.and_true, Bool.true_and, Bool.and_self, Bool.not_true, Bool.not_false, decide_true, decide_false, reduceCtorEq, Bool.false_eq_true, Nat.reduceAdd, Nat.reduceSub, Nat.reduceMul, Nat.reduceLeDiff, Nat.reduceLT, ne_eq, not_false_eq_true, Nat.reducePow, Nat.reduceEqDiff, Int.reduceToNat, Int.reducePow, Int.reduceMul, Int.reduceAdd, Int.reduceSub, Int.reduceNeg, Int.reduceLT, Int.reduceLE, Int.reduceEq, noRef, decide_eq_true_eq, len_f, List.length_map, h], by unfold Bg; rw [Int.natAbs_zero]; exact Nat.pow_pos (by omega)⟩
  have m1 : mulOk c.natAbs 1 = true := mulOk_of (a := 1048599) (b := 9) (by rw [Int.natAbs_natCast]; unfold Bg at hb; exact hb) (by omega) (by omega)
  have m0 : mulOk c.natAbs 0 = true := mulOk_of (a := 1048599) (b := 9) (by rw [Int.natAbs_natCast]; unfold Bg at hb; exact hb) (by omega) (by omega)
  have m7 : mulOk 7907 k = true := mulOk_of (a := 20) (b := 20) (by omega) (by omega) (by omega)
  have pw : powOk 10 18 = true := by decide
  unfold f_law_box g_law_box
  by_cases h : (1000000000000000000 : Int) ≤ c.natAbs
  · simp (maxSteps := 3000000) (disch := first | assumption | decide | omega) only [e_b, e_ok, e_exc, e_bad, e_p, e_os, e_on, e_oif, slB_b, e_var, slD_b, slD_w, e_rdS, e_rd, okR_s, e_ref, slW_w, e_move, opt_s, opt_n, opt_if, e_rdL, e_lf, e_val, e_get_v, e_get_r, e_pair, e_op, e_T, e_isBl, e_and, e_or, e_not, e_andV, e_orV, e_notV, e_ap, e_bdif, e_seq, e_asg, e_gN, e_slt, e_slf, e_gnil, e_gcons, e_gseq, e_seqt, e_seql, e_seqf, e_ret, e_drop, e_ix, e_ixW, e_dix1, e_dix2, e_dix3, e_dix5, e_dix4, at0, at1, at2, at3, at4, at5, e_setIt, set0, set1, set2, e_cons, e_nil, e_args, e_ga0, e_ga1, e_tup, e_lst, e_callG, e_neg, e_intOf, res_ok, res_exc, e_call, resR_ok, resR_exc, e_callR, resT_ok, e_callRT, two_s, e_par2, e_part, e_sl, fin_next, fin_cont, fin_brk, fin_ret, e_fg0, e_fg1, e_for0, e_while, cat_ok, bdd_ok, e_comp0, e_comp1, e_lc, e_seqD, e_range1, e_range2, e_enum, e_zip, e_isi, e_isi2, endV_ret, endV_next, endV_exc, e_fn, endR_ret, endR_next, e_fnR, e_endVif, e_endRif, e_rooted, d_add, d_sub, d_mul, d_div, d_mod, d_pow, d_lt, d_le, d_gt, d_ge, d_eq_int, d_ne_int, d_abs, d_int_b, d_int_i, lf_int, lf_bl, lf_str, lf_non, lf_tup, lfs_nil, lfs_cons, e_aug, okL_s, e_refL, e_ins, e_app, ite_and, ite_or, ite_andD, ite_orD, e_setIt2, e_frz, e_ixW2, e_lzip, dTL2, e_qvar, qSl_i, e_qop, d_addI, lfs_rep, e_ext, e_rep, e_index, e_isl, e_isf, e_gst, e_gtup2, lfs_rev, e_revS, e_lk, e_lki, e_lkb, e_lks, e_lkn, e_lkt, e_lkl, e_lkf, e_lk0, e_lk1, lf_flst, startE, startR, List.map_cons, List.map_nil, List.length_cons, List.length_nil, List.replicate, List.getElem?_cons_zero, List.getElem?_cons_succ, List.set_cons_zero, List.set_cons_succ, List.cons_append, List.nil_append, List.append_nil, if_true, if_false, reduceIte, Option.isSome_some, Option.map_some, Option.bind_some, Bool.and_eq_true, Bool.or_eq_true, and_self, and_true, true_and, or_true, true_or, or_false, false_or, Bool.and_true, Bool.true_and, Bool.and_self, Bool.not_true, Bool.not_false, decide_true, decide_false, reduceCtorEq, Bool.false_eq_true, Nat.reduceAdd, Nat.reduceSub, Nat.reduceMul, Nat.reduceLeDiff, Nat.reduceLT, ne_eq, not_false_eq_true, Nat.reducePow, Nat.reduceEqDiff, Int.reduceToNat, Int.reducePow, Int.reduceMul, Int.reduceAdd, Int.reduceSub, Int.reduceNeg, Int.reduceLT, Int.reduceLE, Int.reduceEq, noRef, decide_eq_true_eq, e, m1, m7, pw, h, fmod_pos]
    refine ⟨_, rfl, _, _, _, rfl, ?_, ?_, ?_, ?_, ?_⟩ <;> omega
  · simp (maxSteps := 3000000) (disch := first | assumption | decide | omega) only [e_b, e_ok, e_exc, e_bad, e_p, e_os, e_on, e_oif, slB_b, e_var, slD_b, slD_w, e_rdS, e_rd, okR_s, e_ref, slW_w, e_move, opt_s, opt_n, opt_if, e_rdL, e_lf, e_val, e_get_v, e_get_r, e_pair, e_op, e_T, e_isBl, e_and, e_or, e_not, e_andV, e_orV, e_notV, e_ap, e_bdif, e_seq, e_asg, e_gN, e_slt, e_slf, e_gnil, e_gcons, e_gseq, e_seqt, e_seql, e_seqf, e_ret, e_drop, e_ix, e_ixW, e_dix1, e_dix2, e_dix3, e_dix5, e_dix4, at0, at1, at2, at3, at4, at5, e_setIt, set0, set1, set2, e_cons, e_nil, e_args, e_ga0, e_ga1, e_tup, e_lst, e_callG, e_neg, e_intOf, res_ok, res_exc, e_call, resR_ok, resR_exc, e_callR, resT_ok, e_callRT, two_s, e_par2, e_part, e_sl, fin_next, fin_cont, fin_brk, fin_ret, e_fg0, e_fg1, e_for0, e_while, cat_ok, bdd_ok, e_comp0, e_comp1, e_lc, e_seqD, e_range1, e_range2, e_enum, e_zip, e_isi, e_isi2, endV_ret, endV_next, endV_exc, e_fn, endR_ret, endR_next, e_fnR, e_endVif, e_endRif, e_rooted, d_add, d_sub, d_mul, d_div, d_mod, d_pow, d_lt, d_le, d_gt, d_ge, d_eq_int, d_ne_int, d_abs, d_int_b, d_int_i, lf_int, lf_bl, lf_str, lf_non, lf_tup, lfs_nil, lfs_cons, e_aug, okL_s, e_refL, e_ins, e_app, ite_and, ite_or, ite_andD, ite_orD, e_setIt2, e_frz, e_ixW2, e_lzip, dTL2, e_qvar, qSl_i, e_qop, d_addI, lfs_rep, e_ext, e_rep, e_index, e_isl, e_isf, e_gst, e_gtup2, lfs_rev, e_revS, e_lk, e_lki, e_lkb, e_lks, e_lkn, e_lkt, e_lkl, e_lkf, e_lk0, e_lk1, lf_flst, startE, startR, List.map_cons, List.map_nil, List.length_cons, List.length_nil, List.replicate, List.getElem?_cons_zero, List.getElem?_cons_succ, List.set_cons_zero, List.set_cons_succ, List.cons_append, List.nil_append, List.append_nil, if_true, if_false, reduceIte, Option.isSome_some, Option.map_some, Option.bind_some, Bool.and_eq_true, Bool.or_eq_true, and_self, and_true, true_and, or_true, true_or, or_false, false_or, Bool.and_true, Bool.true_and, Bool.and_self, Bool.not_true, Bool.not_false, decide_true, decide_false, reduceCtorEq, Bool.false_eq_true, Nat.reduceAdd, Nat.reduceSub, Nat.reduceMul, Nat.reduceLeDiff, Nat.reduceLT, ne_eq, not_false_eq_true, Nat.reducePow, Nat.reduceEqDiff, Int.reduceToNat, Int.reducePow, Int.reduceMul, Int.reduceAdd, Int.reduceSub, Int.reduceNeg, Int.reduceLT, Int.reduceLE, Int.reduceEq, noRef, decide_eq_true_eq, e, m0, m7, pw, h, fmod_pos]
    refine ⟨_, rfl, _, _, _, rfl, ?_, ?_, ?_, ?_, ?_⟩ <;> omega
def ksN (n : Nat) : List Int := (List.range n).map fun (k : Nat) => (k : Int)
theorem range_ks (n : Nat) (h : n ≤ 62) : dRange1 [.int (n : Int)] = some ((ksN n).map .int) := by
  have : rngOk (n : Int) = true := by
    unfold rngOk
    simp only [Bool.and_eq_true, decide_eq_true_eq]
    omega
  unfold ksN
  simp only [dRange1, this, if_true, intsD, List.map_map, Int.toNat_natCast, Option.some.injEq]
  apply List.map_congr_left
  intro k hk
  simp
theorem ks_mem {n : Nat} (h : n ≤ 62) : ∀ k ∈ ksN n, 0 ≤ k ∧ k ≤ 62 := by
  intro k hk
  obtain ⟨j, hj, rfl⟩ := List.mem_map.mp hk
  have := List.mem_range.mp hj
  omega
theorem ks_len {n : Nat} (h : n ≤ 62) : (ksN n).length < 16777216 := by
  unfold ksN
  rw [List.length_map, List.length_range]
  omega
end K01
end
section
set_option maxRecDepth 100000
set_option linter.all false
set_option Elab.async false
set_option autoImplicit false
set_option maxHeartbeats 8000000
set_option exponentiation.threshold 3000
/-! vectors, their sums -/
namespace K01
open PySem PySem.Spec PyProof.Rows L2 P3
theorem less_ok (p q : Tri.V) : f_law_less [v3 p, v3 q] = .ok (v3 (Tri.sub p q)) := by
  unfold f_law_less g_law_less
  simp (maxSteps := 3000000) (disch := first | assumption | decide | omega) only [e_b, e_ok, e_exc, e_bad, e_p, e_os, e_on, e_oif, slB_b, e_var, slD_b, slD_w, e_rdS, e_rd, okR_s, e_ref, slW_w, e_move, opt_s, opt_n, opt_if, e_rdL, e_lf, e_val, e_get_v, e_get_r, e_pair, e_op, e_T, e_isBl, e_and, e_or, e_not, e_andV, e_orV, e_notV, e_if, e_ap, e_bdif, e_seq, e_asg, e_gN, e_slt, e_slf, e_gnil, e_gcons, e_gseq, e_seqt, e_seql, e_seqf, e_ret, e_drop, e_ix, e_ixW, e_dix1, e_dix2, e_dix3, e_dix5, e_dix4, at0, at1, at2, at3, at4, at5, e_setIt, set0, set1, set2, e_cons, e_nil, e_args, e_ga0, e_ga1, e_tup, e_lst, e_callG, e_neg, e_intOf, res_ok, res_exc, e_call, resR_ok, resR_exc, e_callR, resT_ok, e_callRT, two_s, e_par2, e_part, e_sl, fin_next, fin_cont, fin_brk, fin_ret, e_fg0, e_fg1, e_for0, e_while, cat_ok, bdd_ok, e_comp0, e_comp1, e_lc, e_seqD, e_range1, e_range2, e_enum, e_zip, e_isi, e_isi2, endV_ret, endV_next, endV_exc, e_fn, endR_ret, endR_next, e_fnR, e_endVif, e_endRif, e_rooted, d_add, d_sub, d_mul, d_div, d_mod, d_pow, d_lt, d_le, d_gt, d_ge, d_eq_int, d_ne_int, d_abs, d_int_b, d_int_i, lf_int, lf_bl, lf_str, lf_non, lf_tup, lfs_nil, lfs_cons, e_aug, okL_s, e_refL, e_ins, e_app, ite_and, ite_or, ite_andD, ite_orD, e_setIt2, e_frz, e_ixW2, e_lzip, dTL2, e_qvar, qSl_i, e_qop, d_addI, lfs_rep, e_ext, e_rep, e_index, e_isl, e_isf, e_gst, e_gtup2, lfs_rev, e_revS, e_lk, e_lki, e_lkb, e_lks, e_lkn, e_lkt, e_lkl, e_lkf, e_lk0, e_lk1, lf_flst, startE, startR, List.map_cons, List.map_nil, List.length_cons, List.length_nil, List.replicate, List.getElem?_cons_zero, List.getElem?_cons_succ, List.set_cons_zero, List.set_cons_succ, List.cons_append, List.nil_append, List.append_nil, if_true, if_false, reduceIte, Option.isSome_some, Option.map_some, Option.bind_some, Bool.and_eq_true, Bool.or_eq_true, and_self, and_true, true_and, or_true, true_or, or_false, false_or, Bool.and_true, Bool.true_and, Bool.and_self, Bool.not_true, Bool.not_false, decide_true, decide_false, reduceCtorEq, Bool.false_eq_true, Nat.reduceAdd, Nat.reduceSub, Nat.reduceMul, Nat.reduceLeDiff, Nat.reduceLT, ne_eq, not_false_eq_true, Nat.reducePow, Nat.reduceEqDiff, Int.reduceToNat, Int.reducePow, Int.reduceMul, Int.reduceAdd, Int.reduceSub, Int.reduceNeg, Int.reduceLT, Int.reduceLE, Int.reduceEq, noRef, decide_eq_true_eq, zip3v, tup3i]
  rfl
theorem lcross_ok {n m : Nat} {p q : Tri.V} (hp : VB n p) (hq : VB m q) (h : n + m < 100000000) : f_law_cross [v3 p, v3 q] = .ok (v3 (Tri.cross p q)) := by
  have m1 := Bd.ok hp.2.1 hq.2.2 h
  have m2 := Bd.ok hp.2.2 hq.2.1 h
  have m3 := Bd.ok hp.2.2 hq.1 h
  have m4 := Bd.ok hp.1 hq.2.2 h
  have m5 := Bd.ok hp.1 hq.2.1 h
  have m6 := Bd.ok hp.2.1 hq.1 h
  unfold f_law_cross g_law_cross
  simp (maxSteps := 3000000) (disch := first | assumption | decide | omega) only [e_b, e_ok, e_exc, e_bad, e_p, e_os, e_on, e_oif, slB_b, e_var, slD_b, slD_w, e_rdS, e_rd, okR_s, e_ref, slW_w, e_move, opt_s, opt_n, opt_if, e_rdL, e_lf, e_val, e_get_v, e_get_r, e_pair, e_op, e_T, e_isBl, e_and, e_or, e_not, e_andV, e_orV, e_notV, e_if, e_ap, e_bdif, e_seq, e_asg, e_gN, e_slt, e_slf, e_gnil, e_gcons, e_gseq, e_seqt, e_seql, e_seqf, e_ret, e_drop, e_ix, e_ixW, e_dix1, e_dix2, e_dix3, e_dix5, e_dix4, at0, at1, at2, at3, at4, at5, e_setIt, set0, set1, set2, e_cons, e_nil, e_args, e_ga0, e_ga1, e_tup, e_lst, e_callG, e_neg, e_intOf, res_ok, res_exc, e_call, resR_ok, resR_exc, e_callR, resT_ok, e_callRT, two_s, e_par2, e_part, e_sl, fin_next, fin_cont, fin_brk, fin_ret, e_fg0, e_fg1, e_for0, e_while, cat_ok, bdd_ok, e_comp0, e_comp1, e_lc, e_seqD, e_range1, e_range2, e_enum, e_zip, e_isi, e_isi2, endV_ret, endV_next, endV_exc, e_fn, endR_ret, endR_next, e_fnR, e_endVif, e_endRif, e_rooted, d_add, d_sub, d_mul, d_div, d_mod, d_pow, d_lt, d_le, d_gt, d_ge, d_eq_int, d_ne_int, d_abs, d_int_b, d_int_i, lf_int, lf_bl, lf_str, lf_non, lf_tup, lfs_nil, lfs_cons, e_aug, okL_s, e_refL, e_ins, e_app, ite_and, ite_or, ite_andD, ite_orD, e_setIt2, e_frz, e_ixW2, e_lzip, dTL2, e_qvar, qSl_i, e_qop, d_addI, lfs_rep, e_ext, e_rep, e_index, e_isl, e_isf, e_gst, e_gtup2, lfs_rev, e_revS, e_lk, e_lki, e_lkb, e_lks, e_lkn, e_lkt, e_lkl, e_lkf, e_lk0, e_lk1, lf_flst, startE, startR, List.map_cons, List.map_nil, List.length_cons, List.length_nil, List.replicate, List.getElem?_cons_zero, List.getElem?_cons_succ, List.set_cons_zero, List.set_cons_succ, List.cons_append, List.nil_append, List.append_nil, if_true, if_false, reduceIte, Option.isSome_some, Option.map_some, Option.bind_some, Bool.and_eq_true, Bool.or_eq_true, and_self, and_true, true_and, or_true, true_or, or_false, false_or, Bool.and_true, Bool.true_and, Bool.and_self, Bool.not_true, Bool.not_false, decide_true, decide_false, reduceCtorEq, Bool.false_eq_true, Nat.reduceAdd, Nat.reduceSub, Nat.reduceMul, Nat.reduceLeDiff, Nat.reduceLT, ne_eq, not_false_eq_true, Nat.reducePow, Nat.reduceEqDiff, Int.reduceToNat, Int.reducePow, Int.reduceMul, Int.reduceAdd, Int.reduceSub, Int.reduceNeg, Int.reduceLT, Int.reduceLE, Int.reduceEq, noRef, decide_eq_true_eq, rg3, x0v, x1v, x2v, x1m, x2m, tup3i, m1, m2, m3, m4, m5, m6]
  rfl
theorem ldot_ok {n m : Nat} {p q : Tri.V} (hp : VB n p) (hq : VB m q) (h : n + m < 100000000) : f_law_dot [v3 p, v3 q] = .ok (.int (Tri.dot p q)) := by
  have m1 := Bd.ok hp.1 hq.1 h
  have m2 := Bd.ok hp.2.1 hq.2.1 h
  have m3 := Bd.ok hp.2.2 hq.2.2 h
  unfold f_law_dot g_law_dot Tri.dot
  simp (maxSteps := 3000000) (disch := first | assumption | decide | omega) only [e_b, e_ok, e_exc, e_bad, e_p, e_os, e_on, e_oif, slB_b, e_var, slD_b, slD_w, e_rdS, e_rd, okR_s, e_ref, slW_w, e_move, opt_s, opt_n, opt_if, e_rdL, e_lf, e_val, e_get_v, e_get_r, e_pair, e_op, e_T, e_isBl, e_and, e_or, e_not, e_andV, e_orV, e_notV, e_if, e_ap, e_bdif, e_seq, e_asg, e_gN, e_slt, e_slf, e_gnil, e_gcons, e_gseq, e_seqt, e_seql, e_seqf, e_ret, e_drop, e_ix, e_ixW, e_dix1, e_dix2, e_dix3, e_dix5, e_dix4, at0, at1, at2, at3, at4, at5, e_setIt, set0, set1, set2, e_cons, e_nil, e_args, e_ga0, e_ga1, e_tup, e_lst, e_callG, e_neg, e_intOf, res_ok, res_exc, e_call, resR_ok, resR_exc, e_callR, resT_ok, e_callRT, two_s, e_par2, e_part, e_sl, fin_next, fin_cont, fin_brk, fin_ret, e_fg0, e_fg1, e_for0, e_while, cat_ok, bdd_ok, e_comp0, e_comp1, e_lc, e_seqD, e_range1, e_range2, e_enum, e_zip, e_isi, e_isi2, endV_ret, endV_next, endV_exc, e_fn, endR_ret, endR_next, e_fnR, e_endVif, e_endRif, e_rooted, d_add, d_sub, d_mul, d_div, d_mod, d_pow, d_lt, d_le, d_gt, d_ge, d_eq_int, d_ne_int, d_abs, d_int_b, d_int_i, lf_int, lf_bl, lf_str, lf_non, lf_tup, lfs_nil, lfs_cons, e_aug, okL_s, e_refL, e_ins, e_app, ite_and, ite_or, ite_andD, ite_orD, e_setIt2, e_frz, e_ixW2, e_lzip, dTL2, e_qvar, qSl_i, e_qop, d_addI, lfs_rep, e_ext, e_rep, e_index, e_isl, e_isf, e_gst, e_gtup2, lfs_rev, e_revS, e_lk, e_lki, e_lkb, e_lks, e_lkn, e_lkt, e_lkl, e_lkf, e_lk0, e_lk1, lf_flst, startE, startR, List.map_cons, List.map_nil, List.length_cons, List.length_nil, List.replicate, List.getElem?_cons_zero, List.getElem?_cons_succ, List.set_cons_zero, List.set_cons_succ, List.cons_append, List.nil_append, List.append_nil, if_true, if_false, reduceIte, Option.isSome_some, Option.map_some, Option.bind_some, Bool.and_eq_true, Bool.or_eq_true, and_self, and_true, true_and, or_true, true_or, or_false, false_or, Bool.and_true, Bool.true_and, Bool.and_self, Bool.not_true, Bool.not_false, decide_true, decide_false, reduceCtorEq, Bool.false_eq_true, Nat.reduceAdd, Nat.reduceSub, Nat.reduceMul, Nat.reduceLeDiff, Nat.reduceLT, ne_eq, not_false_eq_true, Nat.reducePow, Nat.reduceEqDiff, Int.reduceToNat, Int.reducePow, Int.reduceMul, Int.reduceAdd, Int.reduceSub, Int.reduceNeg, Int.reduceLT, Int.reduceLE, Int.reduceEq, noRef, decide_eq_true_eq, zip3v, sum3i, m1, m2, m3]
theorem dot_ok {n m : Nat} {p q : Tri.V} (hp : VB n p) (hq : VB m q) (h : n + m < 100000000) : f_dot_of [v3 p, v3 q] = .ok (.int (Tri.dot p q)) := by
  have m1 := Bd.ok hp.1 hq.1 h
  have m2 := Bd.ok hp.2.1 hq.2.1 h
  have m3 := Bd.ok hp.2.2 hq.2.2 h
  unfold f_dot_of g_dot_of Tri.dot
  simp (maxSteps := 3000000) (disch := first | assumption | decide | omega) only [e_b, e_ok, e_exc, e_bad, e_p, e_os, e_on, e_oif, slB_b, e_var, slD_b, slD_w, e_rdS, e_rd, okR_s, e_ref, slW_w, e_move, opt_s, opt_n, opt_if, e_rdL, e_lf, e_val, e_get_v, e_get_r, e_pair, e_op, e_T, e_isBl, e_and, e_or, e_not, e_andV, e_orV, e_notV, e_if, e_ap, e_bdif, e_seq, e_asg, e_gN, e_slt, e_slf, e_gnil, e_gcons, e_gseq, e_seqt, e_seql, e_seqf, e_ret, e_drop, e_ix, e_ixW, e_dix1, e_dix2, e_dix3, e_dix5, e_dix4, at0, at1, at2, at3, at4, at5, e_setIt, set0, set1, set2, e_cons, e_nil, e_args, e_ga0, e_ga1, e_tup, e_lst, e_callG, e_neg, e_intOf, res_ok, res_exc, e_call, resR_ok, resR_exc, e_callR, resT_ok, e_callRT, two_s, e_par2, e_part, e_sl, fin_next, fin_cont, fin_brk, fin_ret, e_fg0, e_fg1, e_for0, e_while, cat_ok, bdd_ok, e_comp0, e_comp1, e_lc, e_seqD, e_range1, e_range2, e_enum, e_zip, e_isi, e_isi2, endV_ret, endV_next, endV_exc, e_fn, endR_ret, endR_next, e_fnR, e_endVif, e_endRif, e_rooted, d_add, d_sub, d_mul, d_div, d_mod, d_pow, d_lt, d_le, d_gt, d_ge, d_eq_int, d_ne_int, d_abs, d_int_b, d_int_i, lf_int, lf_bl, lf_str, lf_non, lf_tup, lfs_nil, lfs_cons, e_aug, okL_s, e_refL, e_ins, e_app, ite_and, ite_or, ite_andD, ite_orD, e_setIt2, e_frz, e_ixW2, e_lzip, dTL2, e_qvar, qSl_i, e_qop, d_addI, lfs_rep, e_ext, e_rep, e_index, e_isl, e_isf, e_gst, e_gtup2, lfs_rev, e_revS, e_lk, e_lki, e_lkb, e_lks, e_lkn, e_lkt, e_lkl, e_lkf, e_lk0, e_lk1, lf_flst, startE, startR, List.map_cons, List.map_nil, List.length_cons, List.length_nil, List.replicate, List.getElem?_cons_zero, List.getElem?_cons_succ, List.set_cons_zero, List.set_cons_succ, List.cons_append, List.nil_append, List.append_nil, if_true, if_false, reduceIte, Option.isSome_some, Option.map_some, Option.bind_some, Bool.and_eq_true, Bool.or_eq_true, and_self, and_true, true_and, or_true, true_or, or_false, false_or, Bool.and_true, Bool.true_and, Bool.and_self, Bool.not_true, Bool.not_false, decide_true, decide_false, reduceCtorEq, Bool.false_eq_true, Nat.reduceAdd, Nat.reduceSub, Nat.reduceMul, Nat.reduceLeDiff, Nat.reduceLT, ne_eq, not_false_eq_true, Nat.reducePow, Nat.reduceEqDiff, Int.reduceToNat, Int.reducePow, Int.reduceMul, Int.reduceAdd, Int.reduceSub, Int.reduceNeg, Int.reduceLT, Int.reduceLE, Int.reduceEq, noRef, decide_eq_true_eq, x0v, x1v, x2v, m1, m2, m3]
theorem less_by_ok (p q : Tri.V) : f_less_by [v3 p, v3 q] = .ok (v3 (Tri.sub p q)) := by
  unfold f_less_by g_less_by
  simp (maxSteps := 3000000) (disch := first | assumption | decide | omega) only [e_b, e_ok, e_exc, e_bad, e_p, e_os, e_on, e_oif, slB_b, e_var, slD_b, slD_w, e_rdS, e_rd, okR_s, e_ref, slW_w, e_move, opt_s, opt_n, opt_if, e_rdL, e_lf, e_val, e_get_v, e_get_r, e_pair, e_op, e_T, e_isBl, e_and, e_or, e_not, e_andV, e_orV, e_notV, e_if, e_ap, e_bdif, e_seq, e_asg, e_gN, e_slt, e_slf, e_gnil, e_gcons, e_gseq, e_seqt, e_seql, e_seqf, e_ret, e_drop, e_ix, e_ixW, e_dix1, e_dix2, e_dix3, e_dix5, e_dix4, at0, at1, at2, at3, at4, at5, e_setIt, set0, set1, set2, e_cons, e_nil, e_args, e_ga0, e_ga1, e_tup, e_lst, e_callG, e_neg, e_intOf, res_ok, res_exc, e_call, resR_ok, resR_exc, e_callR, resT_ok, e_callRT, two_s, e_par2, e_part, e_sl, fin_next, fin_cont, fin_brk, fin_ret, e_fg0, e_fg1, e_for0, e_while, cat_ok, bdd_ok, e_comp0, e_comp1, e_lc, e_seqD, e_range1, e_range2, e_enum, e_zip, e_isi, e_isi2, endV_ret, endV_next, endV_exc, e_fn, endR_ret, endR_next, e_fnR, e_endVif, e_endRif, e_rooted, d_add, d_sub, d_mul, d_div, d_mod, d_pow, d_lt, d_le, d_gt, d_ge, d_eq_int, d_ne_int, d_abs, d_int_b, d_int_i, lf_int, lf_bl, lf_str, lf_non, lf_tup, lfs_nil, lfs_cons, e_aug, okL_s, e_refL, e_ins, e_app, ite_and, ite_or, ite_andD, ite_orD, e_setIt2, e_frz, e_ixW2, e_lzip, dTL2, e_qvar, qSl_i, e_qop, d_addI, lfs_rep, e_ext, e_rep, e_index, e_isl, e_isf, e_gst, e_gtup2, lfs_rev, e_revS, e_lk, e_lki, e_lkb, e_lks, e_lkn, e_lkt, e_lkl, e_lkf, e_lk0, e_lk1, lf_flst, startE, startR, List.map_cons, List.map_nil, List.length_cons, List.length_nil, List.replicate, List.getElem?_cons_zero, List.getElem?_cons_succ, List.set_cons_zero, List.set_cons_succ, List.cons_append, List.nil_append, List.append_nil, if_true, if_false, reduceIte, Option.isSome_some, Option.map_some, Option.bind_some, Bool.and_eq_true, Bool.or_eq_true, and_self, and_true, true_and, or_true, true_or, or_false, false_or, Bool.and_true, Bool.true_and, Bool.and_self, Bool.not_true, Bool.not_false, decide_true, decide_false, reduceCtorEq, Bool.false_eq_true, Nat.reduceAdd, Nat.reduceSub, Nat.reduceMul, Nat.reduceLeDiff, Nat.reduceLT, ne_eq, not_false_eq_true, Nat.reducePow, Nat.reduceEqDiff, Int.reduceToNat, Int.reducePow, Int.reduceMul, Int.reduceAdd, Int.reduceSub, Int.reduceNeg, Int.reduceLT, Int.reduceLE, Int.reduceEq, noRef, decide_eq_true_eq, x0v, x1v, x2v]
  rfl
theorem cross_ok {n m : Nat} {p q : Tri.V} (hp : VB n p) (hq : VB m q) (h : n + m < 100000000) : f_cross_of [v3 p, v3 q] = .ok (v3 (Tri.cross p q)) := by
  have m1 := Bd.ok hp.2.1 hq.2.2 h
  have m2 := Bd.ok hp.2.2 hq.2.1 h
  have m3 := Bd.ok hp.2.2 hq.1 h
  have m4 := Bd.ok hp.1 hq.2.2 h
  have m5 := Bd.ok hp.1 hq.2.1 h
  have m6 := Bd.ok hp.2.1 hq.1 h
  unfold f_cross_of g_cross_of
  simp (maxSteps := 3000000) (disch := first | assumption | decide | omega) only [e_b, e_ok, e_exc, e_bad, e_p, e_os, e_on, e_oif, slB_b, e_var, slD_b, slD_w, e_rdS, e_rd, okR_s, e_ref, slW_w, e_move, opt_s, opt_n, opt_if, e_rdL, e_lf, e_val, e_get_v, e_get_r, e_pair, e_op, e_T, e_isBl, e_and, e_or, e_not, e_andV, e_orV, e_notV, e_if, e_ap, e_bdif, e_seq, e_asg, e_gN, e_slt, e_slf, e_gnil, e_gcons, e_gseq, e_seqt, e_seql, e_seqf, e_ret, e_drop, e_ix, e_ixW, e_dix1, e_dix2, e_dix3, e_dix5, e_dix4, at0, at1, at2, at3, at4, at5, e_setIt, set0, set1, set2, e_cons, e_nil, e_args, e_ga0, e_ga1, e_tup, e_lst, e_callG, e_neg, e_intOf, res_ok, res_exc, e_call, resR_ok, resR_exc, e_callR, resT_ok, e_callRT, two_s, e_par2, e_part, e_sl, fin_next, fin_cont, fin_brk, fin_ret, e_fg0, e_fg1, e_for0, e_while, cat_ok, bdd_ok, e_comp0, e_comp1, e_lc, e_seqD, e_range1, e_range2, e_enum, e_zip, e_isi, e_isi2, endV_ret, endV_next, endV_exc, e_fn, endR_ret, endR_next, e_fnR, e_endVif, e_endRif, e_rooted, d_add, d_sub, d_mul, d_div, d_mod, d_pow, d_lt, d_le, d_gt, d_ge, d_eq_int, d_ne_int, d_abs, d_int_b, d_int_i, lf_int, lf_bl, lf_str, lf_non, lf_tup, lfs_nil, lfs_cons, e_aug, okL_s, e_refL, e_ins, e_app, ite_and, ite_or, ite_andD, ite_orD, e_setIt2, e_frz, e_ixW2, e_lzip, dTL2, e_qvar, qSl_i, e_qop, d_addI, lfs_rep, e_ext, e_rep, e_index, e_isl, e_isf, e_gst, e_gtup2, lfs_rev, e_revS, e_lk, e_lki, e_lkb, e_lks, e_lkn, e_lkt, e_lkl, e_lkf, e_lk0, e_lk1, lf_flst, startE, startR, List.map_cons, List.map_nil, List.length_cons, List.length_nil, List.replicate, List.getElem?_cons_zero, List.getElem?_cons_succ, List.set_cons_zero, List.set_cons_succ, List.cons_append, List.nil_append, List.append_nil, if_true, if_false, reduceIte, Option.isSome_some, Option.map_some, Option.bind_some, Bool.and_eq_true, Bool.or_eq_true, and_self, and_true, true_and, or_true, true_or, or_false, false_or, Bool.and_true, Bool.true_and, Bool.and_self, Bool.not_true, Bool.not_false, decide_true, decide_false, reduceCtorEq, Bool.false_eq_true, Nat.reduceAdd, Nat.reduceSub, Nat.reduceMul, Nat.reduceLeDiff, Nat.reduceLT, ne_eq, not_false_eq_true, Nat.reducePow, Nat.reduceEqDiff, Int.reduceToNat, Int.reducePow, Int.reduceMul, Int.reduceAdd, Int.reduceSub, Int.reduceNeg, Int.reduceLT, Int.reduceLE, Int.reduceEq, noRef, decide_eq_true_eq, seqv, m1, m2, m3, m4, m5, m6]
  rfl
theorem normal_ok {n : Nat} {a b c : Tri.V} (ha : VB n a) (hb : VB n b) (hc : VB n c) (h : n < 1000) : f_normal_of [v3 a, v3 b, v3 c] = .ok (v3 (Tri.across a b c)) := by
  have e := cross_ok (hb.sub ha) (hc.sub ha) (by omega)
  unfold f_normal_of g_normal_of
  simp (maxSteps := 3000000) (disch := first | assumption | decide | omega) only [e_b, e_ok, e_exc, e_bad, e_p, e_os, e_on, e_oif, slB_b, e_var, slD_b, slD_w, e_rdS, e_rd, okR_s, e_ref, slW_w, e_move, opt_s, opt_n, opt_if, e_rdL, e_lf, e_val, e_get_v, e_get_r, e_pair, e_op, e_T, e_isBl, e_and, e_or, e_not, e_andV, e_orV, e_notV, e_if, e_ap, e_bdif, e_seq, e_asg, e_gN, e_slt, e_slf, e_gnil, e_gcons, e_gseq, e_seqt, e_seql, e_seqf, e_ret, e_drop, e_ix, e_ixW, e_dix1, e_dix2, e_dix3, e_dix5, e_dix4, at0, at1, at2, at3, at4, at5, e_setIt, set0, set1, set2, e_cons, e_nil, e_args, e_ga0, e_ga1, e_tup, e_lst, e_callG, e_neg, e_intOf, res_ok, res_exc, e_call, resR_ok, resR_exc, e_callR, resT_ok, e_callRT, two_s, e_par2, e_part, e_sl, fin_next, fin_cont, fin_brk, fin_ret, e_fg0, e_fg1, e_for0, e_while, cat_ok, bdd_ok, e_comp0, e_comp1, e_lc, e_seqD, e_range1, e_range2, e_enum, e_zip, e_isi, e_isi2, endV_ret, endV_next, endV_exc, e_fn, endR_ret, endR_next, e_fnR, e_endVif, e_endRif, e_rooted, d_add, d_sub, d_mul, d_div, d_mod, d_pow, d_lt, d_le, d_gt, d_ge, d_eq_int, d_ne_int, d_abs, d_int_b, d_int_i, lf_int, lf_bl, lf_str, lf_non, lf_tup, lfs_nil, lfs_cons, e_aug, okL_s, e_refL, e_ins, e_app, ite_and, ite_or, ite_andD, ite_orD, e_setIt2, e_frz, e_ixW2, e_lzip, dTL2, e_qvar, qSl_i, e_qop, d_addI, lfs_rep, e_ext, e_rep, e_index, e_isl, e_isf, e_gst, e_gtup2, lfs_rev, e_revS, e_lk, e_lki, e_lkb, e_lks, e_lkn, e_lkt, e_lkl, e_lkf, e_lk0, e_lk1, lf_flst, startE, startR, List.map_cons, List.map_nil, List.length_cons, List.length_nil, List.replicate, List.getElem?_cons_zero, List.getElem?_cons_succ, List.set_cons_zero, List.set_cons_succ, List.cons_append, List.nil_append, List.append_nil, if_true, if_false, reduceIte, Option.isSome_some, Option.map_some, Option.bind_some, Bool.and_eq_true, Bool.or_eq_true, and_self, and_true, true_and, or_true, true_or, or_false, false_or, Bool.and_true, Bool.true_and, Bool.and_self, Bool.not_true, Bool.not_false, decide_true, decide_false, reduceCtorEq, Bool.false_eq_true, Nat.reduceAdd, Nat.reduceSub, Nat.reduceMul, Nat.reduceLeDiff, Nat.reduceLT, ne_eq, not_false_eq_true, Nat.reducePow, Nat.reduceEqDiff, Int.reduceToNat, Int.reducePow, Int.reduceMul, Int.reduceAdd, Int.reduceSub, Int.reduceNeg, Int.reduceLT, Int.reduceLE, Int.reduceEq, noRef, decide_eq_true_eq, less_by_ok, e]
  rfl
theorem fs (n : Nat) : f_law_same (n + 1) = fnOf 4 (g_law_same (f_law_same n)) := rfl
theorem same_i (n : Nat) (i : Int) : f_law_same (n + 1) [.int i, .int i] = .ok (.bl true) := by
  rw [fs]
  unfold g_law_same
  simp (maxSteps := 3000000) (disch := first | assumption | decide | omega) only [e_b, e_ok, e_exc, e_bad, e_p, e_os, e_on, e_oif, slB_b, e_var, slD_b, slD_w, e_rdS, e_rd, okR_s, e_ref, slW_w, e_move, opt_s, opt_n, opt_if, e_rdL, e_lf, e_val, e_get_v, e_get_r, e_pair, e_op, e_T, e_isBl, e_and, e_or, e_not, e_andV, e_orV, e_notV, e_if, e_ap, e_bdif, e_seq, e_asg, e_gN, e_slt, e_slf, e_gnil, e_gcons, e_gseq, e_seqt, e_seql, e_seqf, e_ret, e_drop, e_ix, e_ixW, e_dix1, e_dix2, e_dix3, e_dix5, e_dix4, at0, at1, at2, at3, at4, at5, e_setIt, set0, set1, set2, e_cons, e_nil, e_args, e_ga0, e_ga1, e_tup, e_lst, e_callG, e_neg, e_intOf, res_ok, res_exc, e_call, resR_ok, resR_exc, e_callR, resT_ok, e_callRT, two_s, e_par2, e_part, e_sl, fin_next, fin_cont, fin_brk, fin_ret, e_fg0, e_fg1, e_for0, e_while, cat_ok, bdd_ok, e_comp0, e_comp1, e_lc, e_seqD, e_range1, e_range2, e_enum, e_zip, e_isi, e_isi2, endV_ret, endV_next, endV_exc, e_fn, endR_ret, endR_next, e_fnR, e_endVif, e_endRif, e_rooted, d_add, d_sub, d_mul, d_div, d_mod, d_pow, d_lt, d_le, d_gt, d_ge, d_eq_int, d_ne_int, d_abs, d_int_b, d_int_i, lf_int, lf_bl, lf_str, lf_non, lf_tup, lfs_nil, lfs_cons, e_aug, okL_s, e_refL, e_ins, e_app, ite_and, ite_or, ite_andD, ite_orD, e_setIt2, e_frz, e_ixW2, e_lzip, dTL2, e_qvar, qSl_i, e_qop, d_addI, lfs_rep, e_ext, e_rep, e_index, e_isl, e_isf, e_gst, e_gtup2, lfs_rev, e_revS, e_lk, e_lki, e_lkb, e_lks, e_lkn, e_lkt, e_lkl, e_lkf, e_lk0, e_lk1, lf_flst, startE, startR, List.map_cons, List.map_nil, List.length_cons, List.length_nil, List.replicate, List.getElem?_cons_zero, List.getElem?_cons_succ, List.set_cons_zero, List.set_cons_succ, List.cons_append, List.nil_append, List.append_nil, if_true, if_false, reduceIte, Option.isSome_some, Option.map_some, Option.bind_some, Bool.and_eq_true, Bool.or_eq_true, and_self, and_true, true_and, or_true, true_or, or_false, false_or, Bool.and_true, Bool.true_and, Bool.and_self, Bool.not_true, Bool.not_false, decide_true, decide_false, reduceCtorEq, Bool.false_eq_true, Nat.reduceAdd, Nat.reduceSub, Nat.reduceMul, Nat.reduceLeDiff, Nat.reduceLT, ne_eq, not_false_eq_true, Nat.reducePow, Nat.reduceEqDiff, Int.reduceToNat, Int.reducePow, Int.reduceMul, Int.reduceAdd, Int.reduceSub, Int.reduceNeg, Int.reduceLT, Int.reduceLE, Int.reduceEq, noRef, decide_eq_true_eq, isi2_lt_i, is_int, isi2_sb_i, isi_i_i, isi_b_i]
theorem same_b (n : Nat) (b : Bool) : f_law_same (n + 1) [.bl b, .bl b] = .ok (.bl true) := by
  have e1 : dEq (.bl b) (.bl b) = some (.bl true) := by cases b <;> rfl
  rw [fs]
  unfold g_law_same
  simp (maxSteps := 3000000) (disch := first | assumption | decide | omega) only [e_b, e_ok, e_exc, e_bad, e_p, e_os, e_on, e_oif, slB_b, e_var, slD_b, slD_w, e_rdS, e_rd, okR_s, e_ref, slW_w, e_move, opt_s, opt_n, opt_if, e_rdL, e_lf, e_val, e_get_v, e_get_r, e_pair, e_op, e_T, e_isBl, e_and, e_or, e_not, e_andV, e_orV, e_notV, e_if, e_ap, e_bdif, e_seq, e_asg, e_gN, e_slt, e_slf, e_gnil, e_gcons, e_gseq, e_seqt, e_seql, e_seqf, e_ret, e_drop, e_ix, e_ixW, e_dix1, e_dix2, e_dix3, e_dix5, e_dix4, at0, at1, at2, at3, at4, at5, e_setIt, set0, set1, set2, e_cons, e_nil, e_args, e_ga0, e_ga1, e_tup, e_lst, e_callG, e_neg, e_intOf, res_ok, res_exc, e_call, resR_ok, resR_exc, e_callR, resT_ok, e_callRT, two_s, e_par2, e_part, e_sl, fin_next, fin_cont, fin_brk, fin_ret, e_fg0, e_fg1, e_for0, e_while, cat_ok, bdd_ok, e_comp0, e_comp1, e_lc, e_seqD, e_range1, e_range2, e_enum, e_zip, e_isi, e_isi2, endV_ret, endV_next, endV_exc, e_fn, endR_ret, endR_next, e_fnR, e_endVif, e_endRif, e_rooted, d_add, d_sub, d_mul, d_div, d_mod, d_pow, d_lt, d_le, d_gt, d_ge, d_eq_int, d_ne_int, d_abs, d_int_b, d_int_i, lf_int, lf_bl, lf_str, lf_non, lf_tup, lfs_nil, lfs_cons, e_aug, okL_s, e_refL, e_ins, e_app, ite_and, ite_or, ite_andD, ite_orD, e_setIt2, e_frz, e_ixW2, e_lzip, dTL2, e_qvar, qSl_i, e_qop, d_addI, lfs_rep, e_ext, e_rep, e_index, e_isl, e_isf, e_gst, e_gtup2, lfs_rev, e_revS, e_lk, e_lki, e_lkb, e_lks, e_lkn, e_lkt, e_lkl, e_lkf, e_lk0, e_lk1, lf_flst, startE, startR, List.map_cons, List.map_nil, List.length_cons, List.length_nil, List.replicate, List.getElem?_cons_zero, List.getElem?_cons_succ, List.set_cons_zero, List.set_cons_succ, List.cons_append, List.nil_append, List.append_nil, if_true, if_false, reduceIte, Option.isSome_some, Option.map_some, Option.bind_some, Bool.and_eq_true, Bool.or_eq_true, and_self, and_true, true_and, or_true, true_or, or_false, false_or, Bool.and_true, Bool.true_and, Bool.and_self, Bool.not_true, Bool.not_false, decide_true, decide_false, reduceCtorEq, Bool.false_eq_true, Nat.reduceAdd, Nat.reduceSub, Nat.reduceMul, Nat.reduceLeDiff, Nat.reduceLT, ne_eq, not_false_eq_true, Nat.reducePow, Nat.reduceEqDiff, Int.reduceToNat, Int.reducePow, Int.reduceMul, Int.reduceAdd, Int.reduceSub, Int.reduceNeg, Int.reduceLT, Int.reduceLE, Int.reduceEq, noRef, decide_eq_true_eq, isi2_lt_b, is_bl, isi2_sb_b, isi_s_b, d_eq_bl, beq_self_eq_true, e1]
theorem z3 (p q : Tri.V) : dZip (v3 p) (v3 q) = some [.tup [.int p.x, .int q.x], .tup [.int p.y, .int q.y], .tup [.int p.z, .int q.z]] := rfl
theorem isi_lv {p : Tri.V} : dIsi "list" (v3 p) = some (.bl false) := isi_l_t
theorem isi_tv {p : Tri.V} : dIsi "tuple" (v3 p) = some (.bl true) := isi_t_t
theorem isi2v {p : Tri.V} : dIsi2 "list" "tuple" (v3 p) = some (.bl true) := isi2_lt_t
theorem lenv {p : Tri.V} : dLen [v3 p] = some (.int 3) := rfl
theorem all3' : dAll [.lst [.bl true, .bl true, .bl true]] = some (.bl true) := rfl
theorem all4' : dAll [.lst [.bl true, .bl true, .bl true, .bl true]] = some (.bl true) := rfl
theorem same_v (n : Nat) (p : Tri.V) : f_law_same (n + 2) [v3 p, v3 p] = .ok (.bl true) := by
  rw [fs]
  unfold g_law_same
  simp (maxSteps := 3000000) (disch := first | assumption | decide | omega) only [e_b, e_ok, e_exc, e_bad, e_p, e_os, e_on, e_oif, slB_b, e_var, slD_b, slD_w, e_rdS, e_rd, okR_s, e_ref, slW_w, e_move, opt_s, opt_n, opt_if, e_rdL, e_lf, e_val, e_get_v, e_get_r, e_pair, e_op, e_T, e_isBl, e_and, e_or, e_not, e_andV, e_orV, e_notV, e_if, e_ap, e_bdif, e_seq, e_asg, e_gN, e_slt, e_slf, e_gnil, e_gcons, e_gseq, e_seqt, e_seql, e_seqf, e_ret, e_drop, e_ix, e_ixW, e_dix1, e_dix2, e_dix3, e_dix5, e_dix4, at0, at1, at2, at3, at4, at5, e_setIt, set0, set1, set2, e_cons, e_nil, e_args, e_ga0, e_ga1, e_tup, e_lst, e_callG, e_neg, e_intOf, res_ok, res_exc, e_call, resR_ok, resR_exc, e_callR, resT_ok, e_callRT, two_s, e_par2, e_part, e_sl, fin_next, fin_cont, fin_brk, fin_ret, e_fg0, e_fg1, e_for0, e_while, cat_ok, bdd_ok, e_comp0, e_comp1, e_lc, e_seqD, e_range1, e_range2, e_enum, e_zip, e_isi, e_isi2, endV_ret, endV_next, endV_exc, e_fn, endR_ret, endR_next, e_fnR, e_endVif, e_endRif, e_rooted, d_add, d_sub, d_mul, d_div, d_mod, d_pow, d_lt, d_le, d_gt, d_ge, d_eq_int, d_ne_int, d_abs, d_int_b, d_int_i, lf_int, lf_bl, lf_str, lf_non, lf_tup, lfs_nil, lfs_cons, e_aug, okL_s, e_refL, e_ins, e_app, ite_and, ite_or, ite_andD, ite_orD, e_setIt2, e_frz, e_ixW2, e_lzip, dTL2, e_qvar, qSl_i, e_qop, d_addI, lfs_rep, e_ext, e_rep, e_index, e_isl, e_isf, e_gst, e_gtup2, lfs_rev, e_revS, e_lk, e_lki, e_lkb, e_lks, e_lkn, e_lkt, e_lkl, e_lkf, e_lk0, e_lk1, lf_flst, startE, startR, List.map_cons, List.map_nil, List.length_cons, List.length_nil, List.replicate, List.getElem?_cons_zero, List.getElem?_cons_succ, List.set_cons_zero, List.set_cons_succ, List.cons_append, List.nil_append, List.append_nil, if_true, if_false, reduceIte, Option.isSome_some, Option.map_some, Option.bind_some, Bool.and_eq_true, Bool.or_eq_true, and_self, and_true, true_and, or_true, true_or, or_false, false_or, Bool.and_true, Bool.true_and, Bool.and_self, Bool.not_true, Bool.not_false, decide_true, decide_false, reduceCtorEq, Bool.false_eq_true, Nat.reduceAdd, Nat.reduceSub, Nat.reduceMul, Nat.reduceLeDiff, Nat.reduceLT, ne_eq, not_false_eq_true, Nat.reducePow, Nat.reduceEqDiff, Int.reduceToNat, Int.reducePow, Int.reduceMul, Int.reduceAdd, Int.reduceSub, Int.reduceNeg, Int.reduceLT, Int.reduceLE, Int.reduceEq, noRef, decide_eq_true_eq, isi2v, isi_lv, isi_tv, d_ne_bl, bne_self_eq_false, lenv, z3, same_i, all3']
theorem same_4 (p q r : Tri.V) (i : Int) : f_law_same 4 [.lst [v3 p, v3 q, .int i, v3 r], .flst [v3 p, v3 q, .int i, v3 r]] = .ok (.bl true) := by
  have z : dZip (.lst [v3 p, v3 q, .int i, v3 r]) (.flst [v3 p, v3 q, .int i, v3 r]) = some [.tup [v3 p, v3 p], .tup [v3 q, v3 q], .tup [.int i, .int i], .tup [v3 r, v3 r]] := rfl
  have l1 : dLen [.lst [v3 p, v3 q, .int i, v3 r]] = some (.int 4) := rfl
  have l2 : dLen [.flst [v3 p, v3 q, .int i, v3 r]] = some (.int 4) := rfl
  have s2 : ∀ x y : D, seqOf (.tup [x, y]) = some [x, y] := fun _ _ => rfl
  rw [fs]
  unfold g_law_same
  simp (maxSteps := 3000000) (disch := first | assumption | decide | omega) only [e_b, e_ok, e_exc, e_bad, e_p, e_os, e_on, e_oif, slB_b, e_var, slD_b, slD_w, e_rdS, e_rd, okR_s, e_ref, slW_w, e_move, opt_s, opt_n, opt_if, e_rdL, e_lf, e_val, e_get_v, e_get_r, e_pair, e_op, e_T, e_isBl, e_and, e_or, e_not, e_andV, e_orV, e_notV, e_if, e_ap, e_bdif, e_seq, e_asg, e_gN, e_slt, e_slf, e_gnil, e_gcons, e_gseq, e_seqt, e_seql, e_seqf, e_ret, e_drop, e_ix, e_ixW, e_dix1, e_dix2, e_dix3, e_dix5, e_dix4, at0, at1, at2, at3, at4, at5, e_setIt, set0, set1, set2, e_cons, e_nil, e_args, e_ga0, e_ga1, e_tup, e_lst, e_callG, e_neg, e_intOf, res_ok, res_exc, e_call, resR_ok, resR_exc, e_callR, resT_ok, e_callRT, two_s, e_par2, e_part, e_sl, fin_next, fin_cont, fin_brk, fin_ret, e_fg0, e_fg1, e_for0, e_while, cat_ok, bdd_ok, e_comp0, e_comp1, e_lc, e_seqD, e_range1, e_range2, e_enum, e_zip, e_isi, e_isi2, endV_ret, endV_next, endV_exc, e_fn, endR_ret, endR_next, e_fnR, e_endVif, e_endRif, e_rooted, d_add, d_sub, d_mul, d_div, d_mod, d_pow, d_lt, d_le, d_gt, d_ge, d_eq_int, d_ne_int, d_abs, d_int_b, d_int_i, lf_int, lf_bl, lf_str, lf_non, lf_tup, lfs_nil, lfs_cons, e_aug, okL_s, e_refL, e_ins, e_app, ite_and, ite_or, ite_andD, ite_orD, e_setIt2, e_frz, e_ixW2, e_lzip, dTL2, e_qvar, qSl_i, e_qop, d_addI, lfs_rep, e_ext, e_rep, e_index, e_isl, e_isf, e_gst, e_gtup2, lfs_rev, e_revS, e_lk, e_lki, e_lkb, e_lks, e_lkn, e_lkt, e_lkl, e_lkf, e_lk0, e_lk1, lf_flst, startE, startR, List.map_cons, List.map_nil, List.length_cons, List.length_nil, List.replicate, List.getElem?_cons_zero, List.getElem?_cons_succ, List.set_cons_zero, List.set_cons_succ, List.cons_append, List.nil_append, List.append_nil, if_true, if_false, reduceIte, Option.isSome_some, Option.map_some, Option.bind_some, Bool.and_eq_true, Bool.or_eq_true, and_self, and_true, true_and, or_true, true_or, or_false, false_or, Bool.and_true, Bool.true_and, Bool.and_self, Bool.not_true, Bool.not_false, decide_true, decide_false, reduceCtorEq, Bool.false_eq_true, Nat.reduceAdd, Nat.reduceSub, Nat.reduceMul, Nat.reduceLeDiff, Nat.reduceLT, ne_eq, not_false_eq_true, Nat.reducePow, Nat.reduceEqDiff, Int.reduceToNat, Int.reducePow, Int.reduceMul, Int.reduceAdd, Int.reduceSub, Int.reduceNeg, Int.reduceLT, Int.reduceLE, Int.reduceEq, noRef, decide_eq_true_eq, isi2_lt_f, isi_l_f, isi_t_f, isi_l_l, isi_t_l, d_ne_bl, bne_self_eq_false, l1, l2, z, s2, same_i, same_v, all4']
/-- numbers turned about -/
def neg (p : Tri.V) : Tri.V := ⟨0 - p.x, 0 - p.y, 0 - p.z⟩
theorem ne_self (p : Tri.V) : dNe (v3 p) (v3 p) = some (.bl false) := by
  unfold dNe
  rw [if_pos (by rfl)]
  unfold eqD v3
  simp [D.py, pys, PyData.eqv, PyData.eqvAll]
theorem ne4 (p q : Tri.V) : dNe (.flst [v3 p, v3 p, v3 q, v3 q]) (.lst [v3 p, v3 p, v3 q, v3 q]) = some (.bl false) := by
  unfold dNe
  rw [if_pos (by rfl)]
  unfold eqD v3
  simp [D.py, pys, PyData.eqv, PyData.eqvAll]
theorem eq0 : dEq (v3 ⟨0, 0, 0⟩) (.tup [.int 0, .int 0, .int 0]) = some (.bl true) := rfl
theorem lkv (p : Tri.V) : lkD (v3 p) = v3 p := by unfold v3; simp [lkD, lkDs]
theorem sums_ok {a b c : Tri.V} (ha : VB 105 a) (hb : VB 105 b) (hc : VB 105 c) : f_law_sums_right [v3 a, v3 b, v3 c] = .ok (.bl true) := by
  have e1 := less_ok a b
  have e2 := lcross_ok ha hb (by omega)
  have e3 := ldot_ok ha hb (by omega)
  have e4 := lcross_ok (hb.sub ha) (hc.sub ha) (by omega)
  have g1 := less_by_ok a b
  have g2 := cross_ok ha hb (by omega)
  have g3 := dot_ok ha hb (by omega)
  have g4 := normal_ok ha hb hc (by omega)
  have n1 := normal_ok hb hc ha (by omega)
  have n2 := normal_ok hc ha hb (by omega)
  have n3 := normal_ok ha hc hb (by omega)
  have n4 := normal_ok hb ha hc (by omega)
  have g5 := cross_ok hb ha (by omega)
  have X := ha.cross hb
  have d1 := dot_ok X ha (by omega)
  have d2 := dot_ok X hb (by omega)
  have b7 : Bd 3 7 := by unfold Bd; omega
  have S7 := VB.sc b7 ha
  have g7 := cross_ok ha S7 (by omega)
  have m1 := Bd.ok b7 ha.1 (by omega); have m2 := Bd.ok b7 ha.2.1 (by omega); have m3 := Bd.ok b7 ha.2.2 (by omega)
  have E1 : Tri.across b c a = Tri.across a b c := by simp only [Tri.across, Tri.cross, Tri.sub, Tri.V.mk.injEq]; refine ⟨?_, ?_, ?_⟩ <;> grind
  have E2 : Tri.across c a b = Tri.across a b c := by simp only [Tri.across, Tri.cross, Tri.sub, Tri.V.mk.injEq]; refine ⟨?_, ?_, ?_⟩ <;> grind
  have E3 : Tri.across a c b = neg (Tri.across a b c) := by simp only [neg, Tri.across, Tri.cross, Tri.sub, Tri.V.mk.injEq]; refine ⟨?_, ?_, ?_⟩ <;> grind
  have E4 : Tri.across b a c = neg (Tri.across a b c) := by simp only [neg, Tri.across, Tri.cross, Tri.sub, Tri.V.mk.injEq]; refine ⟨?_, ?_, ?_⟩ <;> grind
  have E5 : Tri.cross b a = neg (Tri.cross a b) := by simp only [neg, Tri.cross, Tri.V.mk.injEq]; refine ⟨?_, ?_, ?_⟩ <;> grind
  have E6 : Tri.dot (Tri.cross a b) a = 0 := by simp only [Tri.dot, Tri.cross]; grind
  have E7 : Tri.dot (Tri.cross a b) b = 0 := by simp only [Tri.dot, Tri.cross]; grind
  have E8 : Tri.cross a (Tri.sc 7 a) = ⟨0, 0, 0⟩ := by simp only [Tri.cross, Tri.sc, Tri.V.mk.injEq]; refine ⟨?_, ?_, ?_⟩ <;> grind
  have E9 : Tri.cross (Tri.sub b a) (Tri.sub c a) = Tri.across a b c := rfl
  rw [E1] at n1; rw [E2] at n2; rw [E3] at n3; rw [E4] at n4; rw [E5] at g5; rw [E6] at d1; rw [E7] at d2; rw [E8] at g7; rw [E9] at e4
  have r2 : dRange1 [.int 2] = some [.int 0, .int 1] := rfl
  have un : ∀ p : Tri.V, D.tup [.int (0 - p.x), .int (0 - p.y), .int (0 - p.z)] = v3 (neg p) := fun _ => rfl
  have u7 : D.tup [.int (7 * a.x), .int (7 * a.y), .int (7 * a.z)] = v3 (Tri.sc 7 a) := rfl
  have ix1 : ∀ p q r : Tri.V, ∀ i : Int, atI [v3 p, v3 q, D.int i, v3 r] 1 = some (v3 q) := fun _ _ _ _ => rfl
  have ix3 : ∀ p q r : Tri.V, ∀ i : Int, atI [v3 p, v3 q, D.int i, v3 r] 3 = some (v3 r) := fun _ _ _ _ => rfl
  have s4 := same_4 (Tri.sub a b) (Tri.cross a b) (Tri.across a b c) (Tri.dot a b)
  have q1 := ne4 (Tri.across a b c) (neg (Tri.across a b c))
  have q2 := ne_self (neg (Tri.cross a b))
  have f1 := fun d ds E => e_for1 (gf := gN false 4) (keep := P3.forget []) (body := b_law_sums_right_1) (d := d) (ds := ds) (E := E)
  generalize Tri.cross a b = X1 at *
  generalize Tri.across a b c = X2 at *
  generalize Tri.dot a b = X3 at *
  unfold f_law_sums_right g_law_sums_right
  simp (maxSteps := 3000000) (disch := first | assumption | decide | omega) only [e_b, e_ok, e_exc, e_bad, e_p, e_os, e_on, e_oif, slB_b, e_var, slD_b, slD_w, e_rdS, e_rd, okR_s, e_ref, slW_w, e_move, opt_s, opt_n, opt_if, e_rdL, e_lf, e_val, e_get_v, e_get_r, e_pair, e_op, e_T, e_isBl, e_and, e_or, e_not, e_andV, e_orV, e_notV, e_if, e_ap, e_bdif, e_seq, e_asg, e_gN, e_slt, e_slf, e_gnil, e_gcons, e_gseq, e_seqt, e_seql, e_seqf, e_ret, e_drop, e_ix, e_ixW, e_dix1, e_dix2, e_dix3, e_dix5, e_dix4, at0, at1, at2, at3, at4, at5, e_setIt, set0, set1, set2, e_cons, e_nil, e_args, e_ga0, e_ga1, e_tup, e_lst, e_callG, e_neg, e_intOf, res_ok, res_exc, e_call, resR_ok, resR_exc, e_callR, resT_ok, e_callRT, two_s, e_par2, e_part, e_sl, fin_next, fin_cont, fin_brk, fin_ret, e_fg0, e_fg1, e_for0, e_while, cat_ok, bdd_ok, e_comp0, e_comp1, e_lc, e_seqD, e_range1, e_range2, e_enum, e_zip, e_isi, e_isi2, endV_ret, endV_next, endV_exc, e_fn, endR_ret, endR_next, e_fnR, e_endVif, e_endRif, e_rooted, d_add, d_sub, d_mul, d_div, d_mod, d_pow, d_lt, d_le, d_gt, d_ge, d_eq_int, d_ne_int, d_abs, d_int_b, d_int_i, lf_int, lf_bl, lf_str, lf_non, lf_tup, lfs_nil, lfs_cons, e_aug, okL_s, e_refL, e_ins, e_app, ite_and, ite_or, ite_andD, ite_orD, e_setIt2, e_frz, e_ixW2, e_lzip, dTL2, e_qvar, qSl_i, e_qop, d_addI, lfs_rep, e_ext, e_rep, e_index, e_isl, e_isf, e_gst, e_gtup2, lfs_rev, e_revS, e_lk, e_lki, e_lkb, e_lks, e_lkn, e_lkt, e_lkl, e_lkf, e_lk0, e_lk1, lf_flst, startE, startR, List.map_cons, List.map_nil, List.length_cons, List.length_nil, List.replicate, List.getElem?_cons_zero, List.getElem?_cons_succ, List.set_cons_zero, List.set_cons_succ, List.cons_append, List.nil_append, List.append_nil, if_true, if_false, reduceIte, Option.isSome_some, Option.map_some, Option.bind_some, Bool.and_eq_true, Bool.or_eq_true, and_self, and_true, true_and, or_true, true_or, or_false, false_or, Bool.and_true, Bool.true_and, Bool.and_self, Bool.not_true, Bool.not_false, decide_true, decide_false, reduceCtorEq, Bool.false_eq_true, Nat.reduceAdd, Nat.reduceSub, Nat.reduceMul, Nat.reduceLeDiff, Nat.reduceLT, ne_eq, not_false_eq_true, Nat.reducePow, Nat.reduceEqDiff, Int.reduceToNat, Int.reducePow, Int.reduceMul, Int.reduceAdd, Int.reduceSub, Int.reduceNeg, Int.reduceLT, Int.reduceLE, Int.reduceEq, noRef, decide_eq_true_eq, e1, e2, e3, e4, less_ok, lkv, v3_lf, r2, f1, b_law_sums_right_1_E, g1, g2, g3, g4, s4, ix1, ix3, seqv, tup3i, un, n1, n2, n3, n4, q1, g5, q2, d1, d2, m1, m2, m3, u7, g7, eq0, lfs]
/-- vectors -/
theorem vector_ok {n : Nat} {d : D} (h : Box n d) (hn : n < 2 ^ 58) : ∃ p d', f_law_vector d [] = .ok (v3 p) d' ∧ ((-(10 ^ 30) ≤ p.x ∧ p.x ≤ 10 ^ 30) ∧ (-(10 ^ 30) ≤ p.y ∧ p.y ≤ 10 ^ 30) ∧ -(10 ^ 30) ≤ p.z ∧ p.z ≤ 10 ^ 30) ∧ Box (n + 4) d' := by
  obtain ⟨r, d0, e0, a0, b0, k0⟩ := take_box h (by omega) 4 (by omega) (by omega)
  obtain ⟨m, em, hm⟩ : ∃ m : Int, atI [D.int 5, D.int 2001, D.int 1000000000000000000000000000000, D.int 2] r = some (.int m) ∧ (2 ≤ m ∧ m ≤ 10 ^ 30) := by
    rcases (by omega : r = 0 ∨ r = 1 ∨ r = 2 ∨ r = 3) with rfl | rfl | rfl | rfl
    · exact ⟨5, rfl, by omega, by omega⟩
    · exact ⟨2001, rfl, by omega, by omega⟩
    · exact ⟨1000000000000000000000000000000, rfl, by omega, by omega⟩
    · exact ⟨2, rfl, by omega, by omega⟩
  obtain ⟨r1, d1, e1, a1, b1, k1⟩ := take_box k0 (by omega) m (by omega) (by omega)
  obtain ⟨r2, d2, e2, a2, b2, k2⟩ := take_box k1 (by omega) m (by omega) (by omega)
  obtain ⟨r3', d3, e3, a3, b3, k3⟩ := take_box k2 (by omega) m (by omega) (by omega)
  have w0 := h.lf; have w1 := k0.lf; have w2 := k1.lf; have w3 := k2.lf
  have p30 : powOk 10 30 = true := by decide +kernel
  refine ⟨⟨r1 - m / 2, r2 - m / 2, r3' - m / 2⟩, d3, ?_, ?_, k3⟩
  · unfold f_law_vector g_law_vector
    simp (maxSteps := 3000000) (disch := first | assumption | decide | omega) only [e_b, e_ok, e_exc, e_bad, e_p, e_os, e_on, e_oif, slB_b, e_var, slD_b, slD_w, e_rdS, e_rd, okR_s, e_ref, slW_w, e_move, opt_s, opt_n, opt_if, e_rdL, e_lf, e_val, e_get_v, e_get_r, e_pair, e_op, e_T, e_isBl, e_and, e_or, e_not, e_andV, e_orV, e_notV, e_if, e_ap, e_bdif, e_seq, e_asg, e_gN, e_slt, e_slf, e_gnil, e_gcons, e_gseq, e_seqt, e_seql, e_seqf, e_ret, e_drop, e_ix, e_ixW, e_dix1, e_dix2, e_dix3, e_dix5, e_dix4, at0, at1, at2, at3, at4, at5, e_setIt, set0, set1, set2, e_cons, e_nil, e_args, e_ga0, e_ga1, e_tup, e_lst, e_callG, e_neg, e_intOf, res_ok, res_exc, e_call, resR_ok, resR_exc, e_callR, resT_ok, e_callRT, two_s, e_par2, e_part, e_sl, fin_next, fin_cont, fin_brk, fin_ret, e_fg0, e_fg1, e_for0, e_while, cat_ok, bdd_ok, e_comp0, e_comp1, e_lc, e_seqD, e_range1, e_range2, e_enum, e_zip, e_isi, e_isi2, endV_ret, endV_next, endV_exc, e_fn, endR_ret, endR_next, e_fnR, e_endVif, e_endRif, e_rooted, d_add, d_sub, d_mul, d_div, d_mod, d_pow, d_lt, d_le, d_gt, d_ge, d_eq_int, d_ne_int, d_abs, d_int_b, d_int_i, lf_int, lf_bl, lf_str, lf_non, lf_tup, lfs_nil, lfs_cons, e_aug, okL_s, e_refL, e_ins, e_app, ite_and, ite_or, ite_andD, ite_orD, e_setIt2, e_frz, e_ixW2, e_lzip, dTL2, e_qvar, qSl_i, e_qop, d_addI, lfs_rep, e_ext, e_rep, e_index, e_isl, e_isf, e_gst, e_gtup2, lfs_rev, e_revS, e_lk, e_lki, e_lkb, e_lks, e_lkn, e_lkt, e_lkl, e_lkf, e_lk0, e_lk1, lf_flst, startE, startR, List.map_cons, List.map_nil, List.length_cons, List.length_nil, List.replicate, List.getElem?_cons_zero, List.getElem?_cons_succ, List.set_cons_zero, List.set_cons_succ, List.cons_append, List.nil_append, List.append_nil, if_true, if_false, reduceIte, Option.isSome_some, Option.map_some, Option.bind_some, Bool.and_eq_true, Bool.or_eq_true, and_self, and_true, true_and, or_true, true_or, or_false, false_or, Bool.and_true, Bool.true_and, Bool.and_self, Bool.not_true, Bool.not_false, decide_true, decide_false, reduceCtorEq, Bool.false_eq_true, Nat.reduceAdd, Nat.reduceSub, Nat.reduceMul, Nat.reduceLeDiff, Nat.reduceLT, ne_eq, not_false_eq_true, Nat.reducePow, Nat.reduceEqDiff, Int.reduceToNat, Int.reducePow, Int.reduceMul, Int.reduceAdd, Int.reduceSub, Int.reduceNeg, Int.reduceLT, Int.reduceLE, Int.reduceEq, noRef, decide_eq_true_eq, rg3, w0, w1, w2, w3, e0, e1, e2, e3, tup3i, p30, em, divOk_le, fdiv_pos]
    rfl
  · simp only []
    omega
theorem vectors_ok {n : Nat} {d : D} (h : Box n d) (hn : n < 2 ^ 57) : ∃ a b c d', f_law_vectors d [] = .ok (.tup [v3 a, v3 b, v3 c]) d' ∧ VB 105 a ∧ VB 105 b ∧ VB 105 c ∧ Box (n + 14) d' := by
  obtain ⟨a, d1, e1, va, k1⟩ := vector_ok h (by omega)
  obtain ⟨b, d2, e2, vb, k2⟩ := vector_ok k1 (by omega)
  obtain ⟨c, d3, e3, vc, k3⟩ := vector_ok k2 (by omega)
  obtain ⟨w, d4, e4, a4, b4, k4⟩ := take_box k3 (by omega) 5 (by omega) (by omega)
  obtain ⟨y, d5, e5, a5, b5, k5⟩ := take_box k4 (by omega) 7 (by omega) (by omega)
  have w0 := h.lf; have w1 := k1.lf; have w2 := k2.lf; have w3 := k3.lf; have w4 := k4.lf
  have sq3 : ∀ x y z : D, seqOf (.flst [x, y, z]) = some [x, y, z] := fun _ _ _ => rfl
  have sq2 : ∀ x y : D, seqOf (.tup [x, y]) = some [x, y] := fun _ _ => rfl
  have B : ∀ {p : Tri.V}, ((-(10 ^ 30) ≤ p.x ∧ p.x ≤ 10 ^ 30) ∧ (-(10 ^ 30) ≤ p.y ∧ p.y ≤ 10 ^ 30) ∧ -(10 ^ 30) ≤ p.z ∧ p.z ≤ 10 ^ 30) → VB 105 p := fun h => by unfold VB Bd; omega
  rcases (by omega : w = 0 ∨ w = 1 ∨ w = 2 ∨ 2 < w) with rfl | rfl | rfl | hw
  · refine ⟨a, neg a, c, d5, ?_, B va, B (by unfold neg; simp only []; omega), B vc, k5.mono (by omega)⟩
    have un : D.tup [.int (0 - a.x), .int (0 - a.y), .int (0 - a.z)] = v3 (neg a) := rfl
    unfold f_law_vectors g_law_vectors
    simp (maxSteps := 3000000) (disch := first | assumption | decide | omega) only [e_b, e_ok, e_exc, e_bad, e_p, e_os, e_on, e_oif, slB_b, e_var, slD_b, slD_w, e_rdS, e_rd, okR_s, e_ref, slW_w, e_move, opt_s, opt_n, opt_if, e_rdL, e_lf, e_val, e_get_v, e_get_r, e_pair, e_op, e_T, e_isBl, e_and, e_or, e_not, e_andV, e_orV, e_notV, e_if, e_ap, e_bdif, e_seq, e_asg, e_gN, e_slt, e_slf, e_gnil, e_gcons, e_gseq, e_seqt, e_seql, e_seqf, e_ret, e_drop, e_ix, e_ixW, e_dix1, e_dix2, e_dix3, e_dix5, e_dix4, at0, at1, at2, at3, at4, at5, e_setIt, set0, set1, set2, e_cons, e_nil, e_args, e_ga0, e_ga1, e_tup, e_lst, e_callG, e_neg, e_intOf, res_ok, res_exc, e_call, resR_ok, resR_exc, e_callR, resT_ok, e_callRT, two_s, e_par2, e_part, e_sl, fin_next, fin_cont, fin_brk, fin_ret, e_fg0, e_fg1, e_for0, e_while, cat_ok, bdd_ok, e_comp0, e_comp1, e_lc, e_seqD, e_range1, e_range2, e_enum, e_zip, e_isi, e_isi2, endV_ret, endV_next, endV_exc, e_fn, endR_ret, endR_next, e_fnR, e_endVif, e_endRif, e_rooted, d_add, d_sub, d_mul, d_div, d_mod, d_pow, d_lt, d_le, d_gt, d_ge, d_eq_int, d_ne_int, d_abs, d_int_b, d_int_i, lf_int, lf_bl, lf_str, lf_non, lf_tup, lfs_nil, lfs_cons, e_aug, okL_s, e_refL, e_ins, e_app, ite_and, ite_or, ite_andD, ite_orD, e_setIt2, e_frz, e_ixW2, e_lzip, dTL2, e_qvar, qSl_i, e_qop, d_addI, lfs_rep, e_ext, e_rep, e_index, e_isl, e_isf, e_gst, e_gtup2, lfs_rev, e_revS, e_lk, e_lki, e_lkb, e_lks, e_lkn, e_lkt, e_lkl, e_lkf, e_lk0, e_lk1, lf_flst, startE, startR, List.map_cons, List.map_nil, List.length_cons, List.length_nil, List.replicate, List.getElem?_cons_zero, List.getElem?_cons_succ, List.set_cons_zero, List.set_cons_succ, List.cons_append, List.nil_append, List.append_nil, if_true, if_false, reduceIte, Option.isSome_some, Option.map_some, Option.bind_some, Bool.and_eq_true, Bool.or_eq_true, and_self, and_true, true_and, or_true, true_or, or_false, false_or, Bool.and_true, Bool.true_and, Bool.and_self, Bool.not_true, Bool.not_false, decide_true, decide_false, reduceCtorEq, Bool.false_eq_true, Nat.reduceAdd, Nat.reduceSub, Nat.reduceMul, Nat.reduceLeDiff, Nat.reduceLT, ne_eq, not_false_eq_true, Nat.reducePow, Nat.reduceEqDiff, Int.reduceToNat, Int.reducePow, Int.reduceMul, Int.reduceAdd, Int.reduceSub, Int.reduceNeg, Int.reduceLT, Int.reduceLE, Int.reduceEq, noRef, decide_eq_true_eq, rg3, w0, w1, w2, w3, w4, e1, e2, e3, e4, e5, lkv, v3_lf, sq3, sq2, seqv, tup3i, un]
  · have cb : ∀ {i j : Int}, (-(10 ^ 30) ≤ i ∧ i ≤ 10 ^ 30) → (-(10 ^ 30) ≤ j ∧ j ≤ 10 ^ 30) → -(7 * 10 ^ 30) ≤ i + (y - 3) * (j - i) ∧ i + (y - 3) * (j - i) ≤ 7 * 10 ^ 30 := fun {i j} h1 h2 => by
      rcases (by omega : y = 0 ∨ y = 1 ∨ y = 2 ∨ y = 3 ∨ y = 4 ∨ y = 5 ∨ y = 6) with rfl | rfl | rfl | rfl | rfl | rfl | rfl <;> omega
    have mo : ∀ {i j : Int}, (-(10 ^ 30) ≤ i ∧ i ≤ 10 ^ 30) → (-(10 ^ 30) ≤ j ∧ j ≤ 10 ^ 30) → mulOk (y - 3) (j - i) = true := fun {i j} h1 h2 => mulOk_le (by omega) (by omega) (by omega) (by omega)
    have q1 := cb va.1 vb.1; have q2 := cb va.2.1 vb.2.1; have q3 := cb va.2.2 vb.2.2
    have m1 := mo va.1 vb.1; have m2 := mo va.2.1 vb.2.1; have m3 := mo va.2.2 vb.2.2
    refine ⟨a, b, ⟨a.x + (y - 3) * (b.x - a.x), a.y + (y - 3) * (b.y - a.y), a.z + (y - 3) * (b.z - a.z)⟩, d5, ?_, B va, B vb, ?_, k5.mono (by omega)⟩
    · have un : D.tup [.int (a.x + (y - 3) * (b.x - a.x)), .int (a.y + (y - 3) * (b.y - a.y)), .int (a.z + (y - 3) * (b.z - a.z))] = v3 ⟨a.x + (y - 3) * (b.x - a.x), a.y + (y - 3) * (b.y - a.y), a.z + (y - 3) * (b.z - a.z)⟩ := rfl
      unfold f_law_vectors g_law_vectors
      simp (maxSteps := 3000000) (disch := first | assumption | decide | omega) only [e_b, e_ok, e_exc, e_bad, e_p, e_os, e_on, e_oif, slB_b, e_var, slD_b, slD_w, e_rdS, e_rd, okR_s, e_ref, slW_w, e_move, opt_s, opt_n, opt_if, e_rdL, e_lf, e_val, e_get_v, e_get_r, e_pair, e_op, e_T, e_isBl, e_and, e_or, e_not, e_andV, e_orV, e_notV, e_if, e_ap, e_bdif, e_seq, e_asg, e_gN, e_slt, e_slf, e_gnil, e_gcons, e_gseq, e_seqt, e_seql, e_seqf, e_ret, e_drop, e_ix, e_ixW, e_dix1, e_dix2, e_dix3, e_dix5, e_dix4, at0, at1, at2, at3, at4, at5, e_setIt, set0, set1, set2, e_cons, e_nil, e_args, e_ga0, e_ga1, e_tup, e_lst, e_callG, e_neg, e_intOf, res_ok, res_exc, e_call, resR_ok, resR_exc, e_callR, resT_ok, e_callRT, two_s, e_par2, e_part, e_sl, fin_next, fin_cont, fin_brk, fin_ret, e_fg0, e_fg1, e_for0, e_while, cat_ok, bdd_ok, e_comp0, e_comp1, e_lc, e_seqD, e_range1, e_range2, e_enum, e_zip, e_isi, e_isi2, endV_ret, endV_next, endV_exc, e_fn, endR_ret, endR_next, e_fnR, e_endVif, e_endRif, e_rooted, d_add, d_sub, d_mul, d_div, d_mod, d_pow, d_lt, d_le, d_gt, d_ge, d_eq_int, d_ne_int, d_abs, d_int_b, d_int_i, lf_int, lf_bl, lf_str, lf_non, lf_tup, lfs_nil, lfs_cons, e_aug, okL_s, e_refL, e_ins, e_app, ite_and, ite_or, ite_andD, ite_orD, e_setIt2, e_frz, e_ixW2, e_lzip, dTL2, e_qvar, qSl_i, e_qop, d_addI, lfs_rep, e_ext, e_rep, e_index, e_isl, e_isf, e_gst, e_gtup2, lfs_rev, e_revS, e_lk, e_lki, e_lkb, e_lks, e_lkn, e_lkt, e_lkl, e_lkf, e_lk0, e_lk1, lf_flst, startE, startR, List.map_cons, List.map_nil, List.length_cons, List.length_nil, List.replicate, List.getElem?_cons_zero, List.getElem?_cons_succ, List.set_cons_zero, List.set_cons_succ, List.cons_append, List.nil_append, List.append_nil, if_true, if_false, reduceIte, Option.isSome_some, Option.map_some, Option.bind_some, Bool.and_eq_true, Bool.or_eq_true, and_self, and_true, true_and, or_true, true_or, or_false, false_or, Bool.and_true, Bool.true_and, Bool.and_self, Bool.not_true, Bool.not_false, decide_true, decide_false, reduceCtorEq, Bool.false_eq_true, Nat.reduceAdd, Nat.reduceSub, Nat.reduceMul, Nat.reduceLeDiff, Nat.reduceLT, ne_eq, not_false_eq_true, Nat.reducePow, Nat.reduceEqDiff, Int.reduceToNat, Int.reducePow, Int.reduceMul, Int.reduceAdd, Int.reduceSub, Int.reduceNeg, Int.reduceLT, Int.reduceLE, Int.reduceEq, noRef, decide_eq_true_eq, rg3, w0, w1, w2, w3, w4, e1, e2, e3, e4, e5, lkv, v3_lf, sq3, sq2, seqv, z3, tup3i, m1, m2, m3, un]
    · unfold VB Bd
      simp only []
      omega
  · refine ⟨a, b, a, d5, ?_, B va, B vb, B va, k5.mono (by omega)⟩
    unfold f_law_vectors g_law_vectors
    simp (maxSteps := 3000000) (disch := first | assumption | decide | omega) only [e_b, e_ok, e_exc, e_bad, e_p, e_os, e_on, e_oif, slB_b, e_var, slD_b, slD_w, e_rdS, e_rd, okR_s, e_ref, slW_w, e_move, opt_s, opt_n, opt_if, e_rdL, e_lf, e_val, e_get_v, e_get_r, e_pair, e_op, e_T, e_isBl, e_and, e_or, e_not, e_andV, e_orV, e_notV, e_if, e_ap, e_bdif, e_seq, e_asg, e_gN, e_slt, e_slf, e_gnil, e_gcons, e_gseq, e_seqt, e_seql, e_seqf, e_ret, e_drop, e_ix, e_ixW, e_dix1, e_dix2, e_dix3, e_dix5, e_dix4, at0, at1, at2, at3, at4, at5, e_setIt, set0, set1, set2, e_cons, e_nil, e_args, e_ga0, e_ga1, e_tup, e_lst, e_callG, e_neg, e_intOf, res_ok, res_exc, e_call, resR_ok, resR_exc, e_callR, resT_ok, e_callRT, two_s, e_par2, e_part, e_sl, fin_next, fin_cont, fin_brk, fin_ret, e_fg0, e_fg1, e_for0, e_while, cat_ok, bdd_ok, e_comp0, e_comp1, e_lc, e_seqD, e_range1, e_range2, e_enum, e_zip, e_isi, e_isi2, endV_ret, endV_next, endV_exc, e_fn, endR_ret, endR_next, e_fnR, e_endVif, e_endRif, e_rooted, d_add, d_sub, d_mul, d_div, d_mod, d_pow, d_lt, d_le, d_gt, d_ge, d_eq_int, d_ne_int, d_abs, d_int_b, d_int_i, lf_int, lf_bl, lf_str, lf_non, lf_tup, lfs_nil, lfs_cons, e_aug, okL_s, e_refL, e_ins, e_app, ite_and, ite_or, ite_andD, ite_orD, e_setIt2, e_frz, e_ixW2, e_lzip, dTL2, e_qvar, qSl_i, e_qop, d_addI, lfs_rep, e_ext, e_rep, e_index, e_isl, e_isf, e_gst, e_gtup2, lfs_rev, e_revS, e_lk, e_lki, e_lkb, e_lks, e_lkn, e_lkt, e_lkl, e_lkf, e_lk0, e_lk1, lf_flst, startE, startR, List.map_cons, List.map_nil, List.length_cons, List.length_nil, List.replicate, List.getElem?_cons_zero, List.getElem?_cons_succ, List.set_cons_zero, List.set_cons_succ, List.cons_append, List.nil_append, List.append_nil, if_true, if_false, reduceIte, Option.isSome_some, Option.map_some, Option.bind_some, Bool.and_eq_true, Bool.or_eq_true, and_self, and_true, true_and, or_true, true_or, or_false, false_or, Bool.and_true, Bool.true_and, Bool.and_self, Bool.not_true, Bool.not_false, decide_true, decide_false, reduceCtorEq, Bool.false_eq_true, Nat.reduceAdd, Nat.reduceSub, Nat.reduceMul, Nat.reduceLeDiff, Nat.reduceLT, ne_eq, not_false_eq_true, Nat.reducePow, Nat.reduceEqDiff, Int.reduceToNat, Int.reducePow, Int.reduceMul, Int.reduceAdd, Int.reduceSub, Int.reduceNeg, Int.reduceLT, Int.reduceLE, Int.reduceEq, noRef, decide_eq_true_eq, rg3, w0, w1, w2, w3, w4, e1, e2, e3, e4, e5, lkv, v3_lf, sq3, sq2, seqv]
  · refine ⟨a, b, c, d5, ?_, B va, B vb, B vc, k5.mono (by omega)⟩
    have w00 : w ≠ 0 := by omega
    have w01 : w ≠ 1 := by omega
    have w02 : w ≠ 2 := by omega
    unfold f_law_vectors g_law_vectors
    simp (maxSteps := 3000000) (disch := first | assumption | decide | omega) only [e_b, e_ok, e_exc, e_bad, e_p, e_os, e_on, e_oif, slB_b, e_var, slD_b, slD_w, e_rdS, e_rd, okR_s, e_ref, slW_w, e_move, opt_s, opt_n, opt_if, e_rdL, e_lf, e_val, e_get_v, e_get_r, e_pair, e_op, e_T, e_isBl, e_and, e_or, e_not, e_andV, e_orV, e_notV, e_if, e_ap, e_bdif, e_seq, e_asg, e_gN, e_slt, e_slf, e_gnil, e_gcons, e_gseq, e_seqt, e_seql, e_seqf, e_ret, e_drop, e_ix, e_ixW, e_dix1, e_dix2, e_dix3, e_dix5, e_dix4, at0, at1, at2, at3, at4, at5, e_setIt, set0, set1, set2, e_cons, e_nil, e_args, e_ga0, e_ga1, e_tup, e_lst, e_callG, e_neg, e_intOf, res_ok, res_exc, e_call, resR_ok, resR_exc, e_callR, resT_ok, e_callRT, two_s, e_par2, e_part, e_sl, fin_next, fin_cont, fin_brk, fin_ret, e_fg0, e_fg1, e_for0, e_while, cat_ok, bdd_ok, e_comp0, e_comp1, e_lc, e_seqD, e_range1, e_range2, e_enum, e_zip, e_isi, e_isi2, endV_ret, endV_next, endV_exc, e_fn, endR_ret, endR_next, e_fnR, e_endVif, e_endRif, e_rooted, d_add, d_sub, d_mul, d_div, d_mod, d_pow, d_lt, d_le, d_gt, d_ge, d_eq_int, d_ne_int, d_abs, d_int_b, d_int_i, lf_int, lf_bl, lf_str, lf_non, lf_tup, lfs_nil, lfs_cons, e_aug, okL_s, e_refL, e_ins, e_app, ite_and, ite_or, ite_andD, ite_orD, e_setIt2, e_frz, e_ixW2, e_lzip, dTL2, e_qvar, qSl_i, e_qop, d_addI, lfs_rep, e_ext, e_rep, e_index, e_isl, e_isf, e_gst, e_gtup2, lfs_rev, e_revS, e_lk, e_lki, e_lkb, e_lks, e_lkn, e_lkt, e_lkl, e_lkf, e_lk0, e_lk1, lf_flst, startE, startR, List.map_cons, List.map_nil, List.length_cons, List.length_nil, List.replicate, List.getElem?_cons_zero, List.getElem?_cons_succ, List.set_cons_zero, List.set_cons_succ, List.cons_append, List.nil_append, List.append_nil, if_true, if_false, reduceIte, Option.isSome_some, Option.map_some, Option.bind_some, Bool.and_eq_true, Bool.or_eq_true, and_self, and_true, true_and, or_true, true_or, or_false, false_or, Bool.and_true, Bool.true_and, Bool.and_self, Bool.not_true, Bool.not_false, decide_true, decide_false, reduceCtorEq, Bool.false_eq_true, Nat.reduceAdd, Nat.reduceSub, Nat.reduceMul, Nat.reduceLeDiff, Nat.reduceLT, ne_eq, not_false_eq_true, Nat.reducePow, Nat.reduceEqDiff, Int.reduceToNat, Int.reducePow, Int.reduceMul, Int.reduceAdd, Int.reduceSub, Int.reduceNeg, Int.reduceLT, Int.reduceLE, Int.reduceEq, noRef, decide_eq_true_eq, rg3, w0, w1, w2, w3, w4, e1, e2, e3, e4, e5, lkv, v3_lf, sq3, sq2, seqv, w00, w01, w02]
end K01
end
section
set_option maxRecDepth 100000
set_option linter.all false
set_option Elab.async false
set_option autoImplicit false
set_option maxHeartbeats 8000000
set_option exponentiation.threshold 3000
/-! things bent -/
namespace K01
open PySem PySem.Spec PyProof.Rows L2 P3
def odds : List D := [.non, .bl true, .bl false, .int 0, .int 1, .int (-1), .int 1001, .int (-1000), .int 1000000000, .str "", .str "a", .tup [], .flst [], .tup [.int 0], .tup [.int 0, .int 0, .int 0], .flst [.int 0, .int 0, .int 0]]
theorem odds_pd {B : Int} {n : Nat} (hB : 1000000000 ≤ B) (hn : 3 ≤ n) : ∀ d ∈ odds, Pd B n d := by
  rw [← Pds.iff]
  unfold odds
  simp only [Pds, Pd, List.length_cons, List.length_nil, and_true, true_and]
  omega
theorem odd_ok {B : Int} {n k : Nat} (hB : 1000000000 ≤ B) (hn : 3 ≤ n) {d : D} (h : Box k d) (hk : k < 2 ^ 58) : ∃ z d', f_law_odd d [] = .ok z d' ∧ Pd B n z ∧ Box (k + 1) d' := by
  obtain ⟨r, d1, e1, a1, b1, k1⟩ := take_box h (by omega) 16 (by omega) (by omega)
  obtain ⟨z, mz, ez⟩ := at_mem (ds := odds) a1 (by show r < 16; exact b1)
  have pz := odds_pd hB hn z mz
  have w0 := h.lf
  have lz := pz.lf
  have p9 : powOk 10 9 = true := by decide +kernel
  unfold odds at ez
  refine ⟨z, d1, ?_, pz, k1⟩
  unfold f_law_odd g_law_odd
  simp (maxSteps := 3000000) (disch := first | assumption | decide | omega) only [e_b, e_ok, e_exc, e_bad, e_p, e_os, e_on, e_oif, slB_b, e_var, slD_b, slD_w, e_rdS, e_rd, okR_s, e_ref, slW_w, e_move, opt_s, opt_n, opt_if, e_rdL, e_lf, e_val, e_get_v, e_get_r, e_pair, e_op, e_T, e_isBl, e_and, e_or, e_not, e_andV, e_orV, e_notV, e_if, e_ap, e_bdif, e_seq, e_asg, e_gN, e_slt, e_slf, e_gnil, e_gcons, e_gseq, e_seqt, e_seql, e_seqf, e_ret, e_drop, e_ix, e_ixW, e_dix1, e_dix2, e_dix3, e_dix5, e_dix4, at0, at1, at2, at3, at4, at5, e_setIt, set0, set1, set2, e_cons, e_nil, e_args, e_ga0, e_ga1, e_tup, e_lst, e_callG, e_neg, e_intOf, res_ok, res_exc, e_call, resR_ok, resR_exc, e_callR, resT_ok, e_callRT, two_s, e_par2, e_part, e_sl, fin_next, fin_cont, fin_brk, fin_ret, e_fg0, e_fg1, e_for0, e_while, cat_ok, bdd_ok, e_comp0, e_comp1, e_lc, e_seqD, e_range1, e_range2, e_enum, e_zip, e_isi, e_isi2, endV_ret, endV_next, endV_exc, e_fn, endR_ret, endR_next, e_fnR, e_endVif, e_endRif, e_rooted, d_add, d_sub, d_mul, d_div, d_mod, d_pow, d_lt, d_le, d_gt, d_ge, d_eq_int, d_ne_int, d_abs, d_int_b, d_int_i, lf_int, lf_bl, lf_str, lf_non, lf_tup, lfs_nil, lfs_cons, e_aug, okL_s, e_refL, e_ins, e_app, ite_and, ite_or, ite_andD, ite_orD, e_setIt2, e_frz, e_ixW2, e_lzip, dTL2, e_qvar, qSl_i, e_qop, d_addI, lfs_rep, e_ext, e_rep, e_index, e_isl, e_isf, e_gst, e_gtup2, lfs_rev, e_revS, e_lk, e_lki, e_lkb, e_lks, e_lkn, e_lkt, e_lkl, e_lkf, e_lk0, e_lk1, lf_flst, e_chain, startE, startR, List.map_cons, List.map_nil, List.length_cons, List.length_nil, List.replicate, List.getElem?_cons_zero, List.getElem?_cons_succ, List.set_cons_zero, List.set_cons_succ, List.cons_append, List.nil_append, List.append_nil, if_true, if_false, reduceIte, Option.isSome_some, Option.map_some, Option.bind_some, Bool.and_eq_true, Bool.or_eq_true, and_self, and_true, true_and, or_true, true_or, or_false, false_or, Bool.and_true, Bool.true_and, Bool.and_self, Bool.not_true, Bool.not_false, decide_true, decide_false, reduceCtorEq, Bool.false_eq_true, Nat.reduceAdd, Nat.reduceSub, Nat.reduceMul, Nat.reduceLeDiff, Nat.reduceLT, ne_eq, not_false_eq_true, Nat.reducePow, Nat.reduceEqDiff, Int.reduceToNat, Int.reducePow, Int.reduceMul, Int.reduceAdd, Int.reduceSub, Int.reduceNeg, Int.reduceLT, Int.reduceLE, Int.reduceEq, noRef, decide_eq_true_eq, w0, e1, p9, ez, lz, lfs]
section
variable {B : Int} {n k : Nat} {xs : List D}
/-- the steps of a row -/
theorem row_ok (hB : 1000000000 ≤ B) (hn : 3 ≤ n) (hn2 : n ≤ 1000) (hx : Pds B n xs) (hl : xs.length ≤ n) {d : D} (h : Box k d) (hk : k < 2 ^ 57) (t : D) (ht : t = .tup xs ∨ t = .flst xs) :
    ∃ z d', f_law_bent_row d [t] = .ok z d' ∧ Rs B (3 * n + 1) z ∧ Box (k + 3) d' := by
  obtain ⟨w, d1, e1, a1, b1, k1⟩ := take_box h (by omega) 6 (by omega) (by omega)
  obtain ⟨r, d2, e2, a2, b2, k2⟩ := take_box k1 (by omega) ((xs.length : Int) + 1) (by omega) (by omega)
  obtain ⟨o, d3, e3, po, k3⟩ := odd_ok hB hn k2 (by omega)
  have w0 := h.lf; have w1 := k1.lf; have w2 := k2.lf
  have lo := po.lf
  have lko := po.lk
  have ll : dLen [t] = some (.int xs.length) := by rcases ht with rfl | rfl <;> rfl
  have li : dList [t] = some (.lst xs) := by rcases ht with rfl | rfl; exact list_t hx; exact list_f hx
  have ti : dIsi "tuple" t = some (.bl (match t with | .tup _ => true | _ => false)) := by rcases ht with rfl | rfl; exact isi_t_t; exact isi_t_f
  -- what a row ys becomes
  have fin : ∀ ys : List D, Pds B (3 * n + 1) ys → ys.length ≤ 3 * n + 1 → Rs B (3 * n + 1) (.lst ys) ∧ Rs B (3 * n + 1) (.tup ys) ∧ dTuple [.lst ys] = some (.tup ys) := fun ys p l => ⟨.lst l p, .of (by unfold Pd; exact ⟨l, p⟩), tup_l p⟩
  have hx' := hx.mono (Int.le_refl _) (by omega : n ≤ 3 * n + 1)
  have cl := fun lo hi => cut_len (ds := xs) (lo := lo) (hi := hi)
  have cp := fun lo hi => hx'.sub (cut_mem (ds := xs) (lo := lo) (hi := hi))
  have sl := fun lo hi => sl_l hx' lo hi
  have c0 : (0 : Int) ≤ 0 := Int.le_refl _
  rcases (by omega : w = 0 ∨ w = 1 ∨ w = 2 ∨ w = 3 ∨ w = 4 ∨ w = 5) with rfl | rfl | rfl | rfl | rfl | rfl
  · have l1 := cl none (some r); have l2 := cl (some (r + 1)) none
    have ad := add_l (cp none (some r)) (cp (some (r + 1)) none) (by omega)
    obtain ⟨f1, f2, f3⟩ := fin _ ((cp none (some r)).app (cp (some (r + 1)) none)) (by rw [List.length_append]; omega)
    rcases ht with rfl | rfl
    · refine ⟨_, d2, ?_, f2, k2.mono (by omega)⟩
      unfold f_law_bent_row g_law_bent_row
      simp (maxSteps := 3000000) (disch := first | assumption | decide | omega) only [e_b, e_ok, e_exc, e_bad, e_p, e_os, e_on, e_oif, slB_b, e_var, slD_b, slD_w, e_rdS, e_rd, okR_s, e_ref, slW_w, e_move, opt_s, opt_n, opt_if, e_rdL, e_lf, e_val, e_get_v, e_get_r, e_pair, e_op, e_T, e_isBl, e_and, e_or, e_not, e_andV, e_orV, e_notV, e_if, e_ap, e_bdif, e_seq, e_asg, e_gN, e_slt, e_slf, e_gnil, e_gcons, e_gseq, e_seqt, e_seql, e_seqf, e_ret, e_drop, e_ix, e_ixW, e_dix1, e_dix2, e_dix3, e_dix5, e_dix4, at0, at1, at2, at3, at4, at5, e_setIt, set0, set1, set2, e_cons, e_nil, e_args, e_ga0, e_ga1, e_tup, e_lst, e_callG, e_neg, e_intOf, res_ok, res_exc, e_call, resR_ok, resR_exc, e_callR, resT_ok, e_callRT, two_s, e_par2, e_part, e_sl, fin_next, fin_cont, fin_brk, fin_ret, e_fg0, e_fg1, e_for0, e_while, cat_ok, bdd_ok, e_comp0, e_comp1, e_lc, e_seqD, e_range1, e_range2, e_enum, e_zip, e_isi, e_isi2, endV_ret, endV_next, endV_exc, e_fn, endR_ret, endR_next, e_fnR, e_endVif, e_endRif, e_rooted, d_add, d_sub, d_mul, d_div, d_mod, d_pow, d_lt, d_le, d_gt, d_ge, d_eq_int, d_ne_int, d_abs, d_int_b, d_int_i, lf_int, lf_bl, lf_str, lf_non, lf_tup, lfs_nil, lfs_cons, e_aug, okL_s, e_refL, e_ins, e_app, ite_and, ite_or, ite_andD, ite_orD, e_setIt2, e_frz, e_ixW2, e_lzip, dTL2, e_qvar, qSl_i, e_qop, d_addI, lfs_rep, e_ext, e_rep, e_index, e_isl, e_isf, e_gst, e_gtup2, lfs_rev, e_revS, e_lk, e_lki, e_lkb, e_lks, e_lkn, e_lkt, e_lkl, e_lkf, e_lk0, e_lk1, lf_flst, e_chain, startE, startR, List.map_cons, List.map_nil, List.length_cons, List.length_nil, List.replicate, List.getElem?_cons_zero, List.getElem?_cons_succ, List.set_cons_zero, List.set_cons_succ, List.cons_append, List.nil_append, List.append_nil, if_true, if_false, reduceIte, Option.isSome_some, Option.map_some, Option.bind_some, Bool.and_eq_true, Bool.or_eq_true, and_self, and_true, true_and, or_true, true_or, or_false, false_or, Bool.and_true, Bool.true_and, Bool.and_self, Bool.not_true, Bool.not_false, decide_true, decide_false, reduceCtorEq, Bool.false_eq_true, Nat.reduceAdd, Nat.reduceSub, Nat.reduceMul, Nat.reduceLeDiff, Nat.reduceLT, ne_eq, not_false_eq_true, Nat.reducePow, Nat.reduceEqDiff, Int.reduceToNat, Int.reducePow, Int.reduceMul, Int.reduceAdd, Int.reduceSub, Int.reduceNeg, Int.reduceLT, Int.reduceLE, Int.reduceEq, noRef, decide_eq_true_eq, w0, w1, w2, e1, e2, ll, li, sl, ad, isi_t_t, f3]
    · refine ⟨_, d2, ?_, f1, k2.mono (by omega)⟩
      unfold f_law_bent_row g_law_bent_row
      simp (maxSteps := 3000000) (disch := first | assumption | decide | omega) only [e_b, e_ok, e_exc, e_bad, e_p, e_os, e_on, e_oif, slB_b, e_var, slD_b, slD_w, e_rdS, e_rd, okR_s, e_ref, slW_w, e_move, opt_s, opt_n, opt_if, e_rdL, e_lf, e_val, e_get_v, e_get_r, e_pair, e_op, e_T, e_isBl, e_and, e_or, e_not, e_andV, e_orV, e_notV, e_if, e_ap, e_bdif, e_seq, e_asg, e_gN, e_slt, e_slf, e_gnil, e_gcons, e_gseq, e_seqt, e_seql, e_seqf, e_ret, e_drop, e_ix, e_ixW, e_dix1, e_dix2, e_dix3, e_dix5, e_dix4, at0, at1, at2, at3, at4, at5, e_setIt, set0, set1, set2, e_cons, e_nil, e_args, e_ga0, e_ga1, e_tup, e_lst, e_callG, e_neg, e_intOf, res_ok, res_exc, e_call, resR_ok, resR_exc, e_callR, resT_ok, e_callRT, two_s, e_par2, e_part, e_sl, fin_next, fin_cont, fin_brk, fin_ret, e_fg0, e_fg1, e_for0, e_while, cat_ok, bdd_ok, e_comp0, e_comp1, e_lc, e_seqD, e_range1, e_range2, e_enum, e_zip, e_isi, e_isi2, endV_ret, endV_next, endV_exc, e_fn, endR_ret, endR_next, e_fnR, e_endVif, e_endRif, e_rooted, d_add, d_sub, d_mul, d_div, d_mod, d_pow, d_lt, d_le, d_gt, d_ge, d_eq_int, d_ne_int, d_abs, d_int_b, d_int_i, lf_int, lf_bl, lf_str, lf_non, lf_tup, lfs_nil, lfs_cons, e_aug, okL_s, e_refL, e_ins, e_app, ite_and, ite_or, ite_andD, ite_orD, e_setIt2, e_frz, e_ixW2, e_lzip, dTL2, e_qvar, qSl_i, e_qop, d_addI, lfs_rep, e_ext, e_rep, e_index, e_isl, e_isf, e_gst, e_gtup2, lfs_rev, e_revS, e_lk, e_lki, e_lkb, e_lks, e_lkn, e_lkt, e_lkl, e_lkf, e_lk0, e_lk1, lf_flst, e_chain, startE, startR, List.map_cons, List.map_nil, List.length_cons, List.length_nil, List.replicate, List.getElem?_cons_zero, List.getElem?_cons_succ, List.set_cons_zero, List.set_cons_succ, List.cons_append, List.nil_append, List.append_nil, if_true, if_false, reduceIte, Option.isSome_some, Option.map_some, Option.bind_some, Bool.and_eq_true, Bool.or_eq_true, and_self, and_true, true_and, or_true, true_or, or_false, false_or, Bool.and_true, Bool.true_and, Bool.and_self, Bool.not_true, Bool.not_false, decide_true, decide_false, reduceCtorEq, Bool.false_eq_true, Nat.reduceAdd, Nat.reduceSub, Nat.reduceMul, Nat.reduceLeDiff, Nat.reduceLT, ne_eq, not_false_eq_true, Nat.reducePow, Nat.reduceEqDiff, Int.reduceToNat, Int.reducePow, Int.reduceMul, Int.reduceAdd, Int.reduceSub, Int.reduceNeg, Int.reduceLT, Int.reduceLE, Int.reduceEq, noRef, decide_eq_true_eq, w0, w1, w2, e1, e2, ll, li, sl, ad, isi_t_f, f3]
  · have l1 := cl none (some r); have l2 := cl (some r) (some (r + 1)); have l3 := cl (some r) none
    have p1 := (cp none (some r)).app (cp (some r) (some (r + 1)))
    have ad := add_l (cp none (some r)) (cp (some r) (some (r + 1))) (by omega)
    have ad2 := add_l p1 (cp (some r) none) (by rw [List.length_append]; omega)
    obtain ⟨f1, f2, f3⟩ := fin _ (p1.app (cp (some r) none)) (by simp only [List.length_append]; omega)
    rcases ht with rfl | rfl
    · refine ⟨_, d2, ?_, f2, k2.mono (by omega)⟩
      unfold f_law_bent_row g_law_bent_row
      simp (maxSteps := 3000000) (disch := first | assumption | decide | omega) only [e_b, e_ok, e_exc, e_bad, e_p, e_os, e_on, e_oif, slB_b, e_var, slD_b, slD_w, e_rdS, e_rd, okR_s, e_ref, slW_w, e_move, opt_s, opt_n, opt_if, e_rdL, e_lf, e_val, e_get_v, e_get_r, e_pair, e_op, e_T, e_isBl, e_and, e_or, e_not, e_andV, e_orV, e_notV, e_if, e_ap, e_bdif, e_seq, e_asg, e_gN, e_slt, e_slf, e_gnil, e_gcons, e_gseq, e_seqt, e_seql, e_seqf, e_ret, e_drop, e_ix, e_ixW, e_dix1, e_dix2, e_dix3, e_dix5, e_dix4, at0, at1, at2, at3, at4, at5, e_setIt, set0, set1, set2, e_cons, e_nil, e_args, e_ga0, e_ga1, e_tup, e_lst, e_callG, e_neg, e_intOf, res_ok, res_exc, e_call, resR_ok, resR_exc, e_callR, resT_ok, e_callRT, two_s, e_par2, e_part, e_sl, fin_next, fin_cont, fin_brk, fin_ret, e_fg0, e_fg1, e_for0, e_while, cat_ok, bdd_ok, e_comp0, e_comp1, e_lc, e_seqD, e_range1, e_range2, e_enum, e_zip, e_isi, e_isi2, endV_ret, endV_next, endV_exc, e_fn, endR_ret, endR_next, e_fnR, e_endVif, e_endRif, e_rooted, d_add, d_sub, d_mul, d_div, d_mod, d_pow, d_lt, d_le, d_gt, d_ge, d_eq_int, d_ne_int, d_abs, d_int_b, d_int_i, lf_int, lf_bl, lf_str, lf_non, lf_tup, lfs_nil, lfs_cons, e_aug, okL_s, e_refL, e_ins, e_app, ite_and, ite_or, ite_andD, ite_orD, e_setIt2, e_frz, e_ixW2, e_lzip, dTL2, e_qvar, qSl_i, e_qop, d_addI, lfs_rep, e_ext, e_rep, e_index, e_isl, e_isf, e_gst, e_gtup2, lfs_rev, e_revS, e_lk, e_lki, e_lkb, e_lks, e_lkn, e_lkt, e_lkl, e_lkf, e_lk0, e_lk1, lf_flst, e_chain, startE, startR, List.map_cons, List.map_nil, List.length_cons, List.length_nil, List.replicate, List.getElem?_cons_zero, List.getElem?_cons_succ, List.set_cons_zero, List.set_cons_succ, List.cons_append, List.nil_append, List.append_nil, if_true, if_false, reduceIte, Option.isSome_some, Option.map_some, Option.bind_some, Bool.and_eq_true, Bool.or_eq_true, and_self, and_true, true_and, or_true, true_or, or_false, false_or, Bool.and_true, Bool.true_and, Bool.and_self, Bool.not_true, Bool.not_false, decide_true, decide_false, reduceCtorEq, Bool.false_eq_true, Nat.reduceAdd, Nat.reduceSub, Nat.reduceMul, Nat.reduceLeDiff, Nat.reduceLT, ne_eq, not_false_eq_true, Nat.reducePow, Nat.reduceEqDiff, Int.reduceToNat, Int.reducePow, Int.reduceMul, Int.reduceAdd, Int.reduceSub, Int.reduceNeg, Int.reduceLT, Int.reduceLE, Int.reduceEq, noRef, decide_eq_true_eq, w0, w1, w2, e1, e2, ll, li, sl, ad, ad2, isi_t_t, f3]
    · refine ⟨_, d2, ?_, f1, k2.mono (by omega)⟩
      unfold f_law_bent_row g_law_bent_row
      simp (maxSteps := 3000000) (disch := first | assumption | decide | omega) only [e_b, e_ok, e_exc, e_bad, e_p, e_os, e_on, e_oif, slB_b, e_var, slD_b, slD_w, e_rdS, e_rd, okR_s, e_ref, slW_w, e_move, opt_s, opt_n, opt_if, e_rdL, e_lf, e_val, e_get_v, e_get_r, e_pair, e_op, e_T, e_isBl, e_and, e_or, e_not, e_andV, e_orV, e_notV, e_if, e_ap, e_bdif, e_seq, e_asg, e_gN, e_slt, e_slf, e_gnil, e_gcons, e_gseq, e_seqt, e_seql, e_seqf, e_ret, e_drop, e_ix, e_ixW, e_dix1, e_dix2, e_dix3, e_dix5, e_dix4, at0, at1, at2, at3, at4, at5, e_setIt, set0, set1, set2, e_cons, e_nil, e_args, e_ga0, e_ga1, e_tup, e_lst, e_callG, e_neg, e_intOf, res_ok, res_exc, e_call, resR_ok, resR_exc, e_callR, resT_ok, e_callRT, two_s, e_par2, e_part, e_sl, fin_next, fin_cont, fin_brk, fin_ret, e_fg0, e_fg1, e_for0, e_while, cat_ok, bdd_ok, e_comp0, e_comp1, e_lc, e_seqD, e_range1, e_range2, e_enum, e_zip, e_isi, e_isi2, endV_ret, endV_next, endV_exc, e_fn, endR_ret, endR_next, e_fnR, e_endVif, e_endRif, e_rooted, d_add, d_sub, d_mul, d_div, d_mod, d_pow, d_lt, d_le, d_gt, d_ge, d_eq_int, d_ne_int, d_abs, d_int_b, d_int_i, lf_int, lf_bl, lf_str, lf_non, lf_tup, lfs_nil, lfs_cons, e_aug, okL_s, e_refL, e_ins, e_app, ite_and, ite_or, ite_andD, ite_orD, e_setIt2, e_frz, e_ixW2, e_lzip, dTL2, e_qvar, qSl_i, e_qop, d_addI, lfs_rep, e_ext, e_rep, e_index, e_isl, e_isf, e_gst, e_gtup2, lfs_rev, e_revS, e_lk, e_lki, e_lkb, e_lks, e_lkn, e_lkt, e_lkl, e_lkf, e_lk0, e_lk1, lf_flst, e_chain, startE, startR, List.map_cons, List.map_nil, List.length_cons, List.length_nil, List.replicate, List.getElem?_cons_zero, List.getElem?_cons_succ, List.set_cons_zero, List.set_cons_succ, List.cons_append, List.nil_append, List.append_nil, if_true, if_false, reduceIte, Option.isSome_some, Option.map_some, Option.bind_some, Bool.and_eq_true, Bool.or_eq_true, and_self, and_true, true_and, or_true, true_or, or_false, false_or, Bool.and_true, Bool.true_and, Bool.and_self, Bool.not_true, Bool.not_false, decide_true, decide_false, reduceCtorEq, Bool.false_eq_true, Nat.reduceAdd, Nat.reduceSub, Nat.reduceMul, Nat.reduceLeDiff, Nat.reduceLT, ne_eq, not_false_eq_true, Nat.reducePow, Nat.reduceEqDiff, Int.reduceToNat, Int.reducePow, Int.reduceMul, Int.reduceAdd, Int.reduceSub, Int.reduceNeg, Int.reduceLT, Int.reduceLE, Int.reduceEq, noRef, decide_eq_true_eq, w0, w1, w2, e1, e2, ll, li, sl, ad, ad2, isi_t_f, f3]
  · have ins := ins_l (xs := xs) (z := o) a2 (by omega) (by omega)
    have pi : Pds B (3 * n + 1) (xs.take r.toNat ++ [o] ++ xs.drop r.toNat) := by
      refine ((hx'.sub fun d m => List.mem_of_mem_take m).app (Pds.iff.mpr fun d m => ?_)).app (hx'.sub fun d m => List.mem_of_mem_drop m)
      rw [List.mem_singleton] at m
      rw [m]
      exact po.mono (Int.le_refl _) (by omega)
    obtain ⟨f1, f2, f3⟩ := fin _ pi (by simp only [List.length_append, List.length_take, List.length_drop, List.length_cons, List.length_nil]; omega)
    rcases ht with rfl | rfl
    · refine ⟨_, d3, ?_, f2, k3.mono (by omega)⟩
      unfold f_law_bent_row g_law_bent_row
      simp (maxSteps := 3000000) (disch := first | assumption | decide | omega) only [e_b, e_ok, e_exc, e_bad, e_p, e_os, e_on, e_oif, slB_b, e_var, slD_b, slD_w, e_rdS, e_rd, okR_s, e_ref, slW_w, e_move, opt_s, opt_n, opt_if, e_rdL, e_lf, e_val, e_get_v, e_get_r, e_pair, e_op, e_T, e_isBl, e_and, e_or, e_not, e_andV, e_orV, e_notV, e_if, e_ap, e_bdif, e_seq, e_asg, e_gN, e_slt, e_slf, e_gnil, e_gcons, e_gseq, e_seqt, e_seql, e_seqf, e_ret, e_drop, e_ix, e_ixW, e_dix1, e_dix2, e_dix3, e_dix5, e_dix4, at0, at1, at2, at3, at4, at5, e_setIt, set0, set1, set2, e_cons, e_nil, e_args, e_ga0, e_ga1, e_tup, e_lst, e_callG, e_neg, e_intOf, res_ok, res_exc, e_call, resR_ok, resR_exc, e_callR, resT_ok, e_callRT, two_s, e_par2, e_part, e_sl, fin_next, fin_cont, fin_brk, fin_ret, e_fg0, e_fg1, e_for0, e_while, cat_ok, bdd_ok, e_comp0, e_comp1, e_lc, e_seqD, e_range1, e_range2, e_enum, e_zip, e_isi, e_isi2, endV_ret, endV_next, endV_exc, e_fn, endR_ret, endR_next, e_fnR, e_endVif, e_endRif, e_rooted, d_add, d_sub, d_mul, d_div, d_mod, d_pow, d_lt, d_le, d_gt, d_ge, d_eq_int, d_ne_int, d_abs, d_int_b, d_int_i, lf_int, lf_bl, lf_str, lf_non, lf_tup, lfs_nil, lfs_cons, e_aug, okL_s, e_refL, e_ins, e_app, ite_and, ite_or, ite_andD, ite_orD, e_setIt2, e_frz, e_ixW2, e_lzip, dTL2, e_qvar, qSl_i, e_qop, d_addI, lfs_rep, e_ext, e_rep, e_index, e_isl, e_isf, e_gst, e_gtup2, lfs_rev, e_revS, e_lk, e_lki, e_lkb, e_lks, e_lkn, e_lkt, e_lkl, e_lkf, e_lk0, e_lk1, lf_flst, e_chain, startE, startR, List.map_cons, List.map_nil, List.length_cons, List.length_nil, List.replicate, List.getElem?_cons_zero, List.getElem?_cons_succ, List.set_cons_zero, List.set_cons_succ, List.cons_append, List.nil_append, List.append_nil, if_true, if_false, reduceIte, Option.isSome_some, Option.map_some, Option.bind_some, Bool.and_eq_true, Bool.or_eq_true, and_self, and_true, true_and, or_true, true_or, or_false, false_or, Bool.and_true, Bool.true_and, Bool.and_self, Bool.not_true, Bool.not_false, decide_true, decide_false, reduceCtorEq, Bool.false_eq_true, Nat.reduceAdd, Nat.reduceSub, Nat.reduceMul, Nat.reduceLeDiff, Nat.reduceLT, ne_eq, not_false_eq_true, Nat.reducePow, Nat.reduceEqDiff, Int.reduceToNat, Int.reducePow, Int.reduceMul, Int.reduceAdd, Int.reduceSub, Int.reduceNeg, Int.reduceLT, Int.reduceLE, Int.reduceEq, noRef, decide_eq_true_eq, w0, w1, w2, e1, e2, e3, ll, li, lo, lko, ins, isi_t_t, f3]
    · refine ⟨_, d3, ?_, f1, k3.mono (by omega)⟩
      unfold f_law_bent_row g_law_bent_row
      simp (maxSteps := 3000000) (disch := first | assumption | decide | omega) only [e_b, e_ok, e_exc, e_bad, e_p, e_os, e_on, e_oif, slB_b, e_var, slD_b, slD_w, e_rdS, e_rd, okR_s, e_ref, slW_w, e_move, opt_s, opt_n, opt_if, e_rdL, e_lf, e_val, e_get_v, e_get_r, e_pair, e_op, e_T, e_isBl, e_and, e_or, e_not, e_andV, e_orV, e_notV, e_if, e_ap, e_bdif, e_seq, e_asg, e_gN, e_slt, e_slf, e_gnil, e_gcons, e_gseq, e_seqt, e_seql, e_seqf, e_ret, e_drop, e_ix, e_ixW, e_dix1, e_dix2, e_dix3, e_dix5, e_dix4, at0, at1, at2, at3, at4, at5, e_setIt, set0, set1, set2, e_cons, e_nil, e_args, e_ga0, e_ga1, e_tup, e_lst, e_callG, e_neg, e_intOf, res_ok, res_exc, e_call, resR_ok, resR_exc, e_callR, resT_ok, e_callRT, two_s, e_par2, e_part, e_sl, fin_next, fin_cont, fin_brk, fin_ret, e_fg0, e_fg1, e_for0, e_while, cat_ok, bdd_ok, e_comp0, e_comp1, e_lc, e_seqD, e_range1, e_range2, e_enum, e_zip, e_isi, e_isi2, endV_ret, endV_next, endV_exc, e_fn, endR_ret, endR_next, e_fnR, e_endVif, e_endRif, e_rooted, d_add, d_sub, d_mul, d_div, d_mod, d_pow, d_lt, d_le, d_gt, d_ge, d_eq_int, d_ne_int, d_abs, d_int_b, d_int_i, lf_int, lf_bl, lf_str, lf_non, lf_tup, lfs_nil, lfs_cons, e_aug, okL_s, e_refL, e_ins, e_app, ite_and, ite_or, ite_andD, ite_orD, e_setIt2, e_frz, e_ixW2, e_lzip, dTL2, e_qvar, qSl_i, e_qop, d_addI, lfs_rep, e_ext, e_rep, e_index, e_isl, e_isf, e_gst, e_gtup2, lfs_rev, e_revS, e_lk, e_lki, e_lkb, e_lks, e_lkn, e_lkt, e_lkl, e_lkf, e_lk0, e_lk1, lf_flst, e_chain, startE, startR, List.map_cons, List.map_nil, List.length_cons, List.length_nil, List.replicate, List.getElem?_cons_zero, List.getElem?_cons_succ, List.set_cons_zero, List.set_cons_succ, List.cons_append, List.nil_append, List.append_nil, if_true, if_false, reduceIte, Option.isSome_some, Option.map_some, Option.bind_some, Bool.and_eq_true, Bool.or_eq_true, and_self, and_true, true_and, or_true, true_or, or_false, false_or, Bool.and_true, Bool.true_and, Bool.and_self, Bool.not_true, Bool.not_false, decide_true, decide_false, reduceCtorEq, Bool.false_eq_true, Nat.reduceAdd, Nat.reduceSub, Nat.reduceMul, Nat.reduceLeDiff, Nat.reduceLT, ne_eq, not_false_eq_true, Nat.reducePow, Nat.reduceEqDiff, Int.reduceToNat, Int.reducePow, Int.reduceMul, Int.reduceAdd, Int.reduceSub, Int.reduceNeg, Int.reduceLT, Int.reduceLE, Int.reduceEq, noRef, decide_eq_true_eq, w0, w1, w2, e1, e2, e3, ll, li, lo, lko, ins, isi_t_f, f3]
  · have l1 := cl none (some r); have l2 := cl (some r) (some (r + 2)); have l3 := cl (some (r + 2)) none
    have rv := rev_l (cp (some r) (some (r + 2)))
    have pr := (cp (some r) (some (r + 2))).sub (ys := (cutL xs (some r) (some (r + 2))).reverse) fun d m => List.mem_reverse.mp m
    have p1 := (cp none (some r)).app pr
    have ad := add_l (cp none (some r)) pr (by rw [List.length_reverse]; omega)
    have ad2 := add_l p1 (cp (some (r + 2)) none) (by rw [List.length_append, List.length_reverse]; omega)
    obtain ⟨f1, f2, f3⟩ := fin _ (p1.app (cp (some (r + 2)) none)) (by simp only [List.length_append, List.length_reverse]; omega)
    rcases ht with rfl | rfl
    · refine ⟨_, d2, ?_, f2, k2.mono (by omega)⟩
      unfold f_law_bent_row g_law_bent_row
      simp (maxSteps := 3000000) (disch := first | assumption | decide | omega) only [e_b, e_ok, e_exc, e_bad, e_p, e_os, e_on, e_oif, slB_b, e_var, slD_b, slD_w, e_rdS, e_rd, okR_s, e_ref, slW_w, e_move, opt_s, opt_n, opt_if, e_rdL, e_lf, e_val, e_get_v, e_get_r, e_pair, e_op, e_T, e_isBl, e_and, e_or, e_not, e_andV, e_orV, e_notV, e_if, e_ap, e_bdif, e_seq, e_asg, e_gN, e_slt, e_slf, e_gnil, e_gcons, e_gseq, e_seqt, e_seql, e_seqf, e_ret, e_drop, e_ix, e_ixW, e_dix1, e_dix2, e_dix3, e_dix5, e_dix4, at0, at1, at2, at3, at4, at5, e_setIt, set0, set1, set2, e_cons, e_nil, e_args, e_ga0, e_ga1, e_tup, e_lst, e_callG, e_neg, e_intOf, res_ok, res_exc, e_call, resR_ok, resR_exc, e_callR, resT_ok, e_callRT, two_s, e_par2, e_part, e_sl, fin_next, fin_cont, fin_brk, fin_ret, e_fg0, e_fg1, e_for0, e_while, cat_ok, bdd_ok, e_comp0, e_comp1, e_lc, e_seqD, e_range1, e_range2, e_enum, e_zip, e_isi, e_isi2, endV_ret, endV_next, endV_exc, e_fn, endR_ret, endR_next, e_fnR, e_endVif, e_endRif, e_rooted, d_add, d_sub, d_mul, d_div, d_mod, d_pow, d_lt, d_le, d_gt, d_ge, d_eq_int, d_ne_int, d_abs, d_int_b, d_int_i, lf_int, lf_bl, lf_str, lf_non, lf_tup, lfs_nil, lfs_cons, e_aug, okL_s, e_refL, e_ins, e_app, ite_and, ite_or, ite_andD, ite_orD, e_setIt2, e_frz, e_ixW2, e_lzip, dTL2, e_qvar, qSl_i, e_qop, d_addI, lfs_rep, e_ext, e_rep, e_index, e_isl, e_isf, e_gst, e_gtup2, lfs_rev, e_revS, e_lk, e_lki, e_lkb, e_lks, e_lkn, e_lkt, e_lkl, e_lkf, e_lk0, e_lk1, lf_flst, e_chain, startE, startR, List.map_cons, List.map_nil, List.length_cons, List.length_nil, List.replicate, List.getElem?_cons_zero, List.getElem?_cons_succ, List.set_cons_zero, List.set_cons_succ, List.cons_append, List.nil_append, List.append_nil, if_true, if_false, reduceIte, Option.isSome_some, Option.map_some, Option.bind_some, Bool.and_eq_true, Bool.or_eq_true, and_self, and_true, true_and, or_true, true_or, or_false, false_or, Bool.and_true, Bool.true_and, Bool.and_self, Bool.not_true, Bool.not_false, decide_true, decide_false, reduceCtorEq, Bool.false_eq_true, Nat.reduceAdd, Nat.reduceSub, Nat.reduceMul, Nat.reduceLeDiff, Nat.reduceLT, ne_eq, not_false_eq_true, Nat.reducePow, Nat.reduceEqDiff, Int.reduceToNat, Int.reducePow, Int.reduceMul, Int.reduceAdd, Int.reduceSub, Int.reduceNeg, Int.reduceLT, Int.reduceLE, Int.reduceEq, noRef, decide_eq_true_eq, w0, w1, w2, e1, e2, ll, li, sl, rv, ad, ad2, isi_t_t, f3]
    · refine ⟨_, d2, ?_, f1, k2.mono (by omega)⟩
      unfold f_law_bent_row g_law_bent_row
      simp (maxSteps := 3000000) (disch := first | assumption | decide | omega) only [e_b, e_ok, e_exc, e_bad, e_p, e_os, e_on, e_oif, slB_b, e_var, slD_b, slD_w, e_rdS, e_rd, okR_s, e_ref, slW_w, e_move, opt_s, opt_n, opt_if, e_rdL, e_lf, e_val, e_get_v, e_get_r, e_pair, e_op, e_T, e_isBl, e_and, e_or, e_not, e_andV, e_orV, e_notV, e_if, e_ap, e_bdif, e_seq, e_asg, e_gN, e_slt, e_slf, e_gnil, e_gcons, e_gseq, e_seqt, e_seql, e_seqf, e_ret, e_drop, e_ix, e_ixW, e_dix1, e_dix2, e_dix3, e_dix5, e_dix4, at0, at1, at2, at3, at4, at5, e_setIt, set0, set1, set2, e_cons, e_nil, e_args, e_ga0, e_ga1, e_tup, e_lst, e_callG, e_neg, e_intOf, res_ok, res_exc, e_call, resR_ok, resR_exc, e_callR, resT_ok, e_callRT, two_s, e_par2, e_part, e_sl, fin_next, fin_cont, fin_brk, fin_ret, e_fg0, e_fg1, e_for0, e_while, cat_ok, bdd_ok, e_comp0, e_comp1, e_lc, e_seqD, e_range1, e_range2, e_enum, e_zip, e_isi, e_isi2, endV_ret, endV_next, endV_exc, e_fn, endR_ret, endR_next, e_fnR, e_endVif, e_endRif, e_rooted, d_add, d_sub, d_mul, d_div, d_mod, d_pow, d_lt, d_le, d_gt, d_ge, d_eq_int, d_ne_int, d_abs, d_int_b, d_int_i, lf_int, lf_bl, lf_str, lf_non, lf_tup, lfs_nil, lfs_cons, e_aug, okL_s, e_refL, e_ins, e_app, ite_and, ite_or, ite_andD, ite_orD, e_setIt2, e_frz, e_ixW2, e_lzip, dTL2, e_qvar, qSl_i, e_qop, d_addI, lfs_rep, e_ext, e_rep, e_index, e_isl, e_isf, e_gst, e_gtup2, lfs_rev, e_revS, e_lk, e_lki, e_lkb, e_lks, e_lkn, e_lkt, e_lkl, e_lkf, e_lk0, e_lk1, lf_flst, e_chain, startE, startR, List.map_cons, List.map_nil, List.length_cons, List.length_nil, List.replicate, List.getElem?_cons_zero, List.getElem?_cons_succ, List.set_cons_zero, List.set_cons_succ, List.cons_append, List.nil_append, List.append_nil, if_true, if_false, reduceIte, Option.isSome_some, Option.map_some, Option.bind_some, Bool.and_eq_true, Bool.or_eq_true, and_self, and_true, true_and, or_true, true_or, or_false, false_or, Bool.and_true, Bool.true_and, Bool.and_self, Bool.not_true, Bool.not_false, decide_true, decide_false, reduceCtorEq, Bool.false_eq_true, Nat.reduceAdd, Nat.reduceSub, Nat.reduceMul, Nat.reduceLeDiff, Nat.reduceLT, ne_eq, not_false_eq_true, Nat.reducePow, Nat.reduceEqDiff, Int.reduceToNat, Int.reducePow, Int.reduceMul, Int.reduceAdd, Int.reduceSub, Int.reduceNeg, Int.reduceLT, Int.reduceLE, Int.reduceEq, noRef, decide_eq_true_eq, w0, w1, w2, e1, e2, ll, li, sl, rv, ad, ad2, isi_t_f, f3]
  · obtain ⟨f1, f2, f3⟩ := fin _ hx' (by omega)
    rcases ht with rfl | rfl
    · refine ⟨_, d2, ?_, f1, k2.mono (by omega)⟩
      unfold f_law_bent_row g_law_bent_row
      simp (maxSteps := 3000000) (disch := first | assumption | decide | omega) only [e_b, e_ok, e_exc, e_bad, e_p, e_os, e_on, e_oif, slB_b, e_var, slD_b, slD_w, e_rdS, e_rd, okR_s, e_ref, slW_w, e_move, opt_s, opt_n, opt_if, e_rdL, e_lf, e_val, e_get_v, e_get_r, e_pair, e_op, e_T, e_isBl, e_and, e_or, e_not, e_andV, e_orV, e_notV, e_if, e_ap, e_bdif, e_seq, e_asg, e_gN, e_slt, e_slf, e_gnil, e_gcons, e_gseq, e_seqt, e_seql, e_seqf, e_ret, e_drop, e_ix, e_ixW, e_dix1, e_dix2, e_dix3, e_dix5, e_dix4, at0, at1, at2, at3, at4, at5, e_setIt, set0, set1, set2, e_cons, e_nil, e_args, e_ga0, e_ga1, e_tup, e_lst, e_callG, e_neg, e_intOf, res_ok, res_exc, e_call, resR_ok, resR_exc, e_callR, resT_ok, e_callRT, two_s, e_par2, e_part, e_sl, fin_next, fin_cont, fin_brk, fin_ret, e_fg0, e_fg1, e_for0, e_while, cat_ok, bdd_ok, e_comp0, e_comp1, e_lc, e_seqD, e_range1, e_range2, e_enum, e_zip, e_isi, e_isi2, endV_ret, endV_next, endV_exc, e_fn, endR_ret, endR_next, e_fnR, e_endVif, e_endRif, e_rooted, d_add, d_sub, d_mul, d_div, d_mod, d_pow, d_lt, d_le, d_gt, d_ge, d_eq_int, d_ne_int, d_abs, d_int_b, d_int_i, lf_int, lf_bl, lf_str, lf_non, lf_tup, lfs_nil, lfs_cons, e_aug, okL_s, e_refL, e_ins, e_app, ite_and, ite_or, ite_andD, ite_orD, e_setIt2, e_frz, e_ixW2, e_lzip, dTL2, e_qvar, qSl_i, e_qop, d_addI, lfs_rep, e_ext, e_rep, e_index, e_isl, e_isf, e_gst, e_gtup2, lfs_rev, e_revS, e_lk, e_lki, e_lkb, e_lks, e_lkn, e_lkt, e_lkl, e_lkf, e_lk0, e_lk1, lf_flst, e_chain, startE, startR, List.map_cons, List.map_nil, List.length_cons, List.length_nil, List.replicate, List.getElem?_cons_zero, List.getElem?_cons_succ, List.set_cons_zero, List.set_cons_succ, List.cons_append, List.nil_append, List.append_nil, if_true, if_false, reduceIte, Option.isSome_some, Option.map_some, Option.bind_some, Bool.and_eq_true, Bool.or_eq_true, and_self, and_true, true_and, or_true, true_or, or_false, false_or, Bool.and_true, Bool.true_and, Bool.and_self, Bool.not_true, Bool.not_false, decide_true, decide_false, reduceCtorEq, Bool.false_eq_true, Nat.reduceAdd, Nat.reduceSub, Nat.reduceMul, Nat.reduceLeDiff, Nat.reduceLT, ne_eq, not_false_eq_true, Nat.reducePow, Nat.reduceEqDiff, Int.reduceToNat, Int.reducePow, Int.reduceMul, Int.reduceAdd, Int.reduceSub, Int.reduceNeg, Int.reduceLT, Int.reduceLE, Int.reduceEq, noRef, decide_eq_true_eq, w0, w1, w2, e1, e2, ll, li, isi_t_t, f3]
    · refine ⟨_, d2, ?_, f2, k2.mono (by omega)⟩
      unfold f_law_bent_row g_law_bent_row
      simp (maxSteps := 3000000) (disch := first | assumption | decide | omega) only [e_b, e_ok, e_exc, e_bad, e_p, e_os, e_on, e_oif, slB_b, e_var, slD_b, slD_w, e_rdS, e_rd, okR_s, e_ref, slW_w, e_move, opt_s, opt_n, opt_if, e_rdL, e_lf, e_val, e_get_v, e_get_r, e_pair, e_op, e_T, e_isBl, e_and, e_or, e_not, e_andV, e_orV, e_notV, e_if, e_ap, e_bdif, e_seq, e_asg, e_gN, e_slt, e_slf, e_gnil, e_gcons, e_gseq, e_seqt, e_seql, e_seqf, e_ret, e_drop, e_ix, e_ixW, e_dix1, e_dix2, e_dix3, e_dix5, e_dix4, at0, at1, at2, at3, at4, at5, e_setIt, set0, set1, set2, e_cons, e_nil, e_args, e_ga0, e_ga1, e_tup, e_lst, e_callG, e_neg, e_intOf, res_ok, res_exc, e_call, resR_ok, resR_exc, e_callR, resT_ok, e_callRT, two_s, e_par2, e_part, e_sl, fin_next, fin_cont, fin_brk, fin_ret, e_fg0, e_fg1, e_for0, e_while, cat_ok, bdd_ok, e_comp0, e_comp1, e_lc, e_seqD, e_range1, e_range2, e_enum, e_zip, e_isi, e_isi2, endV_ret, endV_next, endV_exc, e_fn, endR_ret, endR_next, e_fnR, e_endVif, e_endRif, e_rooted, d_add, d_sub, d_mul, d_div, d_mod, d_pow, d_lt, d_le, d_gt, d_ge, d_eq_int, d_ne_int, d_abs, d_int_b, d_int_i, lf_int, lf_bl, lf_str, lf_non, lf_tup, lfs_nil, lfs_cons, e_aug, okL_s, e_refL, e_ins, e_app, ite_and, ite_or, ite_andD, ite_orD, e_setIt2, e_frz, e_ixW2, e_lzip, dTL2, e_qvar, qSl_i, e_qop, d_addI, lfs_rep, e_ext, e_rep, e_index, e_isl, e_isf, e_gst, e_gtup2, lfs_rev, e_revS, e_lk, e_lki, e_lkb, e_lks, e_lkn, e_lkt, e_lkl, e_lkf, e_lk0, e_lk1, lf_flst, e_chain, startE, startR, List.map_cons, List.map_nil, List.length_cons, List.length_nil, List.replicate, List.getElem?_cons_zero, List.getElem?_cons_succ, List.set_cons_zero, List.set_cons_succ, List.cons_append, List.nil_append, List.append_nil, if_true, if_false, reduceIte, Option.isSome_some, Option.map_some, Option.bind_some, Bool.and_eq_true, Bool.or_eq_true, and_self, and_true, true_and, or_true, true_or, or_false, false_or, Bool.and_true, Bool.true_and, Bool.and_self, Bool.not_true, Bool.not_false, decide_true, decide_false, reduceCtorEq, Bool.false_eq_true, Nat.reduceAdd, Nat.reduceSub, Nat.reduceMul, Nat.reduceLeDiff, Nat.reduceLT, ne_eq, not_false_eq_true, Nat.reducePow, Nat.reduceEqDiff, Int.reduceToNat, Int.reducePow, Int.reduceMul, Int.reduceAdd, Int.reduceSub, Int.reduceNeg, Int.reduceLT, Int.reduceLE, Int.reduceEq, noRef, decide_eq_true_eq, w0, w1, w2, e1, e2, ll, li, isi_t_f, f3]
  · refine ⟨o, d3, ?_, .of (po.mono (Int.le_refl _) (by omega)), k3⟩
    rcases ht with rfl | rfl
    · unfold f_law_bent_row g_law_bent_row
      simp (maxSteps := 3000000) (disch := first | assumption | decide | omega) only [e_b, e_ok, e_exc, e_bad, e_p, e_os, e_on, e_oif, slB_b, e_var, slD_b, slD_w, e_rdS, e_rd, okR_s, e_ref, slW_w, e_move, opt_s, opt_n, opt_if, e_rdL, e_lf, e_val, e_get_v, e_get_r, e_pair, e_op, e_T, e_isBl, e_and, e_or, e_not, e_andV, e_orV, e_notV, e_if, e_ap, e_bdif, e_seq, e_asg, e_gN, e_slt, e_slf, e_gnil, e_gcons, e_gseq, e_seqt, e_seql, e_seqf, e_ret, e_drop, e_ix, e_ixW, e_dix1, e_dix2, e_dix3, e_dix5, e_dix4, at0, at1, at2, at3, at4, at5, e_setIt, set0, set1, set2, e_cons, e_nil, e_args, e_ga0, e_ga1, e_tup, e_lst, e_callG, e_neg, e_intOf, res_ok, res_exc, e_call, resR_ok, resR_exc, e_callR, resT_ok, e_callRT, two_s, e_par2, e_part, e_sl, fin_next, fin_cont, fin_brk, fin_ret, e_fg0, e_fg1, e_for0, e_while, cat_ok, bdd_ok, e_comp0, e_comp1, e_lc, e_seqD, e_range1, e_range2, e_enum, e_zip, e_isi, e_isi2, endV_ret, endV_next, endV_exc, e_fn, endR_ret, endR_next, e_fnR, e_endVif, e_endRif, e_rooted, d_add, d_sub, d_mul, d_div, d_mod, d_pow, d_lt, d_le, d_gt, d_ge, d_eq_int, d_ne_int, d_abs, d_int_b, d_int_i, lf_int, lf_bl, lf_str, lf_non, lf_tup, lfs_nil, lfs_cons, e_aug, okL_s, e_refL, e_ins, e_app, ite_and, ite_or, ite_andD, ite_orD, e_setIt2, e_frz, e_ixW2, e_lzip, dTL2, e_qvar, qSl_i, e_qop, d_addI, lfs_rep, e_ext, e_rep, e_index, e_isl, e_isf, e_gst, e_gtup2, lfs_rev, e_revS, e_lk, e_lki, e_lkb, e_lks, e_lkn, e_lkt, e_lkl, e_lkf, e_lk0, e_lk1, lf_flst, e_chain, startE, startR, List.map_cons, List.map_nil, List.length_cons, List.length_nil, List.replicate, List.getElem?_cons_zero, List.getElem?_cons_succ, List.set_cons_zero, List.set_cons_succ, List.cons_append, List.nil_append, List.append_nil, if_true, if_false, reduceIte, Option.isSome_some, Option.map_some, Option.bind_some, Bool.and_eq_true, Bool.or_eq_true, and_self, and_true, true_and, or_true, true_or, or_false, false_or, Bool.and_true, Bool.true_and, Bool.and_self, Bool.not_true, Bool.not_false, decide_true, decide_false, reduceCtorEq, Bool.false_eq_true, Nat.reduceAdd, Nat.reduceSub, Nat.reduceMul, Nat.reduceLeDiff, Nat.reduceLT, ne_eq, not_false_eq_true, Nat.reducePow, Nat.reduceEqDiff, Int.reduceToNat, Int.reducePow, Int.reduceMul, Int.reduceAdd, Int.reduceSub, Int.reduceNeg, Int.reduceLT, Int.reduceLE, Int.reduceEq, noRef, decide_eq_true_eq, w0, w1, w2, e1, e2, e3, ll, li]
    · unfold f_law_bent_row g_law_bent_row
      simp (maxSteps := 3000000) (disch := first | assumption | decide | omega) only [e_b, e_ok, e_exc, e_bad, e_p, e_os, e_on, e_oif, slB_b, e_var, slD_b, slD_w, e_rdS, e_rd, okR_s, e_ref, slW_w, e_move, opt_s, opt_n, opt_if, e_rdL, e_lf, e_val, e_get_v, e_get_r, e_pair, e_op, e_T, e_isBl, e_and, e_or, e_not, e_andV, e_orV, e_notV, e_if, e_ap, e_bdif, e_seq, e_asg, e_gN, e_slt, e_slf, e_gnil, e_gcons, e_gseq, e_seqt, e_seql, e_seqf, e_ret, e_drop, e_ix, e_ixW, e_dix1, e_dix2, e_dix3, e_dix5, e_dix4, at0, at1, at2, at3, at4, at5, e_setIt, set0, set1, set2, e_cons, e_nil, e_args, e_ga0, e_ga1, e_tup, e_lst, e_callG, e_neg, e_intOf, res_ok, res_exc, e_call, resR_ok, resR_exc, e_callR, resT_ok, e_callRT, two_s, e_par2, e_part, e_sl, fin_next, fin_cont, fin_brk, fin_ret, e_fg0, e_fg1, e_for0, e_while, cat_ok, bdd_ok, e_comp0, e_comp1, e_lc, e_seqD, e_range1, e_range2, e_enum, e_zip, e_isi, e_isi2, endV_ret, endV_next, endV_exc, e_fn, endR_ret, endR_next, e_fnR, e_endVif, e_endRif, e_rooted, d_add, d_sub, d_mul, d_div, d_mod, d_pow, d_lt, d_le, d_gt, d_ge, d_eq_int, d_ne_int, d_abs, d_int_b, d_int_i, lf_int, lf_bl, lf_str, lf_non, lf_tup, lfs_nil, lfs_cons, e_aug, okL_s, e_refL, e_ins, e_app, ite_and, ite_or, ite_andD, ite_orD, e_setIt2, e_frz, e_ixW2, e_lzip, dTL2, e_qvar, qSl_i, e_qop, d_addI, lfs_rep, e_ext, e_rep, e_index, e_isl, e_isf, e_gst, e_gtup2, lfs_rev, e_revS, e_lk, e_lki, e_lkb, e_lks, e_lkn, e_lkt, e_lkl, e_lkf, e_lk0, e_lk1, lf_flst, e_chain, startE, startR, List.map_cons, List.map_nil, List.length_cons, List.length_nil, List.replicate, List.getElem?_cons_zero, List.getElem?_cons_succ, List.set_cons_zero, List.set_cons_succ, List.cons_append, List.nil_append, List.append_nil, if_true, if_false, reduceIte, Option.isSome_some, Option.map_some, Option.bind_some, Bool.and_eq_true, Bool.or_eq_true, and_self, and_true, true_and, or_true, true_or, or_false, false_or, Bool.and_true, Bool.true_and, Bool.and_self, Bool.not_true, Bool.not_false, decide_true, decide_false, reduceCtorEq, Bool.false_eq_true, Nat.reduceAdd, Nat.reduceSub, Nat.reduceMul, Nat.reduceLeDiff, Nat.reduceLT, ne_eq, not_false_eq_true, Nat.reducePow, Nat.reduceEqDiff, Int.reduceToNat, Int.reducePow, Int.reduceMul, Int.reduceAdd, Int.reduceSub, Int.reduceNeg, Int.reduceLT, Int.reduceLE, Int.reduceEq, noRef, decide_eq_true_eq, w0, w1, w2, e1, e2, e3, ll, li]
end
theorem fb (n : Nat) : f_law_bent (n + 1) = fnOfR 6 (g_law_bent (f_law_bent n)) := rfl
theorem eq_i {i j : Int} : dEq (.int i) (.int j) = some (.bl (decide (i = j))) := d_eq_int
theorem isi2_n : dIsi2 "list" "tuple" .non = some (.bl false) := by simp [dIsi2, tyD, isTy]
theorem isi_i_n : dIsi "int" .non = some (.bl false) := by simp [dIsi, tyD, isTy]
theorem isi_i_s {x : Str} : dIsi "int" (.str x) = some (.bl false) := by simp [dIsi, tyD, isTy]
theorem isi_i_b {b : Bool} : dIsi "int" (.bl b) = some (.bl true) := by simp [dIsi, tyD, isTy]
theorem isi_b_b {b : Bool} : dIsi "bool" (.bl b) = some (.bl true) := by simp [dIsi, tyD, isTy]
theorem log_small {i : Int} (h : -(2 ^ 40) < i) (h2 : i < 2 ^ 40) : i.natAbs.log2 < 1920 := by
  have : i.natAbs.log2 ≤ 40 := log_le (by omega)
  omega
section
variable {B : Int} {n k : Nat}
theorem leaf_ok (hB : 1000000000 ≤ B) (hB2 : B ≤ 2000000000) (hn : 3 ≤ n) {t d : D} (ht : Pd B n t) (hnl : ∀ xs, t ≠ .tup xs ∧ t ≠ .flst xs) (h : Box k d) (hk : k < 2 ^ 57) (self : D → List D → ResR) (dp : Int) :
    ∃ z d', fnOfR 6 (g_law_bent self) d [t, .int dp] = .ok z d' ∧ Pd (B + 10) n z ∧ Box (k + 2) d' := by
  obtain ⟨w, d1, e1, a1, b1, k1⟩ := take_box h (by omega) 9 (by omega) (by omega)
  obtain ⟨o, d2, e2, po, k2⟩ := odd_ok hB hn k1 (by omega)
  have w0 := h.lf; have w1 := k1.lf
  have po' := po.mono (by omega : B ≤ B + 10) (Nat.le_refl n)
  cases t with
  | non =>
    refine ⟨o, d2, ?_, po', k2⟩
    by_cases hw : w < 3
    · unfold g_law_bent; simp (maxSteps := 3000000) (disch := first | assumption | decide | omega) only [e_b, e_ok, e_exc, e_bad, e_p, e_os, e_on, e_oif, slB_b, e_var, slD_b, slD_w, e_rdS, e_rd, okR_s, e_ref, slW_w, e_move, opt_s, opt_n, opt_if, e_rdL, e_lf, e_val, e_get_v, e_get_r, e_pair, e_op, e_T, e_isBl, e_and, e_or, e_not, e_andV, e_orV, e_notV, e_if, e_ap, e_bdif, e_seq, e_asg, e_gN, e_slt, e_slf, e_gnil, e_gcons, e_gseq, e_seqt, e_seql, e_seqf, e_ret, e_drop, e_ix, e_ixW, e_dix1, e_dix2, e_dix3, e_dix5, e_dix4, at0, at1, at2, at3, at4, at5, e_setIt, set0, set1, set2, e_cons, e_nil, e_args, e_ga0, e_ga1, e_tup, e_lst, e_callG, e_neg, e_intOf, res_ok, res_exc, e_call, resR_ok, resR_exc, e_callR, resT_ok, e_callRT, two_s, e_par2, e_part, e_sl, fin_next, fin_cont, fin_brk, fin_ret, e_fg0, e_fg1, e_for0, e_while, cat_ok, bdd_ok, e_comp0, e_comp1, e_lc, e_seqD, e_range1, e_range2, e_enum, e_zip, e_isi, e_isi2, endV_ret, endV_next, endV_exc, e_fn, endR_ret, endR_next, e_fnR, e_endVif, e_endRif, e_rooted, d_add, d_sub, d_mul, d_div, d_mod, d_pow, d_lt, d_le, d_gt, d_ge, d_eq_int, d_ne_int, d_abs, d_int_b, d_int_i, lf_int, lf_bl, lf_str, lf_non, lf_tup, lfs_nil, lfs_cons, e_aug, okL_s, e_refL, e_ins, e_app, ite_and, ite_or, ite_andD, ite_orD, e_setIt2, e_frz, e_ixW2, e_lzip, dTL2, e_qvar, qSl_i, e_qop, d_addI, lfs_rep, e_ext, e_rep, e_index, e_isl, e_isf, e_gst, e_gtup2, lfs_rev, e_revS, e_lk, e_lki, e_lkb, e_lks, e_lkn, e_lkt, e_lkl, e_lkf, e_lk0, e_lk1, lf_flst, e_chain, startE, startR, List.map_cons, List.map_nil, List.length_cons, List.length_nil, List.replicate, List.getElem?_cons_zero, List.getElem?_cons_succ, List.set_cons_zero, List.set_cons_succ, List.cons_append, List.nil_append, List.append_nil, if_true, if_false, reduceIte, Option.isSome_some, Option.map_some, Option.bind_some, Bool.and_eq_true, Bool.or_eq_true, and_self, and_true, true_and, or_true, true_or, or_false, false_or, Bool.and_true, Bool.true_and, Bool.and_self, Bool.not_true, Bool.not_false, decide_true, decide_false, reduceCtorEq, Bool.false_eq_true, Nat.reduceAdd, Nat.reduceSub, Nat.reduceMul, Nat.reduceLeDiff, Nat.reduceLT, ne_eq, not_false_eq_true, Nat.reducePow, Nat.reduceEqDiff, Int.reduceToNat, Int.reducePow, Int.reduceMul, Int.reduceAdd, Int.reduceSub, Int.reduceNeg, Int.reduceLT, Int.reduceLE, Int.reduceEq, noRef, decide_eq_true_eq, isi2_n, w0, w1, e1, e2, hw, e_lki]
    · unfold g_law_bent; simp (maxSteps := 3000000) (disch := first | assumption | decide | omega) only [e_b, e_ok, e_exc, e_bad, e_p, e_os, e_on, e_oif, slB_b, e_var, slD_b, slD_w, e_rdS, e_rd, okR_s, e_ref, slW_w, e_move, opt_s, opt_n, opt_if, e_rdL, e_lf, e_val, e_get_v, e_get_r, e_pair, e_op, e_T, e_isBl, e_and, e_or, e_not, e_andV, e_orV, e_notV, e_if, e_ap, e_bdif, e_seq, e_asg, e_gN, e_slt, e_slf, e_gnil, e_gcons, e_gseq, e_seqt, e_seql, e_seqf, e_ret, e_drop, e_ix, e_ixW, e_dix1, e_dix2, e_dix3, e_dix5, e_dix4, at0, at1, at2, at3, at4, at5, e_setIt, set0, set1, set2, e_cons, e_nil, e_args, e_ga0, e_ga1, e_tup, e_lst, e_callG, e_neg, e_intOf, res_ok, res_exc, e_call, resR_ok, resR_exc, e_callR, resT_ok, e_callRT, two_s, e_par2, e_part, e_sl, fin_next, fin_cont, fin_brk, fin_ret, e_fg0, e_fg1, e_for0, e_while, cat_ok, bdd_ok, e_comp0, e_comp1, e_lc, e_seqD, e_range1, e_range2, e_enum, e_zip, e_isi, e_isi2, endV_ret, endV_next, endV_exc, e_fn, endR_ret, endR_next, e_fnR, e_endVif, e_endRif, e_rooted, d_add, d_sub, d_mul, d_div, d_mod, d_pow, d_lt, d_le, d_gt, d_ge, d_eq_int, d_ne_int, d_abs, d_int_b, d_int_i, lf_int, lf_bl, lf_str, lf_non, lf_tup, lfs_nil, lfs_cons, e_aug, okL_s, e_refL, e_ins, e_app, ite_and, ite_or, ite_andD, ite_orD, e_setIt2, e_frz, e_ixW2, e_lzip, dTL2, e_qvar, qSl_i, e_qop, d_addI, lfs_rep, e_ext, e_rep, e_index, e_isl, e_isf, e_gst, e_gtup2, lfs_rev, e_revS, e_lk, e_lki, e_lkb, e_lks, e_lkn, e_lkt, e_lkl, e_lkf, e_lk0, e_lk1, lf_flst, e_chain, startE, startR, List.map_cons, List.map_nil, List.length_cons, List.length_nil, List.replicate, List.getElem?_cons_zero, List.getElem?_cons_succ, List.set_cons_zero, List.set_cons_succ, List.cons_append, List.nil_append, List.append_nil, if_true, if_false, reduceIte, Option.isSome_some, Option.map_some, Option.bind_some, Bool.and_eq_true, Bool.or_eq_true, and_self, and_true, true_and, or_true, true_or, or_false, false_or, Bool.and_true, Bool.true_and, Bool.and_self, Bool.not_true, Bool.not_false, decide_true, decide_false, reduceCtorEq, Bool.false_eq_true, Nat.reduceAdd, Nat.reduceSub, Nat.reduceMul, Nat.reduceLeDiff, Nat.reduceLT, ne_eq, not_false_eq_true, Nat.reducePow, Nat.reduceEqDiff, Int.reduceToNat, Int.reducePow, Int.reduceMul, Int.reduceAdd, Int.reduceSub, Int.reduceNeg, Int.reduceLT, Int.reduceLE, Int.reduceEq, noRef, decide_eq_true_eq, isi2_n, w0, w1, e1, e2, hw, e_lki, isi_i_n]
  | bl b =>
    refine ⟨o, d2, ?_, po', k2⟩
    by_cases hw : w < 3
    · unfold g_law_bent; simp (maxSteps := 3000000) (disch := first | assumption | decide | omega) only [e_b, e_ok, e_exc, e_bad, e_p, e_os, e_on, e_oif, slB_b, e_var, slD_b, slD_w, e_rdS, e_rd, okR_s, e_ref, slW_w, e_move, opt_s, opt_n, opt_if, e_rdL, e_lf, e_val, e_get_v, e_get_r, e_pair, e_op, e_T, e_isBl, e_and, e_or, e_not, e_andV, e_orV, e_notV, e_if, e_ap, e_bdif, e_seq, e_asg, e_gN, e_slt, e_slf, e_gnil, e_gcons, e_gseq, e_seqt, e_seql, e_seqf, e_ret, e_drop, e_ix, e_ixW, e_dix1, e_dix2, e_dix3, e_dix5, e_dix4, at0, at1, at2, at3, at4, at5, e_setIt, set0, set1, set2, e_cons, e_nil, e_args, e_ga0, e_ga1, e_tup, e_lst, e_callG, e_neg, e_intOf, res_ok, res_exc, e_call, resR_ok, resR_exc, e_callR, resT_ok, e_callRT, two_s, e_par2, e_part, e_sl, fin_next, fin_cont, fin_brk, fin_ret, e_fg0, e_fg1, e_for0, e_while, cat_ok, bdd_ok, e_comp0, e_comp1, e_lc, e_seqD, e_range1, e_range2, e_enum, e_zip, e_isi, e_isi2, endV_ret, endV_next, endV_exc, e_fn, endR_ret, endR_next, e_fnR, e_endVif, e_endRif, e_rooted, d_add, d_sub, d_mul, d_div, d_mod, d_pow, d_lt, d_le, d_gt, d_ge, d_eq_int, d_ne_int, d_abs, d_int_b, d_int_i, lf_int, lf_bl, lf_str, lf_non, lf_tup, lfs_nil, lfs_cons, e_aug, okL_s, e_refL, e_ins, e_app, ite_and, ite_or, ite_andD, ite_orD, e_setIt2, e_frz, e_ixW2, e_lzip, dTL2, e_qvar, qSl_i, e_qop, d_addI, lfs_rep, e_ext, e_rep, e_index, e_isl, e_isf, e_gst, e_gtup2, lfs_rev, e_revS, e_lk, e_lki, e_lkb, e_lks, e_lkn, e_lkt, e_lkl, e_lkf, e_lk0, e_lk1, lf_flst, e_chain, startE, startR, List.map_cons, List.map_nil, List.length_cons, List.length_nil, List.replicate, List.getElem?_cons_zero, List.getElem?_cons_succ, List.set_cons_zero, List.set_cons_succ, List.cons_append, List.nil_append, List.append_nil, if_true, if_false, reduceIte, Option.isSome_some, Option.map_some, Option.bind_some, Bool.and_eq_true, Bool.or_eq_true, and_self, and_true, true_and, or_true, true_or, or_false, false_or, Bool.and_true, Bool.true_and, Bool.and_self, Bool.not_true, Bool.not_false, decide_true, decide_false, reduceCtorEq, Bool.false_eq_true, Nat.reduceAdd, Nat.reduceSub, Nat.reduceMul, Nat.reduceLeDiff, Nat.reduceLT, ne_eq, not_false_eq_true, Nat.reducePow, Nat.reduceEqDiff, Int.reduceToNat, Int.reducePow, Int.reduceMul, Int.reduceAdd, Int.reduceSub, Int.reduceNeg, Int.reduceLT, Int.reduceLE, Int.reduceEq, noRef, decide_eq_true_eq, isi2_lt_b, w0, w1, e1, e2, hw, e_lki]
    · unfold g_law_bent; simp (maxSteps := 3000000) (disch := first | assumption | decide | omega) only [e_b, e_ok, e_exc, e_bad, e_p, e_os, e_on, e_oif, slB_b, e_var, slD_b, slD_w, e_rdS, e_rd, okR_s, e_ref, slW_w, e_move, opt_s, opt_n, opt_if, e_rdL, e_lf, e_val, e_get_v, e_get_r, e_pair, e_op, e_T, e_isBl, e_and, e_or, e_not, e_andV, e_orV, e_notV, e_if, e_ap, e_bdif, e_seq, e_asg, e_gN, e_slt, e_slf, e_gnil, e_gcons, e_gseq, e_seqt, e_seql, e_seqf, e_ret, e_drop, e_ix, e_ixW, e_dix1, e_dix2, e_dix3, e_dix5, e_dix4, at0, at1, at2, at3, at4, at5, e_setIt, set0, set1, set2, e_cons, e_nil, e_args, e_ga0, e_ga1, e_tup, e_lst, e_callG, e_neg, e_intOf, res_ok, res_exc, e_call, resR_ok, resR_exc, e_callR, resT_ok, e_callRT, two_s, e_par2, e_part, e_sl, fin_next, fin_cont, fin_brk, fin_ret, e_fg0, e_fg1, e_for0, e_while, cat_ok, bdd_ok, e_comp0, e_comp1, e_lc, e_seqD, e_range1, e_range2, e_enum, e_zip, e_isi, e_isi2, endV_ret, endV_next, endV_exc, e_fn, endR_ret, endR_next, e_fnR, e_endVif, e_endRif, e_rooted, d_add, d_sub, d_mul, d_div, d_mod, d_pow, d_lt, d_le, d_gt, d_ge, d_eq_int, d_ne_int, d_abs, d_int_b, d_int_i, lf_int, lf_bl, lf_str, lf_non, lf_tup, lfs_nil, lfs_cons, e_aug, okL_s, e_refL, e_ins, e_app, ite_and, ite_or, ite_andD, ite_orD, e_setIt2, e_frz, e_ixW2, e_lzip, dTL2, e_qvar, qSl_i, e_qop, d_addI, lfs_rep, e_ext, e_rep, e_index, e_isl, e_isf, e_gst, e_gtup2, lfs_rev, e_revS, e_lk, e_lki, e_lkb, e_lks, e_lkn, e_lkt, e_lkl, e_lkf, e_lk0, e_lk1, lf_flst, e_chain, startE, startR, List.map_cons, List.map_nil, List.length_cons, List.length_nil, List.replicate, List.getElem?_cons_zero, List.getElem?_cons_succ, List.set_cons_zero, List.set_cons_succ, List.cons_append, List.nil_append, List.append_nil, if_true, if_false, reduceIte, Option.isSome_some, Option.map_some, Option.bind_some, Bool.and_eq_true, Bool.or_eq_true, and_self, and_true, true_and, or_true, true_or, or_false, false_or, Bool.and_true, Bool.true_and, Bool.and_self, Bool.not_true, Bool.not_false, decide_true, decide_false, reduceCtorEq, Bool.false_eq_true, Nat.reduceAdd, Nat.reduceSub, Nat.reduceMul, Nat.reduceLeDiff, Nat.reduceLT, ne_eq, not_false_eq_true, Nat.reducePow, Nat.reduceEqDiff, Int.reduceToNat, Int.reducePow, Int.reduceMul, Int.reduceAdd, Int.reduceSub, Int.reduceNeg, Int.reduceLT, Int.reduceLE, Int.reduceEq, noRef, decide_eq_true_eq, isi2_lt_b, w0, w1, e1, e2, hw, e_lki, isi_i_b, isi_b_b]
  | str x =>
    refine ⟨o, d2, ?_, po', k2⟩
    by_cases hw : w < 3
    · unfold g_law_bent; simp (maxSteps := 3000000) (disch := first | assumption | decide | omega) only [e_b, e_ok, e_exc, e_bad, e_p, e_os, e_on, e_oif, slB_b, e_var, slD_b, slD_w, e_rdS, e_rd, okR_s, e_ref, slW_w, e_move, opt_s, opt_n, opt_if, e_rdL, e_lf, e_val, e_get_v, e_get_r, e_pair, e_op, e_T, e_isBl, e_and, e_or, e_not, e_andV, e_orV, e_notV, e_if, e_ap, e_bdif, e_seq, e_asg, e_gN, e_slt, e_slf, e_gnil, e_gcons, e_gseq, e_seqt, e_seql, e_seqf, e_ret, e_drop, e_ix, e_ixW, e_dix1, e_dix2, e_dix3, e_dix5, e_dix4, at0, at1, at2, at3, at4, at5, e_setIt, set0, set1, set2, e_cons, e_nil, e_args, e_ga0, e_ga1, e_tup, e_lst, e_callG, e_neg, e_intOf, res_ok, res_exc, e_call, resR_ok, resR_exc, e_callR, resT_ok, e_callRT, two_s, e_par2, e_part, e_sl, fin_next, fin_cont, fin_brk, fin_ret, e_fg0, e_fg1, e_for0, e_while, cat_ok, bdd_ok, e_comp0, e_comp1, e_lc, e_seqD, e_range1, e_range2, e_enum, e_zip, e_isi, e_isi2, endV_ret, endV_next, endV_exc, e_fn, endR_ret, endR_next, e_fnR, e_endVif, e_endRif, e_rooted, d_add, d_sub, d_mul, d_div, d_mod, d_pow, d_lt, d_le, d_gt, d_ge, d_eq_int, d_ne_int, d_abs, d_int_b, d_int_i, lf_int, lf_bl, lf_str, lf_non, lf_tup, lfs_nil, lfs_cons, e_aug, okL_s, e_refL, e_ins, e_app, ite_and, ite_or, ite_andD, ite_orD, e_setIt2, e_frz, e_ixW2, e_lzip, dTL2, e_qvar, qSl_i, e_qop, d_addI, lfs_rep, e_ext, e_rep, e_index, e_isl, e_isf, e_gst, e_gtup2, lfs_rev, e_revS, e_lk, e_lki, e_lkb, e_lks, e_lkn, e_lkt, e_lkl, e_lkf, e_lk0, e_lk1, lf_flst, e_chain, startE, startR, List.map_cons, List.map_nil, List.length_cons, List.length_nil, List.replicate, List.getElem?_cons_zero, List.getElem?_cons_succ, List.set_cons_zero, List.set_cons_succ, List.cons_append, List.nil_append, List.append_nil, if_true, if_false, reduceIte, Option.isSome_some, Option.map_some, Option.bind_some, Bool.and_eq_true, Bool.or_eq_true, and_self, and_true, true_and, or_true, true_or, or_false, false_or, Bool.and_true, Bool.true_and, Bool.and_self, Bool.not_true, Bool.not_false, decide_true, decide_false, reduceCtorEq, Bool.false_eq_true, Nat.reduceAdd, Nat.reduceSub, Nat.reduceMul, Nat.reduceLeDiff, Nat.reduceLT, ne_eq, not_false_eq_true, Nat.reducePow, Nat.reduceEqDiff, Int.reduceToNat, Int.reducePow, Int.reduceMul, Int.reduceAdd, Int.reduceSub, Int.reduceNeg, Int.reduceLT, Int.reduceLE, Int.reduceEq, noRef, decide_eq_true_eq, isi2_lt_s, w0, w1, e1, e2, hw, e_lki]
    · unfold g_law_bent; simp (maxSteps := 3000000) (disch := first | assumption | decide | omega) only [e_b, e_ok, e_exc, e_bad, e_p, e_os, e_on, e_oif, slB_b, e_var, slD_b, slD_w, e_rdS, e_rd, okR_s, e_ref, slW_w, e_move, opt_s, opt_n, opt_if, e_rdL, e_lf, e_val, e_get_v, e_get_r, e_pair, e_op, e_T, e_isBl, e_and, e_or, e_not, e_andV, e_orV, e_notV, e_if, e_ap, e_bdif, e_seq, e_asg, e_gN, e_slt, e_slf, e_gnil, e_gcons, e_gseq, e_seqt, e_seql, e_seqf, e_ret, e_drop, e_ix, e_ixW, e_dix1, e_dix2, e_dix3, e_dix5, e_dix4, at0, at1, at2, at3, at4, at5, e_setIt, set0, set1, set2, e_cons, e_nil, e_args, e_ga0, e_ga1, e_tup, e_lst, e_callG, e_neg, e_intOf, res_ok, res_exc, e_call, resR_ok, resR_exc, e_callR, resT_ok, e_callRT, two_s, e_par2, e_part, e_sl, fin_next, fin_cont, fin_brk, fin_ret, e_fg0, e_fg1, e_for0, e_while, cat_ok, bdd_ok, e_comp0, e_comp1, e_lc, e_seqD, e_range1, e_range2, e_enum, e_zip, e_isi, e_isi2, endV_ret, endV_next, endV_exc, e_fn, endR_ret, endR_next, e_fnR, e_endVif, e_endRif, e_rooted, d_add, d_sub, d_mul, d_div, d_mod, d_pow, d_lt, d_le, d_gt, d_ge, d_eq_int, d_ne_int, d_abs, d_int_b, d_int_i, lf_int, lf_bl, lf_str, lf_non, lf_tup, lfs_nil, lfs_cons, e_aug, okL_s, e_refL, e_ins, e_app, ite_and, ite_or, ite_andD, ite_orD, e_setIt2, e_frz, e_ixW2, e_lzip, dTL2, e_qvar, qSl_i, e_qop, d_addI, lfs_rep, e_ext, e_rep, e_index, e_isl, e_isf, e_gst, e_gtup2, lfs_rev, e_revS, e_lk, e_lki, e_lkb, e_lks, e_lkn, e_lkt, e_lkl, e_lkf, e_lk0, e_lk1, lf_flst, e_chain, startE, startR, List.map_cons, List.map_nil, List.length_cons, List.length_nil, List.replicate, List.getElem?_cons_zero, List.getElem?_cons_succ, List.set_cons_zero, List.set_cons_succ, List.cons_append, List.nil_append, List.append_nil, if_true, if_false, reduceIte, Option.isSome_some, Option.map_some, Option.bind_some, Bool.and_eq_true, Bool.or_eq_true, and_self, and_true, true_and, or_true, true_or, or_false, false_or, Bool.and_true, Bool.true_and, Bool.and_self, Bool.not_true, Bool.not_false, decide_true, decide_false, reduceCtorEq, Bool.false_eq_true, Nat.reduceAdd, Nat.reduceSub, Nat.reduceMul, Nat.reduceLeDiff, Nat.reduceLT, ne_eq, not_false_eq_true, Nat.reducePow, Nat.reduceEqDiff, Int.reduceToNat, Int.reducePow, Int.reduceMul, Int.reduceAdd, Int.reduceSub, Int.reduceNeg, Int.reduceLT, Int.reduceLE, Int.reduceEq, noRef, decide_eq_true_eq, isi2_lt_s, w0, w1, e1, e2, hw, e_lki, isi_i_s]
  | int i =>
    unfold Pd at ht
    by_cases hw : w < 3
    · refine ⟨o, d2, ?_, po', k2⟩
      unfold g_law_bent; simp (maxSteps := 3000000) (disch := first | assumption | decide | omega) only [e_b, e_ok, e_exc, e_bad, e_p, e_os, e_on, e_oif, slB_b, e_var, slD_b, slD_w, e_rdS, e_rd, okR_s, e_ref, slW_w, e_move, opt_s, opt_n, opt_if, e_rdL, e_lf, e_val, e_get_v, e_get_r, e_pair, e_op, e_T, e_isBl, e_and, e_or, e_not, e_andV, e_orV, e_notV, e_if, e_ap, e_bdif, e_seq, e_asg, e_gN, e_slt, e_slf, e_gnil, e_gcons, e_gseq, e_seqt, e_seql, e_seqf, e_ret, e_drop, e_ix, e_ixW, e_dix1, e_dix2, e_dix3, e_dix5, e_dix4, at0, at1, at2, at3, at4, at5, e_setIt, set0, set1, set2, e_cons, e_nil, e_args, e_ga0, e_ga1, e_tup, e_lst, e_callG, e_neg, e_intOf, res_ok, res_exc, e_call, resR_ok, resR_exc, e_callR, resT_ok, e_callRT, two_s, e_par2, e_part, e_sl, fin_next, fin_cont, fin_brk, fin_ret, e_fg0, e_fg1, e_for0, e_while, cat_ok, bdd_ok, e_comp0, e_comp1, e_lc, e_seqD, e_range1, e_range2, e_enum, e_zip, e_isi, e_isi2, endV_ret, endV_next, endV_exc, e_fn, endR_ret, endR_next, e_fnR, e_endVif, e_endRif, e_rooted, d_add, d_sub, d_mul, d_div, d_mod, d_pow, d_lt, d_le, d_gt, d_ge, d_eq_int, d_ne_int, d_abs, d_int_b, d_int_i, lf_int, lf_bl, lf_str, lf_non, lf_tup, lfs_nil, lfs_cons, e_aug, okL_s, e_refL, e_ins, e_app, ite_and, ite_or, ite_andD, ite_orD, e_setIt2, e_frz, e_ixW2, e_lzip, dTL2, e_qvar, qSl_i, e_qop, d_addI, lfs_rep, e_ext, e_rep, e_index, e_isl, e_isf, e_gst, e_gtup2, lfs_rev, e_revS, e_lk, e_lki, e_lkb, e_lks, e_lkn, e_lkt, e_lkl, e_lkf, e_lk0, e_lk1, lf_flst, e_chain, startE, startR, List.map_cons, List.map_nil, List.length_cons, List.length_nil, List.replicate, List.getElem?_cons_zero, List.getElem?_cons_succ, List.set_cons_zero, List.set_cons_succ, List.cons_append, List.nil_append, List.append_nil, if_true, if_false, reduceIte, Option.isSome_some, Option.map_some, Option.bind_some, Bool.and_eq_true, Bool.or_eq_true, and_self, and_true, true_and, or_true, true_or, or_false, false_or, Bool.and_true, Bool.true_and, Bool.and_self, Bool.not_true, Bool.not_false, decide_true, decide_false, reduceCtorEq, Bool.false_eq_true, Nat.reduceAdd, Nat.reduceSub, Nat.reduceMul, Nat.reduceLeDiff, Nat.reduceLT, ne_eq, not_false_eq_true, Nat.reducePow, Nat.reduceEqDiff, Int.reduceToNat, Int.reducePow, Int.reduceMul, Int.reduceAdd, Int.reduceSub, Int.reduceNeg, Int.reduceLT, Int.reduceLE, Int.reduceEq, noRef, decide_eq_true_eq, isi2_lt_i, w0, w1, e1, e2, hw, e_lki]
    · obtain ⟨z, mz, ez⟩ := at_mem (ds := [D.int (i + 1), D.int (i - 1), D.int (0 - i), D.bl (decide (i = 1)), D.str (toString i), D.int (i + 10)]) (j := w - 3) (by omega) (by show w - 3 < 6; omega)
      have pz : Pds (B + 10) n [D.int (i + 1), D.int (i - 1), D.int (0 - i), D.bl (decide (i = 1)), D.str (toString i), D.int (i + 10)] := by
        simp only [Pds, Pd, and_true, true_and]; omega
      have pz := Pds.iff.mp pz z mz
      have lz := pz.lf
      have ds : dStr [.int i] = some (.str (toString i)) := if_pos (log_small (by omega) (by omega))
      refine ⟨z, d1, ?_, pz, k1.mono (by omega)⟩
      unfold g_law_bent
      simp (maxSteps := 3000000) (disch := first | assumption | decide | omega) only [e_b, e_ok, e_exc, e_bad, e_p, e_os, e_on, e_oif, slB_b, e_var, slD_b, slD_w, e_rdS, e_rd, okR_s, e_ref, slW_w, e_move, opt_s, opt_n, opt_if, e_rdL, e_lf, e_val, e_get_v, e_get_r, e_pair, e_op, e_T, e_isBl, e_and, e_or, e_not, e_andV, e_orV, e_notV, e_if, e_ap, e_bdif, e_seq, e_asg, e_gN, e_slt, e_slf, e_gnil, e_gcons, e_gseq, e_seqt, e_seql, e_seqf, e_ret, e_drop, e_ix, e_ixW, e_dix1, e_dix2, e_dix3, e_dix5, e_dix4, at0, at1, at2, at3, at4, at5, e_setIt, set0, set1, set2, e_cons, e_nil, e_args, e_ga0, e_ga1, e_tup, e_lst, e_callG, e_neg, e_intOf, res_ok, res_exc, e_call, resR_ok, resR_exc, e_callR, resT_ok, e_callRT, two_s, e_par2, e_part, e_sl, fin_next, fin_cont, fin_brk, fin_ret, e_fg0, e_fg1, e_for0, e_while, cat_ok, bdd_ok, e_comp0, e_comp1, e_lc, e_seqD, e_range1, e_range2, e_enum, e_zip, e_isi, e_isi2, endV_ret, endV_next, endV_exc, e_fn, endR_ret, endR_next, e_fnR, e_endVif, e_endRif, e_rooted, d_add, d_sub, d_mul, d_div, d_mod, d_pow, d_lt, d_le, d_gt, d_ge, d_eq_int, d_ne_int, d_abs, d_int_b, d_int_i, lf_int, lf_bl, lf_str, lf_non, lf_tup, lfs_nil, lfs_cons, e_aug, okL_s, e_refL, e_ins, e_app, ite_and, ite_or, ite_andD, ite_orD, e_setIt2, e_frz, e_ixW2, e_lzip, dTL2, e_qvar, qSl_i, e_qop, d_addI, lfs_rep, e_ext, e_rep, e_index, e_isl, e_isf, e_gst, e_gtup2, lfs_rev, e_revS, e_lk, e_lki, e_lkb, e_lks, e_lkn, e_lkt, e_lkl, e_lkf, e_lk0, e_lk1, lf_flst, e_chain, startE, startR, List.map_cons, List.map_nil, List.length_cons, List.length_nil, List.replicate, List.getElem?_cons_zero, List.getElem?_cons_succ, List.set_cons_zero, List.set_cons_succ, List.cons_append, List.nil_append, List.append_nil, if_true, if_false, reduceIte, Option.isSome_some, Option.map_some, Option.bind_some, Bool.and_eq_true, Bool.or_eq_true, and_self, and_true, true_and, or_true, true_or, or_false, false_or, Bool.and_true, Bool.true_and, Bool.and_self, Bool.not_true, Bool.not_false, decide_true, decide_false, reduceCtorEq, Bool.false_eq_true, Nat.reduceAdd, Nat.reduceSub, Nat.reduceMul, Nat.reduceLeDiff, Nat.reduceLT, ne_eq, not_false_eq_true, Nat.reducePow, Nat.reduceEqDiff, Int.reduceToNat, Int.reducePow, Int.reduceMul, Int.reduceAdd, Int.reduceSub, Int.reduceNeg, Int.reduceLT, Int.reduceLE, Int.reduceEq, noRef, decide_eq_true_eq, isi2_lt_i, w0, w1, e1, hw, e_lki, isi_i_i, isi_b_i, ds, ez, lz, lfs]
  | tup xs => exact absurd rfl (hnl xs).1
  | flst xs => exact absurd rfl (hnl xs).2
  | _ => unfold Pd at ht; exact ht.elim
/-- a list or a tuple is taken by its row -/
theorem bent_row0 (hB : 1000000000 ≤ B) (hn : 3 ≤ n) (hn2 : n ≤ 1000) {xs : List D} (hx : Pds B n xs) (hl : xs.length ≤ n) {d : D} (h : Box k d) (hk : k < 2 ^ 57) (self : D → List D → ResR) (t : D) (ht : t = .tup xs ∨ t = .flst xs) :
    ∃ z d', fnOfR 6 (g_law_bent self) d [t, .int 0] = .ok z d' ∧ Rs B (3 * n + 1) z ∧ Box (k + 3) d' := by
  obtain ⟨z, d1, e1, r1, k1⟩ := row_ok hB hn hn2 hx hl h hk t ht
  have w0 := h.lf
  have i2 : dIsi2 "list" "tuple" t = some (.bl true) := by rcases ht with rfl | rfl; exact isi2_lt_t; exact isi2_lt_f
  refine ⟨z, d1, ?_, r1, k1⟩
  unfold g_law_bent
  simp (maxSteps := 3000000) (disch := first | assumption | decide | omega) only [e_b, e_ok, e_exc, e_bad, e_p, e_os, e_on, e_oif, slB_b, e_var, slD_b, slD_w, e_rdS, e_rd, okR_s, e_ref, slW_w, e_move, opt_s, opt_n, opt_if, e_rdL, e_lf, e_val, e_get_v, e_get_r, e_pair, e_op, e_T, e_isBl, e_and, e_or, e_not, e_andV, e_orV, e_notV, e_if, e_ap, e_bdif, e_seq, e_asg, e_gN, e_slt, e_slf, e_gnil, e_gcons, e_gseq, e_seqt, e_seql, e_seqf, e_ret, e_drop, e_ix, e_ixW, e_dix1, e_dix2, e_dix3, e_dix5, e_dix4, at0, at1, at2, at3, at4, at5, e_setIt, set0, set1, set2, e_cons, e_nil, e_args, e_ga0, e_ga1, e_tup, e_lst, e_callG, e_neg, e_intOf, res_ok, res_exc, e_call, resR_ok, resR_exc, e_callR, resT_ok, e_callRT, two_s, e_par2, e_part, e_sl, fin_next, fin_cont, fin_brk, fin_ret, e_fg0, e_fg1, e_for0, e_while, cat_ok, bdd_ok, e_comp0, e_comp1, e_lc, e_seqD, e_range1, e_range2, e_enum, e_zip, e_isi, e_isi2, endV_ret, endV_next, endV_exc, e_fn, endR_ret, endR_next, e_fnR, e_endVif, e_endRif, e_rooted, d_add, d_sub, d_mul, d_div, d_mod, d_pow, d_lt, d_le, d_gt, d_ge, d_eq_int, d_ne_int, d_abs, d_int_b, d_int_i, lf_int, lf_bl, lf_str, lf_non, lf_tup, lfs_nil, lfs_cons, e_aug, okL_s, e_refL, e_ins, e_app, ite_and, ite_or, ite_andD, ite_orD, e_setIt2, e_frz, e_ixW2, e_lzip, dTL2, e_qvar, qSl_i, e_qop, d_addI, lfs_rep, e_ext, e_rep, e_index, e_isl, e_isf, e_gst, e_gtup2, lfs_rev, e_revS, e_lk, e_lki, e_lkb, e_lks, e_lkn, e_lkt, e_lkl, e_lkf, e_lk0, e_lk1, lf_flst, e_chain, startE, startR, List.map_cons, List.map_nil, List.length_cons, List.length_nil, List.replicate, List.getElem?_cons_zero, List.getElem?_cons_succ, List.set_cons_zero, List.set_cons_succ, List.cons_append, List.nil_append, List.append_nil, if_true, if_false, reduceIte, Option.isSome_some, Option.map_some, Option.bind_some, Bool.and_eq_true, Bool.or_eq_true, and_self, and_true, true_and, or_true, true_or, or_false, false_or, Bool.and_true, Bool.true_and, Bool.and_self, Bool.not_true, Bool.not_false, decide_true, decide_false, reduceCtorEq, Bool.false_eq_true, Nat.reduceAdd, Nat.reduceSub, Nat.reduceMul, Nat.reduceLeDiff, Nat.reduceLT, ne_eq, not_false_eq_true, Nat.reducePow, Nat.reduceEqDiff, Int.reduceToNat, Int.reducePow, Int.reduceMul, Int.reduceAdd, Int.reduceSub, Int.reduceNeg, Int.reduceLT, Int.reduceLE, Int.reduceEq, noRef, decide_eq_true_eq, i2, w0, e1]
end
/-- a thing bent -/
theorem bent_ok : ∀ (dp e : Nat) {B : Int} {n k : Nat} (hB : 1000000000 ≤ B) (hB2 : B ≤ 2000000000) (hn : 3 ≤ n) (hn2 : n ≤ 1000) {t d : D} (ht : Pd B n t) (h : Box k d) (hk : k + 8 * dp < 2 ^ 56),
    ∃ z d', f_law_bent (dp + 1 + e) d [t, .int dp] = .ok z d' ∧ Rs (B + 10) (3 * n + 1) z ∧ Box (k + 4 + 4 * dp) d' := by
  intro dp
  induction dp with
  | zero =>
    intro e B n k hB hB2 hn hn2 t d ht h hk
    rw [show 0 + 1 + e = e + 1 by omega, fb]
    by_cases hl : ∃ xs, t = .tup xs ∨ t = .flst xs
    · obtain ⟨xs, hl⟩ := hl
      have hx : Pds B n xs ∧ xs.length ≤ n := by rcases hl with rfl | rfl <;> (unfold Pd at ht; exact ⟨ht.2, ht.1⟩)
      obtain ⟨z, d1, e1, r1, k1⟩ := bent_row0 hB hn hn2 hx.1 hx.2 h (by omega) (f_law_bent e) t hl
      exact ⟨z, d1, e1, r1.mono (by omega) (Nat.le_refl _), k1.mono (by omega)⟩
    · obtain ⟨z, d1, e1, r1, k1⟩ := leaf_ok hB hB2 hn ht (fun xs => ⟨fun q => hl ⟨xs, .inl q⟩, fun q => hl ⟨xs, .inr q⟩⟩) h (by omega) (f_law_bent e) 0
      exact ⟨z, d1, e1, .of (r1.mono (Int.le_refl _) (by omega)), k1.mono (by omega)⟩
  | succ dp ih =>
    intro e B n k hB hB2 hn hn2 t d ht h hk
    rw [show dp + 1 + 1 + e = (dp + 1 + e) + 1 by omega, fb]
    by_cases hl : ∃ xs, t = .tup xs ∨ t = .flst xs
    · obtain ⟨xs, hl⟩ := hl
      have hx : Pds B n xs ∧ xs.length ≤ n := by rcases hl with rfl | rfl <;> (unfold Pd at ht; exact ⟨ht.2, ht.1⟩)
      have w0 := h.lf
      have i2 : dIsi2 "list" "tuple" t = some (.bl true) := by rcases hl with rfl | rfl; exact isi2_lt_t; exact isi2_lt_f
      have ll : dLen [t] = some (.int xs.length) := by rcases hl with rfl | rfl <;> rfl
      have li : dList [t] = some (.lst xs) := by rcases hl with rfl | rfl; exact list_t hx.1; exact list_f hx.1
      have dne : ¬ ((dp + 1 : Nat) : Int) = 0 := by omega
      by_cases h0 : xs.length = 0
      · obtain ⟨z, d1, e1, r1, k1⟩ := row_ok hB hn hn2 hx.1 hx.2 h (by omega) t hl
        refine ⟨z, d1, ?_, r1.mono (by omega) (Nat.le_refl _), k1.mono (by omega)⟩
        have h0' : ((xs.length : Nat) : Int) = 0 := by omega
        unfold g_law_bent
        simp (maxSteps := 3000000) (disch := first | assumption | decide | omega) only [e_b, e_ok, e_exc, e_bad, e_p, e_os, e_on, e_oif, slB_b, e_var, slD_b, slD_w, e_rdS, e_rd, okR_s, e_ref, slW_w, e_move, opt_s, opt_n, opt_if, e_rdL, e_lf, e_val, e_get_v, e_get_r, e_pair, e_op, e_T, e_isBl, e_and, e_or, e_not, e_andV, e_orV, e_notV, e_if, e_ap, e_bdif, e_seq, e_asg, e_gN, e_slt, e_slf, e_gnil, e_gcons, e_gseq, e_seqt, e_seql, e_seqf, e_ret, e_drop, e_ix, e_ixW, e_dix1, e_dix2, e_dix3, e_dix5, e_dix4, at0, at1, at2, at3, at4, at5, e_setIt, set0, set1, set2, e_cons, e_nil, e_args, e_ga0, e_ga1, e_tup, e_lst, e_callG, e_neg, e_intOf, res_ok, res_exc, e_call, resR_ok, resR_exc, e_callR, resT_ok, e_callRT, two_s, e_par2, e_part, e_sl, fin_next, fin_cont, fin_brk, fin_ret, e_fg0, e_fg1, e_for0, e_while, cat_ok, bdd_ok, e_comp0, e_comp1, e_lc, e_seqD, e_range1, e_range2, e_enum, e_zip, e_isi, e_isi2, endV_ret, endV_next, endV_exc, e_fn, endR_ret, endR_next, e_fnR, e_endVif, e_endRif, e_rooted, d_add, d_sub, d_mul, d_div, d_mod, d_pow, d_lt, d_le, d_gt, d_ge, d_eq_int, d_ne_int, d_abs, d_int_b, d_int_i, lf_int, lf_bl, lf_str, lf_non, lf_tup, lfs_nil, lfs_cons, e_aug, okL_s, e_refL, e_ins, e_app, ite_and, ite_or, ite_andD, ite_orD, e_setIt2, e_frz, e_ixW2, e_lzip, dTL2, e_qvar, qSl_i, e_qop, d_addI, lfs_rep, e_ext, e_rep, e_index, e_isl, e_isf, e_gst, e_gtup2, lfs_rev, e_revS, e_lk, e_lki, e_lkb, e_lks, e_lkn, e_lkt, e_lkl, e_lkf, e_lk0, e_lk1, lf_flst, e_chain, startE, startR, List.map_cons, List.map_nil, List.length_cons, List.length_nil, List.replicate, List.getElem?_cons_zero, List.getElem?_cons_succ, List.set_cons_zero, List.set_cons_succ, List.cons_append, List.nil_append, List.append_nil, if_true, if_false, reduceIte, Option.isSome_some, Option.map_some, Option.bind_some, Bool.and_eq_true, Bool.or_eq_true, and_self, and_true, true_and, or_true, true_or, or_false, false_or, Bool.and_true, Bool.true_and, Bool.and_self, Bool.not_true, Bool.not_false, decide_true, decide_false, reduceCtorEq, Bool.false_eq_true, Nat.reduceAdd, Nat.reduceSub, Nat.reduceMul, Nat.reduceLeDiff, Nat.reduceLT, ne_eq, not_false_eq_true, Nat.reducePow, Nat.reduceEqDiff, Int.reduceToNat, Int.reducePow, Int.reduceMul, Int.reduceAdd, Int.reduceSub, Int.reduceNeg, Int.reduceLT, Int.reduceLE, Int.reduceEq, noRef, decide_eq_true_eq, i2, w0, dne, ll, h0', e1]
      · have h0' : ¬ ((xs.length : Nat) : Int) = 0 := by omega
        obtain ⟨r, d1, e1, a1, b1, k1⟩ := take_box h (by omega) 4 (by omega) (by omega)
        have w1 := k1.lf
        by_cases hr : r = 0
        · obtain ⟨z, d2, e2, r2, k2⟩ := row_ok hB hn hn2 hx.1 hx.2 k1 (by omega) t hl
          refine ⟨z, d2, ?_, r2.mono (by omega) (Nat.le_refl _), k2.mono (by omega)⟩
          unfold g_law_bent
          simp (maxSteps := 3000000) (disch := first | assumption | decide | omega) only [e_b, e_ok, e_exc, e_bad, e_p, e_os, e_on, e_oif, slB_b, e_var, slD_b, slD_w, e_rdS, e_rd, okR_s, e_ref, slW_w, e_move, opt_s, opt_n, opt_if, e_rdL, e_lf, e_val, e_get_v, e_get_r, e_pair, e_op, e_T, e_isBl, e_and, e_or, e_not, e_andV, e_orV, e_notV, e_if, e_ap, e_bdif, e_seq, e_asg, e_gN, e_slt, e_slf, e_gnil, e_gcons, e_gseq, e_seqt, e_seql, e_seqf, e_ret, e_drop, e_ix, e_ixW, e_dix1, e_dix2, e_dix3, e_dix5, e_dix4, at0, at1, at2, at3, at4, at5, e_setIt, set0, set1, set2, e_cons, e_nil, e_args, e_ga0, e_ga1, e_tup, e_lst, e_callG, e_neg, e_intOf, res_ok, res_exc, e_call, resR_ok, resR_exc, e_callR, resT_ok, e_callRT, two_s, e_par2, e_part, e_sl, fin_next, fin_cont, fin_brk, fin_ret, e_fg0, e_fg1, e_for0, e_while, cat_ok, bdd_ok, e_comp0, e_comp1, e_lc, e_seqD, e_range1, e_range2, e_enum, e_zip, e_isi, e_isi2, endV_ret, endV_next, endV_exc, e_fn, endR_ret, endR_next, e_fnR, e_endVif, e_endRif, e_rooted, d_add, d_sub, d_mul, d_div, d_mod, d_pow, d_lt, d_le, d_gt, d_ge, d_eq_int, d_ne_int, d_abs, d_int_b, d_int_i, lf_int, lf_bl, lf_str, lf_non, lf_tup, lfs_nil, lfs_cons, e_aug, okL_s, e_refL, e_ins, e_app, ite_and, ite_or, ite_andD, ite_orD, e_setIt2, e_frz, e_ixW2, e_lzip, dTL2, e_qvar, qSl_i, e_qop, d_addI, lfs_rep, e_ext, e_rep, e_index, e_isl, e_isf, e_gst, e_gtup2, lfs_rev, e_revS, e_lk, e_lki, e_lkb, e_lks, e_lkn, e_lkt, e_lkl, e_lkf, e_lk0, e_lk1, lf_flst, e_chain, startE, startR, List.map_cons, List.map_nil, List.length_cons, List.length_nil, List.replicate, List.getElem?_cons_zero, List.getElem?_cons_succ, List.set_cons_zero, List.set_cons_succ, List.cons_append, List.nil_append, List.append_nil, if_true, if_false, reduceIte, Option.isSome_some, Option.map_some, Option.bind_some, Bool.and_eq_true, Bool.or_eq_true, and_self, and_true, true_and, or_true, true_or, or_false, false_or, Bool.and_true, Bool.true_and, Bool.and_self, Bool.not_true, Bool.not_false, decide_true, decide_false, reduceCtorEq, Bool.false_eq_true, Nat.reduceAdd, Nat.reduceSub, Nat.reduceMul, Nat.reduceLeDiff, Nat.reduceLT, ne_eq, not_false_eq_true, Nat.reducePow, Nat.reduceEqDiff, Int.reduceToNat, Int.reducePow, Int.reduceMul, Int.reduceAdd, Int.reduceSub, Int.reduceNeg, Int.reduceLT, Int.reduceLE, Int.reduceEq, noRef, decide_eq_true_eq, i2, w0, w1, dne, ll, h0', e1, hr, e2]
        · obtain ⟨r2, d2, e2, a2, b2, k2⟩ := take_box k1 (by omega) 4 (by omega) (by omega)
          have w2 := k2.lf
          by_cases hr2 : r2 = 0
          · have j0 : 0 ≤ (xs.length : Int) - 1 := by omega
            have j1 : (xs.length : Int) - 1 < xs.length := by omega
            have k3 := k2
            obtain ⟨y, my, ey⟩ := at_mem j0 j1
            have py := Pds.iff.mp hx.1 y my
            have ly := py.lf
            obtain ⟨z, d4, e4, r4, k4⟩ := ih e hB hB2 hn hn2 py k3 (by omega)
            have w3 := k3.lf
            have w4 := k4.lf
            have lz := r4.lf
            have es : dSet (.lst xs) (.int ((xs.length : Int) - 1)) (lkD z) = some (.lst (xs.set ((xs.length : Int) - 1).toNat (lkD z))) := by rw [e_set, ixN_nat j0 j1]; rfl
            have ps : Pds (B + 10) (3 * n + 1) (xs.set ((xs.length : Int) - 1).toNat (lkD z)) := Pds.iff.mpr fun q m => by
              rcases List.mem_or_eq_of_mem_set m with m | rfl
              · exact (Pds.iff.mp hx.1 q m).mono (by omega) (by omega)
              · exact r4
            have dpe : ((dp + 1 : Nat) : Int) - 1 = (dp : Int) := by omega
            have tl := tup_l ps
            have sl : (xs.set ((xs.length : Int) - 1).toNat (lkD z)).length ≤ 3 * n + 1 := by rw [List.length_set]; omega
            rcases hl with rfl | rfl
            · refine ⟨.tup (xs.set ((xs.length : Int) - 1).toNat (lkD z)), d4, ?_, .of (by unfold Pd; exact ⟨sl, ps⟩), k4.mono (by omega)⟩
              unfold g_law_bent
              simp (maxSteps := 3000000) (disch := first | assumption | decide | omega) only [e_b, e_ok, e_exc, e_bad, e_p, e_os, e_on, e_oif, slB_b, e_var, slD_b, slD_w, e_rdS, e_rd, okR_s, e_ref, slW_w, e_move, opt_s, opt_n, opt_if, e_rdL, e_lf, e_val, e_get_v, e_get_r, e_pair, e_op, e_T, e_isBl, e_and, e_or, e_not, e_andV, e_orV, e_notV, e_if, e_ap, e_bdif, e_seq, e_asg, e_gN, e_slt, e_slf, e_gnil, e_gcons, e_gseq, e_seqt, e_seql, e_seqf, e_ret, e_drop, e_ix, e_ixW, e_dix1, e_dix2, e_dix3, e_dix5, e_dix4, at0, at1, at2, at3, at4, at5, e_setIt, set0, set1, set2, e_cons, e_nil, e_args, e_ga0, e_ga1, e_tup, e_lst, e_callG, e_neg, e_intOf, res_ok, res_exc, e_call, resR_ok, resR_exc, e_callR, resT_ok, e_callRT, two_s, e_par2, e_part, e_sl, fin_next, fin_cont, fin_brk, fin_ret, e_fg0, e_fg1, e_for0, e_while, cat_ok, bdd_ok, e_comp0, e_comp1, e_lc, e_seqD, e_range1, e_range2, e_enum, e_zip, e_isi, e_isi2, endV_ret, endV_next, endV_exc, e_fn, endR_ret, endR_next, e_fnR, e_endVif, e_endRif, e_rooted, d_add, d_sub, d_mul, d_div, d_mod, d_pow, d_lt, d_le, d_gt, d_ge, d_eq_int, d_ne_int, d_abs, d_int_b, d_int_i, lf_int, lf_bl, lf_str, lf_non, lf_tup, lfs_nil, lfs_cons, e_aug, okL_s, e_refL, e_ins, e_app, ite_and, ite_or, ite_andD, ite_orD, e_setIt2, e_frz, e_ixW2, e_lzip, dTL2, e_qvar, qSl_i, e_qop, d_addI, lfs_rep, e_ext, e_rep, e_index, e_isl, e_isf, e_gst, e_gtup2, lfs_rev, e_revS, e_lk, e_lki, e_lkb, e_lks, e_lkn, e_lkt, e_lkl, e_lkf, e_lk0, e_lk1, lf_flst, e_chain, startE, startR, List.map_cons, List.map_nil, List.length_cons, List.length_nil, List.replicate, List.getElem?_cons_zero, List.getElem?_cons_succ, List.set_cons_zero, List.set_cons_succ, List.cons_append, List.nil_append, List.append_nil, if_true, if_false, reduceIte, Option.isSome_some, Option.map_some, Option.bind_some, Bool.and_eq_true, Bool.or_eq_true, and_self, and_true, true_and, or_true, true_or, or_false, false_or, Bool.and_true, Bool.true_and, Bool.and_self, Bool.not_true, Bool.not_false, decide_true, decide_false, reduceCtorEq, Bool.false_eq_true, Nat.reduceAdd, Nat.reduceSub, Nat.reduceMul, Nat.reduceLeDiff, Nat.reduceLT, ne_eq, not_false_eq_true, Nat.reducePow, Nat.reduceEqDiff, Int.reduceToNat, Int.reducePow, Int.reduceMul, Int.reduceAdd, Int.reduceSub, Int.reduceNeg, Int.reduceLT, Int.reduceLE, Int.reduceEq, noRef, decide_eq_true_eq, i2, w0, w1, dne, ll, h0', e1, hr, e2, hr2, li, e_dix1, ey, ly, w2, dpe, e4, lz, es, isi_t_t, tl]
            · refine ⟨.lst (xs.set ((xs.length : Int) - 1).toNat (lkD z)), d4, ?_, .lst sl ps, k4.mono (by omega)⟩
              unfold g_law_bent
              simp (maxSteps := 3000000) (disch := first | assumption | decide | omega) only [e_b, e_ok, e_exc, e_bad, e_p, e_os, e_on, e_oif, slB_b, e_var, slD_b, slD_w, e_rdS, e_rd, okR_s, e_ref, slW_w, e_move, opt_s, opt_n, opt_if, e_rdL, e_lf, e_val, e_get_v, e_get_r, e_pair, e_op, e_T, e_isBl, e_and, e_or, e_not, e_andV, e_orV, e_notV, e_if, e_ap, e_bdif, e_seq, e_asg, e_gN, e_slt, e_slf, e_gnil, e_gcons, e_gseq, e_seqt, e_seql, e_seqf, e_ret, e_drop, e_ix, e_ixW, e_dix1, e_dix2, e_dix3, e_dix5, e_dix4, at0, at1, at2, at3, at4, at5, e_setIt, set0, set1, set2, e_cons, e_nil, e_args, e_ga0, e_ga1, e_tup, e_lst, e_callG, e_neg, e_intOf, res_ok, res_exc, e_call, resR_ok, resR_exc, e_callR, resT_ok, e_callRT, two_s, e_par2, e_part, e_sl, fin_next, fin_cont, fin_brk, fin_ret, e_fg0, e_fg1, e_for0, e_while, cat_ok, bdd_ok, e_comp0, e_comp1, e_lc, e_seqD, e_range1, e_range2, e_enum, e_zip, e_isi, e_isi2, endV_ret, endV_next, endV_exc, e_fn, endR_ret, endR_next, e_fnR, e_endVif, e_endRif, e_rooted, d_add, d_sub, d_mul, d_div, d_mod, d_pow, d_lt, d_le, d_gt, d_ge, d_eq_int, d_ne_int, d_abs, d_int_b, d_int_i, lf_int, lf_bl, lf_str, lf_non, lf_tup, lfs_nil, lfs_cons, e_aug, okL_s, e_refL, e_ins, e_app, ite_and, ite_or, ite_andD, ite_orD, e_setIt2, e_frz, e_ixW2, e_lzip, dTL2, e_qvar, qSl_i, e_qop, d_addI, lfs_rep, e_ext, e_rep, e_index, e_isl, e_isf, e_gst, e_gtup2, lfs_rev, e_revS, e_lk, e_lki, e_lkb, e_lks, e_lkn, e_lkt, e_lkl, e_lkf, e_lk0, e_lk1, lf_flst, e_chain, startE, startR, List.map_cons, List.map_nil, List.length_cons, List.length_nil, List.replicate, List.getElem?_cons_zero, List.getElem?_cons_succ, List.set_cons_zero, List.set_cons_succ, List.cons_append, List.nil_append, List.append_nil, if_true, if_false, reduceIte, Option.isSome_some, Option.map_some, Option.bind_some, Bool.and_eq_true, Bool.or_eq_true, and_self, and_true, true_and, or_true, true_or, or_false, false_or, Bool.and_true, Bool.true_and, Bool.and_self, Bool.not_true, Bool.not_false, decide_true, decide_false, reduceCtorEq, Bool.false_eq_true, Nat.reduceAdd, Nat.reduceSub, Nat.reduceMul, Nat.reduceLeDiff, Nat.reduceLT, ne_eq, not_false_eq_true, Nat.reducePow, Nat.reduceEqDiff, Int.reduceToNat, Int.reducePow, Int.reduceMul, Int.reduceAdd, Int.reduceSub, Int.reduceNeg, Int.reduceLT, Int.reduceLE, Int.reduceEq, noRef, decide_eq_true_eq, i2, w0, w1, dne, ll, h0', e1, hr, e2, hr2, li, e_dix1, ey, ly, w2, dpe, e4, lz, es, isi_t_f, tl]
          · obtain ⟨j, d3, e3, j0, j1, k3⟩ := take_box k2 (by omega) (xs.length : Int) (by omega) (by omega)
            obtain ⟨y, my, ey⟩ := at_mem j0 j1
            have py := Pds.iff.mp hx.1 y my
            have ly := py.lf
            obtain ⟨z, d4, e4, r4, k4⟩ := ih e hB hB2 hn hn2 py k3 (by omega)
            have w3 := k3.lf
            have w4 := k4.lf
            have lz := r4.lf
            have es : dSet (.lst xs) (.int j) (lkD z) = some (.lst (xs.set j.toNat (lkD z))) := by rw [e_set, ixN_nat j0 j1]; rfl
            have ps : Pds (B + 10) (3 * n + 1) (xs.set j.toNat (lkD z)) := Pds.iff.mpr fun q m => by
              rcases List.mem_or_eq_of_mem_set m with m | rfl
              · exact (Pds.iff.mp hx.1 q m).mono (by omega) (by omega)
              · exact r4
            have dpe : ((dp + 1 : Nat) : Int) - 1 = (dp : Int) := by omega
            have tl := tup_l ps
            have sl : (xs.set j.toNat (lkD z)).length ≤ 3 * n + 1 := by rw [List.length_set]; omega
            rcases hl with rfl | rfl
            · refine ⟨.tup (xs.set j.toNat (lkD z)), d4, ?_, .of (by unfold Pd; exact ⟨sl, ps⟩), k4.mono (by omega)⟩
              unfold g_law_bent
              simp (maxSteps := 3000000) (disch := first | assumption | decide | omega) only [e_b, e_ok, e_exc, e_bad, e_p, e_os, e_on, e_oif, slB_b, e_var, slD_b, slD_w, e_rdS, e_rd, okR_s, e_ref, slW_w, e_move, opt_s, opt_n, opt_if, e_rdL, e_lf, e_val, e_get_v, e_get_r, e_pair, e_op, e_T, e_isBl, e_and, e_or, e_not, e_andV, e_orV, e_notV, e_if, e_ap, e_bdif, e_seq, e_asg, e_gN, e_slt, e_slf, e_gnil, e_gcons, e_gseq, e_seqt, e_seql, e_seqf, e_ret, e_drop, e_ix, e_ixW, e_dix1, e_dix2, e_dix3, e_dix5, e_dix4, at0, at1, at2, at3, at4, at5, e_setIt, set0, set1, set2, e_cons, e_nil, e_args, e_ga0, e_ga1, e_tup, e_lst, e_callG, e_neg, e_intOf, res_ok, res_exc, e_call, resR_ok, resR_exc, e_callR, resT_ok, e_callRT, two_s, e_par2, e_part, e_sl, fin_next, fin_cont, fin_brk, fin_ret, e_fg0, e_fg1, e_for0, e_while, cat_ok, bdd_ok, e_comp0, e_comp1, e_lc, e_seqD, e_range1, e_range2, e_enum, e_zip, e_isi, e_isi2, endV_ret, endV_next, endV_exc, e_fn, endR_ret, endR_next, e_fnR, e_endVif, e_endRif, e_rooted, d_add, d_sub, d_mul, d_div, d_mod, d_pow, d_lt, d_le, d_gt, d_ge, d_eq_int, d_ne_int, d_abs, d_int_b, d_int_i, lf_int, lf_bl, lf_str, lf_non, lf_tup, lfs_nil, lfs_cons, e_aug, okL_s, e_refL, e_ins, e_app, ite_and, ite_or, ite_andD, ite_orD, e_setIt2, e_frz, e_ixW2, e_lzip, dTL2, e_qvar, qSl_i, e_qop, d_addI, lfs_rep, e_ext, e_rep, e_index, e_isl, e_isf, e_gst, e_gtup2, lfs_rev, e_revS, e_lk, e_lki, e_lkb, e_lks, e_lkn, e_lkt, e_lkl, e_lkf, e_lk0, e_lk1, lf_flst, e_chain, startE, startR, List.map_cons, List.map_nil, List.length_cons, List.length_nil, List.replicate, List.getElem?_cons_zero, List.getElem?_cons_succ, List.set_cons_zero, List.set_cons_succ, List.cons_append, List.nil_append, List.append_nil, if_true, if_false, reduceIte, Option.isSome_some, Option.map_some, Option.bind_some, Bool.and_eq_true, Bool.or_eq_true, and_self, and_true, true_and, or_true, true_or, or_false, false_or, Bool.and_true, Bool.true_and, Bool.and_self, Bool.not_true, Bool.not_false, decide_true, decide_false, reduceCtorEq, Bool.false_eq_true, Nat.reduceAdd, Nat.reduceSub, Nat.reduceMul, Nat.reduceLeDiff, Nat.reduceLT, ne_eq, not_false_eq_true, Nat.reducePow, Nat.reduceEqDiff, Int.reduceToNat, Int.reducePow, Int.reduceMul, Int.reduceAdd, Int.reduceSub, Int.reduceNeg, Int.reduceLT, Int.reduceLE, Int.reduceEq, noRef, decide_eq_true_eq, i2, w0, w1, dne, ll, h0', e1, hr, e2, e3, hr2, w2, li, e_dix1, ey, ly, w3, dpe, e4, lz, es, isi_t_t, tl]
            · refine ⟨.lst (xs.set j.toNat (lkD z)), d4, ?_, .lst sl ps, k4.mono (by omega)⟩
              unfold g_law_bent
              simp (maxSteps := 3000000) (disch := first | assumption | decide | omega) only [e_b, e_ok, e_exc, e_bad, e_p, e_os, e_on, e_oif, slB_b, e_var, slD_b, slD_w, e_rdS, e_rd, okR_s, e_ref, slW_w, e_move, opt_s, opt_n, opt_if, e_rdL, e_lf, e_val, e_get_v, e_get_r, e_pair, e_op, e_T, e_isBl, e_and, e_or, e_not, e_andV, e_orV, e_notV, e_if, e_ap, e_bdif, e_seq, e_asg, e_gN, e_slt, e_slf, e_gnil, e_gcons, e_gseq, e_seqt, e_seql, e_seqf, e_ret, e_drop, e_ix, e_ixW, e_dix1, e_dix2, e_dix3, e_dix5, e_dix4, at0, at1, at2, at3, at4, at5, e_setIt, set0, set1, set2, e_cons, e_nil, e_args, e_ga0, e_ga1, e_tup, e_lst, e_callG, e_neg, e_intOf, res_ok, res_exc, e_call, resR_ok, resR_exc, e_callR, resT_ok, e_callRT, two_s, e_par2, e_part, e_sl, fin_next, fin_cont, fin_brk, fin_ret, e_fg0, e_fg1, e_for0, e_while, cat_ok, bdd_ok, e_comp0, e_comp1, e_lc, e_seqD, e_range1, e_range2, e_enum, e_zip, e_isi, e_isi2, endV_ret, endV_next, endV_exc, e_fn, endR_ret, endR_next, e_fnR, e_endVif, e_endRif, e_rooted, d_add, d_sub, d_mul, d_div, d_mod, d_pow, d_lt, d_le, d_gt, d_ge, d_eq_int, d_ne_int, d_abs, d_int_b, d_int_i, lf_int, lf_bl, lf_str, lf_non, lf_tup, lfs_nil, lfs_cons, e_aug, okL_s, e_refL, e_ins, e_app, ite_and, ite_or, ite_andD, ite_orD, e_setIt2, e_frz, e_ixW2, e_lzip, dTL2, e_qvar, qSl_i, e_qop, d_addI, lfs_rep, e_ext, e_rep, e_index, e_isl, e_isf, e_gst, e_gtup2, lfs_rev, e_revS, e_lk, e_lki, e_lkb, e_lks, e_lkn, e_lkt, e_lkl, e_lkf, e_lk0, e_lk1, lf_flst, e_chain, startE, startR, List.map_cons, List.map_nil, List.length_cons, List.length_nil, List.replicate, List.getElem?_cons_zero, List.getElem?_cons_succ, List.set_cons_zero, List.set_cons_succ, List.cons_append, List.nil_append, List.append_nil, if_true, if_false, reduceIte, Option.isSome_some, Option.map_some, Option.bind_some, Bool.and_eq_true, Bool.or_eq_true, and_self, and_true, true_and, or_true, true_or, or_false, false_or, Bool.and_true, Bool.true_and, Bool.and_self, Bool.not_true, Bool.not_false, decide_true, decide_false, reduceCtorEq, Bool.false_eq_true, Nat.reduceAdd, Nat.reduceSub, Nat.reduceMul, Nat.reduceLeDiff, Nat.reduceLT, ne_eq, not_false_eq_true, Nat.reducePow, Nat.reduceEqDiff, Int.reduceToNat, Int.reducePow, Int.reduceMul, Int.reduceAdd, Int.reduceSub, Int.reduceNeg, Int.reduceLT, Int.reduceLE, Int.reduceEq, noRef, decide_eq_true_eq, i2, w0, w1, dne, ll, h0', e1, hr, e2, e3, hr2, w2, li, e_dix1, ey, ly, w3, dpe, e4, lz, es, isi_t_f, tl]
    · obtain ⟨z, d1, e1, r1, k1⟩ := leaf_ok hB hB2 hn ht (fun xs => ⟨fun q => hl ⟨xs, .inl q⟩, fun q => hl ⟨xs, .inr q⟩⟩) h (by omega) (f_law_bent (dp + 1 + e)) ((dp + 1 : Nat) : Int)
      exact ⟨z, d1, e1, .of (r1.mono (Int.le_refl _) (by omega)), k1.mono (by omega)⟩
end K01
end
section
set_option maxRecDepth 100000
set_option linter.all false
set_option Elab.async false
set_option autoImplicit false
set_option maxHeartbeats 8000000
set_option exponentiation.threshold 3000
namespace K01
open PySem PySem.Spec PyProof.Rows L2 P3
/-- a side of a place -/
def pl : D → Bool
  | .int i => decide (-1000 ≤ i) && decide (i ≤ 1000)
  | _ => false
theorem isi_i_t {xs : List D} : dIsi "int" (.tup xs) = some (.bl false) := by simp [dIsi, tyD, isTy]
theorem isi_i_f {xs : List D} : dIsi "int" (.flst xs) = some (.bl false) := by simp [dIsi, tyD, isTy]
theorem isi_t_i {i : Int} : dIsi "tuple" (.int i) = some (.bl false) := by simp [dIsi, tyD, isTy]
theorem isi_t_b {b : Bool} : dIsi "tuple" (.bl b) = some (.bl false) := by simp [dIsi, tyD, isTy]
theorem isi_t_s {x : Str} : dIsi "tuple" (.str x) = some (.bl false) := by simp [dIsi, tyD, isTy]
theorem isi_t_n : dIsi "tuple" .non = some (.bl false) := by simp [dIsi, tyD, isTy]
section
variable {B : Int} {n : Nat} {x : D}
theorem between_ok (h : Pd B n x) : f_is_between [x, .int (-1000), .int 1000] = .ok (.bl (pl x)) := by
  have num : ∀ b, dIsi "int" x = some (.bl b) → f_is_number [x] = .ok (.bl (b && !(match x with | .bl _ => true | _ => false))) := fun b hb => by
    cases x <;> simp [dIsi, tyD, isTy] at hb <;> subst hb <;> (unfold f_is_number g_is_number; first | simp (maxSteps := 3000000) (disch := first | assumption | decide | omega) only [e_b, e_ok, e_exc, e_bad, e_p, e_os, e_on, e_oif, slB_b, e_var, slD_b, slD_w, e_rdS, e_rd, okR_s, e_ref, slW_w, e_move, opt_s, opt_n, opt_if, e_rdL, e_lf, e_val, e_get_v, e_get_r, e_pair, e_op, e_T, e_isBl, e_and, e_or, e_not, e_andV, e_orV, e_notV, e_if, e_ap, e_bdif, e_seq, e_asg, e_gN, e_slt, e_slf, e_gnil, e_gcons, e_gseq, e_seqt, e_seql, e_seqf, e_ret, e_drop, e_ix, e_ixW, e_dix1, e_dix2, e_dix3, e_dix5, e_dix4, at0, at1, at2, at3, at4, at5, e_setIt, set0, set1, set2, e_cons, e_nil, e_args, e_ga0, e_ga1, e_tup, e_lst, e_callG, e_neg, e_intOf, res_ok, res_exc, e_call, resR_ok, resR_exc, e_callR, resT_ok, e_callRT, two_s, e_par2, e_part, e_sl, fin_next, fin_cont, fin_brk, fin_ret, e_fg0, e_fg1, e_for0, e_while, cat_ok, bdd_ok, e_comp0, e_comp1, e_lc, e_seqD, e_range1, e_range2, e_enum, e_zip, e_isi, e_isi2, endV_ret, endV_next, endV_exc, e_fn, endR_ret, endR_next, e_fnR, e_endVif, e_endRif, e_rooted, d_add, d_sub, d_mul, d_div, d_mod, d_pow, d_lt, d_le, d_gt, d_ge, d_eq_int, d_ne_int, d_abs, d_int_b, d_int_i, lf_int, lf_bl, lf_str, lf_non, lf_tup, lfs_nil, lfs_cons, e_aug, okL_s, e_refL, e_ins, e_app, ite_and, ite_or, ite_andD, ite_orD, e_setIt2, e_frz, e_ixW2, e_lzip, dTL2, e_qvar, qSl_i, e_qop, d_addI, lfs_rep, e_ext, e_rep, e_index, e_isl, e_isf, e_gst, e_gtup2, lfs_rev, e_revS, e_lk, e_lki, e_lkb, e_lks, e_lkn, e_lkt, e_lkl, e_lkf, e_lk0, e_lk1, lf_flst, e_chain, startE, startR, List.map_cons, List.map_nil, List.length_cons, List.length_nil, List.replicate, List.getElem?_cons_zero, List.getElem?_cons_succ, List.set_cons_zero, List.set_cons_succ, List.cons_append, List.nil_append, List.append_nil, if_true, if_false, reduceIte, Option.isSome_some, Option.map_some, Option.bind_some, Bool.and_eq_true, Bool.or_eq_true, and_self, and_true, true_and, or_true, true_or, or_false, false_or, Bool.and_true, Bool.true_and, Bool.and_self, Bool.not_true, Bool.not_false, decide_true, decide_false, reduceCtorEq, Bool.false_eq_true, Nat.reduceAdd, Nat.reduceSub, Nat.reduceMul, Nat.reduceLeDiff, Nat.reduceLT, ne_eq, not_false_eq_true, Nat.reducePow, Nat.reduceEqDiff, Int.reduceToNat, Int.reducePow, Int.reduceMul, Int.reduceAdd, Int.reduceSub, Int.reduceNeg, Int.reduceLT, Int.reduceLE, Int.reduceEq, noRef, decide_eq_true_eq, isi_i_i, isi_b_i] | simp (maxSteps := 3000000) (disch := first | assumption | decide | omega) only [e_b, e_ok, e_exc, e_bad, e_p, e_os, e_on, e_oif, slB_b, e_var, slD_b, slD_w, e_rdS, e_rd, okR_s, e_ref, slW_w, e_move, opt_s, opt_n, opt_if, e_rdL, e_lf, e_val, e_get_v, e_get_r, e_pair, e_op, e_T, e_isBl, e_and, e_or, e_not, e_andV, e_orV, e_notV, e_if, e_ap, e_bdif, e_seq, e_asg, e_gN, e_slt, e_slf, e_gnil, e_gcons, e_gseq, e_seqt, e_seql, e_seqf, e_ret, e_drop, e_ix, e_ixW, e_dix1, e_dix2, e_dix3, e_dix5, e_dix4, at0, at1, at2, at3, at4, at5, e_setIt, set0, set1, set2, e_cons, e_nil, e_args, e_ga0, e_ga1, e_tup, e_lst, e_callG, e_neg, e_intOf, res_ok, res_exc, e_call, resR_ok, resR_exc, e_callR, resT_ok, e_callRT, two_s, e_par2, e_part, e_sl, fin_next, fin_cont, fin_brk, fin_ret, e_fg0, e_fg1, e_for0, e_while, cat_ok, bdd_ok, e_comp0, e_comp1, e_lc, e_seqD, e_range1, e_range2, e_enum, e_zip, e_isi, e_isi2, endV_ret, endV_next, endV_exc, e_fn, endR_ret, endR_next, e_fnR, e_endVif, e_endRif, e_rooted, d_add, d_sub, d_mul, d_div, d_mod, d_pow, d_lt, d_le, d_gt, d_ge, d_eq_int, d_ne_int, d_abs, d_int_b, d_int_i, lf_int, lf_bl, lf_str, lf_non, lf_tup, lfs_nil, lfs_cons, e_aug, okL_s, e_refL, e_ins, e_app, ite_and, ite_or, ite_andD, ite_orD, e_setIt2, e_frz, e_ixW2, e_lzip, dTL2, e_qvar, qSl_i, e_qop, d_addI, lfs_rep, e_ext, e_rep, e_index, e_isl, e_isf, e_gst, e_gtup2, lfs_rev, e_revS, e_lk, e_lki, e_lkb, e_lks, e_lkn, e_lkt, e_lkl, e_lkf, e_lk0, e_lk1, lf_flst, e_chain, startE, startR, List.map_cons, List.map_nil, List.length_cons, List.length_nil, List.replicate, List.getElem?_cons_zero, List.getElem?_cons_succ, List.set_cons_zero, List.set_cons_succ, List.cons_append, List.nil_append, List.append_nil, if_true, if_false, reduceIte, Option.isSome_some, Option.map_some, Option.bind_some, Bool.and_eq_true, Bool.or_eq_true, and_self, and_true, true_and, or_true, true_or, or_false, false_or, Bool.and_true, Bool.true_and, Bool.and_self, Bool.not_true, Bool.not_false, decide_true, decide_false, reduceCtorEq, Bool.false_eq_true, Nat.reduceAdd, Nat.reduceSub, Nat.reduceMul, Nat.reduceLeDiff, Nat.reduceLT, ne_eq, not_false_eq_true, Nat.reducePow, Nat.reduceEqDiff, Int.reduceToNat, Int.reducePow, Int.reduceMul, Int.reduceAdd, Int.reduceSub, Int.reduceNeg, Int.reduceLT, Int.reduceLE, Int.reduceEq, noRef, decide_eq_true_eq, isi_i_b, isi_b_b] | simp (maxSteps := 3000000) (disch := first | assumption | decide | omega) only [e_b, e_ok, e_exc, e_bad, e_p, e_os, e_on, e_oif, slB_b, e_var, slD_b, slD_w, e_rdS, e_rd, okR_s, e_ref, slW_w, e_move, opt_s, opt_n, opt_if, e_rdL, e_lf, e_val, e_get_v, e_get_r, e_pair, e_op, e_T, e_isBl, e_and, e_or, e_not, e_andV, e_orV, e_notV, e_if, e_ap, e_bdif, e_seq, e_asg, e_gN, e_slt, e_slf, e_gnil, e_gcons, e_gseq, e_seqt, e_seql, e_seqf, e_ret, e_drop, e_ix, e_ixW, e_dix1, e_dix2, e_dix3, e_dix5, e_dix4, at0, at1, at2, at3, at4, at5, e_setIt, set0, set1, set2, e_cons, e_nil, e_args, e_ga0, e_ga1, e_tup, e_lst, e_callG, e_neg, e_intOf, res_ok, res_exc, e_call, resR_ok, resR_exc, e_callR, resT_ok, e_callRT, two_s, e_par2, e_part, e_sl, fin_next, fin_cont, fin_brk, fin_ret, e_fg0, e_fg1, e_for0, e_while, cat_ok, bdd_ok, e_comp0, e_comp1, e_lc, e_seqD, e_range1, e_range2, e_enum, e_zip, e_isi, e_isi2, endV_ret, endV_next, endV_exc, e_fn, endR_ret, endR_next, e_fnR, e_endVif, e_endRif, e_rooted, d_add, d_sub, d_mul, d_div, d_mod, d_pow, d_lt, d_le, d_gt, d_ge, d_eq_int, d_ne_int, d_abs, d_int_b, d_int_i, lf_int, lf_bl, lf_str, lf_non, lf_tup, lfs_nil, lfs_cons, e_aug, okL_s, e_refL, e_ins, e_app, ite_and, ite_or, ite_andD, ite_orD, e_setIt2, e_frz, e_ixW2, e_lzip, dTL2, e_qvar, qSl_i, e_qop, d_addI, lfs_rep, e_ext, e_rep, e_index, e_isl, e_isf, e_gst, e_gtup2, lfs_rev, e_revS, e_lk, e_lki, e_lkb, e_lks, e_lkn, e_lkt, e_lkl, e_lkf, e_lk0, e_lk1, lf_flst, e_chain, startE, startR, List.map_cons, List.map_nil, List.length_cons, List.length_nil, List.replicate, List.getElem?_cons_zero, List.getElem?_cons_succ, List.set_cons_zero, List.set_cons_succ, List.cons_append, List.nil_append, List.append_nil, if_true, if_false, reduceIte, Option.isSome_some, Option.map_some, Option.bind_some, Bool.and_eq_true, Bool.or_eq_true, and_self, and_true, true_and, or_true, true_or, or_false, false_or, Bool.and_true, Bool.true_and, Bool.and_self, Bool.not_true, Bool.not_false, decide_true, decide_false, reduceCtorEq, Bool.false_eq_true, Nat.reduceAdd, Nat.reduceSub, Nat.reduceMul, Nat.reduceLeDiff, Nat.reduceLT, ne_eq, not_false_eq_true, Nat.reducePow, Nat.reduceEqDiff, Int.reduceToNat, Int.reducePow, Int.reduceMul, Int.reduceAdd, Int.reduceSub, Int.reduceNeg, Int.reduceLT, Int.reduceLE, Int.reduceEq, noRef, decide_eq_true_eq, isi_i_n] | simp (maxSteps := 3000000) (disch := first | assumption | decide | omega) only [e_b, e_ok, e_exc, e_bad, e_p, e_os, e_on, e_oif, slB_b, e_var, slD_b, slD_w, e_rdS, e_rd, okR_s, e_ref, slW_w, e_move, opt_s, opt_n, opt_if, e_rdL, e_lf, e_val, e_get_v, e_get_r, e_pair, e_op, e_T, e_isBl, e_and, e_or, e_not, e_andV, e_orV, e_notV, e_if, e_ap, e_bdif, e_seq, e_asg, e_gN, e_slt, e_slf, e_gnil, e_gcons, e_gseq, e_seqt, e_seql, e_seqf, e_ret, e_drop, e_ix, e_ixW, e_dix1, e_dix2, e_dix3, e_dix5, e_dix4, at0, at1, at2, at3, at4, at5, e_setIt, set0, set1, set2, e_cons, e_nil, e_args, e_ga0, e_ga1, e_tup, e_lst, e_callG, e_neg, e_intOf, res_ok, res_exc, e_call, resR_ok, resR_exc, e_callR, resT_ok, e_callRT, two_s, e_par2, e_part, e_sl, fin_next, fin_cont, fin_brk, fin_ret, e_fg0, e_fg1, e_for0, e_while, cat_ok, bdd_ok, e_comp0, e_comp1, e_lc, e_seqD, e_range1, e_range2, e_enum, e_zip, e_isi, e_isi2, endV_ret, endV_next, endV_exc, e_fn, endR_ret, endR_next, e_fnR, e_endVif, e_endRif, e_rooted, d_add, d_sub, d_mul, d_div, d_mod, d_pow, d_lt, d_le, d_gt, d_ge, d_eq_int, d_ne_int, d_abs, d_int_b, d_int_i, lf_int, lf_bl, lf_str, lf_non, lf_tup, lfs_nil, lfs_cons, e_aug, okL_s, e_refL, e_ins, e_app, ite_and, ite_or, ite_andD, ite_orD, e_setIt2, e_frz, e_ixW2, e_lzip, dTL2, e_qvar, qSl_i, e_qop, d_addI, lfs_rep, e_ext, e_rep, e_index, e_isl, e_isf, e_gst, e_gtup2, lfs_rev, e_revS, e_lk, e_lki, e_lkb, e_lks, e_lkn, e_lkt, e_lkl, e_lkf, e_lk0, e_lk1, lf_flst, e_chain, startE, startR, List.map_cons, List.map_nil, List.length_cons, List.length_nil, List.replicate, List.getElem?_cons_zero, List.getElem?_cons_succ, List.set_cons_zero, List.set_cons_succ, List.cons_append, List.nil_append, List.append_nil, if_true, if_false, reduceIte, Option.isSome_some, Option.map_some, Option.bind_some, Bool.and_eq_true, Bool.or_eq_true, and_self, and_true, true_and, or_true, true_or, or_false, false_or, Bool.and_true, Bool.true_and, Bool.and_self, Bool.not_true, Bool.not_false, decide_true, decide_false, reduceCtorEq, Bool.false_eq_true, Nat.reduceAdd, Nat.reduceSub, Nat.reduceMul, Nat.reduceLeDiff, Nat.reduceLT, ne_eq, not_false_eq_true, Nat.reducePow, Nat.reduceEqDiff, Int.reduceToNat, Int.reducePow, Int.reduceMul, Int.reduceAdd, Int.reduceSub, Int.reduceNeg, Int.reduceLT, Int.reduceLE, Int.reduceEq, noRef, decide_eq_true_eq, isi_i_s] | simp (maxSteps := 3000000) (disch := first | assumption | decide | omega) only [e_b, e_ok, e_exc, e_bad, e_p, e_os, e_on, e_oif, slB_b, e_var, slD_b, slD_w, e_rdS, e_rd, okR_s, e_ref, slW_w, e_move, opt_s, opt_n, opt_if, e_rdL, e_lf, e_val, e_get_v, e_get_r, e_pair, e_op, e_T, e_isBl, e_and, e_or, e_not, e_andV, e_orV, e_notV, e_if, e_ap, e_bdif, e_seq, e_asg, e_gN, e_slt, e_slf, e_gnil, e_gcons, e_gseq, e_seqt, e_seql, e_seqf, e_ret, e_drop, e_ix, e_ixW, e_dix1, e_dix2, e_dix3, e_dix5, e_dix4, at0, at1, at2, at3, at4, at5, e_setIt, set0, set1, set2, e_cons, e_nil, e_args, e_ga0, e_ga1, e_tup, e_lst, e_callG, e_neg, e_intOf, res_ok, res_exc, e_call, resR_ok, resR_exc, e_callR, resT_ok, e_callRT, two_s, e_par2, e_part, e_sl, fin_next, fin_cont, fin_brk, fin_ret, e_fg0, e_fg1, e_for0, e_while, cat_ok, bdd_ok, e_comp0, e_comp1, e_lc, e_seqD, e_range1, e_range2, e_enum, e_zip, e_isi, e_isi2, endV_ret, endV_next, endV_exc, e_fn, endR_ret, endR_next, e_fnR, e_endVif, e_endRif, e_rooted, d_add, d_sub, d_mul, d_div, d_mod, d_pow, d_lt, d_le, d_gt, d_ge, d_eq_int, d_ne_int, d_abs, d_int_b, d_int_i, lf_int, lf_bl, lf_str, lf_non, lf_tup, lfs_nil, lfs_cons, e_aug, okL_s, e_refL, e_ins, e_app, ite_and, ite_or, ite_andD, ite_orD, e_setIt2, e_frz, e_ixW2, e_lzip, dTL2, e_qvar, qSl_i, e_qop, d_addI, lfs_rep, e_ext, e_rep, e_index, e_isl, e_isf, e_gst, e_gtup2, lfs_rev, e_revS, e_lk, e_lki, e_lkb, e_lks, e_lkn, e_lkt, e_lkl, e_lkf, e_lk0, e_lk1, lf_flst, e_chain, startE, startR, List.map_cons, List.map_nil, List.length_cons, List.length_nil, List.replicate, List.getElem?_cons_zero, List.getElem?_cons_succ, List.set_cons_zero, List.set_cons_succ, List.cons_append, List.nil_append, List.append_nil, if_true, if_false, reduceIte, Option.isSome_some, Option.map_some, Option.bind_some, Bool.and_eq_true, Bool.or_eq_true, and_self, and_true, true_and, or_true, true_or, or_false, false_or, Bool.and_true, Bool.true_and, Bool.and_self, Bool.not_true, Bool.not_false, decide_true, decide_false, reduceCtorEq, Bool.false_eq_true, Nat.reduceAdd, Nat.reduceSub, Nat.reduceMul, Nat.reduceLeDiff, Nat.reduceLT, ne_eq, not_false_eq_true, Nat.reducePow, Nat.reduceEqDiff, Int.reduceToNat, Int.reducePow, Int.reduceMul, Int.reduceAdd, Int.reduceSub, Int.reduceNeg, Int.reduceLT, Int.reduceLE, Int.reduceEq, noRef, decide_eq_true_eq, isi_i_t] | simp (maxSteps := 3000000) (disch := first | assumption | decide | omega) only [e_b, e_ok, e_exc, e_bad, e_p, e_os, e_on, e_oif, slB_b, e_var, slD_b, slD_w, e_rdS, e_rd, okR_s, e_ref, slW_w, e_move, opt_s, opt_n, opt_if, e_rdL, e_lf, e_val, e_get_v, e_get_r, e_pair, e_op, e_T, e_isBl, e_and, e_or, e_not, e_andV, e_orV, e_notV, e_if, e_ap, e_bdif, e_seq, e_asg, e_gN, e_slt, e_slf, e_gnil, e_gcons, e_gseq, e_seqt, e_seql, e_seqf, e_ret, e_drop, e_ix, e_ixW, e_dix1, e_dix2, e_dix3, e_dix5, e_dix4, at0, at1, at2, at3, at4, at5, e_setIt, set0, set1, set2, e_cons, e_nil, e_args, e_ga0, e_ga1, e_tup, e_lst, e_callG, e_neg, e_intOf, res_ok, res_exc, e_call, resR_ok, resR_exc, e_callR, resT_ok, e_callRT, two_s, e_par2, e_part, e_sl, fin_next, fin_cont, fin_brk, fin_ret, e_fg0, e_fg1, e_for0, e_while, cat_ok, bdd_ok, e_comp0, e_comp1, e_lc, e_seqD, e_range1, e_range2, e_enum, e_zip, e_isi, e_isi2, endV_ret, endV_next, endV_exc, e_fn, endR_ret, endR_next, e_fnR, e_endVif, e_endRif, e_rooted, d_add, d_sub, d_mul, d_div, d_mod, d_pow, d_lt, d_le, d_gt, d_ge, d_eq_int, d_ne_int, d_abs, d_int_b, d_int_i, lf_int, lf_bl, lf_str, lf_non, lf_tup, lfs_nil, lfs_cons, e_aug, okL_s, e_refL, e_ins, e_app, ite_and, ite_or, ite_andD, ite_orD, e_setIt2, e_frz, e_ixW2, e_lzip, dTL2, e_qvar, qSl_i, e_qop, d_addI, lfs_rep, e_ext, e_rep, e_index, e_isl, e_isf, e_gst, e_gtup2, lfs_rev, e_revS, e_lk, e_lki, e_lkb, e_lks, e_lkn, e_lkt, e_lkl, e_lkf, e_lk0, e_lk1, lf_flst, e_chain, startE, startR, List.map_cons, List.map_nil, List.length_cons, List.length_nil, List.replicate, List.getElem?_cons_zero, List.getElem?_cons_succ, List.set_cons_zero, List.set_cons_succ, List.cons_append, List.nil_append, List.append_nil, if_true, if_false, reduceIte, Option.isSome_some, Option.map_some, Option.bind_some, Bool.and_eq_true, Bool.or_eq_true, and_self, and_true, true_and, or_true, true_or, or_false, false_or, Bool.and_true, Bool.true_and, Bool.and_self, Bool.not_true, Bool.not_false, decide_true, decide_false, reduceCtorEq, Bool.false_eq_true, Nat.reduceAdd, Nat.reduceSub, Nat.reduceMul, Nat.reduceLeDiff, Nat.reduceLT, ne_eq, not_false_eq_true, Nat.reducePow, Nat.reduceEqDiff, Int.reduceToNat, Int.reducePow, Int.reduceMul, Int.reduceAdd, Int.reduceSub, Int.reduceNeg, Int.reduceLT, Int.reduceLE, Int.reduceEq, noRef, decide_eq_true_eq, isi_i_f]) <;> rfl
  cases x with
  | int i =>
    have e := num true isi_i_i
    unfold f_is_between g_is_between
    by_cases h1 : -1000 ≤ i
    · by_cases h2 : i ≤ 1000
      · simp (maxSteps := 3000000) (disch := first | assumption | decide | omega) only [e_b, e_ok, e_exc, e_bad, e_p, e_os, e_on, e_oif, slB_b, e_var, slD_b, slD_w, e_rdS, e_rd, okR_s, e_ref, slW_w, e_move, opt_s, opt_n, opt_if, e_rdL, e_lf, e_val, e_get_v, e_get_r, e_pair, e_op, e_T, e_isBl, e_and, e_or, e_not, e_andV, e_orV, e_notV, e_if, e_ap, e_bdif, e_seq, e_asg, e_gN, e_slt, e_slf, e_gnil, e_gcons, e_gseq, e_seqt, e_seql, e_seqf, e_ret, e_drop, e_ix, e_ixW, e_dix1, e_dix2, e_dix3, e_dix5, e_dix4, at0, at1, at2, at3, at4, at5, e_setIt, set0, set1, set2, e_cons, e_nil, e_args, e_ga0, e_ga1, e_tup, e_lst, e_callG, e_neg, e_intOf, res_ok, res_exc, e_call, resR_ok, resR_exc, e_callR, resT_ok, e_callRT, two_s, e_par2, e_part, e_sl, fin_next, fin_cont, fin_brk, fin_ret, e_fg0, e_fg1, e_for0, e_while, cat_ok, bdd_ok, e_comp0, e_comp1, e_lc, e_seqD, e_range1, e_range2, e_enum, e_zip, e_isi, e_isi2, endV_ret, endV_next, endV_exc, e_fn, endR_ret, endR_next, e_fnR, e_endVif, e_endRif, e_rooted, d_add, d_sub, d_mul, d_div, d_mod, d_pow, d_lt, d_le, d_gt, d_ge, d_eq_int, d_ne_int, d_abs, d_int_b, d_int_i, lf_int, lf_bl, lf_str, lf_non, lf_tup, lfs_nil, lfs_cons, e_aug, okL_s, e_refL, e_ins, e_app, ite_and, ite_or, ite_andD, ite_orD, e_setIt2, e_frz, e_ixW2, e_lzip, dTL2, e_qvar, qSl_i, e_qop, d_addI, lfs_rep, e_ext, e_rep, e_index, e_isl, e_isf, e_gst, e_gtup2, lfs_rev, e_revS, e_lk, e_lki, e_lkb, e_lks, e_lkn, e_lkt, e_lkl, e_lkf, e_lk0, e_lk1, lf_flst, e_chain, startE, startR, List.map_cons, List.map_nil, List.length_cons, List.length_nil, List.replicate, List.getElem?_cons_zero, List.getElem?_cons_succ, List.set_cons_zero, List.set_cons_succ, List.cons_append, List.nil_append, List.append_nil, if_true, if_false, reduceIte, Option.isSome_some, Option.map_some, Option.bind_some, Bool.and_eq_true, Bool.or_eq_true, and_self, and_true, true_and, or_true, true_or, or_false, false_or, Bool.and_true, Bool.true_and, Bool.and_self, Bool.not_true, Bool.not_false, decide_true, decide_false, reduceCtorEq, Bool.false_eq_true, Nat.reduceAdd, Nat.reduceSub, Nat.reduceMul, Nat.reduceLeDiff, Nat.reduceLT, ne_eq, not_false_eq_true, Nat.reducePow, Nat.reduceEqDiff, Int.reduceToNat, Int.reducePow, Int.reduceMul, Int.reduceAdd, Int.reduceSub, Int.reduceNeg, Int.reduceLT, Int.reduceLE, Int.reduceEq, noRef, decide_eq_true_eq, e, h1, h2, pl]
      · simp (maxSteps := 3000000) (disch := first | assumption | decide | omega) only [e_b, e_ok, e_exc, e_bad, e_p, e_os, e_on, e_oif, slB_b, e_var, slD_b, slD_w, e_rdS, e_rd, okR_s, e_ref, slW_w, e_move, opt_s, opt_n, opt_if, e_rdL, e_lf, e_val, e_get_v, e_get_r, e_pair, e_op, e_T, e_isBl, e_and, e_or, e_not, e_andV, e_orV, e_notV, e_if, e_ap, e_bdif, e_seq, e_asg, e_gN, e_slt, e_slf, e_gnil, e_gcons, e_gseq, e_seqt, e_seql, e_seqf, e_ret, e_drop, e_ix, e_ixW, e_dix1, e_dix2, e_dix3, e_dix5, e_dix4, at0, at1, at2, at3, at4, at5, e_setIt, set0, set1, set2, e_cons, e_nil, e_args, e_ga0, e_ga1, e_tup, e_lst, e_callG, e_neg, e_intOf, res_ok, res_exc, e_call, resR_ok, resR_exc, e_callR, resT_ok, e_callRT, two_s, e_par2, e_part, e_sl, fin_next, fin_cont, fin_brk, fin_ret, e_fg0, e_fg1, e_for0, e_while, cat_ok, bdd_ok, e_comp0, e_comp1, e_lc, e_seqD, e_range1, e_range2, e_enum, e_zip, e_isi, e_isi2, endV_ret, endV_next, endV_exc, e_fn, endR_ret, endR_next, e_fnR, e_endVif, e_endRif, e_rooted, d_add, d_sub, d_mul, d_div, d_mod, d_pow, d_lt, d_le, d_gt, d_ge, d_eq_int, d_ne_int, d_abs, d_int_b, d_int_i, lf_int, lf_bl, lf_str, lf_non, lf_tup, lfs_nil, lfs_cons, e_aug, okL_s, e_refL, e_ins, e_app, ite_and, ite_or, ite_andD, ite_orD, e_setIt2, e_frz, e_ixW2, e_lzip, dTL2, e_qvar, qSl_i, e_qop, d_addI, lfs_rep, e_ext, e_rep, e_index, e_isl, e_isf, e_gst, e_gtup2, lfs_rev, e_revS, e_lk, e_lki, e_lkb, e_lks, e_lkn, e_lkt, e_lkl, e_lkf, e_lk0, e_lk1, lf_flst, e_chain, startE, startR, List.map_cons, List.map_nil, List.length_cons, List.length_nil, List.replicate, List.getElem?_cons_zero, List.getElem?_cons_succ, List.set_cons_zero, List.set_cons_succ, List.cons_append, List.nil_append, List.append_nil, if_true, if_false, reduceIte, Option.isSome_some, Option.map_some, Option.bind_some, Bool.and_eq_true, Bool.or_eq_true, and_self, and_true, true_and, or_true, true_or, or_false, false_or, Bool.and_true, Bool.true_and, Bool.and_self, Bool.not_true, Bool.not_false, decide_true, decide_false, reduceCtorEq, Bool.false_eq_true, Nat.reduceAdd, Nat.reduceSub, Nat.reduceMul, Nat.reduceLeDiff, Nat.reduceLT, ne_eq, not_false_eq_true, Nat.reducePow, Nat.reduceEqDiff, Int.reduceToNat, Int.reducePow, Int.reduceMul, Int.reduceAdd, Int.reduceSub, Int.reduceNeg, Int.reduceLT, Int.reduceLE, Int.reduceEq, noRef, decide_eq_true_eq, e, h1, h2, pl]
    · simp (maxSteps := 3000000) (disch := first | assumption | decide | omega) only [e_b, e_ok, e_exc, e_bad, e_p, e_os, e_on, e_oif, slB_b, e_var, slD_b, slD_w, e_rdS, e_rd, okR_s, e_ref, slW_w, e_move, opt_s, opt_n, opt_if, e_rdL, e_lf, e_val, e_get_v, e_get_r, e_pair, e_op, e_T, e_isBl, e_and, e_or, e_not, e_andV, e_orV, e_notV, e_if, e_ap, e_bdif, e_seq, e_asg, e_gN, e_slt, e_slf, e_gnil, e_gcons, e_gseq, e_seqt, e_seql, e_seqf, e_ret, e_drop, e_ix, e_ixW, e_dix1, e_dix2, e_dix3, e_dix5, e_dix4, at0, at1, at2, at3, at4, at5, e_setIt, set0, set1, set2, e_cons, e_nil, e_args, e_ga0, e_ga1, e_tup, e_lst, e_callG, e_neg, e_intOf, res_ok, res_exc, e_call, resR_ok, resR_exc, e_callR, resT_ok, e_callRT, two_s, e_par2, e_part, e_sl, fin_next, fin_cont, fin_brk, fin_ret, e_fg0, e_fg1, e_for0, e_while, cat_ok, bdd_ok, e_comp0, e_comp1, e_lc, e_seqD, e_range1, e_range2, e_enum, e_zip, e_isi, e_isi2, endV_ret, endV_next, endV_exc, e_fn, endR_ret, endR_next, e_fnR, e_endVif, e_endRif, e_rooted, d_add, d_sub, d_mul, d_div, d_mod, d_pow, d_lt, d_le, d_gt, d_ge, d_eq_int, d_ne_int, d_abs, d_int_b, d_int_i, lf_int, lf_bl, lf_str, lf_non, lf_tup, lfs_nil, lfs_cons, e_aug, okL_s, e_refL, e_ins, e_app, ite_and, ite_or, ite_andD, ite_orD, e_setIt2, e_frz, e_ixW2, e_lzip, dTL2, e_qvar, qSl_i, e_qop, d_addI, lfs_rep, e_ext, e_rep, e_index, e_isl, e_isf, e_gst, e_gtup2, lfs_rev, e_revS, e_lk, e_lki, e_lkb, e_lks, e_lkn, e_lkt, e_lkl, e_lkf, e_lk0, e_lk1, lf_flst, e_chain, startE, startR, List.map_cons, List.map_nil, List.length_cons, List.length_nil, List.replicate, List.getElem?_cons_zero, List.getElem?_cons_succ, List.set_cons_zero, List.set_cons_succ, List.cons_append, List.nil_append, List.append_nil, if_true, if_false, reduceIte, Option.isSome_some, Option.map_some, Option.bind_some, Bool.and_eq_true, Bool.or_eq_true, and_self, and_true, true_and, or_true, true_or, or_false, false_or, Bool.and_true, Bool.true_and, Bool.and_self, Bool.not_true, Bool.not_false, decide_true, decide_false, reduceCtorEq, Bool.false_eq_true, Nat.reduceAdd, Nat.reduceSub, Nat.reduceMul, Nat.reduceLeDiff, Nat.reduceLT, ne_eq, not_false_eq_true, Nat.reducePow, Nat.reduceEqDiff, Int.reduceToNat, Int.reducePow, Int.reduceMul, Int.reduceAdd, Int.reduceSub, Int.reduceNeg, Int.reduceLT, Int.reduceLE, Int.reduceEq, noRef, decide_eq_true_eq, e, h1, pl, Bool.false_and]
  | non => have e := num false isi_i_n; unfold f_is_between g_is_between; simp (maxSteps := 3000000) (disch := first | assumption | decide | omega) only [e_b, e_ok, e_exc, e_bad, e_p, e_os, e_on, e_oif, slB_b, e_var, slD_b, slD_w, e_rdS, e_rd, okR_s, e_ref, slW_w, e_move, opt_s, opt_n, opt_if, e_rdL, e_lf, e_val, e_get_v, e_get_r, e_pair, e_op, e_T, e_isBl, e_and, e_or, e_not, e_andV, e_orV, e_notV, e_if, e_ap, e_bdif, e_seq, e_asg, e_gN, e_slt, e_slf, e_gnil, e_gcons, e_gseq, e_seqt, e_seql, e_seqf, e_ret, e_drop, e_ix, e_ixW, e_dix1, e_dix2, e_dix3, e_dix5, e_dix4, at0, at1, at2, at3, at4, at5, e_setIt, set0, set1, set2, e_cons, e_nil, e_args, e_ga0, e_ga1, e_tup, e_lst, e_callG, e_neg, e_intOf, res_ok, res_exc, e_call, resR_ok, resR_exc, e_callR, resT_ok, e_callRT, two_s, e_par2, e_part, e_sl, fin_next, fin_cont, fin_brk, fin_ret, e_fg0, e_fg1, e_for0, e_while, cat_ok, bdd_ok, e_comp0, e_comp1, e_lc, e_seqD, e_range1, e_range2, e_enum, e_zip, e_isi, e_isi2, endV_ret, endV_next, endV_exc, e_fn, endR_ret, endR_next, e_fnR, e_endVif, e_endRif, e_rooted, d_add, d_sub, d_mul, d_div, d_mod, d_pow, d_lt, d_le, d_gt, d_ge, d_eq_int, d_ne_int, d_abs, d_int_b, d_int_i, lf_int, lf_bl, lf_str, lf_non, lf_tup, lfs_nil, lfs_cons, e_aug, okL_s, e_refL, e_ins, e_app, ite_and, ite_or, ite_andD, ite_orD, e_setIt2, e_frz, e_ixW2, e_lzip, dTL2, e_qvar, qSl_i, e_qop, d_addI, lfs_rep, e_ext, e_rep, e_index, e_isl, e_isf, e_gst, e_gtup2, lfs_rev, e_revS, e_lk, e_lki, e_lkb, e_lks, e_lkn, e_lkt, e_lkl, e_lkf, e_lk0, e_lk1, lf_flst, e_chain, startE, startR, List.map_cons, List.map_nil, List.length_cons, List.length_nil, List.replicate, List.getElem?_cons_zero, List.getElem?_cons_succ, List.set_cons_zero, List.set_cons_succ, List.cons_append, List.nil_append, List.append_nil, if_true, if_false, reduceIte, Option.isSome_some, Option.map_some, Option.bind_some, Bool.and_eq_true, Bool.or_eq_true, and_self, and_true, true_and, or_true, true_or, or_false, false_or, Bool.and_true, Bool.true_and, Bool.and_self, Bool.not_true, Bool.not_false, decide_true, decide_false, reduceCtorEq, Bool.false_eq_true, Nat.reduceAdd, Nat.reduceSub, Nat.reduceMul, Nat.reduceLeDiff, Nat.reduceLT, ne_eq, not_false_eq_true, Nat.reducePow, Nat.reduceEqDiff, Int.reduceToNat, Int.reducePow, Int.reduceMul, Int.reduceAdd, Int.reduceSub, Int.reduceNeg, Int.reduceLT, Int.reduceLE, Int.reduceEq, noRef, decide_eq_true_eq, e, pl]
  | bl b => have e := num true isi_i_b; unfold f_is_between g_is_between; simp (maxSteps := 3000000) (disch := first | assumption | decide | omega) only [e_b, e_ok, e_exc, e_bad, e_p, e_os, e_on, e_oif, slB_b, e_var, slD_b, slD_w, e_rdS, e_rd, okR_s, e_ref, slW_w, e_move, opt_s, opt_n, opt_if, e_rdL, e_lf, e_val, e_get_v, e_get_r, e_pair, e_op, e_T, e_isBl, e_and, e_or, e_not, e_andV, e_orV, e_notV, e_if, e_ap, e_bdif, e_seq, e_asg, e_gN, e_slt, e_slf, e_gnil, e_gcons, e_gseq, e_seqt, e_seql, e_seqf, e_ret, e_drop, e_ix, e_ixW, e_dix1, e_dix2, e_dix3, e_dix5, e_dix4, at0, at1, at2, at3, at4, at5, e_setIt, set0, set1, set2, e_cons, e_nil, e_args, e_ga0, e_ga1, e_tup, e_lst, e_callG, e_neg, e_intOf, res_ok, res_exc, e_call, resR_ok, resR_exc, e_callR, resT_ok, e_callRT, two_s, e_par2, e_part, e_sl, fin_next, fin_cont, fin_brk, fin_ret, e_fg0, e_fg1, e_for0, e_while, cat_ok, bdd_ok, e_comp0, e_comp1, e_lc, e_seqD, e_range1, e_range2, e_enum, e_zip, e_isi, e_isi2, endV_ret, endV_next, endV_exc, e_fn, endR_ret, endR_next, e_fnR, e_endVif, e_endRif, e_rooted, d_add, d_sub, d_mul, d_div, d_mod, d_pow, d_lt, d_le, d_gt, d_ge, d_eq_int, d_ne_int, d_abs, d_int_b, d_int_i, lf_int, lf_bl, lf_str, lf_non, lf_tup, lfs_nil, lfs_cons, e_aug, okL_s, e_refL, e_ins, e_app, ite_and, ite_or, ite_andD, ite_orD, e_setIt2, e_frz, e_ixW2, e_lzip, dTL2, e_qvar, qSl_i, e_qop, d_addI, lfs_rep, e_ext, e_rep, e_index, e_isl, e_isf, e_gst, e_gtup2, lfs_rev, e_revS, e_lk, e_lki, e_lkb, e_lks, e_lkn, e_lkt, e_lkl, e_lkf, e_lk0, e_lk1, lf_flst, e_chain, startE, startR, List.map_cons, List.map_nil, List.length_cons, List.length_nil, List.replicate, List.getElem?_cons_zero, List.getElem?_cons_succ, List.set_cons_zero, List.set_cons_succ, List.cons_append, List.nil_append, List.append_nil, if_true, if_false, reduceIte, Option.isSome_some, Option.map_some, Option.bind_some, Bool.and_eq_true, Bool.or_eq_true, and_self, and_true, true_and, or_true, true_or, or_false, false_or, Bool.and_true, Bool.true_and, Bool.and_self, Bool.not_true, Bool.not_false, decide_true, decide_false, reduceCtorEq, Bool.false_eq_true, Nat.reduceAdd, Nat.reduceSub, Nat.reduceMul, Nat.reduceLeDiff, Nat.reduceLT, ne_eq, not_false_eq_true, Nat.reducePow, Nat.reduceEqDiff, Int.reduceToNat, Int.reducePow, Int.reduceMul, Int.reduceAdd, Int.reduceSub, Int.reduceNeg, Int.reduceLT, Int.reduceLE, Int.reduceEq, noRef, decide_eq_true_eq, e, pl]
  | str s => have e := num false isi_i_s; unfold f_is_between g_is_between; simp (maxSteps := 3000000) (disch := first | assumption | decide | omega) only [e_b, e_ok, e_exc, e_bad, e_p, e_os, e_on, e_oif, slB_b, e_var, slD_b, slD_w, e_rdS, e_rd, okR_s, e_ref, slW_w, e_move, opt_s, opt_n, opt_if, e_rdL, e_lf, e_val, e_get_v, e_get_r, e_pair, e_op, e_T, e_isBl, e_and, e_or, e_not, e_andV, e_orV, e_notV, e_if, e_ap, e_bdif, e_seq, e_asg, e_gN, e_slt, e_slf, e_gnil, e_gcons, e_gseq, e_seqt, e_seql, e_seqf, e_ret, e_drop, e_ix, e_ixW, e_dix1, e_dix2, e_dix3, e_dix5, e_dix4, at0, at1, at2, at3, at4, at5, e_setIt, set0, set1, set2, e_cons, e_nil, e_args, e_ga0, e_ga1, e_tup, e_lst, e_callG, e_neg, e_intOf, res_ok, res_exc, e_call, resR_ok, resR_exc, e_callR, resT_ok, e_callRT, two_s, e_par2, e_part, e_sl, fin_next, fin_cont, fin_brk, fin_ret, e_fg0, e_fg1, e_for0, e_while, cat_ok, bdd_ok, e_comp0, e_comp1, e_lc, e_seqD, e_range1, e_range2, e_enum, e_zip, e_isi, e_isi2, endV_ret, endV_next, endV_exc, e_fn, endR_ret, endR_next, e_fnR, e_endVif, e_endRif, e_rooted, d_add, d_sub, d_mul, d_div, d_mod, d_pow, d_lt, d_le, d_gt, d_ge, d_eq_int, d_ne_int, d_abs, d_int_b, d_int_i, lf_int, lf_bl, lf_str, lf_non, lf_tup, lfs_nil, lfs_cons, e_aug, okL_s, e_refL, e_ins, e_app, ite_and, ite_or, ite_andD, ite_orD, e_setIt2, e_frz, e_ixW2, e_lzip, dTL2, e_qvar, qSl_i, e_qop, d_addI, lfs_rep, e_ext, e_rep, e_index, e_isl, e_isf, e_gst, e_gtup2, lfs_rev, e_revS, e_lk, e_lki, e_lkb, e_lks, e_lkn, e_lkt, e_lkl, e_lkf, e_lk0, e_lk1, lf_flst, e_chain, startE, startR, List.map_cons, List.map_nil, List.length_cons, List.length_nil, List.replicate, List.getElem?_cons_zero, List.getElem?_cons_succ, List.set_cons_zero, List.set_cons_succ, List.cons_append, List.nil_append, List.append_nil, if_true, if_false, reduceIte, Option.isSome_some, Option.map_some, Option.bind_some, Bool.and_eq_true, Bool.or_eq_true, and_self, and_true, true_and, or_true, true_or, or_false, false_or, Bool.and_true, Bool.true_and, Bool.and_self, Bool.not_true, Bool.not_false, decide_true, decide_false, reduceCtorEq, Bool.false_eq_true, Nat.reduceAdd, Nat.reduceSub, Nat.reduceMul, Nat.reduceLeDiff, Nat.reduceLT, ne_eq, not_false_eq_true, Nat.reducePow, Nat.reduceEqDiff, Int.reduceToNat, Int.reducePow, Int.reduceMul, Int.reduceAdd, Int.reduceSub, Int.reduceNeg, Int.reduceLT, Int.reduceLE, Int.reduceEq, noRef, decide_eq_true_eq, e, pl]
  | tup xs => have e := num false isi_i_t; unfold f_is_between g_is_between; simp (maxSteps := 3000000) (disch := first | assumption | decide | omega) only [e_b, e_ok, e_exc, e_bad, e_p, e_os, e_on, e_oif, slB_b, e_var, slD_b, slD_w, e_rdS, e_rd, okR_s, e_ref, slW_w, e_move, opt_s, opt_n, opt_if, e_rdL, e_lf, e_val, e_get_v, e_get_r, e_pair, e_op, e_T, e_isBl, e_and, e_or, e_not, e_andV, e_orV, e_notV, e_if, e_ap, e_bdif, e_seq, e_asg, e_gN, e_slt, e_slf, e_gnil, e_gcons, e_gseq, e_seqt, e_seql, e_seqf, e_ret, e_drop, e_ix, e_ixW, e_dix1, e_dix2, e_dix3, e_dix5, e_dix4, at0, at1, at2, at3, at4, at5, e_setIt, set0, set1, set2, e_cons, e_nil, e_args, e_ga0, e_ga1, e_tup, e_lst, e_callG, e_neg, e_intOf, res_ok, res_exc, e_call, resR_ok, resR_exc, e_callR, resT_ok, e_callRT, two_s, e_par2, e_part, e_sl, fin_next, fin_cont, fin_brk, fin_ret, e_fg0, e_fg1, e_for0, e_while, cat_ok, bdd_ok, e_comp0, e_comp1, e_lc, e_seqD, e_range1, e_range2, e_enum, e_zip, e_isi, e_isi2, endV_ret, endV_next, endV_exc, e_fn, endR_ret, endR_next, e_fnR, e_endVif, e_endRif, e_rooted, d_add, d_sub, d_mul, d_div, d_mod, d_pow, d_lt, d_le, d_gt, d_ge, d_eq_int, d_ne_int, d_abs, d_int_b, d_int_i, lf_int, lf_bl, lf_str, lf_non, lf_tup, lfs_nil, lfs_cons, e_aug, okL_s, e_refL, e_ins, e_app, ite_and, ite_or, ite_andD, ite_orD, e_setIt2, e_frz, e_ixW2, e_lzip, dTL2, e_qvar, qSl_i, e_qop, d_addI, lfs_rep, e_ext, e_rep, e_index, e_isl, e_isf, e_gst, e_gtup2, lfs_rev, e_revS, e_lk, e_lki, e_lkb, e_lks, e_lkn, e_lkt, e_lkl, e_lkf, e_lk0, e_lk1, lf_flst, e_chain, startE, startR, List.map_cons, List.map_nil, List.length_cons, List.length_nil, List.replicate, List.getElem?_cons_zero, List.getElem?_cons_succ, List.set_cons_zero, List.set_cons_succ, List.cons_append, List.nil_append, List.append_nil, if_true, if_false, reduceIte, Option.isSome_some, Option.map_some, Option.bind_some, Bool.and_eq_true, Bool.or_eq_true, and_self, and_true, true_and, or_true, true_or, or_false, false_or, Bool.and_true, Bool.true_and, Bool.and_self, Bool.not_true, Bool.not_false, decide_true, decide_false, reduceCtorEq, Bool.false_eq_true, Nat.reduceAdd, Nat.reduceSub, Nat.reduceMul, Nat.reduceLeDiff, Nat.reduceLT, ne_eq, not_false_eq_true, Nat.reducePow, Nat.reduceEqDiff, Int.reduceToNat, Int.reducePow, Int.reduceMul, Int.reduceAdd, Int.reduceSub, Int.reduceNeg, Int.reduceLT, Int.reduceLE, Int.reduceEq, noRef, decide_eq_true_eq, e, pl]
  | flst xs => have e := num false isi_i_f; unfold f_is_between g_is_between; simp (maxSteps := 3000000) (disch := first | assumption | decide | omega) only [e_b, e_ok, e_exc, e_bad, e_p, e_os, e_on, e_oif, slB_b, e_var, slD_b, slD_w, e_rdS, e_rd, okR_s, e_ref, slW_w, e_move, opt_s, opt_n, opt_if, e_rdL, e_lf, e_val, e_get_v, e_get_r, e_pair, e_op, e_T, e_isBl, e_and, e_or, e_not, e_andV, e_orV, e_notV, e_if, e_ap, e_bdif, e_seq, e_asg, e_gN, e_slt, e_slf, e_gnil, e_gcons, e_gseq, e_seqt, e_seql, e_seqf, e_ret, e_drop, e_ix, e_ixW, e_dix1, e_dix2, e_dix3, e_dix5, e_dix4, at0, at1, at2, at3, at4, at5, e_setIt, set0, set1, set2, e_cons, e_nil, e_args, e_ga0, e_ga1, e_tup, e_lst, e_callG, e_neg, e_intOf, res_ok, res_exc, e_call, resR_ok, resR_exc, e_callR, resT_ok, e_callRT, two_s, e_par2, e_part, e_sl, fin_next, fin_cont, fin_brk, fin_ret, e_fg0, e_fg1, e_for0, e_while, cat_ok, bdd_ok, e_comp0, e_comp1, e_lc, e_seqD, e_range1, e_range2, e_enum, e_zip, e_isi, e_isi2, endV_ret, endV_next, endV_exc, e_fn, endR_ret, endR_next, e_fnR, e_endVif, e_endRif, e_rooted, d_add, d_sub, d_mul, d_div, d_mod, d_pow, d_lt, d_le, d_gt, d_ge, d_eq_int, d_ne_int, d_abs, d_int_b, d_int_i, lf_int, lf_bl, lf_str, lf_non, lf_tup, lfs_nil, lfs_cons, e_aug, okL_s, e_refL, e_ins, e_app, ite_and, ite_or, ite_andD, ite_orD, e_setIt2, e_frz, e_ixW2, e_lzip, dTL2, e_qvar, qSl_i, e_qop, d_addI, lfs_rep, e_ext, e_rep, e_index, e_isl, e_isf, e_gst, e_gtup2, lfs_rev, e_revS, e_lk, e_lki, e_lkb, e_lks, e_lkn, e_lkt, e_lkl, e_lkf, e_lk0, e_lk1, lf_flst, e_chain, startE, startR, List.map_cons, List.map_nil, List.length_cons, List.length_nil, List.replicate, List.getElem?_cons_zero, List.getElem?_cons_succ, List.set_cons_zero, List.set_cons_succ, List.cons_append, List.nil_append, List.append_nil, if_true, if_false, reduceIte, Option.isSome_some, Option.map_some, Option.bind_some, Bool.and_eq_true, Bool.or_eq_true, and_self, and_true, true_and, or_true, true_or, or_false, false_or, Bool.and_true, Bool.true_and, Bool.and_self, Bool.not_true, Bool.not_false, decide_true, decide_false, reduceCtorEq, Bool.false_eq_true, Nat.reduceAdd, Nat.reduceSub, Nat.reduceMul, Nat.reduceLeDiff, Nat.reduceLT, ne_eq, not_false_eq_true, Nat.reducePow, Nat.reduceEqDiff, Int.reduceToNat, Int.reducePow, Int.reduceMul, Int.reduceAdd, Int.reduceSub, Int.reduceNeg, Int.reduceLT, Int.reduceLE, Int.reduceEq, noRef, decide_eq_true_eq, e, pl]
  | _ => unfold Pd at h; exact h.elim
theorem side_ok (h : Pd B n x) (s0 : Slot) : (mLf (mAndV (mIsi "int" (mRd 1)) (mAndV (mNotV (mIsi "bool" (mRd 1))) (mChain dLeI dLeI (mNeg (Sm.p (.int 1000))) (mVar 1) (Sm.p (.int 1000)))))) [s0, .b x] = .ok (.bl (pl x)) [s0, .b x] := by
  cases x with
  | int i =>
    by_cases h1 : -1000 ≤ i
    · by_cases h2 : i ≤ 1000
      · simp (maxSteps := 3000000) (disch := first | assumption | decide | omega) only [e_b, e_ok, e_exc, e_bad, e_p, e_os, e_on, e_oif, slB_b, e_var, slD_b, slD_w, e_rdS, e_rd, okR_s, e_ref, slW_w, e_move, opt_s, opt_n, opt_if, e_rdL, e_lf, e_val, e_get_v, e_get_r, e_pair, e_op, e_T, e_isBl, e_and, e_or, e_not, e_andV, e_orV, e_notV, e_if, e_ap, e_bdif, e_seq, e_asg, e_gN, e_slt, e_slf, e_gnil, e_gcons, e_gseq, e_seqt, e_seql, e_seqf, e_ret, e_drop, e_ix, e_ixW, e_dix1, e_dix2, e_dix3, e_dix5, e_dix4, at0, at1, at2, at3, at4, at5, e_setIt, set0, set1, set2, e_cons, e_nil, e_args, e_ga0, e_ga1, e_tup, e_lst, e_callG, e_neg, e_intOf, res_ok, res_exc, e_call, resR_ok, resR_exc, e_callR, resT_ok, e_callRT, two_s, e_par2, e_part, e_sl, fin_next, fin_cont, fin_brk, fin_ret, e_fg0, e_fg1, e_for0, e_while, cat_ok, bdd_ok, e_comp0, e_comp1, e_lc, e_seqD, e_range1, e_range2, e_enum, e_zip, e_isi, e_isi2, endV_ret, endV_next, endV_exc, e_fn, endR_ret, endR_next, e_fnR, e_endVif, e_endRif, e_rooted, d_add, d_sub, d_mul, d_div, d_mod, d_pow, d_lt, d_le, d_gt, d_ge, d_eq_int, d_ne_int, d_abs, d_int_b, d_int_i, lf_int, lf_bl, lf_str, lf_non, lf_tup, lfs_nil, lfs_cons, e_aug, okL_s, e_refL, e_ins, e_app, ite_and, ite_or, ite_andD, ite_orD, e_setIt2, e_frz, e_ixW2, e_lzip, dTL2, e_qvar, qSl_i, e_qop, d_addI, lfs_rep, e_ext, e_rep, e_index, e_isl, e_isf, e_gst, e_gtup2, lfs_rev, e_revS, e_lk, e_lki, e_lkb, e_lks, e_lkn, e_lkt, e_lkl, e_lkf, e_lk0, e_lk1, lf_flst, e_chain, startE, startR, List.map_cons, List.map_nil, List.length_cons, List.length_nil, List.replicate, List.getElem?_cons_zero, List.getElem?_cons_succ, List.set_cons_zero, List.set_cons_succ, List.cons_append, List.nil_append, List.append_nil, if_true, if_false, reduceIte, Option.isSome_some, Option.map_some, Option.bind_some, Bool.and_eq_true, Bool.or_eq_true, and_self, and_true, true_and, or_true, true_or, or_false, false_or, Bool.and_true, Bool.true_and, Bool.and_self, Bool.not_true, Bool.not_false, decide_true, decide_false, reduceCtorEq, Bool.false_eq_true, Nat.reduceAdd, Nat.reduceSub, Nat.reduceMul, Nat.reduceLeDiff, Nat.reduceLT, ne_eq, not_false_eq_true, Nat.reducePow, Nat.reduceEqDiff, Int.reduceToNat, Int.reducePow, Int.reduceMul, Int.reduceAdd, Int.reduceSub, Int.reduceNeg, Int.reduceLT, Int.reduceLE, Int.reduceEq, noRef, decide_eq_true_eq, isi_i_i, isi_b_i, h1, h2, pl]
      · simp (maxSteps := 3000000) (disch := first | assumption | decide | omega) only [e_b, e_ok, e_exc, e_bad, e_p, e_os, e_on, e_oif, slB_b, e_var, slD_b, slD_w, e_rdS, e_rd, okR_s, e_ref, slW_w, e_move, opt_s, opt_n, opt_if, e_rdL, e_lf, e_val, e_get_v, e_get_r, e_pair, e_op, e_T, e_isBl, e_and, e_or, e_not, e_andV, e_orV, e_notV, e_if, e_ap, e_bdif, e_seq, e_asg, e_gN, e_slt, e_slf, e_gnil, e_gcons, e_gseq, e_seqt, e_seql, e_seqf, e_ret, e_drop, e_ix, e_ixW, e_dix1, e_dix2, e_dix3, e_dix5, e_dix4, at0, at1, at2, at3, at4, at5, e_setIt, set0, set1, set2, e_cons, e_nil, e_args, e_ga0, e_ga1, e_tup, e_lst, e_callG, e_neg, e_intOf, res_ok, res_exc, e_call, resR_ok, resR_exc, e_callR, resT_ok, e_callRT, two_s, e_par2, e_part, e_sl, fin_next, fin_cont, fin_brk, fin_ret, e_fg0, e_fg1, e_for0, e_while, cat_ok, bdd_ok, e_comp0, e_comp1, e_lc, e_seqD, e_range1, e_range2, e_enum, e_zip, e_isi, e_isi2, endV_ret, endV_next, endV_exc, e_fn, endR_ret, endR_next, e_fnR, e_endVif, e_endRif, e_rooted, d_add, d_sub, d_mul, d_div, d_mod, d_pow, d_lt, d_le, d_gt, d_ge, d_eq_int, d_ne_int, d_abs, d_int_b, d_int_i, lf_int, lf_bl, lf_str, lf_non, lf_tup, lfs_nil, lfs_cons, e_aug, okL_s, e_refL, e_ins, e_app, ite_and, ite_or, ite_andD, ite_orD, e_setIt2, e_frz, e_ixW2, e_lzip, dTL2, e_qvar, qSl_i, e_qop, d_addI, lfs_rep, e_ext, e_rep, e_index, e_isl, e_isf, e_gst, e_gtup2, lfs_rev, e_revS, e_lk, e_lki, e_lkb, e_lks, e_lkn, e_lkt, e_lkl, e_lkf, e_lk0, e_lk1, lf_flst, e_chain, startE, startR, List.map_cons, List.map_nil, List.length_cons, List.length_nil, List.replicate, List.getElem?_cons_zero, List.getElem?_cons_succ, List.set_cons_zero, List.set_cons_succ, List.cons_append, List.nil_append, List.append_nil, if_true, if_false, reduceIte, Option.isSome_some, Option.map_some, Option.bind_some, Bool.and_eq_true, Bool.or_eq_true, and_self, and_true, true_and, or_true, true_or, or_false, false_or, Bool.and_true, Bool.true_and, Bool.and_self, Bool.not_true, Bool.not_false, decide_true, decide_false, reduceCtorEq, Bool.false_eq_true, Nat.reduceAdd, Nat.reduceSub, Nat.reduceMul, Nat.reduceLeDiff, Nat.reduceLT, ne_eq, not_false_eq_true, Nat.reducePow, Nat.reduceEqDiff, Int.reduceToNat, Int.reducePow, Int.reduceMul, Int.reduceAdd, Int.reduceSub, Int.reduceNeg, Int.reduceLT, Int.reduceLE, Int.reduceEq, noRef, decide_eq_true_eq, isi_i_i, isi_b_i, h1, h2, pl]
    · simp (maxSteps := 3000000) (disch := first | assumption | decide | omega) only [e_b, e_ok, e_exc, e_bad, e_p, e_os, e_on, e_oif, slB_b, e_var, slD_b, slD_w, e_rdS, e_rd, okR_s, e_ref, slW_w, e_move, opt_s, opt_n, opt_if, e_rdL, e_lf, e_val, e_get_v, e_get_r, e_pair, e_op, e_T, e_isBl, e_and, e_or, e_not, e_andV, e_orV, e_notV, e_if, e_ap, e_bdif, e_seq, e_asg, e_gN, e_slt, e_slf, e_gnil, e_gcons, e_gseq, e_seqt, e_seql, e_seqf, e_ret, e_drop, e_ix, e_ixW, e_dix1, e_dix2, e_dix3, e_dix5, e_dix4, at0, at1, at2, at3, at4, at5, e_setIt, set0, set1, set2, e_cons, e_nil, e_args, e_ga0, e_ga1, e_tup, e_lst, e_callG, e_neg, e_intOf, res_ok, res_exc, e_call, resR_ok, resR_exc, e_callR, resT_ok, e_callRT, two_s, e_par2, e_part, e_sl, fin_next, fin_cont, fin_brk, fin_ret, e_fg0, e_fg1, e_for0, e_while, cat_ok, bdd_ok, e_comp0, e_comp1, e_lc, e_seqD, e_range1, e_range2, e_enum, e_zip, e_isi, e_isi2, endV_ret, endV_next, endV_exc, e_fn, endR_ret, endR_next, e_fnR, e_endVif, e_endRif, e_rooted, d_add, d_sub, d_mul, d_div, d_mod, d_pow, d_lt, d_le, d_gt, d_ge, d_eq_int, d_ne_int, d_abs, d_int_b, d_int_i, lf_int, lf_bl, lf_str, lf_non, lf_tup, lfs_nil, lfs_cons, e_aug, okL_s, e_refL, e_ins, e_app, ite_and, ite_or, ite_andD, ite_orD, e_setIt2, e_frz, e_ixW2, e_lzip, dTL2, e_qvar, qSl_i, e_qop, d_addI, lfs_rep, e_ext, e_rep, e_index, e_isl, e_isf, e_gst, e_gtup2, lfs_rev, e_revS, e_lk, e_lki, e_lkb, e_lks, e_lkn, e_lkt, e_lkl, e_lkf, e_lk0, e_lk1, lf_flst, e_chain, startE, startR, List.map_cons, List.map_nil, List.length_cons, List.length_nil, List.replicate, List.getElem?_cons_zero, List.getElem?_cons_succ, List.set_cons_zero, List.set_cons_succ, List.cons_append, List.nil_append, List.append_nil, if_true, if_false, reduceIte, Option.isSome_some, Option.map_some, Option.bind_some, Bool.and_eq_true, Bool.or_eq_true, and_self, and_true, true_and, or_true, true_or, or_false, false_or, Bool.and_true, Bool.true_and, Bool.and_self, Bool.not_true, Bool.not_false, decide_true, decide_false, reduceCtorEq, Bool.false_eq_true, Nat.reduceAdd, Nat.reduceSub, Nat.reduceMul, Nat.reduceLeDiff, Nat.reduceLT, ne_eq, not_false_eq_true, Nat.reducePow, Nat.reduceEqDiff, Int.reduceToNat, Int.reducePow, Int.reduceMul, Int.reduceAdd, Int.reduceSub, Int.reduceNeg, Int.reduceLT, Int.reduceLE, Int.reduceEq, noRef, decide_eq_true_eq, isi_i_i, isi_b_i, h1, pl, Bool.false_and]
  | non => simp (maxSteps := 3000000) (disch := first | assumption | decide | omega) only [e_b, e_ok, e_exc, e_bad, e_p, e_os, e_on, e_oif, slB_b, e_var, slD_b, slD_w, e_rdS, e_rd, okR_s, e_ref, slW_w, e_move, opt_s, opt_n, opt_if, e_rdL, e_lf, e_val, e_get_v, e_get_r, e_pair, e_op, e_T, e_isBl, e_and, e_or, e_not, e_andV, e_orV, e_notV, e_if, e_ap, e_bdif, e_seq, e_asg, e_gN, e_slt, e_slf, e_gnil, e_gcons, e_gseq, e_seqt, e_seql, e_seqf, e_ret, e_drop, e_ix, e_ixW, e_dix1, e_dix2, e_dix3, e_dix5, e_dix4, at0, at1, at2, at3, at4, at5, e_setIt, set0, set1, set2, e_cons, e_nil, e_args, e_ga0, e_ga1, e_tup, e_lst, e_callG, e_neg, e_intOf, res_ok, res_exc, e_call, resR_ok, resR_exc, e_callR, resT_ok, e_callRT, two_s, e_par2, e_part, e_sl, fin_next, fin_cont, fin_brk, fin_ret, e_fg0, e_fg1, e_for0, e_while, cat_ok, bdd_ok, e_comp0, e_comp1, e_lc, e_seqD, e_range1, e_range2, e_enum, e_zip, e_isi, e_isi2, endV_ret, endV_next, endV_exc, e_fn, endR_ret, endR_next, e_fnR, e_endVif, e_endRif, e_rooted, d_add, d_sub, d_mul, d_div, d_mod, d_pow, d_lt, d_le, d_gt, d_ge, d_eq_int, d_ne_int, d_abs, d_int_b, d_int_i, lf_int, lf_bl, lf_str, lf_non, lf_tup, lfs_nil, lfs_cons, e_aug, okL_s, e_refL, e_ins, e_app, ite_and, ite_or, ite_andD, ite_orD, e_setIt2, e_frz, e_ixW2, e_lzip, dTL2, e_qvar, qSl_i, e_qop, d_addI, lfs_rep, e_ext, e_rep, e_index, e_isl, e_isf, e_gst, e_gtup2, lfs_rev, e_revS, e_lk, e_lki, e_lkb, e_lks, e_lkn, e_lkt, e_lkl, e_lkf, e_lk0, e_lk1, lf_flst, e_chain, startE, startR, List.map_cons, List.map_nil, List.length_cons, List.length_nil, List.replicate, List.getElem?_cons_zero, List.getElem?_cons_succ, List.set_cons_zero, List.set_cons_succ, List.cons_append, List.nil_append, List.append_nil, if_true, if_false, reduceIte, Option.isSome_some, Option.map_some, Option.bind_some, Bool.and_eq_true, Bool.or_eq_true, and_self, and_true, true_and, or_true, true_or, or_false, false_or, Bool.and_true, Bool.true_and, Bool.and_self, Bool.not_true, Bool.not_false, decide_true, decide_false, reduceCtorEq, Bool.false_eq_true, Nat.reduceAdd, Nat.reduceSub, Nat.reduceMul, Nat.reduceLeDiff, Nat.reduceLT, ne_eq, not_false_eq_true, Nat.reducePow, Nat.reduceEqDiff, Int.reduceToNat, Int.reducePow, Int.reduceMul, Int.reduceAdd, Int.reduceSub, Int.reduceNeg, Int.reduceLT, Int.reduceLE, Int.reduceEq, noRef, decide_eq_true_eq, isi_i_n, pl]
  | bl b => simp (maxSteps := 3000000) (disch := first | assumption | decide | omega) only [e_b, e_ok, e_exc, e_bad, e_p, e_os, e_on, e_oif, slB_b, e_var, slD_b, slD_w, e_rdS, e_rd, okR_s, e_ref, slW_w, e_move, opt_s, opt_n, opt_if, e_rdL, e_lf, e_val, e_get_v, e_get_r, e_pair, e_op, e_T, e_isBl, e_and, e_or, e_not, e_andV, e_orV, e_notV, e_if, e_ap, e_bdif, e_seq, e_asg, e_gN, e_slt, e_slf, e_gnil, e_gcons, e_gseq, e_seqt, e_seql, e_seqf, e_ret, e_drop, e_ix, e_ixW, e_dix1, e_dix2, e_dix3, e_dix5, e_dix4, at0, at1, at2, at3, at4, at5, e_setIt, set0, set1, set2, e_cons, e_nil, e_args, e_ga0, e_ga1, e_tup, e_lst, e_callG, e_neg, e_intOf, res_ok, res_exc, e_call, resR_ok, resR_exc, e_callR, resT_ok, e_callRT, two_s, e_par2, e_part, e_sl, fin_next, fin_cont, fin_brk, fin_ret, e_fg0, e_fg1, e_for0, e_while, cat_ok, bdd_ok, e_comp0, e_comp1, e_lc, e_seqD, e_range1, e_range2, e_enum, e_zip, e_isi, e_isi2, endV_ret, endV_next, endV_exc, e_fn, endR_ret, endR_next, e_fnR, e_endVif, e_endRif, e_rooted, d_add, d_sub, d_mul, d_div, d_mod, d_pow, d_lt, d_le, d_gt, d_ge, d_eq_int, d_ne_int, d_abs, d_int_b, d_int_i, lf_int, lf_bl, lf_str, lf_non, lf_tup, lfs_nil, lfs_cons, e_aug, okL_s, e_refL, e_ins, e_app, ite_and, ite_or, ite_andD, ite_orD, e_setIt2, e_frz, e_ixW2, e_lzip, dTL2, e_qvar, qSl_i, e_qop, d_addI, lfs_rep, e_ext, e_rep, e_index, e_isl, e_isf, e_gst, e_gtup2, lfs_rev, e_revS, e_lk, e_lki, e_lkb, e_lks, e_lkn, e_lkt, e_lkl, e_lkf, e_lk0, e_lk1, lf_flst, e_chain, startE, startR, List.map_cons, List.map_nil, List.length_cons, List.length_nil, List.replicate, List.getElem?_cons_zero, List.getElem?_cons_succ, List.set_cons_zero, List.set_cons_succ, List.cons_append, List.nil_append, List.append_nil, if_true, if_false, reduceIte, Option.isSome_some, Option.map_some, Option.bind_some, Bool.and_eq_true, Bool.or_eq_true, and_self, and_true, true_and, or_true, true_or, or_false, false_or, Bool.and_true, Bool.true_and, Bool.and_self, Bool.not_true, Bool.not_false, decide_true, decide_false, reduceCtorEq, Bool.false_eq_true, Nat.reduceAdd, Nat.reduceSub, Nat.reduceMul, Nat.reduceLeDiff, Nat.reduceLT, ne_eq, not_false_eq_true, Nat.reducePow, Nat.reduceEqDiff, Int.reduceToNat, Int.reducePow, Int.reduceMul, Int.reduceAdd, Int.reduceSub, Int.reduceNeg, Int.reduceLT, Int.reduceLE, Int.reduceEq, noRef, decide_eq_true_eq, isi_i_b, isi_b_b, pl]
  | str s => simp (maxSteps := 3000000) (disch := first | assumption | decide | omega) only [e_b, e_ok, e_exc, e_bad, e_p, e_os, e_on, e_oif, slB_b, e_var, slD_b, slD_w, e_rdS, e_rd, okR_s, e_ref, slW_w, e_move, opt_s, opt_n, opt_if, e_rdL, e_lf, e_val, e_get_v, e_get_r, e_pair, e_op, e_T, e_isBl, e_and, e_or, e_not, e_andV, e_orV, e_notV, e_if, e_ap, e_bdif, e_seq, e_asg, e_gN, e_slt, e_slf, e_gnil, e_gcons, e_gseq, e_seqt, e_seql, e_seqf, e_ret, e_drop, e_ix, e_ixW, e_dix1, e_dix2, e_dix3, e_dix5, e_dix4, at0, at1, at2, at3, at4, at5, e_setIt, set0, set1, set2, e_cons, e_nil, e_args, e_ga0, e_ga1, e_tup, e_lst, e_callG, e_neg, e_intOf, res_ok, res_exc, e_call, resR_ok, resR_exc, e_callR, resT_ok, e_callRT, two_s, e_par2, e_part, e_sl, fin_next, fin_cont, fin_brk, fin_ret, e_fg0, e_fg1, e_for0, e_while, cat_ok, bdd_ok, e_comp0, e_comp1, e_lc, e_seqD, e_range1, e_range2, e_enum, e_zip, e_isi, e_isi2, endV_ret, endV_next, endV_exc, e_fn, endR_ret, endR_next, e_fnR, e_endVif, e_endRif, e_rooted, d_add, d_sub, d_mul, d_div, d_mod, d_pow, d_lt, d_le, d_gt, d_ge, d_eq_int, d_ne_int, d_abs, d_int_b, d_int_i, lf_int, lf_bl, lf_str, lf_non, lf_tup, lfs_nil, lfs_cons, e_aug, okL_s, e_refL, e_ins, e_app, ite_and, ite_or, ite_andD, ite_orD, e_setIt2, e_frz, e_ixW2, e_lzip, dTL2, e_qvar, qSl_i, e_qop, d_addI, lfs_rep, e_ext, e_rep, e_index, e_isl, e_isf, e_gst, e_gtup2, lfs_rev, e_revS, e_lk, e_lki, e_lkb, e_lks, e_lkn, e_lkt, e_lkl, e_lkf, e_lk0, e_lk1, lf_flst, e_chain, startE, startR, List.map_cons, List.map_nil, List.length_cons, List.length_nil, List.replicate, List.getElem?_cons_zero, List.getElem?_cons_succ, List.set_cons_zero, List.set_cons_succ, List.cons_append, List.nil_append, List.append_nil, if_true, if_false, reduceIte, Option.isSome_some, Option.map_some, Option.bind_some, Bool.and_eq_true, Bool.or_eq_true, and_self, and_true, true_and, or_true, true_or, or_false, false_or, Bool.and_true, Bool.true_and, Bool.and_self, Bool.not_true, Bool.not_false, decide_true, decide_false, reduceCtorEq, Bool.false_eq_true, Nat.reduceAdd, Nat.reduceSub, Nat.reduceMul, Nat.reduceLeDiff, Nat.reduceLT, ne_eq, not_false_eq_true, Nat.reducePow, Nat.reduceEqDiff, Int.reduceToNat, Int.reducePow, Int.reduceMul, Int.reduceAdd, Int.reduceSub, Int.reduceNeg, Int.reduceLT, Int.reduceLE, Int.reduceEq, noRef, decide_eq_true_eq, isi_i_s, pl]
  | tup xs => simp (maxSteps := 3000000) (disch := first | assumption | decide | omega) only [e_b, e_ok, e_exc, e_bad, e_p, e_os, e_on, e_oif, slB_b, e_var, slD_b, slD_w, e_rdS, e_rd, okR_s, e_ref, slW_w, e_move, opt_s, opt_n, opt_if, e_rdL, e_lf, e_val, e_get_v, e_get_r, e_pair, e_op, e_T, e_isBl, e_and, e_or, e_not, e_andV, e_orV, e_notV, e_if, e_ap, e_bdif, e_seq, e_asg, e_gN, e_slt, e_slf, e_gnil, e_gcons, e_gseq, e_seqt, e_seql, e_seqf, e_ret, e_drop, e_ix, e_ixW, e_dix1, e_dix2, e_dix3, e_dix5, e_dix4, at0, at1, at2, at3, at4, at5, e_setIt, set0, set1, set2, e_cons, e_nil, e_args, e_ga0, e_ga1, e_tup, e_lst, e_callG, e_neg, e_intOf, res_ok, res_exc, e_call, resR_ok, resR_exc, e_callR, resT_ok, e_callRT, two_s, e_par2, e_part, e_sl, fin_next, fin_cont, fin_brk, fin_ret, e_fg0, e_fg1, e_for0, e_while, cat_ok, bdd_ok, e_comp0, e_comp1, e_lc, e_seqD, e_range1, e_range2, e_enum, e_zip, e_isi, e_isi2, endV_ret, endV_next, endV_exc, e_fn, endR_ret, endR_next, e_fnR, e_endVif, e_endRif, e_rooted, d_add, d_sub, d_mul, d_div, d_mod, d_pow, d_lt, d_le, d_gt, d_ge, d_eq_int, d_ne_int, d_abs, d_int_b, d_int_i, lf_int, lf_bl, lf_str, lf_non, lf_tup, lfs_nil, lfs_cons, e_aug, okL_s, e_refL, e_ins, e_app, ite_and, ite_or, ite_andD, ite_orD, e_setIt2, e_frz, e_ixW2, e_lzip, dTL2, e_qvar, qSl_i, e_qop, d_addI, lfs_rep, e_ext, e_rep, e_index, e_isl, e_isf, e_gst, e_gtup2, lfs_rev, e_revS, e_lk, e_lki, e_lkb, e_lks, e_lkn, e_lkt, e_lkl, e_lkf, e_lk0, e_lk1, lf_flst, e_chain, startE, startR, List.map_cons, List.map_nil, List.length_cons, List.length_nil, List.replicate, List.getElem?_cons_zero, List.getElem?_cons_succ, List.set_cons_zero, List.set_cons_succ, List.cons_append, List.nil_append, List.append_nil, if_true, if_false, reduceIte, Option.isSome_some, Option.map_some, Option.bind_some, Bool.and_eq_true, Bool.or_eq_true, and_self, and_true, true_and, or_true, true_or, or_false, false_or, Bool.and_true, Bool.true_and, Bool.and_self, Bool.not_true, Bool.not_false, decide_true, decide_false, reduceCtorEq, Bool.false_eq_true, Nat.reduceAdd, Nat.reduceSub, Nat.reduceMul, Nat.reduceLeDiff, Nat.reduceLT, ne_eq, not_false_eq_true, Nat.reducePow, Nat.reduceEqDiff, Int.reduceToNat, Int.reducePow, Int.reduceMul, Int.reduceAdd, Int.reduceSub, Int.reduceNeg, Int.reduceLT, Int.reduceLE, Int.reduceEq, noRef, decide_eq_true_eq, isi_i_t, pl]
  | flst xs => simp (maxSteps := 3000000) (disch := first | assumption | decide | omega) only [e_b, e_ok, e_exc, e_bad, e_p, e_os, e_on, e_oif, slB_b, e_var, slD_b, slD_w, e_rdS, e_rd, okR_s, e_ref, slW_w, e_move, opt_s, opt_n, opt_if, e_rdL, e_lf, e_val, e_get_v, e_get_r, e_pair, e_op, e_T, e_isBl, e_and, e_or, e_not, e_andV, e_orV, e_notV, e_if, e_ap, e_bdif, e_seq, e_asg, e_gN, e_slt, e_slf, e_gnil, e_gcons, e_gseq, e_seqt, e_seql, e_seqf, e_ret, e_drop, e_ix, e_ixW, e_dix1, e_dix2, e_dix3, e_dix5, e_dix4, at0, at1, at2, at3, at4, at5, e_setIt, set0, set1, set2, e_cons, e_nil, e_args, e_ga0, e_ga1, e_tup, e_lst, e_callG, e_neg, e_intOf, res_ok, res_exc, e_call, resR_ok, resR_exc, e_callR, resT_ok, e_callRT, two_s, e_par2, e_part, e_sl, fin_next, fin_cont, fin_brk, fin_ret, e_fg0, e_fg1, e_for0, e_while, cat_ok, bdd_ok, e_comp0, e_comp1, e_lc, e_seqD, e_range1, e_range2, e_enum, e_zip, e_isi, e_isi2, endV_ret, endV_next, endV_exc, e_fn, endR_ret, endR_next, e_fnR, e_endVif, e_endRif, e_rooted, d_add, d_sub, d_mul, d_div, d_mod, d_pow, d_lt, d_le, d_gt, d_ge, d_eq_int, d_ne_int, d_abs, d_int_b, d_int_i, lf_int, lf_bl, lf_str, lf_non, lf_tup, lfs_nil, lfs_cons, e_aug, okL_s, e_refL, e_ins, e_app, ite_and, ite_or, ite_andD, ite_orD, e_setIt2, e_frz, e_ixW2, e_lzip, dTL2, e_qvar, qSl_i, e_qop, d_addI, lfs_rep, e_ext, e_rep, e_index, e_isl, e_isf, e_gst, e_gtup2, lfs_rev, e_revS, e_lk, e_lki, e_lkb, e_lks, e_lkn, e_lkt, e_lkl, e_lkf, e_lk0, e_lk1, lf_flst, e_chain, startE, startR, List.map_cons, List.map_nil, List.length_cons, List.length_nil, List.replicate, List.getElem?_cons_zero, List.getElem?_cons_succ, List.set_cons_zero, List.set_cons_succ, List.cons_append, List.nil_append, List.append_nil, if_true, if_false, reduceIte, Option.isSome_some, Option.map_some, Option.bind_some, Bool.and_eq_true, Bool.or_eq_true, and_self, and_true, true_and, or_true, true_or, or_false, false_or, Bool.and_true, Bool.true_and, Bool.and_self, Bool.not_true, Bool.not_false, decide_true, decide_false, reduceCtorEq, Bool.false_eq_true, Nat.reduceAdd, Nat.reduceSub, Nat.reduceMul, Nat.reduceLeDiff, Nat.reduceLT, ne_eq, not_false_eq_true, Nat.reducePow, Nat.reduceEqDiff, Int.reduceToNat, Int.reducePow, Int.reduceMul, Int.reduceAdd, Int.reduceSub, Int.reduceNeg, Int.reduceLT, Int.reduceLE, Int.reduceEq, noRef, decide_eq_true_eq, isi_i_f, pl]
  | _ => unfold Pd at h; exact h.elim
theorem len3 {xs : List D} (h : xs.length = 3) : ∃ a b c, xs = [a, b, c] := by
  match xs, h with
  | [a, b, c], _ => exact ⟨a, b, c, rfl⟩
theorem place_same (h : Pd B n x) : ∃ b, f_is_place [x] = .ok (.bl b) ∧ f_law_is_place [x] = .ok (.bl b) := by
  cases x with
  | int i => exact ⟨false, by unfold f_is_place g_is_place f_is_tuple g_is_tuple; simp (maxSteps := 3000000) (disch := first | assumption | decide | omega) only [e_b, e_ok, e_exc, e_bad, e_p, e_os, e_on, e_oif, slB_b, e_var, slD_b, slD_w, e_rdS, e_rd, okR_s, e_ref, slW_w, e_move, opt_s, opt_n, opt_if, e_rdL, e_lf, e_val, e_get_v, e_get_r, e_pair, e_op, e_T, e_isBl, e_and, e_or, e_not, e_andV, e_orV, e_notV, e_if, e_ap, e_bdif, e_seq, e_asg, e_gN, e_slt, e_slf, e_gnil, e_gcons, e_gseq, e_seqt, e_seql, e_seqf, e_ret, e_drop, e_ix, e_ixW, e_dix1, e_dix2, e_dix3, e_dix5, e_dix4, at0, at1, at2, at3, at4, at5, e_setIt, set0, set1, set2, e_cons, e_nil, e_args, e_ga0, e_ga1, e_tup, e_lst, e_callG, e_neg, e_intOf, res_ok, res_exc, e_call, resR_ok, resR_exc, e_callR, resT_ok, e_callRT, two_s, e_par2, e_part, e_sl, fin_next, fin_cont, fin_brk, fin_ret, e_fg0, e_fg1, e_for0, e_while, cat_ok, bdd_ok, e_comp0, e_comp1, e_lc, e_seqD, e_range1, e_range2, e_enum, e_zip, e_isi, e_isi2, endV_ret, endV_next, endV_exc, e_fn, endR_ret, endR_next, e_fnR, e_endVif, e_endRif, e_rooted, d_add, d_sub, d_mul, d_div, d_mod, d_pow, d_lt, d_le, d_gt, d_ge, d_eq_int, d_ne_int, d_abs, d_int_b, d_int_i, lf_int, lf_bl, lf_str, lf_non, lf_tup, lfs_nil, lfs_cons, e_aug, okL_s, e_refL, e_ins, e_app, ite_and, ite_or, ite_andD, ite_orD, e_setIt2, e_frz, e_ixW2, e_lzip, dTL2, e_qvar, qSl_i, e_qop, d_addI, lfs_rep, e_ext, e_rep, e_index, e_isl, e_isf, e_gst, e_gtup2, lfs_rev, e_revS, e_lk, e_lki, e_lkb, e_lks, e_lkn, e_lkt, e_lkl, e_lkf, e_lk0, e_lk1, lf_flst, e_chain, startE, startR, List.map_cons, List.map_nil, List.length_cons, List.length_nil, List.replicate, List.getElem?_cons_zero, List.getElem?_cons_succ, List.set_cons_zero, List.set_cons_succ, List.cons_append, List.nil_append, List.append_nil, if_true, if_false, reduceIte, Option.isSome_some, Option.map_some, Option.bind_some, Bool.and_eq_true, Bool.or_eq_true, and_self, and_true, true_and, or_true, true_or, or_false, false_or, Bool.and_true, Bool.true_and, Bool.and_self, Bool.not_true, Bool.not_false, decide_true, decide_false, reduceCtorEq, Bool.false_eq_true, Nat.reduceAdd, Nat.reduceSub, Nat.reduceMul, Nat.reduceLeDiff, Nat.reduceLT, ne_eq, not_false_eq_true, Nat.reducePow, Nat.reduceEqDiff, Int.reduceToNat, Int.reducePow, Int.reduceMul, Int.reduceAdd, Int.reduceSub, Int.reduceNeg, Int.reduceLT, Int.reduceLE, Int.reduceEq, noRef, decide_eq_true_eq, isi_t_i], by unfold f_law_is_place g_law_is_place; simp (maxSteps := 3000000) (disch := first | assumption | decide | omega) only [e_b, e_ok, e_exc, e_bad, e_p, e_os, e_on, e_oif, slB_b, e_var, slD_b, slD_w, e_rdS, e_rd, okR_s, e_ref, slW_w, e_move, opt_s, opt_n, opt_if, e_rdL, e_lf, e_val, e_get_v, e_get_r, e_pair, e_op, e_T, e_isBl, e_and, e_or, e_not, e_andV, e_orV, e_notV, e_if, e_ap, e_bdif, e_seq, e_asg, e_gN, e_slt, e_slf, e_gnil, e_gcons, e_gseq, e_seqt, e_seql, e_seqf, e_ret, e_drop, e_ix, e_ixW, e_dix1, e_dix2, e_dix3, e_dix5, e_dix4, at0, at1, at2, at3, at4, at5, e_setIt, set0, set1, set2, e_cons, e_nil, e_args, e_ga0, e_ga1, e_tup, e_lst, e_callG, e_neg, e_intOf, res_ok, res_exc, e_call, resR_ok, resR_exc, e_callR, resT_ok, e_callRT, two_s, e_par2, e_part, e_sl, fin_next, fin_cont, fin_brk, fin_ret, e_fg0, e_fg1, e_for0, e_while, cat_ok, bdd_ok, e_comp0, e_comp1, e_lc, e_seqD, e_range1, e_range2, e_enum, e_zip, e_isi, e_isi2, endV_ret, endV_next, endV_exc, e_fn, endR_ret, endR_next, e_fnR, e_endVif, e_endRif, e_rooted, d_add, d_sub, d_mul, d_div, d_mod, d_pow, d_lt, d_le, d_gt, d_ge, d_eq_int, d_ne_int, d_abs, d_int_b, d_int_i, lf_int, lf_bl, lf_str, lf_non, lf_tup, lfs_nil, lfs_cons, e_aug, okL_s, e_refL, e_ins, e_app, ite_and, ite_or, ite_andD, ite_orD, e_setIt2, e_frz, e_ixW2, e_lzip, dTL2, e_qvar, qSl_i, e_qop, d_addI, lfs_rep, e_ext, e_rep, e_index, e_isl, e_isf, e_gst, e_gtup2, lfs_rev, e_revS, e_lk, e_lki, e_lkb, e_lks, e_lkn, e_lkt, e_lkl, e_lkf, e_lk0, e_lk1, lf_flst, e_chain, startE, startR, List.map_cons, List.map_nil, List.length_cons, List.length_nil, List.replicate, List.getElem?_cons_zero, List.getElem?_cons_succ, List.set_cons_zero, List.set_cons_succ, List.cons_append, List.nil_append, List.append_nil, if_true, if_false, reduceIte, Option.isSome_some, Option.map_some, Option.bind_some, Bool.and_eq_true, Bool.or_eq_true, and_self, and_true, true_and, or_true, true_or, or_false, false_or, Bool.and_true, Bool.true_and, Bool.and_self, Bool.not_true, Bool.not_false, decide_true, decide_false, reduceCtorEq, Bool.false_eq_true, Nat.reduceAdd, Nat.reduceSub, Nat.reduceMul, Nat.reduceLeDiff, Nat.reduceLT, ne_eq, not_false_eq_true, Nat.reducePow, Nat.reduceEqDiff, Int.reduceToNat, Int.reducePow, Int.reduceMul, Int.reduceAdd, Int.reduceSub, Int.reduceNeg, Int.reduceLT, Int.reduceLE, Int.reduceEq, noRef, decide_eq_true_eq, isi_t_i]⟩
  | non => exact ⟨false, by unfold f_is_place g_is_place f_is_tuple g_is_tuple; simp (maxSteps := 3000000) (disch := first | assumption | decide | omega) only [e_b, e_ok, e_exc, e_bad, e_p, e_os, e_on, e_oif, slB_b, e_var, slD_b, slD_w, e_rdS, e_rd, okR_s, e_ref, slW_w, e_move, opt_s, opt_n, opt_if, e_rdL, e_lf, e_val, e_get_v, e_get_r, e_pair, e_op, e_T, e_isBl, e_and, e_or, e_not, e_andV, e_orV, e_notV, e_if, e_ap, e_bdif, e_seq, e_asg, e_gN, e_slt, e_slf, e_gnil, e_gcons, e_gseq, e_seqt, e_seql, e_seqf, e_ret, e_drop, e_ix, e_ixW, e_dix1, e_dix2, e_dix3, e_dix5, e_dix4, at0, at1, at2, at3, at4, at5, e_setIt, set0, set1, set2, e_cons, e_nil, e_args, e_ga0, e_ga1, e_tup, e_lst, e_callG, e_neg, e_intOf, res_ok, res_exc, e_call, resR_ok, resR_exc, e_callR, resT_ok, e_callRT, two_s, e_par2, e_part, e_sl, fin_next, fin_cont, fin_brk, fin_ret, e_fg0, e_fg1, e_for0, e_while, cat_ok, bdd_ok, e_comp0, e_comp1, e_lc, e_seqD, e_range1, e_range2, e_enum, e_zip, e_isi, e_isi2, endV_ret, endV_next, endV_exc, e_fn, endR_ret, endR_next, e_fnR, e_endVif, e_endRif, e_rooted, d_add, d_sub, d_mul, d_div, d_mod, d_pow, d_lt, d_le, d_gt, d_ge, d_eq_int, d_ne_int, d_abs, d_int_b, d_int_i, lf_int, lf_bl, lf_str, lf_non, lf_tup, lfs_nil, lfs_cons, e_aug, okL_s, e_refL, e_ins, e_app, ite_and, ite_or, ite_andD, ite_orD, e_setIt2, e_frz, e_ixW2, e_lzip, dTL2, e_qvar, qSl_i, e_qop, d_addI, lfs_rep, e_ext, e_rep, e_index, e_isl, e_isf, e_gst, e_gtup2, lfs_rev, e_revS, e_lk, e_lki, e_lkb, e_lks, e_lkn, e_lkt, e_lkl, e_lkf, e_lk0, e_lk1, lf_flst, e_chain, startE, startR, List.map_cons, List.map_nil, List.length_cons, List.length_nil, List.replicate, List.getElem?_cons_zero, List.getElem?_cons_succ, List.set_cons_zero, List.set_cons_succ, List.cons_append, List.nil_append, List.append_nil, if_true, if_false, reduceIte, Option.isSome_some, Option.map_some, Option.bind_some, Bool.and_eq_true, Bool.or_eq_true, and_self, and_true, true_and, or_true, true_or, or_false, false_or, Bool.and_true, Bool.true_and, Bool.and_self, Bool.not_true, Bool.not_false, decide_true, decide_false, reduceCtorEq, Bool.false_eq_true, Nat.reduceAdd, Nat.reduceSub, Nat.reduceMul, Nat.reduceLeDiff, Nat.reduceLT, ne_eq, not_false_eq_true, Nat.reducePow, Nat.reduceEqDiff, Int.reduceToNat, Int.reducePow, Int.reduceMul, Int.reduceAdd, Int.reduceSub, Int.reduceNeg, Int.reduceLT, Int.reduceLE, Int.reduceEq, noRef, decide_eq_true_eq, isi_t_n], by unfold f_law_is_place g_law_is_place; simp (maxSteps := 3000000) (disch := first | assumption | decide | omega) only [e_b, e_ok, e_exc, e_bad, e_p, e_os, e_on, e_oif, slB_b, e_var, slD_b, slD_w, e_rdS, e_rd, okR_s, e_ref, slW_w, e_move, opt_s, opt_n, opt_if, e_rdL, e_lf, e_val, e_get_v, e_get_r, e_pair, e_op, e_T, e_isBl, e_and, e_or, e_not, e_andV, e_orV, e_notV, e_if, e_ap, e_bdif, e_seq, e_asg, e_gN, e_slt, e_slf, e_gnil, e_gcons, e_gseq, e_seqt, e_seql, e_seqf, e_ret, e_drop, e_ix, e_ixW, e_dix1, e_dix2, e_dix3, e_dix5, e_dix4, at0, at1, at2, at3, at4, at5, e_setIt, set0, set1, set2, e_cons, e_nil, e_args, e_ga0, e_ga1, e_tup, e_lst, e_callG, e_neg, e_intOf, res_ok, res_exc, e_call, resR_ok, resR_exc, e_callR, resT_ok, e_callRT, two_s, e_par2, e_part, e_sl, fin_next, fin_cont, fin_brk, fin_ret, e_fg0, e_fg1, e_for0, e_while, cat_ok, bdd_ok, e_comp0, e_comp1, e_lc, e_seqD, e_range1, e_range2, e_enum, e_zip, e_isi, e_isi2, endV_ret, endV_next, endV_exc, e_fn, endR_ret, endR_next, e_fnR, e_endVif, e_endRif, e_rooted, d_add, d_sub, d_mul, d_div, d_mod, d_pow, d_lt, d_le, d_gt, d_ge, d_eq_int, d_ne_int, d_abs, d_int_b, d_int_i, lf_int, lf_bl, lf_str, lf_non, lf_tup, lfs_nil, lfs_cons, e_aug, okL_s, e_refL, e_ins, e_app, ite_and, ite_or, ite_andD, ite_orD, e_setIt2, e_frz, e_ixW2, e_lzip, dTL2, e_qvar, qSl_i, e_qop, d_addI, lfs_rep, e_ext, e_rep, e_index, e_isl, e_isf, e_gst, e_gtup2, lfs_rev, e_revS, e_lk, e_lki, e_lkb, e_lks, e_lkn, e_lkt, e_lkl, e_lkf, e_lk0, e_lk1, lf_flst, e_chain, startE, startR, List.map_cons, List.map_nil, List.length_cons, List.length_nil, List.replicate, List.getElem?_cons_zero, List.getElem?_cons_succ, List.set_cons_zero, List.set_cons_succ, List.cons_append, List.nil_append, List.append_nil, if_true, if_false, reduceIte, Option.isSome_some, Option.map_some, Option.bind_some, Bool.and_eq_true, Bool.or_eq_true, and_self, and_true, true_and, or_true, true_or, or_false, false_or, Bool.and_true, Bool.true_and, Bool.and_self, Bool.not_true, Bool.not_false, decide_true, decide_false, reduceCtorEq, Bool.false_eq_true, Nat.reduceAdd, Nat.reduceSub, Nat.reduceMul, Nat.reduceLeDiff, Nat.reduceLT, ne_eq, not_false_eq_true, Nat.reducePow, Nat.reduceEqDiff, Int.reduceToNat, Int.reducePow, Int.reduceMul, Int.reduceAdd, Int.reduceSub, Int.reduceNeg, Int.reduceLT, Int.reduceLE, Int.reduceEq, noRef, decide_eq_true_eq, isi_t_n]⟩
  | bl b => exact ⟨false, by unfold f_is_place g_is_place f_is_tuple g_is_tuple; simp (maxSteps := 3000000) (disch := first | assumption | decide | omega) only [e_b, e_ok, e_exc, e_bad, e_p, e_os, e_on, e_oif, slB_b, e_var, slD_b, slD_w, e_rdS, e_rd, okR_s, e_ref, slW_w, e_move, opt_s, opt_n, opt_if, e_rdL, e_lf, e_val, e_get_v, e_get_r, e_pair, e_op, e_T, e_isBl, e_and, e_or, e_not, e_andV, e_orV, e_notV, e_if, e_ap, e_bdif, e_seq, e_asg, e_gN, e_slt, e_slf, e_gnil, e_gcons, e_gseq, e_seqt, e_seql, e_seqf, e_ret, e_drop, e_ix, e_ixW, e_dix1, e_dix2, e_dix3, e_dix5, e_dix4, at0, at1, at2, at3, at4, at5, e_setIt, set0, set1, set2, e_cons, e_nil, e_args, e_ga0, e_ga1, e_tup, e_lst, e_callG, e_neg, e_intOf, res_ok, res_exc, e_call, resR_ok, resR_exc, e_callR, resT_ok, e_callRT, two_s, e_par2, e_part, e_sl, fin_next, fin_cont, fin_brk, fin_ret, e_fg0, e_fg1, e_for0, e_while, cat_ok, bdd_ok, e_comp0, e_comp1, e_lc, e_seqD, e_range1, e_range2, e_enum, e_zip, e_isi, e_isi2, endV_ret, endV_next, endV_exc, e_fn, endR_ret, endR_next, e_fnR, e_endVif, e_endRif, e_rooted, d_add, d_sub, d_mul, d_div, d_mod, d_pow, d_lt, d_le, d_gt, d_ge, d_eq_int, d_ne_int, d_abs, d_int_b, d_int_i, lf_int, lf_bl, lf_str, lf_non, lf_tup, lfs_nil, lfs_cons, e_aug, okL_s, e_refL, e_ins, e_app, ite_and, ite_or, ite_andD, ite_orD, e_setIt2, e_frz, e_ixW2, e_lzip, dTL2, e_qvar, qSl_i, e_qop, d_addI, lfs_rep, e_ext, e_rep, e_index, e_isl, e_isf, e_gst, e_gtup2, lfs_rev, e_revS, e_lk, e_lki, e_lkb, e_lks, e_lkn, e_lkt, e_lkl, e_lkf, e_lk0, e_lk1, lf_flst, e_chain, startE, startR, List.map_cons, List.map_nil, List.length_cons, List.length_nil, List.replicate, List.getElem?_cons_zero, List.getElem?_cons_succ, List.set_cons_zero, List.set_cons_succ, List.cons_append, List.nil_append, List.append_nil, if_true, if_false, reduceIte, Option.isSome_some, Option.map_some, Option.bind_some, Bool.and_eq_true, Bool.or_eq_true, and_self, and_true, true_and, or_true, true_or, or_false, false_or, Bool.and_true, Bool.true_and, Bool.and_self, Bool.not_true, Bool.not_false, decide_true, decide_false, reduceCtorEq, Bool.false_eq_true, Nat.reduceAdd, Nat.reduceSub, Nat.reduceMul, Nat.reduceLeDiff, Nat.reduceLT, ne_eq, not_false_eq_true, Nat.reducePow, Nat.reduceEqDiff, Int.reduceToNat, Int.reducePow, Int.reduceMul, Int.reduceAdd, Int.reduceSub, Int.reduceNeg, Int.reduceLT, Int.reduceLE, Int.reduceEq, noRef, decide_eq_true_eq, isi_t_b], by unfold f_law_is_place g_law_is_place; simp (maxSteps := 3000000) (disch := first | assumption | decide | omega) only [e_b, e_ok, e_exc, e_bad, e_p, e_os, e_on, e_oif, slB_b, e_var, slD_b, slD_w, e_rdS, e_rd, okR_s, e_ref, slW_w, e_move, opt_s, opt_n, opt_if, e_rdL, e_lf, e_val, e_get_v, e_get_r, e_pair, e_op, e_T, e_isBl, e_and, e_or, e_not, e_andV, e_orV, e_notV, e_if, e_ap, e_bdif, e_seq, e_asg, e_gN, e_slt, e_slf, e_gnil, e_gcons, e_gseq, e_seqt, e_seql, e_seqf, e_ret, e_drop, e_ix, e_ixW, e_dix1, e_dix2, e_dix3, e_dix5, e_dix4, at0, at1, at2, at3, at4, at5, e_setIt, set0, set1, set2, e_cons, e_nil, e_args, e_ga0, e_ga1, e_tup, e_lst, e_callG, e_neg, e_intOf, res_ok, res_exc, e_call, resR_ok, resR_exc, e_callR, resT_ok, e_callRT, two_s, e_par2, e_part, e_sl, fin_next, fin_cont, fin_brk, fin_ret, e_fg0, e_fg1, e_for0, e_while, cat_ok, bdd_ok, e_comp0, e_comp1, e_lc, e_seqD, e_range1, e_range2, e_enum, e_zip, e_isi, e_isi2, endV_ret, endV_next, endV_exc, e_fn, endR_ret, endR_next, e_fnR, e_endVif, e_endRif, e_rooted, d_add, d_sub, d_mul, d_div, d_mod, d_pow, d_lt, d_le, d_gt, d_ge, d_eq_int, d_ne_int, d_abs, d_int_b, d_int_i, lf_int, lf_bl, lf_str, lf_non, lf_tup, lfs_nil, lfs_cons, e_aug, okL_s, e_refL, e_ins, e_app, ite_and, ite_or, ite_andD, ite_orD, e_setIt2, e_frz, e_ixW2, e_lzip, dTL2, e_qvar, qSl_i, e_qop, d_addI, lfs_rep, e_ext, e_rep, e_index, e_isl, e_isf, e_gst, e_gtup2, lfs_rev, e_revS, e_lk, e_lki, e_lkb, e_lks, e_lkn, e_lkt, e_lkl, e_lkf, e_lk0, e_lk1, lf_flst, e_chain, startE, startR, List.map_cons, List.map_nil, List.length_cons, List.length_nil, List.replicate, List.getElem?_cons_zero, List.getElem?_cons_succ, List.set_cons_zero, List.set_cons_succ, List.cons_append, List.nil_append, List.append_nil, if_true, if_false, reduceIte, Option.isSome_some, Option.map_some, Option.bind_some, Bool.and_eq_true, Bool.or_eq_true, and_self, and_true, true_and, or_true, true_or, or_false, false_or, Bool.and_true, Bool.true_and, Bool.and_self, Bool.not_true, Bool.not_false, decide_true, decide_false, reduceCtorEq, Bool.false_eq_true, Nat.reduceAdd, Nat.reduceSub, Nat.reduceMul, Nat.reduceLeDiff, Nat.reduceLT, ne_eq, not_false_eq_true, Nat.reducePow, Nat.reduceEqDiff, Int.reduceToNat, Int.reducePow, Int.reduceMul, Int.reduceAdd, Int.reduceSub, Int.reduceNeg, Int.reduceLT, Int.reduceLE, Int.reduceEq, noRef, decide_eq_true_eq, isi_t_b]⟩
  | str s => exact ⟨false, by unfold f_is_place g_is_place f_is_tuple g_is_tuple; simp (maxSteps := 3000000) (disch := first | assumption | decide | omega) only [e_b, e_ok, e_exc, e_bad, e_p, e_os, e_on, e_oif, slB_b, e_var, slD_b, slD_w, e_rdS, e_rd, okR_s, e_ref, slW_w, e_move, opt_s, opt_n, opt_if, e_rdL, e_lf, e_val, e_get_v, e_get_r, e_pair, e_op, e_T, e_isBl, e_and, e_or, e_not, e_andV, e_orV, e_notV, e_if, e_ap, e_bdif, e_seq, e_asg, e_gN, e_slt, e_slf, e_gnil, e_gcons, e_gseq, e_seqt, e_seql, e_seqf, e_ret, e_drop, e_ix, e_ixW, e_dix1, e_dix2, e_dix3, e_dix5, e_dix4, at0, at1, at2, at3, at4, at5, e_setIt, set0, set1, set2, e_cons, e_nil, e_args, e_ga0, e_ga1, e_tup, e_lst, e_callG, e_neg, e_intOf, res_ok, res_exc, e_call, resR_ok, resR_exc, e_callR, resT_ok, e_callRT, two_s, e_par2, e_part, e_sl, fin_next, fin_cont, fin_brk, fin_ret, e_fg0, e_fg1, e_for0, e_while, cat_ok, bdd_ok, e_comp0, e_comp1, e_lc, e_seqD, e_range1, e_range2, e_enum, e_zip, e_isi, e_isi2, endV_ret, endV_next, endV_exc, e_fn, endR_ret, endR_next, e_fnR, e_endVif, e_endRif, e_rooted, d_add, d_sub, d_mul, d_div, d_mod, d_pow, d_lt, d_le, d_gt, d_ge, d_eq_int, d_ne_int, d_abs, d_int_b, d_int_i, lf_int, lf_bl, lf_str, lf_non, lf_tup, lfs_nil, lfs_cons, e_aug, okL_s, e_refL, e_ins, e_app, ite_and, ite_or, ite_andD, ite_orD, e_setIt2, e_frz, e_ixW2, e_lzip, dTL2, e_qvar, qSl_i, e_qop, d_addI, lfs_rep, e_ext, e_rep, e_index, e_isl, e_isf, e_gst, e_gtup2, lfs_rev, e_revS, e_lk, e_lki, e_lkb, e_lks, e_lkn, e_lkt, e_lkl, e_lkf, e_lk0, e_lk1, lf_flst, e_chain, startE, startR, List.map_cons, List.map_nil, List.length_cons, List.length_nil, List.replicate, List.getElem?_cons_zero, List.getElem?_cons_succ, List.set_cons_zero, List.set_cons_succ, List.cons_append, List.nil_append, List.append_nil, if_true, if_false, reduceIte, Option.isSome_some, Option.map_some, Option.bind_some, Bool.and_eq_true, Bool.or_eq_true, and_self, and_true, true_and, or_true, true_or, or_false, false_or, Bool.and_true, Bool.true_and, Bool.and_self, Bool.not_true, Bool.not_false, decide_true, decide_false, reduceCtorEq, Bool.false_eq_true, Nat.reduceAdd, Nat.reduceSub, Nat.reduceMul, Nat.reduceLeDiff, Nat.reduceLT, ne_eq, not_false_eq_true, Nat.reducePow, Nat.reduceEqDiff, Int.reduceToNat, Int.reducePow, Int.reduceMul, Int.reduceAdd, Int.reduceSub, Int.reduceNeg, Int.reduceLT, Int.reduceLE, Int.reduceEq, noRef, decide_eq_true_eq, isi_t_s], by unfold f_law_is_place g_law_is_place; simp (maxSteps := 3000000) (disch := first | assumption | decide | omega) only [e_b, e_ok, e_exc, e_bad, e_p, e_os, e_on, e_oif, slB_b, e_var, slD_b, slD_w, e_rdS, e_rd, okR_s, e_ref, slW_w, e_move, opt_s, opt_n, opt_if, e_rdL, e_lf, e_val, e_get_v, e_get_r, e_pair, e_op, e_T, e_isBl, e_and, e_or, e_not, e_andV, e_orV, e_notV, e_if, e_ap, e_bdif, e_seq, e_asg, e_gN, e_slt, e_slf, e_gnil, e_gcons, e_gseq, e_seqt, e_seql, e_seqf, e_ret, e_drop, e_ix, e_ixW, e_dix1, e_dix2, e_dix3, e_dix5, e_dix4, at0, at1, at2, at3, at4, at5, e_setIt, set0, set1, set2, e_cons, e_nil, e_args, e_ga0, e_ga1, e_tup, e_lst, e_callG, e_neg, e_intOf, res_ok, res_exc, e_call, resR_ok, resR_exc, e_callR, resT_ok, e_callRT, two_s, e_par2, e_part, e_sl, fin_next, fin_cont, fin_brk, fin_ret, e_fg0, e_fg1, e_for0, e_while, cat_ok, bdd_ok, e_comp0, e_comp1, e_lc, e_seqD, e_range1, e_range2, e_enum, e_zip, e_isi, e_isi2, endV_ret, endV_next, endV_exc, e_fn, endR_ret, endR_next, e_fnR, e_endVif, e_endRif, e_rooted, d_add, d_sub, d_mul, d_div, d_mod, d_pow, d_lt, d_le, d_gt, d_ge, d_eq_int, d_ne_int, d_abs, d_int_b, d_int_i, lf_int, lf_bl, lf_str, lf_non, lf_tup, lfs_nil, lfs_cons, e_aug, okL_s, e_refL, e_ins, e_app, ite_and, ite_or, ite_andD, ite_orD, e_setIt2, e_frz, e_ixW2, e_lzip, dTL2, e_qvar, qSl_i, e_qop, d_addI, lfs_rep, e_ext, e_rep, e_index, e_isl, e_isf, e_gst, e_gtup2, lfs_rev, e_revS, e_lk, e_lki, e_lkb, e_lks, e_lkn, e_lkt, e_lkl, e_lkf, e_lk0, e_lk1, lf_flst, e_chain, startE, startR, List.map_cons, List.map_nil, List.length_cons, List.length_nil, List.replicate, List.getElem?_cons_zero, List.getElem?_cons_succ, List.set_cons_zero, List.set_cons_succ, List.cons_append, List.nil_append, List.append_nil, if_true, if_false, reduceIte, Option.isSome_some, Option.map_some, Option.bind_some, Bool.and_eq_true, Bool.or_eq_true, and_self, and_true, true_and, or_true, true_or, or_false, false_or, Bool.and_true, Bool.true_and, Bool.and_self, Bool.not_true, Bool.not_false, decide_true, decide_false, reduceCtorEq, Bool.false_eq_true, Nat.reduceAdd, Nat.reduceSub, Nat.reduceMul, Nat.reduceLeDiff, Nat.reduceLT, ne_eq, not_false_eq_true, Nat.reducePow, Nat.reduceEqDiff, Int.reduceToNat, Int.reducePow, Int.reduceMul, Int.reduceAdd, Int.reduceSub, Int.reduceNeg, Int.reduceLT, Int.reduceLE, Int.reduceEq, noRef, decide_eq_true_eq, isi_t_s]⟩
  | flst xs => exact ⟨false, by unfold f_is_place g_is_place f_is_tuple g_is_tuple; simp (maxSteps := 3000000) (disch := first | assumption | decide | omega) only [e_b, e_ok, e_exc, e_bad, e_p, e_os, e_on, e_oif, slB_b, e_var, slD_b, slD_w, e_rdS, e_rd, okR_s, e_ref, slW_w, e_move, opt_s, opt_n, opt_if, e_rdL, e_lf, e_val, e_get_v, e_get_r, e_pair, e_op, e_T, e_isBl, e_and, e_or, e_not, e_andV, e_orV, e_notV, e_if, e_ap, e_bdif, e_seq, e_asg, e_gN, e_slt, e_slf, e_gnil, e_gcons, e_gseq, e_seqt, e_seql, e_seqf, e_ret, e_drop, e_ix, e_ixW, e_dix1, e_dix2, e_dix3, e_dix5, e_dix4, at0, at1, at2, at3, at4, at5, e_setIt, set0, set1, set2, e_cons, e_nil, e_args, e_ga0, e_ga1, e_tup, e_lst, e_callG, e_neg, e_intOf, res_ok, res_exc, e_call, resR_ok, resR_exc, e_callR, resT_ok, e_callRT, two_s, e_par2, e_part, e_sl, fin_next, fin_cont, fin_brk, fin_ret, e_fg0, e_fg1, e_for0, e_while, cat_ok, bdd_ok, e_comp0, e_comp1, e_lc, e_seqD, e_range1, e_range2, e_enum, e_zip, e_isi, e_isi2, endV_ret, endV_next, endV_exc, e_fn, endR_ret, endR_next, e_fnR, e_endVif, e_endRif, e_rooted, d_add, d_sub, d_mul, d_div, d_mod, d_pow, d_lt, d_le, d_gt, d_ge, d_eq_int, d_ne_int, d_abs, d_int_b, d_int_i, lf_int, lf_bl, lf_str, lf_non, lf_tup, lfs_nil, lfs_cons, e_aug, okL_s, e_refL, e_ins, e_app, ite_and, ite_or, ite_andD, ite_orD, e_setIt2, e_frz, e_ixW2, e_lzip, dTL2, e_qvar, qSl_i, e_qop, d_addI, lfs_rep, e_ext, e_rep, e_index, e_isl, e_isf, e_gst, e_gtup2, lfs_rev, e_revS, e_lk, e_lki, e_lkb, e_lks, e_lkn, e_lkt, e_lkl, e_lkf, e_lk0, e_lk1, lf_flst, e_chain, startE, startR, List.map_cons, List.map_nil, List.length_cons, List.length_nil, List.replicate, List.getElem?_cons_zero, List.getElem?_cons_succ, List.set_cons_zero, List.set_cons_succ, List.cons_append, List.nil_append, List.append_nil, if_true, if_false, reduceIte, Option.isSome_some, Option.map_some, Option.bind_some, Bool.and_eq_true, Bool.or_eq_true, and_self, and_true, true_and, or_true, true_or, or_false, false_or, Bool.and_true, Bool.true_and, Bool.and_self, Bool.not_true, Bool.not_false, decide_true, decide_false, reduceCtorEq, Bool.false_eq_true, Nat.reduceAdd, Nat.reduceSub, Nat.reduceMul, Nat.reduceLeDiff, Nat.reduceLT, ne_eq, not_false_eq_true, Nat.reducePow, Nat.reduceEqDiff, Int.reduceToNat, Int.reducePow, Int.reduceMul, Int.reduceAdd, Int.reduceSub, Int.reduceNeg, Int.reduceLT, Int.reduceLE, Int.reduceEq, noRef, decide_eq_true_eq, isi_t_f], by unfold f_law_is_place g_law_is_place; simp (maxSteps := 3000000) (disch := first | assumption | decide | omega) only [e_b, e_ok, e_exc, e_bad, e_p, e_os, e_on, e_oif, slB_b, e_var, slD_b, slD_w, e_rdS, e_rd, okR_s, e_ref, slW_w, e_move, opt_s, opt_n, opt_if, e_rdL, e_lf, e_val, e_get_v, e_get_r, e_pair, e_op, e_T, e_isBl, e_and, e_or, e_not, e_andV, e_orV, e_notV, e_if, e_ap, e_bdif, e_seq, e_asg, e_gN, e_slt, e_slf, e_gnil, e_gcons, e_gseq, e_seqt, e_seql, e_seqf, e_ret, e_drop, e_ix, e_ixW, e_dix1, e_dix2, e_dix3, e_dix5, e_dix4, at0, at1, at2, at3, at4, at5, e_setIt, set0, set1, set2, e_cons, e_nil, e_args, e_ga0, e_ga1, e_tup, e_lst, e_callG, e_neg, e_intOf, res_ok, res_exc, e_call, resR_ok, resR_exc, e_callR, resT_ok, e_callRT, two_s, e_par2, e_part, e_sl, fin_next, fin_cont, fin_brk, fin_ret, e_fg0, e_fg1, e_for0, e_while, cat_ok, bdd_ok, e_comp0, e_comp1, e_lc, e_seqD, e_range1, e_range2, e_enum, e_zip, e_isi, e_isi2, endV_ret, endV_next, endV_exc, e_fn, endR_ret, endR_next, e_fnR, e_endVif, e_endRif, e_rooted, d_add, d_sub, d_mul, d_div, d_mod, d_pow, d_lt, d_le, d_gt, d_ge, d_eq_int, d_ne_int, d_abs, d_int_b, d_int_i, lf_int, lf_bl, lf_str, lf_non, lf_tup, lfs_nil, lfs_cons, e_aug, okL_s, e_refL, e_ins, e_app, ite_and, ite_or, ite_andD, ite_orD, e_setIt2, e_frz, e_ixW2, e_lzip, dTL2, e_qvar, qSl_i, e_qop, d_addI, lfs_rep, e_ext, e_rep, e_index, e_isl, e_isf, e_gst, e_gtup2, lfs_rev, e_revS, e_lk, e_lki, e_lkb, e_lks, e_lkn, e_lkt, e_lkl, e_lkf, e_lk0, e_lk1, lf_flst, e_chain, startE, startR, List.map_cons, List.map_nil, List.length_cons, List.length_nil, List.replicate, List.getElem?_cons_zero, List.getElem?_cons_succ, List.set_cons_zero, List.set_cons_succ, List.cons_append, List.nil_append, List.append_nil, if_true, if_false, reduceIte, Option.isSome_some, Option.map_some, Option.bind_some, Bool.and_eq_true, Bool.or_eq_true, and_self, and_true, true_and, or_true, true_or, or_false, false_or, Bool.and_true, Bool.true_and, Bool.and_self, Bool.not_true, Bool.not_false, decide_true, decide_false, reduceCtorEq, Bool.false_eq_true, Nat.reduceAdd, Nat.reduceSub, Nat.reduceMul, Nat.reduceLeDiff, Nat.reduceLT, ne_eq, not_false_eq_true, Nat.reducePow, Nat.reduceEqDiff, Int.reduceToNat, Int.reducePow, Int.reduceMul, Int.reduceAdd, Int.reduceSub, Int.reduceNeg, Int.reduceLT, Int.reduceLE, Int.reduceEq, noRef, decide_eq_true_eq, isi_t_f]⟩
  | tup xs =>
    by_cases hl : xs.length = 3
    · obtain ⟨a, b, c, rfl⟩ := len3 hl
      unfold Pd at h
      have q := Pds.iff.mp h.2
      have pa := q a (by simp); have pb := q b (by simp); have pc := q c (by simp)
      have l3 : dLen [.tup [a, b, c]] = some (.int 3) := rfl
      have b1 := between_ok pa; have b2 := between_ok pb; have b3 := between_ok pc
      have s1 := side_ok pa (.b (.tup [a, b, c])); have s2 := side_ok pb (.b (.tup [a, b, c])); have s3 := side_ok pc (.b (.tup [a, b, c]))
      have al := all_bl3 (pl a) (pl b) (pl c)
      refine ⟨pl a && (pl b && pl c), ?_, ?_⟩
      · unfold f_is_place g_is_place f_is_tuple g_is_tuple
        simp (maxSteps := 3000000) (disch := first | assumption | decide | omega) only [e_b, e_ok, e_exc, e_bad, e_p, e_os, e_on, e_oif, slB_b, e_var, slD_b, slD_w, e_rdS, e_rd, okR_s, e_ref, slW_w, e_move, opt_s, opt_n, opt_if, e_rdL, e_lf, e_val, e_get_v, e_get_r, e_pair, e_op, e_T, e_isBl, e_and, e_or, e_not, e_andV, e_orV, e_notV, e_if, e_ap, e_bdif, e_seq, e_asg, e_gN, e_slt, e_slf, e_gnil, e_gcons, e_gseq, e_seqt, e_seql, e_seqf, e_ret, e_drop, e_ix, e_ixW, e_dix1, e_dix2, e_dix3, e_dix5, e_dix4, at0, at1, at2, at3, at4, at5, e_setIt, set0, set1, set2, e_cons, e_nil, e_args, e_ga0, e_ga1, e_tup, e_lst, e_callG, e_neg, e_intOf, res_ok, res_exc, e_call, resR_ok, resR_exc, e_callR, resT_ok, e_callRT, two_s, e_par2, e_part, e_sl, fin_next, fin_cont, fin_brk, fin_ret, e_fg0, e_fg1, e_for0, e_while, cat_ok, bdd_ok, e_comp0, e_comp1, e_lc, e_seqD, e_range1, e_range2, e_enum, e_zip, e_isi, e_isi2, endV_ret, endV_next, endV_exc, e_fn, endR_ret, endR_next, e_fnR, e_endVif, e_endRif, e_rooted, d_add, d_sub, d_mul, d_div, d_mod, d_pow, d_lt, d_le, d_gt, d_ge, d_eq_int, d_ne_int, d_abs, d_int_b, d_int_i, lf_int, lf_bl, lf_str, lf_non, lf_tup, lfs_nil, lfs_cons, e_aug, okL_s, e_refL, e_ins, e_app, ite_and, ite_or, ite_andD, ite_orD, e_setIt2, e_frz, e_ixW2, e_lzip, dTL2, e_qvar, qSl_i, e_qop, d_addI, lfs_rep, e_ext, e_rep, e_index, e_isl, e_isf, e_gst, e_gtup2, lfs_rev, e_revS, e_lk, e_lki, e_lkb, e_lks, e_lkn, e_lkt, e_lkl, e_lkf, e_lk0, e_lk1, lf_flst, e_chain, startE, startR, List.map_cons, List.map_nil, List.length_cons, List.length_nil, List.replicate, List.getElem?_cons_zero, List.getElem?_cons_succ, List.set_cons_zero, List.set_cons_succ, List.cons_append, List.nil_append, List.append_nil, if_true, if_false, reduceIte, Option.isSome_some, Option.map_some, Option.bind_some, Bool.and_eq_true, Bool.or_eq_true, and_self, and_true, true_and, or_true, true_or, or_false, false_or, Bool.and_true, Bool.true_and, Bool.and_self, Bool.not_true, Bool.not_false, decide_true, decide_false, reduceCtorEq, Bool.false_eq_true, Nat.reduceAdd, Nat.reduceSub, Nat.reduceMul, Nat.reduceLeDiff, Nat.reduceLT, ne_eq, not_false_eq_true, Nat.reducePow, Nat.reduceEqDiff, Int.reduceToNat, Int.reducePow, Int.reduceMul, Int.reduceAdd, Int.reduceSub, Int.reduceNeg, Int.reduceLT, Int.reduceLE, Int.reduceEq, noRef, decide_eq_true_eq, isi_t_t, l3, b1, b2, b3, al]
      · unfold f_law_is_place g_law_is_place
        simp (maxSteps := 3000000) (disch := first | assumption | decide | omega) only [e_b, e_ok, e_exc, e_bad, e_p, e_os, e_on, e_oif, slB_b, e_var, slD_b, slD_w, e_rdS, e_rd, okR_s, e_ref, slW_w, e_move, opt_s, opt_n, opt_if, e_rdL, e_val, e_get_v, e_get_r, e_pair, e_op, e_T, e_isBl, e_and, e_or, e_not, e_orV, e_notV, e_if, e_ap, e_bdif, e_seq, e_asg, e_gN, e_slt, e_slf, e_gnil, e_gcons, e_gseq, e_seqt, e_seql, e_seqf, e_ret, e_drop, e_ix, e_ixW, e_dix1, e_dix2, e_dix3, e_dix5, e_dix4, at0, at1, at2, at3, at4, at5, e_setIt, set0, set1, set2, e_cons, e_nil, e_args, e_ga0, e_ga1, e_tup, e_lst, e_callG, e_neg, e_intOf, res_ok, res_exc, e_call, resR_ok, resR_exc, e_callR, resT_ok, e_callRT, two_s, e_par2, e_part, e_sl, fin_next, fin_cont, fin_brk, fin_ret, e_fg0, e_fg1, e_for0, e_while, cat_ok, bdd_ok, e_comp0, e_comp1, e_lc, e_seqD, e_range1, e_range2, e_enum, e_zip, e_isi, e_isi2, endV_ret, endV_next, endV_exc, e_fn, endR_ret, endR_next, e_fnR, e_endVif, e_endRif, e_rooted, d_add, d_sub, d_mul, d_div, d_mod, d_pow, d_lt, d_le, d_gt, d_ge, d_eq_int, d_ne_int, d_abs, d_int_b, d_int_i, lf_int, lf_bl, lf_str, lf_non, lf_tup, lfs_nil, lfs_cons, e_aug, okL_s, e_refL, e_ins, e_app, ite_and, ite_or, ite_andD, ite_orD, e_setIt2, e_frz, e_ixW2, e_lzip, dTL2, e_qvar, qSl_i, e_qop, d_addI, lfs_rep, e_ext, e_rep, e_index, e_isl, e_isf, e_gst, e_gtup2, lfs_rev, e_revS, e_lk, e_lki, e_lkb, e_lks, e_lkn, e_lkt, e_lkl, e_lkf, e_lk0, e_lk1, lf_flst, startE, startR, List.map_cons, List.map_nil, List.length_cons, List.length_nil, List.replicate, List.getElem?_cons_zero, List.getElem?_cons_succ, List.set_cons_zero, List.set_cons_succ, List.cons_append, List.nil_append, List.append_nil, if_true, if_false, reduceIte, Option.isSome_some, Option.map_some, Option.bind_some, Bool.and_eq_true, Bool.or_eq_true, and_self, and_true, true_and, or_true, true_or, or_false, false_or, Bool.and_true, Bool.true_and, Bool.and_self, Bool.not_true, Bool.not_false, decide_true, decide_false, reduceCtorEq, Bool.false_eq_true, Nat.reduceAdd, Nat.reduceSub, Nat.reduceMul, Nat.reduceLeDiff, Nat.reduceLT, ne_eq, not_false_eq_true, Nat.reducePow, Nat.reduceEqDiff, Int.reduceToNat, Int.reducePow, Int.reduceMul, Int.reduceAdd, Int.reduceSub, Int.reduceNeg, Int.reduceLT, Int.reduceLE, Int.reduceEq, noRef, decide_eq_true_eq, isi_t_t, l3, s1, s2, s3, al]
    · have ll : dLen [.tup xs] = some (.int xs.length) := rfl
      have hl' : ¬ ((xs.length : Nat) : Int) = 3 := by omega
      exact ⟨false, by unfold f_is_place g_is_place f_is_tuple g_is_tuple; simp (maxSteps := 3000000) (disch := first | assumption | decide | omega) only [e_b, e_ok, e_exc, e_bad, e_p, e_os, e_on, e_oif, slB_b, e_var, slD_b, slD_w, e_rdS, e_rd, okR_s, e_ref, slW_w, e_move, opt_s, opt_n, opt_if, e_rdL, e_lf, e_val, e_get_v, e_get_r, e_pair, e_op, e_T, e_isBl, e_and, e_or, e_not, e_andV, e_orV, e_notV, e_if, e_ap, e_bdif, e_seq, e_asg, e_gN, e_slt, e_slf, e_gnil, e_gcons, e_gseq, e_seqt, e_seql, e_seqf, e_ret, e_drop, e_ix, e_ixW, e_dix1, e_dix2, e_dix3, e_dix5, e_dix4, at0, at1, at2, at3, at4, at5, e_setIt, set0, set1, set2, e_cons, e_nil, e_args, e_ga0, e_ga1, e_tup, e_lst, e_callG, e_neg, e_intOf, res_ok, res_exc, e_call, resR_ok, resR_exc, e_callR, resT_ok, e_callRT, two_s, e_par2, e_part, e_sl, fin_next, fin_cont, fin_brk, fin_ret, e_fg0, e_fg1, e_for0, e_while, cat_ok, bdd_ok, e_comp0, e_comp1, e_lc, e_seqD, e_range1, e_range2, e_enum, e_zip, e_isi, e_isi2, endV_ret, endV_next, endV_exc, e_fn, endR_ret, endR_next, e_fnR, e_endVif, e_endRif, e_rooted, d_add, d_sub, d_mul, d_div, d_mod, d_pow, d_lt, d_le, d_gt, d_ge, d_eq_int, d_ne_int, d_abs, d_int_b, d_int_i, lf_int, lf_bl, lf_str, lf_non, lf_tup, lfs_nil, lfs_cons, e_aug, okL_s, e_refL, e_ins, e_app, ite_and, ite_or, ite_andD, ite_orD, e_setIt2, e_frz, e_ixW2, e_lzip, dTL2, e_qvar, qSl_i, e_qop, d_addI, lfs_rep, e_ext, e_rep, e_index, e_isl, e_isf, e_gst, e_gtup2, lfs_rev, e_revS, e_lk, e_lki, e_lkb, e_lks, e_lkn, e_lkt, e_lkl, e_lkf, e_lk0, e_lk1, lf_flst, e_chain, startE, startR, List.map_cons, List.map_nil, List.length_cons, List.length_nil, List.replicate, List.getElem?_cons_zero, List.getElem?_cons_succ, List.set_cons_zero, List.set_cons_succ, List.cons_append, List.nil_append, List.append_nil, if_true, if_false, reduceIte, Option.isSome_some, Option.map_some, Option.bind_some, Bool.and_eq_true, Bool.or_eq_true, and_self, and_true, true_and, or_true, true_or, or_false, false_or, Bool.and_true, Bool.true_and, Bool.and_self, Bool.not_true, Bool.not_false, decide_true, decide_false, reduceCtorEq, Bool.false_eq_true, Nat.reduceAdd, Nat.reduceSub, Nat.reduceMul, Nat.reduceLeDiff, Nat.reduceLT, ne_eq, not_false_eq_true, Nat.reducePow, Nat.reduceEqDiff, Int.reduceToNat, Int.reducePow, Int.reduceMul, Int.reduceAdd, Int.reduceSub, Int.reduceNeg, Int.reduceLT, Int.reduceLE, Int.reduceEq, noRef, decide_eq_true_eq, isi_t_t, ll, hl'], by unfold f_law_is_place g_law_is_place; simp (maxSteps := 3000000) (disch := first | assumption | decide | omega) only [e_b, e_ok, e_exc, e_bad, e_p, e_os, e_on, e_oif, slB_b, e_var, slD_b, slD_w, e_rdS, e_rd, okR_s, e_ref, slW_w, e_move, opt_s, opt_n, opt_if, e_rdL, e_lf, e_val, e_get_v, e_get_r, e_pair, e_op, e_T, e_isBl, e_and, e_or, e_not, e_andV, e_orV, e_notV, e_if, e_ap, e_bdif, e_seq, e_asg, e_gN, e_slt, e_slf, e_gnil, e_gcons, e_gseq, e_seqt, e_seql, e_seqf, e_ret, e_drop, e_ix, e_ixW, e_dix1, e_dix2, e_dix3, e_dix5, e_dix4, at0, at1, at2, at3, at4, at5, e_setIt, set0, set1, set2, e_cons, e_nil, e_args, e_ga0, e_ga1, e_tup, e_lst, e_callG, e_neg, e_intOf, res_ok, res_exc, e_call, resR_ok, resR_exc, e_callR, resT_ok, e_callRT, two_s, e_par2, e_part, e_sl, fin_next, fin_cont, fin_brk, fin_ret, e_fg0, e_fg1, e_for0, e_while, cat_ok, bdd_ok, e_comp0, e_comp1, e_lc, e_seqD, e_range1, e_range2, e_enum, e_zip, e_isi, e_isi2, endV_ret, endV_next, endV_exc, e_fn, endR_ret, endR_next, e_fnR, e_endVif, e_endRif, e_rooted, d_add, d_sub, d_mul, d_div, d_mod, d_pow, d_lt, d_le, d_gt, d_ge, d_eq_int, d_ne_int, d_abs, d_int_b, d_int_i, lf_int, lf_bl, lf_str, lf_non, lf_tup, lfs_nil, lfs_cons, e_aug, okL_s, e_refL, e_ins, e_app, ite_and, ite_or, ite_andD, ite_orD, e_setIt2, e_frz, e_ixW2, e_lzip, dTL2, e_qvar, qSl_i, e_qop, d_addI, lfs_rep, e_ext, e_rep, e_index, e_isl, e_isf, e_gst, e_gtup2, lfs_rev, e_revS, e_lk, e_lki, e_lkb, e_lks, e_lkn, e_lkt, e_lkl, e_lkf, e_lk0, e_lk1, lf_flst, e_chain, startE, startR, List.map_cons, List.map_nil, List.length_cons, List.length_nil, List.replicate, List.getElem?_cons_zero, List.getElem?_cons_succ, List.set_cons_zero, List.set_cons_succ, List.cons_append, List.nil_append, List.append_nil, if_true, if_false, reduceIte, Option.isSome_some, Option.map_some, Option.bind_some, Bool.and_eq_true, Bool.or_eq_true, and_self, and_true, true_and, or_true, true_or, or_false, false_or, Bool.and_true, Bool.true_and, Bool.and_self, Bool.not_true, Bool.not_false, decide_true, decide_false, reduceCtorEq, Bool.false_eq_true, Nat.reduceAdd, Nat.reduceSub, Nat.reduceMul, Nat.reduceLeDiff, Nat.reduceLT, ne_eq, not_false_eq_true, Nat.reducePow, Nat.reduceEqDiff, Int.reduceToNat, Int.reducePow, Int.reduceMul, Int.reduceAdd, Int.reduceSub, Int.reduceNeg, Int.reduceLT, Int.reduceLE, Int.reduceEq, noRef, decide_eq_true_eq, isi_t_t, ll, hl']⟩
  | _ => unfold Pd at h; exact h.elim
end
def BB : Int := 1000000020
theorem bb : BB = 1000000020 := rfl
/-- one more thing -/
theorem more_ok {k : Nat} {d place : D} (hp : Pd 1000000000 3 place) (hb : Box k d) (hk : k < 2 ^ 50) (A B C : Slot) (ts : List D) (ht : Pds BB 31 ts) (hl : ts.length < 1000) (s5 s7 s8 : Slot) :
    ∃ ts' d' t8, b_law_right_1 [.w d, A, B, C, .b place, s5, .w (.lst ts), s7, s8] = .ok .next [.w d', A, B, C, .b place, s5, .w (.lst ts'), s7, t8] ∧ Pds BB 31 ts' ∧ ts'.length = ts.length + 1 ∧ Box (k + 25) d' := by
  obtain ⟨z, d1, e1, r1, k1⟩ := bent_ok 2 1 (Int.le_refl _) (by omega) (Nat.le_refl _) (by omega) hp hb (by omega)
  obtain ⟨w, d2, e2, a2, b2, k2⟩ := take_box k1 (by omega) 3 (by omega) (by omega)
  obtain ⟨y, d3, e3, r3', k3⟩ := bent_ok 2 1 (B := 1000000010) (n := 10) (by omega) (by omega) (by omega) (by omega) (t := lkD z) r1 k2 (by omega)
  have w0 := hb.lf; have w1 := k1.lf; have w2 := k2.lf
  have lz := r1.lf
  have ly := r3'.lf
  have lkz : lkD (lkD z) = lkD z := r1.lk
  have two : ((2 : Nat) : Int) = 2 := rfl
  rw [two] at e1 e3
  have pz : Pd BB 31 (lkD z) := r1.mono (by unfold BB; omega) (by omega)
  have py : Pd BB 31 (lkD y) := r3'.mono (by unfold BB; omega) (by omega)
  have ap : ∀ q, oApp (.lst ts) q = some (.lst (ts ++ [q]), .non) := fun q => if_pos (by omega)
  by_cases hw : w = 0
  · refine ⟨ts ++ [lkD y], d3, .b (lkD z), ?_, ht.app (Pds.iff.mpr fun q m => by rw [List.mem_singleton.mp m]; exact py), by simp, k3.mono (by omega)⟩
    simp (maxSteps := 3000000) (disch := first | assumption | decide | omega) only [e_b, e_ok, e_exc, e_bad, e_p, e_os, e_on, e_oif, slB_b, e_var, slD_b, slD_w, e_rdS, e_rd, okR_s, e_ref, slW_w, e_move, opt_s, opt_n, opt_if, e_rdL, e_lf, e_val, e_get_v, e_get_r, e_pair, e_op, e_T, e_isBl, e_and, e_or, e_not, e_andV, e_orV, e_notV, e_if, e_ap, e_bdif, e_seq, e_asg, e_gN, e_slt, e_slf, e_gnil, e_gcons, e_gseq, e_seqt, e_seql, e_seqf, e_ret, e_drop, e_ix, e_ixW, e_dix1, e_dix2, e_dix3, e_dix5, e_dix4, at0, at1, at2, at3, at4, at5, e_setIt, set0, set1, set2, e_cons, e_nil, e_args, e_ga0, e_ga1, e_tup, e_lst, e_callG, e_neg, e_intOf, res_ok, res_exc, e_call, resR_ok, resR_exc, e_callR, resT_ok, e_callRT, two_s, e_par2, e_part, e_sl, fin_next, fin_cont, fin_brk, fin_ret, e_fg0, e_fg1, e_for0, e_while, cat_ok, bdd_ok, e_comp0, e_comp1, e_lc, e_seqD, e_range1, e_range2, e_enum, e_zip, e_isi, e_isi2, endV_ret, endV_next, endV_exc, e_fn, endR_ret, endR_next, e_fnR, e_endVif, e_endRif, e_rooted, d_add, d_sub, d_mul, d_div, d_mod, d_pow, d_lt, d_le, d_gt, d_ge, d_eq_int, d_ne_int, d_abs, d_int_b, d_int_i, lf_int, lf_bl, lf_str, lf_non, lf_tup, lfs_nil, lfs_cons, e_aug, okL_s, e_refL, e_ins, e_app, ite_and, ite_or, ite_andD, ite_orD, e_setIt2, e_frz, e_ixW2, e_lzip, dTL2, e_qvar, qSl_i, e_qop, d_addI, lfs_rep, e_ext, e_rep, e_index, e_isl, e_isf, e_gst, e_gtup2, lfs_rev, e_revS, e_lk, e_lki, e_lkb, e_lks, e_lkn, e_lkt, e_lkl, e_lkf, e_lk0, e_lk1, lf_flst, e_chain, startE, startR, List.map_cons, List.map_nil, List.length_cons, List.length_nil, List.replicate, List.getElem?_cons_zero, List.getElem?_cons_succ, List.set_cons_zero, List.set_cons_succ, List.cons_append, List.nil_append, List.append_nil, if_true, if_false, reduceIte, Option.isSome_some, Option.map_some, Option.bind_some, Bool.and_eq_true, Bool.or_eq_true, and_self, and_true, true_and, or_true, true_or, or_false, false_or, Bool.and_true, Bool.true_and, Bool.and_self, Bool.not_true, Bool.not_false, decide_true, decide_false, reduceCtorEq, Bool.false_eq_true, Nat.reduceAdd, Nat.reduceSub, Nat.reduceMul, Nat.reduceLeDiff, Nat.reduceLT, ne_eq, not_false_eq_true, Nat.reducePow, Nat.reduceEqDiff, Int.reduceToNat, Int.reducePow, Int.reduceMul, Int.reduceAdd, Int.reduceSub, Int.reduceNeg, Int.reduceLT, Int.reduceLE, Int.reduceEq, noRef, decide_eq_true_eq, b_law_right_1_E, w0, w1, w2, e1, e2, e3, lz, ly, hw, ap]
  · refine ⟨ts ++ [lkD z], d2, .b (lkD z), ?_, ht.app (Pds.iff.mpr fun q m => by rw [List.mem_singleton.mp m]; exact pz), by simp, k2.mono (by omega)⟩
    simp (maxSteps := 3000000) (disch := first | assumption | decide | omega) only [e_b, e_ok, e_exc, e_bad, e_p, e_os, e_on, e_oif, slB_b, e_var, slD_b, slD_w, e_rdS, e_rd, okR_s, e_ref, slW_w, e_move, opt_s, opt_n, opt_if, e_rdL, e_lf, e_val, e_get_v, e_get_r, e_pair, e_op, e_T, e_isBl, e_and, e_or, e_not, e_andV, e_orV, e_notV, e_if, e_ap, e_bdif, e_seq, e_asg, e_gN, e_slt, e_slf, e_gnil, e_gcons, e_gseq, e_seqt, e_seql, e_seqf, e_ret, e_drop, e_ix, e_ixW, e_dix1, e_dix2, e_dix3, e_dix5, e_dix4, at0, at1, at2, at3, at4, at5, e_setIt, set0, set1, set2, e_cons, e_nil, e_args, e_ga0, e_ga1, e_tup, e_lst, e_callG, e_neg, e_intOf, res_ok, res_exc, e_call, resR_ok, resR_exc, e_callR, resT_ok, e_callRT, two_s, e_par2, e_part, e_sl, fin_next, fin_cont, fin_brk, fin_ret, e_fg0, e_fg1, e_for0, e_while, cat_ok, bdd_ok, e_comp0, e_comp1, e_lc, e_seqD, e_range1, e_range2, e_enum, e_zip, e_isi, e_isi2, endV_ret, endV_next, endV_exc, e_fn, endR_ret, endR_next, e_fnR, e_endVif, e_endRif, e_rooted, d_add, d_sub, d_mul, d_div, d_mod, d_pow, d_lt, d_le, d_gt, d_ge, d_eq_int, d_ne_int, d_abs, d_int_b, d_int_i, lf_int, lf_bl, lf_str, lf_non, lf_tup, lfs_nil, lfs_cons, e_aug, okL_s, e_refL, e_ins, e_app, ite_and, ite_or, ite_andD, ite_orD, e_setIt2, e_frz, e_ixW2, e_lzip, dTL2, e_qvar, qSl_i, e_qop, d_addI, lfs_rep, e_ext, e_rep, e_index, e_isl, e_isf, e_gst, e_gtup2, lfs_rev, e_revS, e_lk, e_lki, e_lkb, e_lks, e_lkn, e_lkt, e_lkl, e_lkf, e_lk0, e_lk1, lf_flst, e_chain, startE, startR, List.map_cons, List.map_nil, List.length_cons, List.length_nil, List.replicate, List.getElem?_cons_zero, List.getElem?_cons_succ, List.set_cons_zero, List.set_cons_succ, List.cons_append, List.nil_append, List.append_nil, if_true, if_false, reduceIte, Option.isSome_some, Option.map_some, Option.bind_some, Bool.and_eq_true, Bool.or_eq_true, and_self, and_true, true_and, or_true, true_or, or_false, false_or, Bool.and_true, Bool.true_and, Bool.and_self, Bool.not_true, Bool.not_false, decide_true, decide_false, reduceCtorEq, Bool.false_eq_true, Nat.reduceAdd, Nat.reduceSub, Nat.reduceMul, Nat.reduceLeDiff, Nat.reduceLT, ne_eq, not_false_eq_true, Nat.reducePow, Nat.reduceEqDiff, Int.reduceToNat, Int.reducePow, Int.reduceMul, Int.reduceAdd, Int.reduceSub, Int.reduceNeg, Int.reduceLT, Int.reduceLE, Int.reduceEq, noRef, decide_eq_true_eq, b_law_right_1_E, w0, w1, w2, e1, e2, lz, lkz, hw, ap]
def kz (p q r : Int) : List D := [.tup [.int p, .int q, .int r], .non, .bl true, .int 0, .str "", .tup [], .flst [], .flst [.int p, .int q, .int r], .tup [.int p, .int q], .tup [.int p, .int q, .int r, .int 0], .tup [.int 0, .int 0, .bl true], .tup [.int 0, .int 0, .int 1001]]
theorem side4 (r : Int) (h0 : 0 ≤ r) (h1 : r < 4) {v : Int} (v0 : 0 ≤ v) (v1 : v < 2001) : ∃ p : Int, atI [D.int 0, D.int 1000, D.int (-1000), D.int (v - 1000)] r = some (.int p) ∧ -1000 ≤ p ∧ p ≤ 1000 := by
  rcases (by omega : r = 0 ∨ r = 1 ∨ r = 2 ∨ r = 3) with rfl | rfl | rfl | rfl
  · exact ⟨0, rfl, by omega, by omega⟩
  · exact ⟨1000, rfl, by omega, by omega⟩
  · exact ⟨-1000, rfl, by omega, by omega⟩
  · exact ⟨v - 1000, rfl, by omega, by omega⟩
theorem right_ok {d : D} (hb : Box 0 d) : ∃ d', f_law_right d [] = .ok (.bl true) d' := by
  obtain ⟨a, b, c, d1, e1, va, vb, vc, k1⟩ := vectors_ok hb (by omega)
  have s1 := sums_ok va vb vc
  have s2 := sums_ok vc va vb
  obtain ⟨x1, d2, e2, a2, b2, k2⟩ := take_box k1 (by omega) 2001 (by omega) (by omega)
  obtain ⟨y1, d3, e3, a3, b3, k3⟩ := take_box k2 (by omega) 4 (by omega) (by omega)
  obtain ⟨x2, d4, e4, a4, b4, k4⟩ := take_box k3 (by omega) 2001 (by omega) (by omega)
  obtain ⟨y2, d5, e5, a5, b5, k5⟩ := take_box k4 (by omega) 4 (by omega) (by omega)
  obtain ⟨x3, d6, e6, a6, b6, k6⟩ := take_box k5 (by omega) 2001 (by omega) (by omega)
  obtain ⟨y3, d7, e7, a7, b7, k7⟩ := take_box k6 (by omega) 4 (by omega) (by omega)
  obtain ⟨p, ep, p0, p1⟩ := side4 y1 a3 b3 a2 b2
  obtain ⟨q, eq, q0, q1⟩ := side4 y2 a5 b5 a4 b4
  obtain ⟨r, er, r0, r1⟩ := side4 y3 a7 b7 a6 b6
  have w0 := hb.lf; have w1 := k1.lf; have w2 := k2.lf; have w3 := k3.lf; have w4 := k4.lf; have w5 := k5.lf; have w6 := k6.lf; have w7 := k7.lf
  have pp : Pd 1000000000 3 (.tup [.int p, .int q, .int r]) := by simp only [Pd, Pds, List.length_cons, List.length_nil, and_true]; omega
  have kp : Pds BB 31 (kz p q r) := by
    unfold kz
    simp only [Pds, Pd, List.length_cons, List.length_nil, and_true, true_and, BB]
    omega
  obtain ⟨E', ef, ts, d8, t7, t8, rfl, pts, lts, k8⟩ := for_inv (gf := gN false 7) (body := b_law_right_1) (fun i E => ∃ ts d8 t7 t8, E = [.w d8, .b (v3 a), .b (v3 b), .b (v3 c), .b (.tup [.int p, .int q, .int r]), .no, .w (.lst ts), t7, t8] ∧ Pds BB 31 ts ∧ ts.length = 12 + i ∧ Box (100 + 25 * i) d8) ([0, 1, 2, 3, 4, 5, 6, 7, 8, 9, 10, 11, 12, 13, 14, 15].map D.int) 0 [.w d7, .b (v3 a), .b (v3 b), .b (v3 c), .b (.tup [.int p, .int q, .int r]), .no, .w (.lst (kz p q r)), .no, .no] (fun i x E ex h => by
    obtain ⟨ts, d8, t7, t8, rfl, pts, lts, k8⟩ := h
    have hi := (List.getElem?_eq_some_iff.mp ex).1
    simp only [List.length_map, List.length_cons, List.length_nil] at hi
    obtain ⟨ts', d9, u8, e, pts', lts', k9⟩ := more_ok pp k8 (by omega) (.b (v3 a)) (.b (v3 b)) (.b (v3 c)) ts pts (by omega) .no (.b x) t8
    exact ⟨_, _, rfl, e, ts', d9, .b x, u8, rfl, pts', by omega, k9.mono (by omega)⟩) ⟨kz p q r, d7, .no, .no, rfl, kp, rfl, k7.mono (by omega)⟩
  have lts' : ts.length = 28 := by rw [lts]; rfl
  let four : List D := [.tup [.int 0, .int (-1001), .int 0], .tup [.str "0", .int 0, .int 0], .tup [.tup [.int 0, .int 0, .int 0]], .tup [.int 0, .int 0, .non]]
  have p4 : Pds BB 31 four := by
    simp only [four, Pds, Pd, List.length_cons, List.length_nil, and_true, true_and, BB]
    omega
  obtain ⟨all, ad, pall, lall⟩ : ∃ all, dAddX (.lst ts) (.lst [.tup [.int 0, .int (-1001), .int 0], .tup [.str "0", .int 0, .int 0], .tup [.tup [.int 0, .int 0, .int 0]], .tup [.int 0, .int 0, .non]]) = some (.lst all) ∧ Pds BB 31 all ∧ all.length < 16777216 :=
    ⟨ts ++ four, add_l pts p4 (by rw [lts']; decide), pts.app p4, by rw [List.length_append, lts']; decide⟩
  have cm : ∀ (S7 S8 : Slot), mComp (gN false 8) [8] (Sm.p true) (mCall 2 (f_law_same 4) (mArgs (mCons (mVal (mCall 1 f_is_place (mArgs (mCons (mRef 8) mNil)))) (mCons (mVal (mCall 1 f_law_is_place (mArgs (mCons (mRef 8) mNil)))) mNil)))) all [.w d8, .b (v3 a), .b (v3 b), .b (v3 c), .b (.tup [.int p, .int q, .int r]), .no, .b (.lst all), S7, S8] =
      .ok (all.map fun _ => .bl true) [.w d8, .b (v3 a), .b (v3 b), .b (v3 c), .b (.tup [.int p, .int q, .int r]), .no, .b (.lst all), S7, .no] := fun S7 S8 => comp_map _ _ rfl fun x m => by
    obtain ⟨bv, g1, g2⟩ := place_same (Pds.iff.mp pall x m)
    have sb := same_b 3 bv
    refine ⟨_, [.w d8, .b (v3 a), .b (v3 b), .b (v3 c), .b (.tup [.int p, .int q, .int r]), .no, .b (.lst all), S7, .b x], rfl, ?_, rfl⟩
    simp (maxSteps := 3000000) (disch := first | assumption | decide | omega) only [e_b, e_ok, e_exc, e_bad, e_p, e_os, e_on, e_oif, slB_b, e_var, slD_b, slD_w, e_rdS, e_rd, okR_s, e_ref, slW_w, e_move, opt_s, opt_n, opt_if, e_rdL, e_lf, e_val, e_get_v, e_get_r, e_pair, e_op, e_T, e_isBl, e_and, e_or, e_not, e_andV, e_orV, e_notV, e_if, e_ap, e_bdif, e_seq, e_asg, e_gN, e_slt, e_slf, e_gnil, e_gcons, e_gseq, e_seqt, e_seql, e_seqf, e_ret, e_drop, e_ix, e_ixW, e_dix1, e_dix2, e_dix3, e_dix5, e_dix4, at0, at1, at2, at3, at4, at5, e_setIt, set0, set1, set2, e_cons, e_nil, e_args, e_ga0, e_ga1, e_tup, e_lst, e_callG, e_neg, e_intOf, res_ok, res_exc, e_call, resR_ok, resR_exc, e_callR, resT_ok, e_callRT, two_s, e_par2, e_part, e_sl, fin_next, fin_cont, fin_brk, fin_ret, e_fg0, e_fg1, e_for0, e_while, cat_ok, bdd_ok, e_comp0, e_comp1, e_lc, e_seqD, e_range1, e_range2, e_enum, e_zip, e_isi, e_isi2, endV_ret, endV_next, endV_exc, e_fn, endR_ret, endR_next, e_fnR, e_endVif, e_endRif, e_rooted, d_add, d_sub, d_mul, d_div, d_mod, d_pow, d_lt, d_le, d_gt, d_ge, d_eq_int, d_ne_int, d_abs, d_int_b, d_int_i, lf_int, lf_bl, lf_str, lf_non, lf_tup, lfs_nil, lfs_cons, e_aug, okL_s, e_refL, e_ins, e_app, ite_and, ite_or, ite_andD, ite_orD, e_setIt2, e_frz, e_ixW2, e_lzip, dTL2, e_qvar, qSl_i, e_qop, d_addI, lfs_rep, e_ext, e_rep, e_index, e_isl, e_isf, e_gst, e_gtup2, lfs_rev, e_revS, e_lk, e_lki, e_lkb, e_lks, e_lkn, e_lkt, e_lkl, e_lkf, e_lk0, e_lk1, lf_flst, e_chain, startE, startR, List.map_cons, List.map_nil, List.length_cons, List.length_nil, List.replicate, List.getElem?_cons_zero, List.getElem?_cons_succ, List.set_cons_zero, List.set_cons_succ, List.cons_append, List.nil_append, List.append_nil, if_true, if_false, reduceIte, Option.isSome_some, Option.map_some, Option.bind_some, Bool.and_eq_true, Bool.or_eq_true, and_self, and_true, true_and, or_true, true_or, or_false, false_or, Bool.and_true, Bool.true_and, Bool.and_self, Bool.not_true, Bool.not_false, decide_true, decide_false, reduceCtorEq, Bool.false_eq_true, Nat.reduceAdd, Nat.reduceSub, Nat.reduceMul, Nat.reduceLeDiff, Nat.reduceLT, ne_eq, not_false_eq_true, Nat.reducePow, Nat.reduceEqDiff, Int.reduceToNat, Int.reducePow, Int.reduceMul, Int.reduceAdd, Int.reduceSub, Int.reduceNeg, Int.reduceLT, Int.reduceLE, Int.reduceEq, noRef, decide_eq_true_eq, g1, g2, sb]
  have al := all_true all
  have rg16 : dRange1 [.int 16] = some ([0, 1, 2, 3, 4, 5, 6, 7, 8, 9, 10, 11, 12, 13, 14, 15].map D.int) := rfl
  have sq : seqOf (.tup [v3 a, v3 b, v3 c]) = some [v3 a, v3 b, v3 c] := rfl
  have li : dList [.tup [.int p, .int q, .int r]] = some (.lst [.int p, .int q, .int r]) := rfl
  have sl : dSl (.tup [.int p, .int q, .int r]) none (some 2) = some (.tup [.int p, .int q]) := rfl
  have at4 : dAddX (.tup [.int p, .int q, .int r]) (.tup [.int 0]) = some (.tup [.int p, .int q, .int r, .int 0]) := rfl
  unfold kz at ef
  simp only [List.map_cons, List.map_nil] at ef
  refine ⟨d8, ?_⟩
  unfold f_law_right g_law_right
  simp (maxSteps := 3000000) (disch := first | assumption | decide | omega) only [e_b, e_ok, e_exc, e_bad, e_p, e_os, e_on, e_oif, slB_b, e_var, slD_b, slD_w, e_rdS, e_rd, okR_s, e_ref, slW_w, e_move, opt_s, opt_n, opt_if, e_rdL, e_lf, e_val, e_get_v, e_get_r, e_pair, e_op, e_T, e_isBl, e_and, e_or, e_not, e_andV, e_orV, e_notV, e_if, e_ap, e_bdif, e_seq, e_asg, e_gN, e_slt, e_slf, e_gnil, e_gcons, e_gseq, e_seqt, e_seql, e_seqf, e_ret, e_drop, e_ix, e_ixW, e_dix1, e_dix2, e_dix3, e_dix5, e_dix4, at0, at1, at2, at3, at4, at5, e_setIt, set0, set1, set2, e_cons, e_nil, e_args, e_ga0, e_ga1, e_tup, e_lst, e_callG, e_neg, e_intOf, res_ok, res_exc, e_call, resR_ok, resR_exc, e_callR, resT_ok, e_callRT, two_s, e_par2, e_part, e_sl, fin_next, fin_cont, fin_brk, fin_ret, e_fg0, e_fg1, e_for0, e_while, cat_ok, bdd_ok, e_comp0, e_comp1, e_lc, e_seqD, e_range1, e_range2, e_enum, e_zip, e_isi, e_isi2, endV_ret, endV_next, endV_exc, e_fn, endR_ret, endR_next, e_fnR, e_endVif, e_endRif, e_rooted, d_add, d_sub, d_mul, d_div, d_mod, d_pow, d_lt, d_le, d_gt, d_ge, d_eq_int, d_ne_int, d_abs, d_int_b, d_int_i, lf_int, lf_bl, lf_str, lf_non, lf_tup, lfs_nil, lfs_cons, e_aug, okL_s, e_refL, e_ins, e_app, ite_and, ite_or, ite_andD, ite_orD, e_setIt2, e_frz, e_ixW2, e_lzip, dTL2, e_qvar, qSl_i, e_qop, d_addI, lfs_rep, e_ext, e_rep, e_index, e_isl, e_isf, e_gst, e_gtup2, lfs_rev, e_revS, e_lk, e_lki, e_lkb, e_lks, e_lkn, e_lkt, e_lkl, e_lkf, e_lk0, e_lk1, lf_flst, e_chain, startE, startR, List.map_cons, List.map_nil, List.length_cons, List.length_nil, List.replicate, List.getElem?_cons_zero, List.getElem?_cons_succ, List.set_cons_zero, List.set_cons_succ, List.cons_append, List.nil_append, List.append_nil, if_true, if_false, reduceIte, Option.isSome_some, Option.map_some, Option.bind_some, Bool.and_eq_true, Bool.or_eq_true, and_self, and_true, true_and, or_true, true_or, or_false, false_or, Bool.and_true, Bool.true_and, Bool.and_self, Bool.not_true, Bool.not_false, decide_true, decide_false, reduceCtorEq, Bool.false_eq_true, Nat.reduceAdd, Nat.reduceSub, Nat.reduceMul, Nat.reduceLeDiff, Nat.reduceLT, ne_eq, not_false_eq_true, Nat.reducePow, Nat.reduceEqDiff, Int.reduceToNat, Int.reducePow, Int.reduceMul, Int.reduceAdd, Int.reduceSub, Int.reduceNeg, Int.reduceLT, Int.reduceLE, Int.reduceEq, noRef, decide_eq_true_eq, w0, w1, w2, w3, w4, w5, w6, w7, e1, lkv, v3_lf, sq, s1, s2, rg3, e2, e3, e4, e5, e6, e7, ep, eq, er, tup3i, li, sl, at4, lfs, rg16, ef, ad, cm, lall, al]
theorem n_max {k : Nat} (h : k ≤ 8) : ∃ n : Nat, (if (k : Int) > 2 then (k : Int) else 2) = n ∧ n ≤ 62 := by
  by_cases hh : (k : Int) > 2
  · exact ⟨k, by rw [if_pos hh], by omega⟩
  · exact ⟨2, by rw [if_neg hh]; rfl, by omega⟩
theorem law_any (s : D) (ns : List Int) (hs : s = .lst (ns.map .int) ∨ s = .clst (ns.map .int)) (h : ns.length ≤ 63) (hb : ∀ z ∈ ns, Builtin.Int.intBits z ≤ 1048576) : f_law [s] = .ok (.bl true) := by
  obtain ⟨cs, e, hl, hc⟩ := folded_ok hs h hb 8 (by omega) (by omega)
  have e8 : ((8 : Nat) : Int) = 8 := by omega
  rw [e8] at e
  obtain ⟨n, hn, hn2⟩ := n_max hl
  have rg := range_ks n hn2
  have mem := ks_mem hn2
  have lk := ks_len hn2
  generalize ksN n = ks at *
  have lki := lk_ints cs
  have lfi := lfs_ints cs
  have cm := comp_map (gf := gN false 2) (vs := [2]) (fe := mCallRT 1 f_law_right (mCall 2 f_law_box (mArgs (mCons (mRef 1) (mCons (mRef 2) mNil)))) mNil) (h := fun _ => D.bl true) (F := [.b s, .b (.flst (cs.map .int)), .no]) (ks.map D.int) [.b s, .b (.flst (cs.map .int)), .no] rfl fun x m => by
    obtain ⟨k, hk, rfl⟩ := List.mem_map.mp m
    obtain ⟨k0, k1⟩ := mem k hk
    obtain ⟨d, eb, kb⟩ := box_ok cs hc k k0 k1
    obtain ⟨d', er⟩ := right_ok kb
    have wb := kb.lf
    refine ⟨_, [.b s, .b (.flst (cs.map .int)), .b (.int k)], rfl, ?_, rfl⟩
    simp (maxSteps := 3000000) (disch := first | assumption | decide | omega) only [e_b, e_ok, e_exc, e_bad, e_p, e_os, e_on, e_oif, slB_b, e_var, slD_b, slD_w, e_rdS, e_rd, okR_s, e_ref, slW_w, e_move, opt_s, opt_n, opt_if, e_rdL, e_lf, e_val, e_get_v, e_get_r, e_pair, e_op, e_T, e_isBl, e_and, e_or, e_not, e_andV, e_orV, e_notV, e_if, e_ap, e_bdif, e_seq, e_asg, e_gN, e_slt, e_slf, e_gnil, e_gcons, e_gseq, e_seqt, e_seql, e_seqf, e_ret, e_drop, e_ix, e_ixW, e_dix1, e_dix2, e_dix3, e_dix5, e_dix4, at0, at1, at2, at3, at4, at5, e_setIt, set0, set1, set2, e_cons, e_nil, e_args, e_ga0, e_ga1, e_tup, e_lst, e_callG, e_neg, e_intOf, res_ok, res_exc, e_call, resR_ok, resR_exc, e_callR, resT_ok, e_callRT, two_s, e_par2, e_part, e_sl, fin_next, fin_cont, fin_brk, fin_ret, e_fg0, e_fg1, e_for0, e_while, cat_ok, bdd_ok, e_comp0, e_comp1, e_lc, e_seqD, e_range1, e_range2, e_enum, e_zip, e_isi, e_isi2, endV_ret, endV_next, endV_exc, e_fn, endR_ret, endR_next, e_fnR, e_endVif, e_endRif, e_rooted, d_add, d_sub, d_mul, d_div, d_mod, d_pow, d_lt, d_le, d_gt, d_ge, d_eq_int, d_ne_int, d_abs, d_int_b, d_int_i, lf_int, lf_bl, lf_str, lf_non, lf_tup, lfs_nil, lfs_cons, e_aug, okL_s, e_refL, e_ins, e_app, ite_and, ite_or, ite_andD, ite_orD, e_setIt2, e_frz, e_ixW2, e_lzip, dTL2, e_qvar, qSl_i, e_qop, d_addI, lfs_rep, e_ext, e_rep, e_index, e_isl, e_isf, e_gst, e_gtup2, lfs_rev, e_revS, e_lk, e_lki, e_lkb, e_lks, e_lkn, e_lkt, e_lkl, e_lkf, e_lk0, e_lk1, lf_flst, e_chain, startE, startR, List.map_cons, List.map_nil, List.length_cons, List.length_nil, List.replicate, List.getElem?_cons_zero, List.getElem?_cons_succ, List.set_cons_zero, List.set_cons_succ, List.cons_append, List.nil_append, List.append_nil, if_true, if_false, reduceIte, Option.isSome_some, Option.map_some, Option.bind_some, Bool.and_eq_true, Bool.or_eq_true, and_self, and_true, true_and, or_true, true_or, or_false, false_or, Bool.and_true, Bool.true_and, Bool.and_self, Bool.not_true, Bool.not_false, decide_true, decide_false, reduceCtorEq, Bool.false_eq_true, Nat.reduceAdd, Nat.reduceSub, Nat.reduceMul, Nat.reduceLeDiff, Nat.reduceLT, ne_eq, not_false_eq_true, Nat.reducePow, Nat.reduceEqDiff, Int.reduceToNat, Int.reducePow, Int.reduceMul, Int.reduceAdd, Int.reduceSub, Int.reduceNeg, Int.reduceLT, Int.reduceLE, Int.reduceEq, noRef, decide_eq_true_eq, eb, er, wb]
  have al := all_true (ks.map D.int)
  have lk' : (ks.map D.int).length < 16777216 := by rw [List.length_map]; exact lk
  have a1 : mArgs (mCons (mVal (mCallG dMax2 (mArgs (mCons (mVal (Sm.p (.int 2))) (mCons (mVal (mCallG dLen (mArgs (mCons (mRef 1) mNil)))) mNil))))) mNil) [.b s, .b (.flst (cs.map D.int)), .no] = .ok [.int n] [.b s, .b (.flst (cs.map D.int)), .no] := by
    simp (maxSteps := 3000000) (disch := first | assumption | decide | omega) only [e_b, e_ok, e_exc, e_bad, e_p, e_os, e_on, e_oif, slB_b, e_var, slD_b, slD_w, e_rdS, e_rd, okR_s, e_ref, slW_w, e_move, opt_s, opt_n, opt_if, e_rdL, e_lf, e_val, e_get_v, e_get_r, e_pair, e_op, e_T, e_isBl, e_and, e_or, e_not, e_andV, e_orV, e_notV, e_if, e_ap, e_bdif, e_seq, e_asg, e_gN, e_slt, e_slf, e_gnil, e_gcons, e_gseq, e_seqt, e_seql, e_seqf, e_ret, e_drop, e_ix, e_ixW, e_dix1, e_dix2, e_dix3, e_dix5, e_dix4, at0, at1, at2, at3, at4, at5, e_setIt, set0, set1, set2, e_cons, e_nil, e_args, e_ga0, e_ga1, e_tup, e_lst, e_callG, e_neg, e_intOf, res_ok, res_exc, e_call, resR_ok, resR_exc, e_callR, resT_ok, e_callRT, two_s, e_par2, e_part, e_sl, fin_next, fin_cont, fin_brk, fin_ret, e_fg0, e_fg1, e_for0, e_while, cat_ok, bdd_ok, e_comp0, e_comp1, e_lc, e_seqD, e_range1, e_range2, e_enum, e_zip, e_isi, e_isi2, endV_ret, endV_next, endV_exc, e_fn, endR_ret, endR_next, e_fnR, e_endVif, e_endRif, e_rooted, d_add, d_sub, d_mul, d_div, d_mod, d_pow, d_lt, d_le, d_gt, d_ge, d_eq_int, d_ne_int, d_abs, d_int_b, d_int_i, lf_int, lf_bl, lf_str, lf_non, lf_tup, lfs_nil, lfs_cons, e_aug, okL_s, e_refL, e_ins, e_app, ite_and, ite_or, ite_andD, ite_orD, e_setIt2, e_frz, e_ixW2, e_lzip, dTL2, e_qvar, qSl_i, e_qop, d_addI, lfs_rep, e_ext, e_rep, e_index, e_isl, e_isf, e_gst, e_gtup2, lfs_rev, e_revS, e_lk, e_lki, e_lkb, e_lks, e_lkn, e_lkt, e_lkl, e_lkf, e_lk0, e_lk1, lf_flst, e_chain, startE, startR, List.map_cons, List.map_nil, List.length_cons, List.length_nil, List.replicate, List.getElem?_cons_zero, List.getElem?_cons_succ, List.set_cons_zero, List.set_cons_succ, List.cons_append, List.nil_append, List.append_nil, if_true, if_false, reduceIte, Option.isSome_some, Option.map_some, Option.bind_some, Bool.and_eq_true, Bool.or_eq_true, and_self, and_true, true_and, or_true, true_or, or_false, false_or, Bool.and_true, Bool.true_and, Bool.and_self, Bool.not_true, Bool.not_false, decide_true, decide_false, reduceCtorEq, Bool.false_eq_true, Nat.reduceAdd, Nat.reduceSub, Nat.reduceMul, Nat.reduceLeDiff, Nat.reduceLT, ne_eq, not_false_eq_true, Nat.reducePow, Nat.reduceEqDiff, Int.reduceToNat, Int.reducePow, Int.reduceMul, Int.reduceAdd, Int.reduceSub, Int.reduceNeg, Int.reduceLT, Int.reduceLE, Int.reduceEq, noRef, decide_eq_true_eq, len_f, List.length_map, d_max2, hn]
  have a2 : mRange1 (mArgs (mCons (mVal (mCallG dMax2 (mArgs (mCons (mVal (Sm.p (.int 2))) (mCons (mVal (mCallG dLen (mArgs (mCons (mRef 1) mNil)))) mNil))))) mNil)) [.b s, .b (.flst (cs.map D.int)), .no] = .ok (ks.map D.int) [.b s, .b (.flst (cs.map D.int)), .no] := by
    rw [e_range1, a1, e_ok, rg, e_os]
  unfold f_law g_law
  simp (maxSteps := 3000000) (disch := first | assumption | decide | omega) only [e_b, e_ok, e_exc, e_bad, e_p, e_os, e_on, e_oif, slB_b, e_var, slD_b, slD_w, e_rdS, e_rd, okR_s, e_ref, slW_w, e_move, opt_s, opt_n, opt_if, e_rdL, e_lf, e_val, e_get_v, e_get_r, e_pair, e_op, e_T, e_isBl, e_and, e_or, e_not, e_andV, e_orV, e_notV, e_if, e_ap, e_bdif, e_seq, e_asg, e_gN, e_slt, e_slf, e_gnil, e_gcons, e_gseq, e_seqt, e_seql, e_seqf, e_ret, e_drop, e_ix, e_ixW, e_dix1, e_dix2, e_dix3, e_dix5, e_dix4, at0, at1, at2, at3, at4, at5, e_setIt, set0, set1, set2, e_cons, e_nil, e_args, e_ga0, e_ga1, e_tup, e_lst, e_callG, e_neg, e_intOf, res_ok, res_exc, e_call, resR_ok, resR_exc, e_callR, resT_ok, e_callRT, two_s, e_par2, e_part, e_sl, fin_next, fin_cont, fin_brk, fin_ret, e_fg0, e_fg1, e_for0, e_while, cat_ok, bdd_ok, e_comp0, e_comp1, e_lc, e_seqD, e_range2, e_enum, e_zip, e_isi, e_isi2, endV_ret, endV_next, endV_exc, e_fn, endR_ret, endR_next, e_fnR, e_endVif, e_endRif, e_rooted, d_add, d_sub, d_mul, d_div, d_mod, d_pow, d_lt, d_le, d_gt, d_ge, d_eq_int, d_ne_int, d_abs, d_int_b, d_int_i, lf_int, lf_bl, lf_str, lf_non, lf_tup, lfs_nil, lfs_cons, e_aug, okL_s, e_refL, e_ins, e_app, ite_and, ite_or, ite_andD, ite_orD, e_setIt2, e_frz, e_ixW2, e_lzip, dTL2, e_qvar, qSl_i, e_qop, d_addI, lfs_rep, e_ext, e_rep, e_index, e_isl, e_isf, e_gst, e_gtup2, lfs_rev, e_revS, e_lk, e_lki, e_lkb, e_lks, e_lkn, e_lkt, e_lkl, e_lkf, e_lk0, e_lk1, lf_flst, e_chain, startE, startR, List.map_cons, List.map_nil, List.length_cons, List.length_nil, List.replicate, List.getElem?_cons_zero, List.getElem?_cons_succ, List.set_cons_zero, List.set_cons_succ, List.cons_append, List.nil_append, List.append_nil, if_true, if_false, reduceIte, Option.isSome_some, Option.map_some, Option.bind_some, Bool.and_eq_true, Bool.or_eq_true, and_self, and_true, true_and, or_true, true_or, or_false, false_or, Bool.and_true, Bool.true_and, Bool.and_self, Bool.not_true, Bool.not_false, decide_true, decide_false, reduceCtorEq, Bool.false_eq_true, Nat.reduceAdd, Nat.reduceSub, Nat.reduceMul, Nat.reduceLeDiff, Nat.reduceLT, ne_eq, not_false_eq_true, Nat.reducePow, Nat.reduceEqDiff, Int.reduceToNat, Int.reducePow, Int.reduceMul, Int.reduceAdd, Int.reduceSub, Int.reduceNeg, Int.reduceLT, Int.reduceLE, Int.reduceEq, noRef, decide_eq_true_eq, e, lki, lfi, a2, cm, lk', al]
theorem law_plain (ns : List Int) (h : ns.length ≤ 63) (hb : ∀ z ∈ ns, Builtin.Int.intBits z ≤ 1048576) : f_law [.lst (ns.map .int)] = .ok (.bl true) ∧ f_law [.clst (ns.map .int)] = .ok (.bl true) :=
  ⟨law_any _ ns (.inl rfl) h hb, law_any _ ns (.inr rfl) h hb⟩
end K01
end
section
set_option exponentiation.threshold 256
set_option Elab.async false
set_option linter.all false
set_option maxRecDepth 100000
set_option maxHeartbeats 0
set_option autoImplicit false
namespace K01
open PySem PySem.Spec PyProof.Rows L2 P3
def d_law_folded : He.DefD := ⟨("_law_folded", none), "_law_folded", "_law_folded", defArgs (st 13), defBody (st 13), defScope (st 13), [], []⟩
def d_law_take : He.DefD := ⟨("_law_take", none), "_law_take", "_law_take", defArgs (st 12), defBody (st 12), defScope (st 12), [], []⟩
def d_law_vector : He.DefD := ⟨("_law_vector", none), "_law_vector", "_law_vector", defArgs (st 22), defBody (st 22), defScope (st 22), [], []⟩
def d_law_vectors : He.DefD := ⟨("_law_vectors", none), "_law_vectors", "_law_vectors", defArgs (st 23), defBody (st 23), defScope (st 23), [], []⟩
def d_law_cross : He.DefD := ⟨("_law_cross", none), "_law_cross", "_law_cross", defArgs (st 16), defBody (st 16), defScope (st 16), [], []⟩
def d_law_less : He.DefD := ⟨("_law_less", none), "_law_less", "_law_less", defArgs (st 15), defBody (st 15), defScope (st 15), [], []⟩
def d_law_dot : He.DefD := ⟨("_law_dot", none), "_law_dot", "_law_dot", defArgs (st 17), defBody (st 17), defScope (st 17), [], []⟩
def d_law_same : He.DefD := ⟨("_law_same", none), "_law_same", "_law_same", defArgs (st 14), defBody (st 14), defScope (st 14), [], []⟩
def d_cross_of : He.DefD := ⟨("cross_of", none), "cross_of", "cross_of", defArgs (st 7), defBody (st 7), defScope (st 7), [], []⟩
def d_less_by : He.DefD := ⟨("less_by", none), "less_by", "less_by", defArgs (st 6), defBody (st 6), defScope (st 6), [], []⟩
def d_normal_of : He.DefD := ⟨("normal_of", none), "normal_of", "normal_of", defArgs (st 9), defBody (st 9), defScope (st 9), [], []⟩
def d_dot_of : He.DefD := ⟨("dot_of", none), "dot_of", "dot_of", defArgs (st 8), defBody (st 8), defScope (st 8), [], []⟩
def d_law_sums_right : He.DefD := ⟨("_law_sums_right", none), "_law_sums_right", "_law_sums_right", defArgs (st 24), defBody (st 24), defScope (st 24), [], []⟩
def d_law_odd : He.DefD := ⟨("_law_odd", none), "_law_odd", "_law_odd", defArgs (st 19), defBody (st 19), defScope (st 19), [], []⟩
def d_law_bent_row : He.DefD := ⟨("_law_bent_row", none), "_law_bent_row", "_law_bent_row", defArgs (st 20), defBody (st 20), defScope (st 20), [], []⟩
def d_law_bent : He.DefD := ⟨("_law_bent", none), "_law_bent", "_law_bent", defArgs (st 21), defBody (st 21), defScope (st 21), [], []⟩
def d_law_is_place : He.DefD := ⟨("_law_is_place", none), "_law_is_place", "_law_is_place", defArgs (st 18), defBody (st 18), defScope (st 18), [], []⟩
def d_is_number : He.DefD := ⟨("is_number", none), "is_number", "is_number", defArgs (st 2), defBody (st 2), defScope (st 2), [], []⟩
def d_is_between : He.DefD := ⟨("is_between", none), "is_between", "is_between", defArgs (st 3), defBody (st 3), defScope (st 3), [], []⟩
def d_is_tuple : He.DefD := ⟨("is_tuple", none), "is_tuple", "is_tuple", defArgs (st 4), defBody (st 4), defScope (st 4), [], []⟩
def d_is_place : He.DefD := ⟨("is_place", none), "is_place", "is_place", defArgs (st 5), defBody (st 5), defScope (st 5), [], []⟩
def d_law_right : He.DefD := ⟨("_law_right", none), "_law_right", "_law_right", defArgs (st 25), defBody (st 25), defScope (st 25), [], []⟩
def d_law_box : He.DefD := ⟨("_law_box", none), "_law_box", "_law_box", defArgs (st 11), defBody (st 11), defScope (st 11), [], []⟩
def d_law : He.DefD := ⟨("law", none), "law", "law", defArgs (st 26), defBody (st 26), defScope (st 26), [], []⟩
def fn : List He.DefD := [d_law_folded, d_law_take, d_law_vector, d_law_vectors, d_law_cross, d_law_less, d_law_dot, d_law_same, d_cross_of, d_less_by, d_normal_of, d_dot_of, d_law_sums_right, d_law_odd, d_law_bent_row, d_law_bent, d_law_is_place, d_is_number, d_is_between, d_is_tuple, d_is_place, d_law_right, d_law_box, d_law]
def fa : List He.Fa := [.glo "_law_folded", .glo "_law_take", .glo "_law_vector", .glo "_law_vectors", .glo "_law_cross", .glo "_law_less", .glo "_law_dot", .glo "_law_same", .glo "cross_of", .glo "less_by", .glo "normal_of", .glo "dot_of", .glo "_law_sums_right", .glo "_law_odd", .glo "_law_bent_row", .glo "_law_bent", .glo "_law_is_place", .glo "is_number", .glo "is_between", .glo "is_tuple", .glo "is_place", .glo "_law_right", .glo "_law_box", .glo "law", .free "abs", .free "all", .free "bool", .free "enumerate", .free "int", .free "isinstance", .free "len", .free "list", .free "max", .free "range", .free "str", .free "sum", .free "tuple", .free "zip", .int "MOST_SIDE" 1000]
abbrev R : PySem.W.OpenRow := PySem.W.OpenLaw.row PySem.Challenge.rw_thinskin_k01_places_and_vectors
abbrev hk : PySem.W.Hook := He.hookD 4 fa fn
def ob (s : PySem.W.SharedT) : He.AlD := He.obsDG 4 fa fn (HandSHeadRun.getT s)
theorem ob_eq (s : PySem.W.SharedT) : ob s = hk.obs s.abs := He.obsDG_eq (HandSHeadRun.getT_eq s)
theorem run (w : World) : HandSHeadRun.RunEq R (PySem.W.view R.prog [26]) hk ob 2700 ["is_number", "is_between", "is_tuple", "is_place", "less_by", "cross_of", "dot_of", "normal_of", "_law_box", "_law_take", "_law_folded", "_law_same", "_law_less", "_law_cross", "_law_dot", "_law_is_place", "_law_odd", "_law_bent_row", "_law_bent", "_law_vector", "_law_vectors", "_law_sums_right", "_law_right", "MOST_SIDE"] w := by
  intro os
  kernel_rfl
theorem callee {P : Program} {w : World} {K : PySem.W.Frag} {mg : Str → Option Value} {base : Heap} {x qual : Str} {params : Arguments} {body : List Stmt} {scope : Scope} {f : Addr} {fd : FuncData} {k : Nat} {ps : List Str} {sp : Sp} (F : FunD K x qual params body scope [] [] f fd) (hm : mg x = some (.ref f)) (ok : FnG P w K mg base (L2.CX P w) k f fd ps sp)
    (h : ∀ (kV doc pm : Value) (an : Option Addr) (cdv ct : Value) (us : List Value), us.length = ps.length → bindArgs (PySem.W.fnOf x qual params body scope .none kV doc pm an cdv ct) ⟨us, []⟩ = pure (ps.zip us)) : Callee P w K mg base x k ps sp := ⟨f, fd, ok, hm, F.kp, F.bindsN h⟩
theorem rec_law_same {P : Program} {w : World} {K : PySem.W.Frag} {mg : Str → Option Value} {base : Heap} {f : Addr} {fd : FuncData} (F : FnP K "_law_same" (st 14) f fd) (hm : mg "_law_same" = some (.ref f)) (m_isinstance : mg "isinstance" = none) (m_list : mg "list" = none) (m_tuple : mg "tuple" = none) (m_all : mg "all" = none) (m_zip : mg "zip" = none) (m_len : mg "len" = none) (m_str : mg "str" = none) (m_bool : mg "bool" = none) (m_int : mg "int" = none) : ∀ n, Callee P w K mg base "_law_same" (0 + n) ["_law_found", "_law_due"] (spV K mg 2 (f_law_same n))
  | 0 => callee F hm fn_none (fun _ _ _ _ _ _ us hl => match us, hl with | [_, _], _ => rfl)
  | n + 1 => callee F hm (ok_law_same (0 + n) F  (rec_law_same F hm m_isinstance m_list m_tuple m_all m_zip m_len m_str m_bool m_int n) m_isinstance m_list m_tuple m_all m_zip m_len m_str m_bool m_int) (fun _ _ _ _ _ _ us hl => match us, hl with | [_, _], _ => rfl)
theorem rec_law_bent {P : Program} {w : World} {K : PySem.W.Frag} {mg : Str → Option Value} {base : Heap} {f : Addr} {fd : FuncData} (F : FnP K "_law_bent" (st 21) f fd) (hm : mg "_law_bent" = some (.ref f)) (c_law_take : Callee P w K mg base "_law_take" 1 ["_law_box_here", "_law_many"] (spR K mg 2 f_law_take)) (c_law_odd : Callee P w K mg base "_law_odd" 2 ["_law_box_here"] (spR K mg 1 f_law_odd)) (c_law_bent_row : Callee P w K mg base "_law_bent_row" 3 ["_law_box_here", "_law_row"] (spR K mg 2 f_law_bent_row)) (m_isinstance : mg "isinstance" = none) (m_list : mg "list" = none) (m_tuple : mg "tuple" = none) (m_int : mg "int" = none) (m_bool : mg "bool" = none) (m_str : mg "str" = none) (m_len : mg "len" = none) : ∀ n, Callee P w K mg base "_law_bent" (3 + n) ["_law_box_here", "_law_thing", "_law_deep"] (spR K mg 3 (f_law_bent n))
  | 0 => callee F hm fn_noneR (fun _ _ _ _ _ _ us hl => match us, hl with | [_, _, _], _ => rfl)
  | n + 1 => callee F hm (ok_law_bent (3 + n) F (by omega) (by omega) (by omega) c_law_take c_law_odd c_law_bent_row (rec_law_bent F hm c_law_take c_law_odd c_law_bent_row m_isinstance m_list m_tuple m_int m_bool m_str m_len n) m_isinstance m_list m_tuple m_int m_bool m_str m_len) (fun _ _ _ _ _ _ us hl => match us, hl with | [_, _, _], _ => rfl)
theorem facts {P : Program} {w : World} {K : PySem.W.Frag} {h : Heap} {mg : Str → Option Value} {f : Addr} (X : K.In h) (G : h.Ns mainGlobals mg) (hfa : mg ("law" : Str) = some (.ref f)) (c : He.SaysD fa fn K) :
    ∃ fd : FuncData, (∀ (s : Shared) (v : Value), BindsTo s fd ⟨[v], []⟩ [("_law_script", v)]) ∧ ∀ base : Heap, K.In base → base.Ns mainGlobals mg → FnG P w K mg base (L2.CX P w) 9 f fd ["_law_script"] (spV K mg 1 f_law) := by
  obtain ⟨fd_law_folded, F_law_folded⟩ := c.def_ 0 (d := d_law_folded) rfl
  obtain ⟨fd_law_take, F_law_take⟩ := c.def_ 1 (d := d_law_take) rfl
  obtain ⟨fd_law_vector, F_law_vector⟩ := c.def_ 2 (d := d_law_vector) rfl
  obtain ⟨fd_law_vectors, F_law_vectors⟩ := c.def_ 3 (d := d_law_vectors) rfl
  obtain ⟨fd_law_cross, F_law_cross⟩ := c.def_ 4 (d := d_law_cross) rfl
  obtain ⟨fd_law_less, F_law_less⟩ := c.def_ 5 (d := d_law_less) rfl
  obtain ⟨fd_law_dot, F_law_dot⟩ := c.def_ 6 (d := d_law_dot) rfl
  obtain ⟨fd_law_same, F_law_same⟩ := c.def_ 7 (d := d_law_same) rfl
  obtain ⟨fd_cross_of, F_cross_of⟩ := c.def_ 8 (d := d_cross_of) rfl
  obtain ⟨fd_less_by, F_less_by⟩ := c.def_ 9 (d := d_less_by) rfl
  obtain ⟨fd_normal_of, F_normal_of⟩ := c.def_ 10 (d := d_normal_of) rfl
  obtain ⟨fd_dot_of, F_dot_of⟩ := c.def_ 11 (d := d_dot_of) rfl
  obtain ⟨fd_law_sums_right, F_law_sums_right⟩ := c.def_ 12 (d := d_law_sums_right) rfl
  obtain ⟨fd_law_odd, F_law_odd⟩ := c.def_ 13 (d := d_law_odd) rfl
  obtain ⟨fd_law_bent_row, F_law_bent_row⟩ := c.def_ 14 (d := d_law_bent_row) rfl
  obtain ⟨fd_law_bent, F_law_bent⟩ := c.def_ 15 (d := d_law_bent) rfl
  obtain ⟨fd_law_is_place, F_law_is_place⟩ := c.def_ 16 (d := d_law_is_place) rfl
  obtain ⟨fd_is_number, F_is_number⟩ := c.def_ 17 (d := d_is_number) rfl
  obtain ⟨fd_is_between, F_is_between⟩ := c.def_ 18 (d := d_is_between) rfl
  obtain ⟨fd_is_tuple, F_is_tuple⟩ := c.def_ 19 (d := d_is_tuple) rfl
  obtain ⟨fd_is_place, F_is_place⟩ := c.def_ 20 (d := d_is_place) rfl
  obtain ⟨fd_law_right, F_law_right⟩ := c.def_ 21 (d := d_law_right) rfl
  obtain ⟨fd_law_box, F_law_box⟩ := c.def_ 22 (d := d_law_box) rfl
  obtain ⟨fd_law, F_law⟩ := c.def_ 23 (d := d_law) rfl
  have e_law_folded := He.glo_ok X G (c.fact 0 (f := .glo "_law_folded") rfl)
  have e_law_take := He.glo_ok X G (c.fact 1 (f := .glo "_law_take") rfl)
  have e_law_vector := He.glo_ok X G (c.fact 2 (f := .glo "_law_vector") rfl)
  have e_law_vectors := He.glo_ok X G (c.fact 3 (f := .glo "_law_vectors") rfl)
  have e_law_cross := He.glo_ok X G (c.fact 4 (f := .glo "_law_cross") rfl)
  have e_law_less := He.glo_ok X G (c.fact 5 (f := .glo "_law_less") rfl)
  have e_law_dot := He.glo_ok X G (c.fact 6 (f := .glo "_law_dot") rfl)
  have e_law_same := He.glo_ok X G (c.fact 7 (f := .glo "_law_same") rfl)
  have e_cross_of := He.glo_ok X G (c.fact 8 (f := .glo "cross_of") rfl)
  have e_less_by := He.glo_ok X G (c.fact 9 (f := .glo "less_by") rfl)
  have e_normal_of := He.glo_ok X G (c.fact 10 (f := .glo "normal_of") rfl)
  have e_dot_of := He.glo_ok X G (c.fact 11 (f := .glo "dot_of") rfl)
  have e_law_sums_right := He.glo_ok X G (c.fact 12 (f := .glo "_law_sums_right") rfl)
  have e_law_odd := He.glo_ok X G (c.fact 13 (f := .glo "_law_odd") rfl)
  have e_law_bent_row := He.glo_ok X G (c.fact 14 (f := .glo "_law_bent_row") rfl)
  have e_law_bent := He.glo_ok X G (c.fact 15 (f := .glo "_law_bent") rfl)
  have e_law_is_place := He.glo_ok X G (c.fact 16 (f := .glo "_law_is_place") rfl)
  have e_is_number := He.glo_ok X G (c.fact 17 (f := .glo "is_number") rfl)
  have e_is_between := He.glo_ok X G (c.fact 18 (f := .glo "is_between") rfl)
  have e_is_tuple := He.glo_ok X G (c.fact 19 (f := .glo "is_tuple") rfl)
  have e_is_place := He.glo_ok X G (c.fact 20 (f := .glo "is_place") rfl)
  have e_law_right := He.glo_ok X G (c.fact 21 (f := .glo "_law_right") rfl)
  have e_law_box := He.glo_ok X G (c.fact 22 (f := .glo "_law_box") rfl)
  have m_abs := He.free_ok X G (c.fact 24 (f := .free "abs") rfl)
  have m_all := He.free_ok X G (c.fact 25 (f := .free "all") rfl)
  have m_bool := He.free_ok X G (c.fact 26 (f := .free "bool") rfl)
  have m_enumerate := He.free_ok X G (c.fact 27 (f := .free "enumerate") rfl)
  have m_int := He.free_ok X G (c.fact 28 (f := .free "int") rfl)
  have m_isinstance := He.free_ok X G (c.fact 29 (f := .free "isinstance") rfl)
  have m_len := He.free_ok X G (c.fact 30 (f := .free "len") rfl)
  have m_list := He.free_ok X G (c.fact 31 (f := .free "list") rfl)
  have m_max := He.free_ok X G (c.fact 32 (f := .free "max") rfl)
  have m_range := He.free_ok X G (c.fact 33 (f := .free "range") rfl)
  have m_str := He.free_ok X G (c.fact 34 (f := .free "str") rfl)
  have m_sum := He.free_ok X G (c.fact 35 (f := .free "sum") rfl)
  have m_tuple := He.free_ok X G (c.fact 36 (f := .free "tuple") rfl)
  have m_zip := He.free_ok X G (c.fact 37 (f := .free "zip") rfl)
  have i_MOST_SIDE := He.int_ok X G (c.fact 38 (f := .int "MOST_SIDE" 1000) rfl)
  have e := hfa.symm.trans (He.glo_ok X G (c.fact 23 (f := .glo "law") rfl))
  cases e
  have b := FunD.bindsA (ps := ["_law_script"]) F_law fun _ _ _ _ _ _ us hl => match us, hl with | [_], _ => rfl
  refine ⟨fd_law, fun s v => b s [v] rfl, fun base _ _ => ?_⟩
  have c_law_folded := callee F_law_folded e_law_folded (ok_law_folded (P := P) (w := w) (mg := mg) (base := base) 0 F_law_folded m_list m_enumerate) (fun _ _ _ _ _ _ us hl => match us, hl with | [_, _], _ => rfl)
  have c_law_take := callee F_law_take e_law_take (ok_law_take (P := P) (w := w) (mg := mg) (base := base) 0 F_law_take ) (fun _ _ _ _ _ _ us hl => match us, hl with | [_, _], _ => rfl)
  have c_law_vector := callee F_law_vector e_law_vector (ok_law_vector (P := P) (w := w) (mg := mg) (base := base) 1 F_law_vector (by decide) c_law_take m_tuple m_range) (fun _ _ _ _ _ _ us hl => match us, hl with | [_], _ => rfl)
  have c_law_vectors := callee F_law_vectors e_law_vectors (ok_law_vectors (P := P) (w := w) (mg := mg) (base := base) 2 F_law_vectors (by decide) (by decide) c_law_vector c_law_take m_range m_tuple m_zip) (fun _ _ _ _ _ _ us hl => match us, hl with | [_], _ => rfl)
  have c_law_cross := callee F_law_cross e_law_cross (ok_law_cross (P := P) (w := w) (mg := mg) (base := base) 0 F_law_cross m_tuple m_range) (fun _ _ _ _ _ _ us hl => match us, hl with | [_, _], _ => rfl)
  have c_law_less := callee F_law_less e_law_less (ok_law_less (P := P) (w := w) (mg := mg) (base := base) 0 F_law_less m_tuple m_zip) (fun _ _ _ _ _ _ us hl => match us, hl with | [_, _], _ => rfl)
  have c_law_dot := callee F_law_dot e_law_dot (ok_law_dot (P := P) (w := w) (mg := mg) (base := base) 0 F_law_dot m_sum m_zip) (fun _ _ _ _ _ _ us hl => match us, hl with | [_, _], _ => rfl)
  have c_law_same := rec_law_same (P := P) (w := w) (base := base) F_law_same e_law_same m_isinstance m_list m_tuple m_all m_zip m_len m_str m_bool m_int 4
  have c_cross_of := callee F_cross_of e_cross_of (ok_cross_of (P := P) (w := w) (mg := mg) (base := base) 0 F_cross_of ) (fun _ _ _ _ _ _ us hl => match us, hl with | [_, _], _ => rfl)
  have c_less_by := callee F_less_by e_less_by (ok_less_by (P := P) (w := w) (mg := mg) (base := base) 0 F_less_by ) (fun _ _ _ _ _ _ us hl => match us, hl with | [_, _], _ => rfl)
  have c_normal_of := callee F_normal_of e_normal_of (ok_normal_of (P := P) (w := w) (mg := mg) (base := base) 1 F_normal_of (by decide) (by decide) c_cross_of c_less_by) (fun _ _ _ _ _ _ us hl => match us, hl with | [_, _, _], _ => rfl)
  have c_dot_of := callee F_dot_of e_dot_of (ok_dot_of (P := P) (w := w) (mg := mg) (base := base) 0 F_dot_of ) (fun _ _ _ _ _ _ us hl => match us, hl with | [_, _], _ => rfl)
  have c_law_sums_right := callee F_law_sums_right e_law_sums_right (ok_law_sums_right (P := P) (w := w) (mg := mg) (base := base) 4 F_law_sums_right (by decide) (by decide) (by decide) (by decide) (by decide) (by decide) (by decide) (by decide) c_law_cross c_law_less c_law_dot c_law_same c_normal_of c_dot_of c_cross_of c_less_by m_range m_tuple) (fun _ _ _ _ _ _ us hl => match us, hl with | [_, _, _], _ => rfl)
  have c_law_odd := callee F_law_odd e_law_odd (ok_law_odd (P := P) (w := w) (mg := mg) (base := base) 1 F_law_odd (by decide) c_law_take) (fun _ _ _ _ _ _ us hl => match us, hl with | [_], _ => rfl)
  have c_law_bent_row := callee F_law_bent_row e_law_bent_row (ok_law_bent_row (P := P) (w := w) (mg := mg) (base := base) 2 F_law_bent_row (by decide) (by decide) c_law_take c_law_odd m_len m_list m_isinstance m_tuple) (fun _ _ _ _ _ _ us hl => match us, hl with | [_, _], _ => rfl)
  have c_law_bent := rec_law_bent (P := P) (w := w) (base := base) F_law_bent e_law_bent c_law_take c_law_odd c_law_bent_row m_isinstance m_list m_tuple m_int m_bool m_str m_len 4
  have c_law_is_place := callee F_law_is_place e_law_is_place (ok_law_is_place (P := P) (w := w) (mg := mg) (base := base) 0 F_law_is_place m_isinstance m_tuple m_len m_all m_bool m_int) (fun _ _ _ _ _ _ us hl => match us, hl with | [_], _ => rfl)
  have c_is_number := callee F_is_number e_is_number (ok_is_number (P := P) (w := w) (mg := mg) (base := base) 0 F_is_number m_isinstance m_bool m_int) (fun _ _ _ _ _ _ us hl => match us, hl with | [_], _ => rfl)
  have c_is_between := callee F_is_between e_is_between (ok_is_between (P := P) (w := w) (mg := mg) (base := base) 1 F_is_between (by decide) c_is_number) (fun _ _ _ _ _ _ us hl => match us, hl with | [_, _, _], _ => rfl)
  have c_is_tuple := callee F_is_tuple e_is_tuple (ok_is_tuple (P := P) (w := w) (mg := mg) (base := base) 0 F_is_tuple m_len m_isinstance m_tuple) (fun _ _ _ _ _ _ us hl => match us, hl with | [_, _], _ => rfl)
  have c_is_place := callee F_is_place e_is_place (ok_is_place (P := P) (w := w) (mg := mg) (base := base) 2 F_is_place (by decide) (by decide) c_is_between c_is_tuple m_all i_MOST_SIDE) (fun _ _ _ _ _ _ us hl => match us, hl with | [_], _ => rfl)
  have c_law_right := callee F_law_right e_law_right (ok_law_right (P := P) (w := w) (mg := mg) (base := base) 7 F_law_right (by decide) (by decide) (by decide) (by decide) (by decide) (by decide) (by decide) c_law_vectors c_law_sums_right c_law_take c_law_bent c_law_same c_law_is_place c_is_place m_tuple m_range m_list m_all) (fun _ _ _ _ _ _ us hl => match us, hl with | [_], _ => rfl)
  have c_law_box := callee F_law_box e_law_box (ok_law_box (P := P) (w := w) (mg := mg) (base := base) 0 F_law_box m_len m_abs m_int) (fun _ _ _ _ _ _ us hl => match us, hl with | [_, _], _ => rfl)
  exact ok_law 8 F_law (by decide) (by decide) (by decide) c_law_folded c_law_right c_law_box m_all m_range m_max m_len
end K01
open PySem PySem.W PySem.Calls PyProof.Rows
theorem PySem.Challenge.cw_thinskin_k01_places_and_vectors_holds : PySem.Challenge.rw_thinskin_k01_places_and_vectors.Holds := by
  w_on; o_law
  refine HandSHeadRun.head_any (r := OpenLaw.row PySem.Challenge.rw_thinskin_k01_places_and_vectors) (q := view (OpenLaw.row PySem.Challenge.rw_thinskin_k01_places_and_vectors).prog [26]) (H := K01.hk) (ob := K01.ob) (M := 2700) (loose := ["is_number", "is_between", "is_tuple", "is_place", "less_by", "cross_of", "dot_of", "normal_of", "_law_box", "_law_take", "_law_folded", "_law_same", "_law_less", "_law_cross", "_law_dot", "_law_is_place", "_law_odd", "_law_bent_row", "_law_bent", "_law_vector", "_law_vectors", "_law_sums_right", "_law_right", "MOST_SIDE"]) (d := HandSHeadRun.topDef (OpenLaw.row PySem.Challenge.rw_thinskin_k01_places_and_vectors).prog 26) (kwd := []) K01.ob_eq
    (by kernel_rfl) (fun s => by kernel_rfl) K01.run (by kernel_rfl) (by kernel_rfl) (by kernel_rfl) (by rfl) (by first | assumption | decide +kernel) (by decide +kernel) ⟨rfl, rfl, rfl, rfl, rfl, by decide +kernel⟩ ?hw ?hc
  case hw => w_witness2
  case hc =>
    refine P3.law_walk (l := PySem.Challenge.rw_thinskin_k01_places_and_vectors) (n := 63) (k := 9) (x := "_law_script") rfl (by decide) (by kernel_rfl) ⟨⟨rfl, by decide, by decide⟩, rfl⟩ ?F
    intro w mg fa h Y G hmg0
    obtain ⟨K, KX, c⟩ := Y
    have hmg : mg ("law" : PySem.Str) = some (.ref fa) := by
      have e : (HandSHeadRun.topDef (OpenLaw.row PySem.Challenge.rw_thinskin_k01_places_and_vectors).prog 26).name = ("law" : PySem.Str) := by kernel_rfl
      rw [← e]
      exact hmg0
    obtain ⟨fd, hb, hF⟩ := K01.facts (P := (PySem.Challenge.rw_thinskin_k01_places_and_vectors).prog) (w := w) KX G hmg c
    exact ⟨K, fd, K01.f_law, KX, hb, K01.law_plain, hF⟩
end
